/- A part of the proof: the texts TdNm, TdCd0, TdTb. Under: nothing. -/
import Derived.Test.YtngmifmcohmfmaaDoorG05
namespace Go.Ab.Td
abbrev a1E:Nat:=13
abbrev R1:Nat:=15
abbrev a1X:Nat:=16
abbrev a4a:Nat:=17
abbrev u9:Nat:=18
abbrev A0:Nat:=19
abbrev i7:Nat:=20
abbrev W9:Nat:=21
abbrev e6:Nat:=22
abbrev V8:Nat:=23
abbrev G2:Nat:=24
abbrev y4:Nat:=25
abbrev a2H:Nat:=26
abbrev a1K:Nat:=27
abbrev Y1:Nat:=28
abbrev J8:Nat:=32
abbrev F6:Nat:=33
abbrev a1I:Nat:=34
abbrev N8:Nat:=35
abbrev a0y:Nat:=36
abbrev B0:Nat:=38
abbrev a5B:Nat:=40
abbrev P6:Nat:=42
abbrev H0:Nat:=43
abbrev a2L:Nat:=44
abbrev L8:Nat:=46
abbrev a2G:Nat:=47
abbrev X9:Nat:=49
abbrev Q7:Nat:=51
abbrev G1:Nat:=52
abbrev C1:Nat:=54
abbrev n7:Nat:=57
abbrev I8:Nat:=58
abbrev P3:Nat:=60
abbrev a2O:Nat:=62
abbrev a0k:Nat:=63
abbrev T8:Nat:=64
abbrev O5:Nat:=65
abbrev a1W:Nat:=67
abbrev L5:Nat:=71
abbrev q9:Nat:=72
abbrev A1:Nat:=73
abbrev a6j:Nat:=74
abbrev Y2:Nat:=75
abbrev F1:Nat:=76
abbrev C5:Nat:=77
abbrev V5:Nat:=78
abbrev q0:Nat:=79
abbrev Q3:Nat:=80
abbrev a3J:Nat:=81
abbrev a1M:Nat:=82
abbrev Q8:Nat:=83
abbrev K3:Nat:=84
abbrev s9:Nat:=85
abbrev X4:Nat:=86
abbrev a0r:Nat:=87
abbrev U5:Nat:=88
abbrev V7:Nat:=89
abbrev X7:Nat:=90
abbrev J6:Nat:=91
abbrev w6:Nat:=92
abbrev j8:Nat:=93
abbrev q8:Nat:=94
abbrev u2:Nat:=95
abbrev C3:Nat:=96
abbrev a0I:Nat:=97
abbrev N9:Nat:=98
abbrev F3:Nat:=99
abbrev K0:Nat:=101
abbrev D2:Nat:=102
abbrev G7:Nat:=103
abbrev n6:Nat:=104
abbrev A9:Nat:=105
abbrev F7:Nat:=106
abbrev L0:Nat:=108
abbrev u1:Nat:=109
abbrev V4:Nat:=110
abbrev X8:Nat:=111
abbrev U2:Nat:=115
abbrev N2:Nat:=116
abbrev L2:Nat:=118
abbrev U6:Nat:=119
abbrev X6:Nat:=120
abbrev a7t:Nat:=121
abbrev C8:Nat:=122
abbrev Q4:Nat:=123
abbrev K6:Nat:=124
abbrev B5:Nat:=125
abbrev B6:Nat:=126
abbrev B3:Nat:=127
abbrev B4:Nat:=128
abbrev l8:Nat:=136
abbrev w9:Nat:=137
abbrev y8:Nat:=138
abbrev N1:Nat:=139
abbrev o3:Nat:=140
abbrev D8:Nat:=141
abbrev x7:Nat:=142
abbrev E6:Nat:=143
abbrev P5:Nat:=144
abbrev Y3:Nat:=145
abbrev s7:Nat:=146
abbrev E9:Nat:=147
abbrev K8:Nat:=149
abbrev p7:Nat:=150
abbrev v5:Nat:=151
abbrev a1Q:Nat:=152
abbrev J5:Nat:=153
abbrev a1N:Nat:=154
abbrev D1:Nat:=155
abbrev O1:Nat:=156
abbrev m8:Nat:=157
abbrev P0:Nat:=158
abbrev J0:Nat:=159
abbrev F0:Nat:=160
abbrev C0:Nat:=163
abbrev G4:Nat:=164
abbrev p8:Nat:=165
abbrev u3:Nat:=166
abbrev m7:Nat:=167
abbrev D5:Nat:=170
abbrev x5:Nat:=172
abbrev U8:Nat:=173
abbrev o5:Nat:=174
abbrev y6:Nat:=176
abbrev M4:Nat:=177
abbrev D3:Nat:=178
abbrev Q5:Nat:=179
abbrev y0:Nat:=180
abbrev m0:Nat:=181
abbrev u6:Nat:=182
abbrev A8:Nat:=183
abbrev u4:Nat:=184
abbrev E1:Nat:=185
abbrev P4:Nat:=186
abbrev C2:Nat:=188
abbrev V3:Nat:=189
abbrev A7:Nat:=190
abbrev E2:Nat:=191
abbrev H4:Nat:=192
open Go Go.Ab
abbrev I (n:Int):AV:=.pv (.int .i64 n)
abbrev z0:List AV:=[I 0,.pv (.bool false),I 0,.pv (.str []),I 0,I 0,I 0]
abbrev z1:List AV:=[.emp 7,.emp 7,.emp 7,.emp 3,I 0,I 0,I 0,I 0,I 0,I 0,I 0,.emp 7,I 0,I 0,I 0,I 0,I 0,I 0,I 0,I 0,I 0,I 0,I 0,I 0,I 0,I 0,I 0,I 0,I 0,I 0,I 0,I 0,.pv (.bool false),.pv (.bool false),.emp 47,I 0,I 0,I 0,I 0,I 0,I 0,I 0,I 0,.emp 1,I 0,I 0,.emp 2,I 0,.pv (.bool false),I 0,.pv (.str []),I 0,I 0,I 0,I 0,I 0,I 0,I 0,I 0,I 0,I 0,I 0,.emp 57,.emp 47,.emp 3,.pv (.str []),I 0]
abbrev z2:List AV:=[I 0,.pv (.str []),.emp 7,.emp 7,.emp 7,I 0,I 0]
abbrev z3:List AV:=[I 0,.pv (.bool false),I 0,.pv (.str []),I 0,I 0,I 0,I 0,.pv (.bool false),I 0,.pv (.str []),I 0,I 0,I 0,I 0,.pv (.bool false),I 0,.pv (.str []),I 0,I 0,I 0,I 0,.pv (.bool false),I 0,.pv (.str []),I 0,I 0,I 0,I 0]
abbrev z4:List AV:=[I 0,I 0,I 0,I 0,I 0,I 0,.emp 7,I 0,I 0,I 0,I 0,I 0,I 0,I 0,I 0,I 0,I 0,I 0,I 0,I 0,I 0,I 0,I 0,I 0,I 0,I 0,I 0,.pv (.bool false),.pv (.bool false),.emp 47,I 0,I 0,I 0,I 0,I 0,I 0,I 0,I 0,.emp 1,I 0,I 0,.emp 2,I 0,.pv (.bool false),I 0,.pv (.str []),I 0,I 0,I 0,I 0,I 0,I 0,I 0,I 0,I 0,I 0,I 0]
abbrev z5:List AV:=[.pv (.str []),I 0,I 0,I 0,I 0,I 0,.pv (.str []),I 0,I 0,I 0,I 0,I 0,.pv (.str []),I 0,I 0,I 0,I 0,I 0,.pv (.str []),I 0,I 0,I 0,I 0,I 0,.pv (.str []),I 0,I 0,I 0,I 0,I 0,.pv (.str []),I 0,I 0,I 0,I 0,I 0,.pv (.str []),I 0,I 0,I 0,I 0,I 0,.pv (.str []),I 0,I 0,I 0,I 0,I 0,.pv (.str []),I 0,I 0,I 0,I 0,I 0,.pv (.str []),I 0,I 0,I 0,I 0,I 0,.pv (.str []),I 0,I 0,I 0,I 0,I 0,.pv (.str []),I 0,I 0,I 0,I 0,I 0,.pv (.str []),I 0,I 0,I 0,I 0,I 0]
abbrev i (d:Nat) (o:ROp) (p:Nat):m9:=⟨some d,o,none,p⟩
abbrev ig (d:Nat) (o:ROp) (g:Nat) (b:Bool) (p:Nat):m9:=⟨some d,o,some (g,b),p⟩
abbrev iz (o:ROp) (p:Nat):m9:=⟨none,o,none,p⟩
abbrev mv (a:RA):ROp:=.mv a
abbrev t0:RA:=.t 0
abbrev t1:RA:=.t 1
abbrev t2:RA:=.t 2
abbrev t3:RA:=.t 3
abbrev t4:RA:=.t 4
abbrev t5:RA:=.t 5
abbrev t6:RA:=.t 6
abbrev t7:RA:=.t 7
abbrev t8:RA:=.t 8
abbrev t9:RA:=.t 9
abbrev s8:RA:=.t 10
abbrev v7:RA:=.t 11
abbrev y9:RA:=.t 12
abbrev A6:RA:=.t 13
abbrev C7:RA:=.t 14
abbrev G3:RA:=.t 15
abbrev G0:RA:=.t 16
abbrev E5:RA:=.t 17
abbrev I1:RA:=.t 18
abbrev J9:RA:=.t 19
abbrev N5:RA:=.t 20
abbrev L7:RA:=.t 21
abbrev R2:RA:=.t 22
abbrev U3:RA:=.t 23
abbrev W8:RA:=.t 24
abbrev W4:RA:=.t 25
abbrev t26:RA:=.t 26
abbrev t27:RA:=.t 27
abbrev t28:RA:=.t 28
abbrev t29:RA:=.t 29
abbrev t30:RA:=.t 30
abbrev t31:RA:=.t 31
abbrev t32:RA:=.t 32
abbrev t33:RA:=.t 33
abbrev t34:RA:=.t 34
abbrev t35:RA:=.t 35
abbrev t36:RA:=.t 36
abbrev t37:RA:=.t 37
abbrev t38:RA:=.t 38
abbrev t39:RA:=.t 39
abbrev t40:RA:=.t 40
abbrev t41:RA:=.t 41
abbrev t42:RA:=.t 42
abbrev t43:RA:=.t 43
abbrev t44:RA:=.t 44
abbrev t45:RA:=.t 45
abbrev t46:RA:=.t 46
abbrev t47:RA:=.t 47
abbrev t48:RA:=.t 48
abbrev t49:RA:=.t 49
abbrev t50:RA:=.t 50
abbrev t51:RA:=.t 51
abbrev t52:RA:=.t 52
abbrev t53:RA:=.t 53
abbrev t54:RA:=.t 54
abbrev t55:RA:=.t 55
abbrev t56:RA:=.t 56
abbrev t57:RA:=.t 57
abbrev t58:RA:=.t 58
abbrev t59:RA:=.t 59
abbrev t60:RA:=.t 60
abbrev t61:RA:=.t 61
abbrev t62:RA:=.t 62
abbrev t63:RA:=.t 63
abbrev t64:RA:=.t 64
abbrev t65:RA:=.t 65
abbrev t66:RA:=.t 66
abbrev t67:RA:=.t 67
abbrev t68:RA:=.t 68
abbrev t69:RA:=.t 69
abbrev t70:RA:=.t 70
abbrev t71:RA:=.t 71
abbrev t72:RA:=.t 72
abbrev t73:RA:=.t 73
abbrev t74:RA:=.t 74
abbrev t75:RA:=.t 75
abbrev t76:RA:=.t 76
abbrev t77:RA:=.t 77
abbrev t78:RA:=.t 78
abbrev t79:RA:=.t 79
abbrev t80:RA:=.t 80
abbrev t81:RA:=.t 81
abbrev t82:RA:=.t 82
abbrev t83:RA:=.t 83
abbrev t84:RA:=.t 84
abbrev t85:RA:=.t 85
abbrev t86:RA:=.t 86
abbrev t87:RA:=.t 87
abbrev t88:RA:=.t 88
abbrev t89:RA:=.t 89
abbrev t90:RA:=.t 90
abbrev t91:RA:=.t 91
abbrev t92:RA:=.t 92
abbrev t93:RA:=.t 93
abbrev t94:RA:=.t 94
abbrev t95:RA:=.t 95
abbrev t96:RA:=.t 96
abbrev t97:RA:=.t 97
abbrev t98:RA:=.t 98
abbrev t99:RA:=.t 99
abbrev b7Z:RA:=.t 100
abbrev b8F:RA:=.t 101
abbrev b8E:RA:=.t 102
abbrev b8G:RA:=.t 103
abbrev c0d:RA:=.t 104
abbrev c0a:RA:=.t 105
abbrev c0w:RA:=.t 106
abbrev c0S:RA:=.t 107
abbrev c0t:RA:=.t 108
abbrev c0N:RA:=.t 109
abbrev b9Q:RA:=.t 110
abbrev c0z:RA:=.t 111
abbrev c1y:RA:=.t 112
abbrev c0i:RA:=.t 113
abbrev c0E:RA:=.t 114
abbrev c1e:RA:=.t 115
abbrev c0l:RA:=.t 116
abbrev c0J:RA:=.t 117
abbrev c0F:RA:=.t 118
abbrev c1i:RA:=.t 119
abbrev c0K:RA:=.t 120
abbrev b8k:RA:=.t 121
abbrev c0c:RA:=.t 122
abbrev c0y:RA:=.t 123
abbrev b9S:RA:=.t 124
abbrev c1n:RA:=.t 125
abbrev c0o:RA:=.t 126
abbrev b8f:RA:=.t 127
abbrev c1d:RA:=.t 128
abbrev c0u:RA:=.t 129
abbrev c0q:RA:=.t 130
abbrev b9Y:RA:=.t 131
abbrev c0L:RA:=.t 132
abbrev c1F:RA:=.t 133
abbrev c1h:RA:=.t 134
abbrev c1D:RA:=.t 135
abbrev c1N:RA:=.t 136
abbrev c1C:RA:=.t 137
abbrev c1r:RA:=.t 138
abbrev c2a:RA:=.t 139
abbrev c2k:RA:=.t 140
abbrev c2I:RA:=.t 141
abbrev c1R:RA:=.t 142
abbrev c2K:RA:=.t 143
abbrev c3D:RA:=.t 144
abbrev c3c:RA:=.t 145
abbrev c3S:RA:=.t 146
abbrev c2T:RA:=.t 147
abbrev c2t:RA:=.t 148
abbrev c4g:RA:=.t 149
abbrev c4L:RA:=.t 150
abbrev c4I:RA:=.t 151
abbrev c3Z:RA:=.t 152
abbrev c4d:RA:=.t 153
abbrev c5f:RA:=.t 154
abbrev c4U:RA:=.t 155
abbrev c4y:RA:=.t 156
abbrev c6w:RA:=.t 157
abbrev c5U:RA:=.t 158
abbrev c5T:RA:=.t 159
abbrev c6N:RA:=.t 160
abbrev c6D:RA:=.t 161
abbrev c5e:RA:=.t 162
abbrev c6a:RA:=.t 163
abbrev c6c:RA:=.t 164
abbrev c5V:RA:=.t 165
abbrev c8W:RA:=.t 166
abbrev c9l:RA:=.t 167
abbrev c9p:RA:=.t 168
abbrev c8P:RA:=.t 169
abbrev c8Y:RA:=.t 170
abbrev c9i:RA:=.t 171
abbrev c9q:RA:=.t 172
abbrev c8Z:RA:=.t 173
abbrev c9t:RA:=.t 174
abbrev c8K:RA:=.t 175
abbrev c8O:RA:=.t 176
abbrev c8T:RA:=.t 177
abbrev c9k:RA:=.t 178
abbrev c9c:RA:=.t 179
abbrev c9a:RA:=.t 180
abbrev c8L:RA:=.t 181
abbrev c9d:RA:=.t 182
abbrev c8V:RA:=.t 183
abbrev c9n:RA:=.t 184
abbrev d0s:RA:=.t 185
abbrev d0L:RA:=.t 186
abbrev d0w:RA:=.t 187
abbrev c9S:RA:=.t 188
abbrev d0b:RA:=.t 189
abbrev d0h:RA:=.t 190
abbrev c9U:RA:=.t 191
abbrev d0S:RA:=.t 192
abbrev d0O:RA:=.t 193
abbrev d1b:RA:=.t 194
abbrev d0T:RA:=.t 195
abbrev d1c:RA:=.t 196
abbrev d0f:RA:=.t 197
abbrev d0g:RA:=.t 198
abbrev c9Y:RA:=.t 199
abbrev c9O:RA:=.t 200
abbrev d0o:RA:=.t 201
abbrev d0n:RA:=.t 202
abbrev d0V:RA:=.t 203
abbrev d0J:RA:=.t 204
abbrev d0c:RA:=.t 205
abbrev c9T:RA:=.t 206
abbrev d0x:RA:=.t 207
abbrev d0I:RA:=.t 208
abbrev d1a:RA:=.t 209
abbrev d0z:RA:=.t 210
abbrev d0d:RA:=.t 211
abbrev c9J:RA:=.t 212
abbrev d0u:RA:=.t 213
abbrev c9K:RA:=.t 214
abbrev c9R:RA:=.t 215
abbrev d0W:RA:=.t 216
abbrev d0p:RA:=.t 217
abbrev c9P:RA:=.t 218
abbrev d0Z:RA:=.t 219
abbrev d0l:RA:=.t 220
abbrev d0K:RA:=.t 221
abbrev d0v:RA:=.t 222
abbrev c9L:RA:=.t 223
abbrev d0H:RA:=.t 224
abbrev d0t:RA:=.t 225
abbrev c9Z:RA:=.t 226
abbrev d0U:RA:=.t 227
abbrev d0k:RA:=.t 228
abbrev d0Q:RA:=.t 229
abbrev d0e:RA:=.t 230
abbrev d0a:RA:=.t 231
abbrev d0R:RA:=.t 232
abbrev c9N:RA:=.t 233
abbrev d0X:RA:=.t 234
abbrev d0D:RA:=.t 235
abbrev c9M:RA:=.t 236
abbrev c9Q:RA:=.t 237
abbrev d1d:RA:=.t 238
abbrev d0P:RA:=.t 239
abbrev d0j:RA:=.t 240
abbrev d0Y:RA:=.t 241
abbrev d0A:RA:=.t 242
abbrev c9V:RA:=.t 243
abbrev d0m:RA:=.t 246
abbrev d0C:RA:=.t 247
abbrev d0M:RA:=.t 248
abbrev d0G:RA:=.t 249
abbrev d0E:RA:=.t 251
abbrev c9X:RA:=.t 252
abbrev d0F:RA:=.t 253
end Go.Ab.Td
namespace Go.Ab.Td
open Go.Ab
def a4L:n4:=⟨2,63,[.tmp 4],
 .seq (.b6 [i 2 (.box 3 t0) 0,
 i 4 (.mv (.c (.pv (.bool false)))) 0] false)
 (.seq (.seq (.b6 [i 12 (.call (.f R1) []) 0,
 i 13 (.not y9) 1] false)
 (.cond A6
 (.seq (.b6 [i 4 (.mv (.c (.pv (.bool false)))) 0] false)
 .ret)
 .skip))
 (.seq (.b6 [i 14 (.load true 3 t2) 0,
 i 15 (.call (.f a1X) [C7]) 1,
 i 5 (.alloc z1) 0,
 iz (.store 67 t5 G3) 7] false)
 (.seq (.seq (.b6 [i 16 (mv t1) 0,
 i 17 (.call (.f a4a) [G0]) 1,
 i 18 (.j2 E5) 3,
 i 19 (.mv (.c (I 0))) 0] false)
 (.block 0
 (.loop [5,17,18,19]
 (.seq (.b6 [i 20 (.bin .lss J9 I1) 0] false)
 (.seq (.cond N5
 .skip
 (.exit 0))
 (.seq (.block 1
 (.seq (.b6 [i 21 (.j3 6 E5 J9) 0,
 i 22 (.load true 6 L7) 1,
 i 7 (.alloc [.pv (.int .u8 (0)),.pv (.int .u8 (0)),.pv (.int .u8 (0)),.pv (.int .u8 (0)),.pv (.int .i32 (0)),.pv (.str [])]) 0,
 iz (.store 6 t7 R2) 7] false)
 (.seq (.seq (.b6 [i 23 (.load true 6 t7) 0,
 i 24 (.call (.f u9) [U3]) 1,
 i 25 (.bin .eql W8 (.c (.pv (.str [])))) 3] false)
 (.cond W4
 (.seq (.b6 [i 26 (.load true 6 t7) 0,
 i 27 (.load true 67 t5) 0,
 i 28 (.call (.f i7) [t26,t27]) 3,
 iz (.store 67 t5 t28) 7] false)
 (.exit 1))
 .skip))
 (.seq (.b6 [i 30 (.load true 67 t5) 0,
 i 31 (.load true 6 t7) 0,
 i 32 (.call (.f u9) [t31]) 2,
 i 33 (.call (.f G2) [t30,t32]) 7,
 i 29 (mv t33) 15,
 i 34 (.extract t29 0) 31,
 i 35 (.extract t29 1) 31,
 i 8 (.alloc z1) 0,
 iz (.store 67 t8 t34) 191,
 i 9 (mv t35) 511] true)
 (.seq (.b6 [i 37 (.load true 67 t5) 0,
 i 38 (.load true 6 t7) 0,
 i 39 (.call (.f u9) [t38]) 2,
 i 40 (.call (.f A0) [t37,t39]) 7,
 i 36 (mv t40) 15,
 i 41 (.extract t36 0) 31,
 i 42 (.extract t36 1) 31,
 i 10 (.alloc z1) 0,
 iz (.store 67 s8 t41) 191,
 i 11 (mv t42) 511] true)
 (.seq (.seq (.b6 [i 43 (mv t9) 0,
 i 44 (mv v7) 0,
 i 45 (.bin .neq t43 t44) 3,
 i 46 (mv t45) 7,
 ig 47 (.load true 67 t8) 46 false 15,
 ig 48 (.load true 67 s8) 46 false 15,
 ig 49 (.call (.f y4) [t47,t48]) 46 false 63,
 ig 50 (.not t49) 46 false 127,
 i 51 (.pick t46 (.c (.pv (.bool true))) t50) 255,
 i 52 (mv t51) 511,
 ig 53 (.b0 t8 2) 52 false 1023,
 ig 54 (.load false 1 t53) 52 false 2047,
 ig 55 (.call (.f J8) [t54]) 52 false 4095,
 ig 56 (.bin .neq t55 (.c (I 0))) 52 false 8191,
 i 57 (.pick t52 (.c (.pv (.bool true))) t56) 16383] false)
 (.cond t57
 (.seq (.b6 [i 4 (.mv (.c (.pv (.bool false)))) 0] false)
 .ret)
 .skip))
 (.b6 [i 58 (.load true 67 t8) 0,
 iz (.store 67 t5 t58) 1] false)))))))
 (.b6 [i 59 (.bin .add J9 (.c (I 1))) 0,
 i 19 (mv t59) 1] false)))))))
 (.seq (.b6 [i 60 (.call (.f a6j) []) 0,
 i 61 (.call (.f Y2) []) 1,
 i 62 (.call (.f C1) [t60,t61]) 3,
 i 4 (mv t62) 7] false)
 .ret))))⟩
def a4s:n4:=⟨0,157,[.tmp 0],
 .seq (.b6 [i 0 (.mv (.c (.pv (.bool false)))) 0] false)
 (.seq (.b6 [i 19 (.call (.f Q8) []) 0,
 i 20 (.call (.f G2) [J9,.c (.pv (.str [115,97,118,101]))]) 1,
 i 18 (mv N5) 3,
 i 21 (.extract I1 0) 7,
 i 22 (.extract I1 1) 7,
 i 1 (.alloc z1) 0,
 iz (.store 67 t1 L7) 47,
 i 2 (mv R2) 127] false)
 (.seq (.seq (.b6 [i 23 (mv t2) 0,
 i 24 (.bin .neq U3 (.c (I 0))) 1,
 i 25 (mv W8) 3,
 ig 26 (.b0 t1 0) 25 false 7,
 ig 27 (.load false 1 t26) 25 false 15,
 ig 28 (.call (.f W9) [.c (I 1)]) 25 false 7,
 ig 29 (.N6 7 1 z0 [(0,t28)]) 25 false 39,
 ig 30 (.call (.f A1) [t27,t29]) 25 false 127,
 ig 31 (.not t30) 25 false 255,
 i 32 (.pick W4 (.c (.pv (.bool true))) t31) 511,
 i 33 (mv t32) 1023,
 ig 34 (.b0 t1 3) 33 false 2047,
 ig 35 (.load false 1 t34) 33 false 4095,
 ig 36 (.j2 t35) 33 false 8191,
 ig 37 (.bin .neq t36 (.c (I 1))) 33 false 16383,
 i 38 (.pick t33 (.c (.pv (.bool true))) t37) 32767,
 i 39 (mv t38) 65535,
 ig 40 (.b0 t1 62) 39 false 131071,
 ig 41 (.load false 1 t40) 39 false 262143,
 ig 42 (.j2 t41) 39 false 524287,
 ig 43 (.bin .neq t42 (.c (I 1))) 39 false 1048575,
 i 44 (.pick t39 (.c (.pv (.bool true))) t43) 2097151,
 i 45 (mv t44) 4194303,
 ig 46 (.b0 t1 4) 45 false 8388607,
 ig 47 (.load false 1 t46) 45 false 16777215,
 ig 48 (.bin .neq t47 (.c (I 1))) 45 false 33554431,
 i 49 (.pick t45 (.c (.pv (.bool true))) t48) 67108863] true)
 (.cond t49
 (.seq (.b6 [i 0 (.mv (.c (.pv (.bool false)))) 0] false)
 .ret)
 .skip))
 (.seq (.b6 [i 50 (.build z0 [(0,1,.c (I 6)),(4,1,.c (I 10)),(6,1,.c (I 3))]) 0,
 i 3 (.alloc z0) 0,
 iz (.store 7 t3 t50) 3] false)
 (.seq (.b6 [i 52 (.b0 t1 2) 0,
 i 53 (.load false 1 t52) 1,
 i 54 (.load true 7 t3) 0,
 i 55 (.call (.f I8) [t53,t54,.c (I 0),.c (.pv (.str [65]))]) 7,
 i 51 (mv t55) 15,
 i 56 (.extract t51 0) 31,
 i 57 (.extract t51 1) 31,
 i 4 (mv t56) 63,
 i 5 (mv t57) 255] false)
 (.seq (.b6 [i 58 (.load true 67 t1) 0,
 i 6 (.alloc z1) 0,
 iz (.store 67 t6 t58) 3] false)
 (.seq (.b6 [i 59 (mv t4) 0,
 i 60 (.b0 t6 2) 1,
 iz (.store 1 t60 t59) 3,
 i 61 (.b0 t6 5) 7,
 i 62 (.b0 t61 40) 15,
 iz (.store 1 t62 (.c (I 9))) 31] false)
 (.seq (.b6 [i 64 (.load true 67 t6) 0,
 i 65 (.call (.f G2) [t64,.c (.pv (.str [114,101,115,116,111,114,101]))]) 1,
 i 63 (mv t65) 3,
 i 66 (.extract t63 0) 7,
 i 67 (.extract t63 1) 7,
 i 7 (.alloc z1) 0,
 iz (.store 67 t7 t66) 47,
 i 8 (mv t67) 127] false)
 (.seq (.b6 [i 69 (.load true 67 t7) 0,
 i 70 (.call (.f W9) [.c (I 1)]) 0,
 i 71 (.N6 7 1 z0 [(0,t70)]) 2,
 i 72 (.call (.f V8) [t69,t71]) 7,
 i 73 (.call (.f G2) [t72,.c (.pv (.str [114,101,115,116,111,114,101]))]) 15,
 i 68 (mv t73) 31,
 i 74 (.extract t68 0) 63,
 i 75 (.extract t68 1) 63,
 i 9 (.alloc z1) 0,
 iz (.store 67 t9 t74) 383,
 i 10 (mv t75) 1023] true)
 (.seq (.b6 [i 77 (.load true 67 t1) 0,
 i 78 (.call (.f a2H) [t77,.c (I 1)]) 1,
 i 76 (mv t78) 3,
 i 79 (.extract t76 0) 7,
 i 80 (.extract t76 1) 7,
 i 11 (mv t79) 15,
 i 12 (mv t80) 63] false)
 (.seq (.b6 [i 82 (.load true 67 t1) 0,
 i 83 (.call (.f G2) [t82,.c (.pv (.str [118,109,115,116,97,116,117,115]))]) 1,
 i 81 (mv t83) 3,
 i 84 (.extract t81 0) 7,
 i 85 (.extract t81 1) 7,
 i 13 (.alloc z1) 0,
 iz (.store 67 A6 t84) 47,
 i 14 (mv t85) 127] false)
 (.seq (.b6 [i 87 (.load true 67 t1) 0,
 i 88 (.load true 7 t3) 0,
 i 89 (.N6 7 1 z0 [(0,t88)]) 2,
 i 90 (.call (.f V8) [t87,t89]) 7,
 i 91 (.call (.f G2) [t90,.c (.pv (.str [114,101,115,116,111,114,101]))]) 15,
 i 86 (mv t91) 31,
 i 92 (.extract t86 0) 63,
 i 93 (.extract t86 1) 63,
 i 15 (.alloc z1) 0,
 iz (.store 67 G3 t92) 383,
 i 16 (mv t93) 1023] false)
 (.seq (.b6 [i 94 (.call (.f Q8) []) 0,
 i 17 (.alloc z1) 0,
 iz (.store 67 E5 t94) 3] false)
 (.seq (.b6 [i 95 (.b0 E5 4) 0,
 iz (.store 1 t95 (.c (I 1))) 1] false)
 (.seq (.b6 [i 96 (mv t5) 0,
 i 97 (.bin .eql t96 (.c (I 0))) 1,
 i 98 (mv t97) 3,
 ig 99 (mv t8) 98 true 7,
 ig 100 (.bin .eql t99 (.c (I 0))) 98 true 15,
 i 101 (.pick t98 b7Z (.c (.pv (.bool false)))) 31,
 i 102 (mv b8F) 63,
 ig 103 (.load true 67 t7) 102 true 127,
 ig 104 (.load true 67 E5) 102 true 127,
 ig 105 (.call (.f y4) [b8G,c0d]) 102 true 511,
 i 106 (.pick b8E c0a (.c (.pv (.bool false)))) 1023,
 i 107 (mv c0w) 2047,
 ig 108 (mv s8) 107 true 4095,
 ig 109 (.bin .eql c0t (.c (I 34))) 107 true 8191,
 i 110 (.pick c0S c0N (.c (.pv (.bool false)))) 16383,
 i 111 (mv b9Q) 32767,
 ig 112 (mv v7) 111 true 65535,
 ig 113 (.bin .eql c1y (.c (I 11))) 111 true 131071,
 i 114 (.pick c0z c0i (.c (.pv (.bool false)))) 262143,
 i 115 (mv c0E) 524287,
 ig 116 (mv y9) 115 true 1048575,
 i 117 (.pick c1e c0l (.c (.pv (.bool false)))) 2097151,
 i 118 (mv c0J) 4194303,
 ig 119 (mv C7) 118 true 8388607,
 ig 120 (.bin .eql c1i (.c (I 0))) 118 true 16777215,
 i 121 (.pick c0F c0K (.c (.pv (.bool false)))) 33554431,
 i 122 (mv b8k) 67108863,
 ig 123 (.b0 A6 0) 122 true 134217727,
 ig 124 (.load false 1 c0y) 122 true 268435455,
 ig 125 (.j2 b9S) 122 true 536870911,
 ig 126 (.bin .eql c1n (.c (I 4))) 122 true 1073741823,
 i 127 (.pick c0c c0o (.c (.pv (.bool false)))) 2147483647,
 i 128 (mv b8f) 4294967295,
 ig 129 (.b0 A6 0) 128 true 8589934591,
 ig 130 (.load false 1 c0u) 128 true 17179869183,
 ig 131 (.j3 7 c0q (.c (I 1))) 128 true 34359738367,
 ig 132 (.b0 b9Y 2) 128 true 68719476735,
 ig 133 (.load false 1 c0L) 128 true 137438953471,
 ig 134 (.bin .eql c1F (.c (I 1))) 128 true 274877906943,
 i 135 (.pick c1d c1h (.c (.pv (.bool false)))) 549755813887,
 i 136 (mv c1D) 1099511627775,
 ig 137 (.b0 A6 0) 136 true 2199023255551,
 ig 138 (.load false 1 c1C) 136 true 4398046511103,
 ig 139 (.j3 7 c1r (.c (I 3))) 136 true 8796093022207,
 ig 140 (.b0 c2a 2) 136 true 17592186044415,
 ig 141 (.load false 1 c2k) 136 true 35184372088831,
 ig 142 (.bin .eql c2I (.c (I 20000))) 136 true 70368744177663,
 i 143 (.pick c1N c1R (.c (.pv (.bool false)))) 140737488355327,
 i 144 (mv c2K) 281474976710655,
 ig 145 (mv G0) 144 true 562949953421311,
 ig 146 (.bin .eql c3c (.c (I 22))) 144 true 1125899906842623,
 i 147 (.pick c3D c3S (.c (.pv (.bool false)))) 2251799813685247,
 i 148 (mv c2T) 4503599627370495,
 ig 149 (.load true 7 t3) 148 true 9007199254740991,
 ig 150 (.call (.f K3) [c4g,.c (I 10)]) 148 true 18014398509481983,
 i 151 (.pick c2t c4L (.c (.pv (.bool false)))) 36028797018963967,
 i 152 (mv c4I) 72057594037927935,
 ig 153 (.load true 7 t3) 152 true 144115188075855871,
 ig 154 (.call (.f K3) [c4d,.c (I 11)]) 152 true 288230376151711743,
 ig 155 (.not c5f) 152 true 576460752303423487,
 i 156 (.pick c3Z c4U (.c (.pv (.bool false)))) 1152921504606846975,
 i 0 (mv c4y) 2305843009213693951] false)
 .ret))))))))))))))⟩
def a8f:n4:=⟨1,9,[.cell 2 true 67],
 .seq (.b6 [i 1 (.box 3 t0) 0,
 i 2 (.alloc z1) 0] false)
 (.seq (.b6 [i 4 (.load true 3 t1) 0,
 i 5 (.call (.f F1) [t4]) 1,
 i 3 (.alloc z1) 0,
 iz (.store 67 t3 t5) 7] false)
 (.seq (.b6 [i 6 (.b0 t3 5) 0,
 i 7 (.b0 t6 40) 1,
 iz (.store 1 t7 (.c (I 1))) 3] false)
 (.seq (.b6 [i 8 (.load true 67 t3) 0,
 iz (.store 67 t2 t8) 1] false)
 .ret)))⟩
def b1s:n4:=⟨1,8,[.tmp 2],
 .seq (.b6 [i 2 (.mv (.c (.emp 6))) 0] false)
 (.seq (.b6 [i 3 (mv t0) 0,
 i 4 (mv t0) 0,
 i 5 (.j2 t4) 2,
 i 6 (.mm false [t5,.c (I 60)]) 6,
 i 7 (.slice 6 t3 none (some t6) none) 15,
 i 2 (mv t7) 31] false)
 .ret)⟩
def a3Y:n4:=⟨1,13,[.tmp 2],
 .seq (.b6 [i 1 (.box 6 t0) 0,
 i 2 (.mv (.c (.pv (.str [])))) 0] false)
 (.seq (.seq (.b6 [i 3 (.b0 t1 0) 0,
 i 4 (.load false 1 t3) 1,
 i 5 (.bin .rem t4 (.c (.pv (.int .u8 (8))))) 3,
 i 6 (.bin .lss t5 (.c (.pv (.int .u8 (3))))) 7] false)
 (.cond t6
 (.seq (.b6 [i 7 (.call (.f Y2) []) 0,
 i 8 (.b0 t1 0) 0,
 i 9 (.load false 1 t8) 2,
 i 10 (.bin .rem t9 (.c (.pv (.int .u8 (8))))) 6,
 i 11 (.j3 1 t7 s8) 15,
 i 12 (.load false 1 v7) 31,
 i 2 (mv y9) 63] true)
 .ret)
 .skip))
 (.seq (.b6 [i 2 (.mv (.c (.pv (.str [])))) 0] false)
 .ret))⟩
def b2N:n4:=⟨2,166,[.cell 4 true 67,.tmp 5],
 .seq (.b6 [i 2 (.box 67 t0) 0,
 i 4 (.alloc z1) 0,
 i 5 (.mv (.c (I 0))) 0] false)
 (.seq (.b6 [i 16 (.b0 t2 0) 0,
 i 17 (.load false 1 G0) 1,
 i 18 (.j2 E5) 3,
 i 6 (mv I1) 7] false)
 (.seq (.seq (.b6 [i 19 (mv t1) 0] false)
 (.block 0
 (.seq (.b6 [i 21 (.bin .eql J9 (.c (.pv (.str [115,97,118,101])))) 0,
 i 20 (mv L7) 1] false)
 (.cond N5
 (.seq (.seq (.b6 [i 22 (.b0 t2 3) 0,
 i 23 (.load false 1 R2) 1,
 i 24 (.j2 U3) 3,
 i 25 (.bin .geq W8 (.c (I 10))) 7,
 i 26 (mv W4) 15,
 ig 27 (.b0 t2 62) 26 false 31,
 ig 28 (.load false 1 t27) 26 false 63,
 ig 29 (.j2 t28) 26 false 127,
 ig 30 (.bin .geq t29 (.c (I 20))) 26 false 255,
 i 31 (.pick t26 (.c (.pv (.bool true))) t30) 511] false)
 (.cond t31
 (.seq (.b6 [i 32 (.load true 67 t2) 0,
 iz (.store 67 t4 t32) 1,
 i 5 (.mv (.c (I 26))) 3] false)
 .ret)
 .skip))
 (.seq (.b6 [i 34 (.load true 67 t2) 0,
 i 35 (.b0 t2 4) 0,
 i 36 (.load false 1 t35) 2,
 i 37 (.bin .add t36 (.c (I 1))) 6,
 i 38 (.build z0 [(0,1,.c (I 12)),(2,1,t37)]) 14,
 i 39 (.N6 7 1 z0 [(0,t38)]) 30,
 i 40 (.call (.f s9) [t34,.c (I 0),t39]) 63,
 i 33 (mv t40) 127,
 i 41 (.extract t33 0) 255,
 i 42 (.extract t33 1) 255,
 i 7 (.alloc z1) 0,
 iz (.store 67 t7 t41) 1535,
 i 8 (mv t42) 4095] false)
 (.seq (.seq (.b6 [i 43 (mv t8) 0,
 i 44 (.bin .neq t43 (.c (I 0))) 1] false)
 (.cond t44
 (.seq (.b6 [i 45 (.load true 67 t2) 0,
 i 46 (mv t8) 0,
 iz (.store 67 t4 t45) 1,
 i 5 (mv t46) 7] false)
 .ret)
 .skip))
 (.seq (.b6 [i 47 (.b0 t2 4) 0,
 i 48 (.load false 1 t47) 1,
 i 49 (.bin .add t48 (.c (I 1))) 3,
 i 50 (.b0 t7 4) 7,
 iz (.store 1 t50 t49) 15] false)
 (.seq (.b6 [i 9 (.mv (.c (.emp 3))) 0] false)
 (.seq (.b6 [i 51 (mv t9) 0,
 i 52 (.b0 t2 3) 0,
 i 53 (.load false 1 t52) 2,
 i 54 (.append 3 40 t51 t53) 7,
 i 55 (.b0 t7 4) 0,
 i 56 (.load false 1 t55) 16,
 i 57 (.b0 t2 2) 0,
 i 58 (.load false 1 t57) 64,
 i 59 (.b0 t2 62) 0,
 i 60 (.load false 1 t59) 256,
 i 61 (.j2 t60) 768,
 i 62 (.build [I 0,.emp 7,I 0] [(0,1,t56),(1,1,t58),(2,1,t61)]) 2032,
 i 63 (.N6 3 1 [I 0,.emp 7,I 0] [(0,t62)]) 4080,
 i 64 (.append 3 40 t54 t63) 8191,
 i 65 (.b0 t7 3) 16383,
 iz (.store 1 t65 t64) 32767] true)
 (.seq (.b6 [i 10 (.mv (.c (.emp 57))) 0] false)
 (.seq (.b6 [i 66 (mv s8) 0,
 i 67 (.b0 t2 62) 0,
 i 68 (.load false 1 t67) 2,
 i 69 (.append 57 520 t66 t68) 7,
 i 70 (.b0 t2 5) 0,
 i 71 (.load true 57 t70) 16,
 i 72 (.N6 57 1 z4 [(0,t71)]) 48,
 i 73 (.append 57 520 t69 t72) 127,
 i 74 (.b0 t7 62) 255,
 iz (.store 1 t74 t73) 511] true)
 (.seq (.b6 [i 75 (.load true 67 t7) 0,
 iz (.store 67 t4 t75) 1,
 i 5 (.mv (.c (I 0))) 3] false)
 .ret)))))))))
 (.seq (.b6 [i 77 (.bin .eql J9 (.c (.pv (.str [114,101,115,116,111,114,101])))) 0,
 i 76 (mv t77) 1] false)
 (.cond t76
 (.seq (.seq (.b6 [i 78 (mv t6) 0,
 i 79 (.bin .lss t78 (.c (I 1))) 1] false)
 (.cond t79
 (.seq (.b6 [i 80 (.load true 67 t2) 0,
 iz (.store 67 t4 t80) 1,
 i 5 (.mv (.c (I 20))) 3] false)
 .ret)
 .skip))
 (.seq (.b6 [i 81 (.b0 t2 0) 0,
 i 82 (.load false 1 t81) 1,
 i 83 (mv t6) 0,
 i 84 (.bin .sub t83 (.c (I 1))) 4,
 i 85 (.j3 7 t82 t84) 15,
 i 86 (.load true 7 t85) 31,
 i 11 (.alloc z0) 0,
 iz (.store 7 v7 t86) 127] false)
 (.seq (.seq (.b6 [i 87 (.b0 v7 0) 0,
 i 88 (.load false 1 t87) 1,
 i 89 (.bin .neq t88 (.c (I 12))) 3] false)
 (.cond t89
 (.seq (.b6 [i 90 (.load true 67 t2) 0,
 iz (.store 67 t4 t90) 1,
 i 5 (.mv (.c (I 22))) 3] false)
 .ret)
 .skip))
 (.seq (.b6 [i 91 (.load true 67 t2) 0,
 i 92 (.b0 v7 2) 0,
 i 93 (.load false 1 t92) 2,
 i 94 (.call (.f a1K) [t91,t93]) 7,
 i 12 (mv t94) 15] false)
 (.seq (.seq (.b6 [i 95 (mv y9) 0,
 i 96 (.bin .lss t95 (.c (I 0))) 1] false)
 (.cond t96
 (.seq (.b6 [i 97 (.load true 67 t2) 0,
 iz (.store 67 t4 t97) 1,
 i 5 (.mv (.c (I 34))) 3] false)
 .ret)
 .skip))
 (.seq (.b6 [i 98 (.b0 t2 3) 0,
 i 99 (.load false 1 t98) 1,
 i 100 (mv y9) 0,
 i 101 (.j3 3 t99 b7Z) 7,
 i 102 (.load true 3 b8F) 15,
 i 13 (.alloc [I 0,.emp 7,I 0]) 0,
 iz (.store 3 A6 b8E) 63] false)
 (.seq (.seq (.b6 [i 103 (.b0 t2 0) 0,
 i 104 (.load false 1 b8G) 1,
 i 105 (mv t6) 0,
 i 106 (.bin .sub c0a (.c (I 1))) 4,
 i 107 (.slice 7 c0d none (some c0w) none) 15,
 i 108 (.b0 A6 1) 0,
 i 109 (.load false 1 c0t) 32,
 i 110 (.j2 c0N) 96,
 i 111 (.call (.f X4) [c0S,b9Q]) 255,
 i 112 (mv c0z) 511,
 ig 113 (.b0 t2 1) 112 false 1023,
 ig 114 (.load false 1 c0i) 112 false 2047,
 ig 115 (.b0 A6 1) 112 false 1023,
 ig 116 (.load false 1 c1e) 112 false 5119,
 ig 117 (.j2 c0l) 112 false 13311,
 ig 118 (.call (.f X4) [c0E,c0J]) 112 false 32767,
 i 119 (.pick c1y (.c (.pv (.bool true))) c0F) 65535] true)
 (.cond c1i
 (.seq (.b6 [i 120 (.load true 67 t2) 0,
 iz (.store 67 t4 c0K) 1,
 i 5 (.mv (.c (I 34))) 3] false)
 .ret)
 .skip))
 (.seq (.b6 [i 122 (.load true 67 t2) 0,
 i 123 (.call (.f s9) [c0c,.c (I 1),.c (.emp 7)]) 1,
 i 121 (mv c0y) 3,
 i 124 (.extract b8k 0) 7,
 i 125 (.extract b8k 1) 7,
 i 14 (.alloc z1) 0,
 iz (.store 67 C7 b9S) 47,
 i 15 (mv c1n) 127] false)
 (.seq (.b6 [i 126 (.b0 A6 1) 0,
 i 127 (.load false 1 c0o) 1,
 i 128 (.b0 C7 2) 3,
 iz (.store 1 c1d b8f) 7] false)
 (.seq (.b6 [i 129 (.b0 t2 62) 0,
 i 130 (.load false 1 c0u) 1,
 i 131 (.b0 A6 2) 0,
 i 132 (.load false 1 b9Y) 4,
 i 133 (.j3 57 c0q c0L) 15,
 i 134 (.load true 57 c1F) 31,
 i 135 (.b0 C7 5) 63,
 iz (.store 57 c1D c1h) 127] false)
 (.seq (.b6 [i 136 (.b0 t2 62) 0,
 i 137 (.load false 1 c1N) 1,
 i 138 (.b0 A6 2) 0,
 i 139 (.load false 1 c1r) 4,
 i 140 (.slice 57 c1C none (some c2a) none) 15,
 i 141 (.b0 C7 62) 31,
 iz (.store 1 c2I c2k) 63] false)
 (.seq (.b6 [i 142 (.b0 t2 3) 0,
 i 143 (.load false 1 c1R) 1,
 i 144 (mv y9) 0,
 i 145 (.slice 3 c2K none (some c3D) none) 7,
 i 146 (.b0 C7 3) 15,
 iz (.store 1 c3S c3c) 31] false)
 (.seq (.b6 [i 147 (.load true 67 C7) 0,
 i 148 (mv G3) 0,
 iz (.store 67 t4 c2T) 1,
 i 5 (mv c2t) 7] false)
 .ret)))))))))))))
 (.seq (.b6 [i 150 (.bin .eql J9 (.c (.pv (.str [118,109,115,116,97,116,117,115])))) 0,
 i 149 (mv c4L) 1] false)
 (.cond c4g
 (.seq (.b6 [i 151 (.load true 67 t2) 0,
 i 152 (.b0 t2 3) 0,
 i 153 (.load false 1 c3Z) 2,
 i 154 (.j2 c4d) 6,
 i 155 (.call (.f a0r) [c5f]) 14,
 i 156 (.b0 t2 2) 0,
 i 157 (.load false 1 c4y) 32,
 i 158 (.call (.f a1I) [c6w]) 126,
 i 159 (.call (.f a0r) [c5U]) 254,
 i 160 (.call (.f a0r) [.c (I 20000)]) 510,
 i 161 (.N6 7 3 z0 [(0,c4U),(1,c5T),(2,c6N)]) 1022,
 i 162 (.call (.f s9) [c4I,.c (I 0),c6D]) 2047,
 i 163 (.extract c5e 0) 4095,
 i 164 (.extract c5e 1) 4095,
 iz (.store 67 t4 c6a) 16383,
 i 5 (mv c6c) 32767] true)
 .ret)
 .skip))))))))
 (.seq (.b6 [i 165 (.load true 67 t2) 0,
 iz (.store 67 t4 c5V) 1,
 i 5 (.mv (.c (I 24))) 3] false)
 .ret)))⟩
def a3l:n4:=⟨2,166,[.cell 4 true 67],
 .seq (.b6 [i 2 (.box 6 t0) 0,
 i 3 (.box 67 t1) 0,
 i 4 (.alloc z1) 0] false)
 (.seq (.b6 [i 11 (.b0 t2 1) 0,
 i 12 (.load true 5 v7) 1,
 i 13 (.b0 t3 2) 0,
 i 14 (.load false 1 A6) 4,
 i 15 (.call (.f e6) [y9,C7]) 15,
 i 5 (.alloc z0) 0,
 iz (.store 7 t5 G3) 63] false)
 (.seq (.seq (.b6 [i 16 (.b0 t2 0) 0,
 i 17 (.load false 1 G0) 1,
 i 18 (.bin .rem E5 (.c (.pv (.int .u8 (8))))) 3] false)
 (.block 0
 (.seq (.b6 [i 20 (.bin .eql I1 (.c (.pv (.int .u8 (3))))) 0,
 i 19 (mv N5) 1] false)
 (.cond J9
 (.seq (.b6 [i 21 (.b0 t3 0) 0,
 i 22 (.load false 1 L7) 1,
 i 23 (.j2 R2) 3,
 i 24 (.bin .lss U3 (.c (I 100))) 7] false)
 (.cond W8
 (.b6 [i 26 (.load true 67 t3) 0,
 i 27 (.load true 7 t5) 0,
 i 28 (.N6 7 1 z0 [(0,t27)]) 2,
 i 29 (.call (.f s9) [t26,.c (I 0),t28]) 7,
 i 25 (mv t29) 15,
 i 30 (.extract W4 0) 31,
 i 31 (.extract W4 1) 31,
 iz (.store 67 t3 t30) 63] false)
 .skip))
 (.seq (.b6 [i 33 (.bin .eql I1 (.c (.pv (.int .u8 (4))))) 0,
 i 32 (mv t33) 1] false)
 (.cond t32
 (.b6 [i 35 (.load true 67 t3) 0,
 i 36 (.b0 t3 0) 0,
 i 37 (.load false 1 t36) 2,
 i 38 (.j2 t37) 6,
 i 39 (.b0 t2 1) 0,
 i 40 (.b0 t39 1) 16,
 i 41 (.load false 1 t40) 48,
 i 42 (.bin .rem t41 (.c (.pv (.int .u8 (2))))) 112,
 i 43 (.conv .i64 t42) 240,
 i 44 (.bin .add (.c (I 1)) t43) 496,
 i 45 (.mm false [t38,t44]) 1022,
 i 46 (.call (.f s9) [t35,t45,.c (.emp 7)]) 2047,
 i 34 (mv t46) 4095,
 i 47 (.extract t34 0) 8191,
 i 48 (.extract t34 1) 8191,
 iz (.store 67 t3 t47) 16383] false)
 (.seq (.b6 [i 50 (.bin .eql I1 (.c (.pv (.int .u8 (5))))) 0,
 i 49 (mv t50) 1] false)
 (.cond t49
 (.seq (.b6 [i 51 (.b0 t2 1) 0,
 i 52 (.load true 5 t51) 1,
 i 53 (.b0 t3 2) 0,
 i 54 (.load false 1 t53) 4,
 i 55 (.call (.f n7) [t52,t54]) 15,
 i 6 (.alloc z2) 0,
 iz (.store 7 t6 t55) 63] false)
 (.seq (.b6 [i 56 (.b0 t3 2) 0,
 i 57 (.load false 1 t56) 1,
 i 58 (.j2 t57) 3,
 i 59 (.bin .lss t58 (.c (I 60))) 7,
 i 60 (mv t59) 15,
 ig 61 (.b0 t3 0) 60 true 31,
 ig 62 (.load false 1 t61) 60 true 63,
 ig 63 (.j2 t62) 60 true 127,
 ig 64 (.bin .lss t63 (.c (I 100))) 60 true 255,
 i 65 (.pick t60 t64 (.c (.pv (.bool false)))) 511] false)
 (.cond t65
 (.seq (.b6 [i 7 (.mv (.c (.emp 7))) 0] false)
 (.seq (.b6 [i 66 (mv t7) 0,
 i 67 (.b0 t3 2) 0,
 i 68 (.load false 1 t67) 2,
 i 69 (.append 7 112 t66 t68) 7,
 i 70 (.load true 7 t6) 0,
 i 71 (.N6 7 1 z2 [(0,t70)]) 16,
 i 72 (.append 7 112 t69 t71) 63,
 i 73 (.b0 t3 2) 127,
 iz (.store 1 t73 t72) 255] true)
 (.seq (.b6 [i 74 (.b0 t6 0) 0,
 i 75 (.load false 1 t74) 1,
 i 76 (.bin .eql t75 (.c (I 1))) 3] false)
 (.cond t76
 (.b6 [i 78 (.load true 67 t3) 0,
 i 79 (mv t7) 0,
 i 80 (.j2 t79) 2,
 i 81 (.b0 t3 2) 0,
 i 82 (.load false 1 t81) 8,
 i 83 (.j2 t82) 24,
 i 84 (.bin .add t80 t83) 62,
 i 85 (.bin .sub t84 (.c (I 1))) 126,
 i 86 (.b0 t6 1) 0,
 i 87 (.load false 1 t86) 256,
 i 88 (.I2 t87) 768,
 i 89 (.build z0 [(0,1,.c (I 6)),(4,1,t85),(6,1,t88)]) 2046,
 i 90 (.N6 7 1 z0 [(0,t89)]) 4094,
 i 91 (.call (.f s9) [t78,.c (I 0),t90]) 8191,
 i 77 (mv t91) 16383,
 i 92 (.extract t77 0) 32767,
 i 93 (.extract t77 1) 32767,
 iz (.store 67 t3 t92) 65535] false)
 .skip))))
 .skip)))
 (.seq (.b6 [i 95 (.bin .eql I1 (.c (.pv (.int .u8 (6))))) 0,
 i 94 (mv t95) 1] false)
 (.cond t94
 (.seq (.seq (.b6 [i 96 (.b0 t5 0) 0,
 i 97 (.load false 1 t96) 1,
 i 98 (.bin .eql t97 (.c (I 6))) 3,
 i 99 (mv t98) 7,
 ig 100 (.b0 t5 6) 99 true 15,
 ig 101 (.load false 1 b7Z) 99 true 31,
 ig 102 (.bin .gtr b8F (.c (I 0))) 99 true 63,
 i 103 (.pick t99 b8E (.c (.pv (.bool false)))) 127] false)
 (.cond b8G
 (.b6 [i 104 (.b0 t3 2) 0,
 i 105 (.load false 1 c0d) 1,
 i 106 (.load true 7 t5) 0,
 i 107 (.call (.f U5) [c0a,c0w,.c (I 0),.c (.pv (.str [122]))]) 7,
 i 108 (.b0 t3 2) 15,
 iz (.store 1 c0t c0S) 31] false)
 .skip))
 (.seq (.seq (.b6 [i 109 (.b0 t5 0) 0,
 i 110 (.load false 1 c0N) 1,
 i 111 (.bin .eql b9Q (.c (I 7))) 3,
 i 112 (mv c0z) 7,
 ig 113 (.b0 t5 6) 112 true 15,
 ig 114 (.load false 1 c0i) 112 true 31,
 ig 115 (.bin .gtr c0E (.c (I 0))) 112 true 63,
 i 116 (.pick c1y c1e (.c (.pv (.bool false)))) 127] false)
 (.cond c0l
 (.b6 [i 117 (.b0 t3 2) 0,
 i 118 (.load false 1 c0J) 1,
 i 119 (.load true 7 t5) 0,
 i 120 (.load true 7 t5) 0,
 i 121 (.N6 7 1 z0 [(0,c0K)]) 8,
 i 122 (.call (.f V7) [c0F,c1i,.c (I 0),b8k]) 31,
 i 123 (.b0 t3 2) 63,
 iz (.store 1 c0y c0c) 127] false)
 .skip))
 (.seq (.b6 [i 124 (.b0 t5 0) 0,
 i 125 (.load false 1 b9S) 1,
 i 126 (.bin .eql c1n (.c (I 9))) 3] false)
 (.cond c0o
 (.seq (.b6 [i 128 (.b0 t3 2) 0,
 i 129 (.load false 1 c1d) 1,
 i 130 (.load true 7 t5) 0,
 i 131 (.build z0 [(0,1,.c (I 5)),(3,1,.c (.pv (.str [110,101,119])))]) 0,
 i 132 (.load true 7 t5) 0,
 i 133 (.call (.f X7) [c0u,c0q,b9Y,c0L]) 31,
 i 127 (mv c1F) 63,
 i 134 (.extract b8f 0) 127,
 i 135 (.extract b8f 1) 127,
 i 8 (mv c1h) 255,
 i 9 (mv c1D) 1023] false)
 (.seq (.b6 [i 136 (mv t9) 0] false)
 (.cond c1N
 (.b6 [i 137 (mv t8) 0,
 i 138 (.b0 t3 2) 1,
 iz (.store 1 c1r c1C) 3] false)
 .skip)))
 .skip))))
 (.seq (.b6 [i 140 (.bin .eql I1 (.c (.pv (.int .u8 (7))))) 0,
 i 139 (mv c2k) 1] false)
 (.cond c2a
 (.seq (.b6 [i 141 (.b0 t2 1) 0,
 i 142 (.b0 c2I 1) 1,
 i 143 (.load false 1 c1R) 3,
 i 144 (.conv .i64 c2K) 7,
 i 145 (.bin .add (.c (I 1)) c3D) 15,
 i 146 (.b0 t3 5) 31,
 i 147 (.b0 c3S 40) 63,
 iz (.store 1 c2T c3c) 127] false)
 (.seq (.b6 [i 148 (.b0 t5 0) 0,
 i 149 (.load false 1 c2t) 1,
 i 150 (.bin .eql c4g (.c (I 9))) 3,
 i 151 (mv c4L) 7,
 ig 152 (.b0 t3 1) 151 true 15,
 ig 153 (.load false 1 c3Z) 151 true 31,
 ig 154 (.j2 c4d) 151 true 63,
 ig 155 (.bin .lss c5f (.c (I 20))) 151 true 127,
 i 156 (.pick c4I c4U (.c (.pv (.bool false)))) 255] false)
 (.cond c4y
 (.seq (.b6 [i 10 (.mv (.c (.emp 7))) 0] false)
 (.b6 [i 157 (mv s8) 0,
 i 158 (.b0 t3 1) 0,
 i 159 (.load false 1 c5U) 2,
 i 160 (.append 7 64 c6w c5T) 7,
 i 161 (.load true 7 t5) 0,
 i 162 (.N6 7 1 z0 [(0,c6D)]) 16,
 i 163 (.append 7 64 c6N c5e) 63,
 i 164 (.b0 t3 1) 127,
 iz (.store 1 c6c c6a) 255] true))
 .skip)))
 .skip))))))))))))
 (.seq (.b6 [i 165 (.load true 67 t3) 0,
 iz (.store 67 t4 c5V) 1] false)
 .ret)))⟩
def a4o:n4:=⟨1,5,[.cell 2 true 7],
 .seq (.b6 [i 2 (.alloc z0) 0] false)
 (.seq (.b6 [i 3 (mv t0) 0,
 i 4 (.build z0 [(0,1,.c (I 12)),(2,1,t3)]) 1,
 iz (.store 7 t2 t4) 3] false)
 .ret)⟩
def a4R:n4:=⟨2,84,[.cell 4 true 7],
 .seq (.b6 [i 2 (.box 5 t0) 0,
 i 4 (.alloc z0) 0] false)
 (.seq (.b6 [i 6 (.b0 t2 3) 0,
 i 7 (.load false 1 t6) 1,
 i 8 (.conv .i64 t7) 3,
 i 5 (mv t8) 7] false)
 (.seq (.seq (.b6 [i 9 (.b0 t2 0) 0,
 i 10 (.load false 1 t9) 1,
 i 11 (.bin .rem s8 (.c (.pv (.int .u8 (16))))) 3] false)
 (.block 0
 (.seq (.b6 [i 13 (.bin .eql v7 (.c (.pv (.int .u8 (0))))) 0,
 i 12 (mv A6) 1] false)
 (.cond y9
 (.seq (.b6 [i 14 (.build z0 [(0,1,.c (I 0))]) 0,
 iz (.store 7 t4 C7) 1] false)
 .ret)
 (.seq (.b6 [i 16 (.bin .eql v7 (.c (.pv (.int .u8 (1))))) 0,
 i 15 (mv G0) 1] false)
 (.cond G3
 (.seq (.b6 [i 17 (.build z0 [(0,1,.c (I 1))]) 0,
 iz (.store 7 t4 E5) 1] false)
 .ret)
 (.seq (.b6 [i 19 (.bin .eql v7 (.c (.pv (.int .u8 (2))))) 0,
 i 18 (mv J9) 1] false)
 (.cond I1
 (.seq (.b6 [i 20 (.b0 t2 1) 0,
 i 21 (.load false 1 N5) 1,
 i 22 (.bin .rem L7 (.c (.pv (.int .u8 (2))))) 3,
 i 23 (.conv .i64 R2) 7,
 i 24 (.build z0 [(0,1,.c (I 2)),(2,1,U3)]) 15,
 iz (.store 7 t4 W8) 31] false)
 .ret)
 (.seq (.seq (.b6 [i 26 (.bin .eql v7 (.c (.pv (.int .u8 (3))))) 0,
 i 25 (mv t26) 1] false)
 (.cond W4
 .skip
 (.b6 [i 27 (.bin .eql v7 (.c (.pv (.int .u8 (4))))) 0,
 i 25 (mv t27) 1] false)))
 (.cond W4
 (.seq (.b6 [i 28 (mv t5) 0,
 i 29 (.bin .rem t28 (.c (I 10))) 1,
 i 30 (.build z0 [(0,1,.c (I 3)),(2,1,t29)]) 3,
 iz (.store 7 t4 t30) 7] false)
 .ret)
 (.seq (.b6 [i 32 (.bin .eql v7 (.c (.pv (.int .u8 (5))))) 0,
 i 31 (mv t32) 1] false)
 (.cond t31
 (.seq (.b6 [i 33 (mv t5) 0,
 i 34 (.build z0 [(0,1,.c (I 3)),(2,1,t33)]) 1,
 iz (.store 7 t4 t34) 3] false)
 .ret)
 (.seq (.b6 [i 36 (.bin .eql v7 (.c (.pv (.int .u8 (6))))) 0,
 i 35 (mv t36) 1] false)
 (.cond t35
 (.seq (.b6 [i 37 (mv t5) 0,
 i 38 (.bin .rem t37 (.c (I 1048576))) 1,
 i 39 (.build z0 [(0,1,.c (I 4)),(2,1,t38)]) 3,
 iz (.store 7 t4 t39) 7] false)
 .ret)
 (.seq (.b6 [i 41 (.bin .eql v7 (.c (.pv (.int .u8 (7))))) 0,
 i 40 (mv t41) 1] false)
 (.cond t40
 (.seq (.b6 [i 42 (mv t5) 0,
 i 43 (.build z0 [(0,1,.c (I 4)),(2,1,t42)]) 1,
 iz (.store 7 t4 t43) 3] false)
 .ret)
 (.seq (.seq (.b6 [i 45 (.bin .eql v7 (.c (.pv (.int .u8 (8))))) 0,
 i 44 (mv t45) 1] false)
 (.cond t44
 .skip
 (.b6 [i 46 (.bin .eql v7 (.c (.pv (.int .u8 (9))))) 0,
 i 44 (mv t46) 1] false)))
 (.cond t44
 (.seq (.b6 [i 47 (.b0 t2 0) 0,
 i 48 (.load false 1 t47) 1,
 i 49 (.bin .rem t48 (.c (.pv (.int .u8 (16))))) 3,
 i 50 (.bin .eql t49 (.c (.pv (.int .u8 (9))))) 7,
 i 51 (.b0 t2 1) 0,
 i 52 (.load false 1 t51) 16,
 i 53 (.conv .i64 t52) 48,
 i 54 (.bin .rem t53 (.c (I 8))) 112,
 i 55 (.a7X 8 1 (.g 0) t54) 240,
 i 56 (.load false 1 t55) 496,
 i 57 (.build z0 [(0,1,.c (I 5)),(1,1,t50),(3,1,t56)]) 1023,
 iz (.store 7 t4 t57) 2047] true)
 .ret)
 (.seq (.b6 [i 59 (.bin .eql v7 (.c (.pv (.int .u8 (10))))) 0,
 i 58 (mv t59) 1] false)
 (.cond t58
 (.seq (.b6 [i 60 (mv t1) 0,
 i 61 (.load true 5 t2) 0,
 i 62 (.call (.f J6) [t60,.c (I 6),.c (I 1),t61]) 3,
 iz (.store 7 t4 t62) 7] false)
 .ret)
 (.seq (.b6 [i 64 (.bin .eql v7 (.c (.pv (.int .u8 (11))))) 0,
 i 63 (mv t64) 1] false)
 (.cond t63
 (.seq (.b6 [i 65 (mv t1) 0,
 i 66 (.load true 5 t2) 0,
 i 67 (.call (.f J6) [t65,.c (I 7),.c (I 2),t66]) 3,
 iz (.store 7 t4 t67) 7] false)
 .ret)
 (.seq (.b6 [i 69 (.bin .eql v7 (.c (.pv (.int .u8 (12))))) 0,
 i 68 (mv t69) 1] false)
 (.cond t68
 (.seq (.b6 [i 70 (mv t1) 0,
 i 71 (.load true 5 t2) 0,
 i 72 (.call (.f J6) [t70,.c (I 8),.c (I 2),t71]) 3,
 iz (.store 7 t4 t72) 7] false)
 .ret)
 (.seq (.b6 [i 74 (.bin .eql v7 (.c (.pv (.int .u8 (13))))) 0,
 i 73 (mv t74) 1] false)
 (.cond t73
 (.seq (.b6 [i 75 (mv t1) 0,
 i 76 (.load true 5 t2) 0,
 i 77 (.call (.f J6) [t75,.c (I 9),.c (I 3),t76]) 3,
 iz (.store 7 t4 t77) 7] false)
 .ret)
 (.seq (.b6 [i 79 (.bin .eql v7 (.c (.pv (.int .u8 (14))))) 0,
 i 78 (mv t79) 1] false)
 (.cond t78
 (.seq (.b6 [i 80 (.build z0 [(0,1,.c (I 10)),(1,1,.c (.pv (.bool true))),(3,1,.c (.pv (.str [97,100,100])))]) 0,
 iz (.store 7 t4 t80) 1] false)
 .ret)
 .skip))))))))))))))))))))))))))))
 (.seq (.b6 [i 81 (mv t1) 0,
 i 82 (.load true 5 t2) 0,
 i 83 (.call (.f J6) [t81,.c (I 11),.c (I 4),t82]) 3,
 iz (.store 7 t4 t83) 7] false)
 .ret)))⟩
def a2Q:n4:=⟨2,12,[.cell 4 true 67],
 .seq (.b6 [i 2 (.box 67 t0) 0,
 i 4 (.alloc z1) 0] false)
 (.seq (.b6 [i 5 (.b0 t2 0) 0,
 i 6 (.load false 1 t5) 1,
 i 7 (.call (.f q9) [t6]) 3,
 i 8 (mv t1) 0,
 i 9 (.append 7 64 t7 t8) 15,
 i 10 (.b0 t2 0) 31,
 iz (.store 1 s8 t9) 63] false)
 (.seq (.b6 [i 11 (.load true 67 t2) 0,
 iz (.store 67 t4 v7) 1] false)
 .ret))⟩
def b0N:n4:=⟨2,26,[.cell 4 true 67,.tmp 5],
 .seq (.b6 [i 2 (.box 67 t0) 0,
 i 4 (.alloc z1) 0,
 i 5 (.mv (.c (I 0))) 0] false)
 (.seq (.b6 [i 9 (.b1g) 0,
 iz (.insert t9 (.c (.pv (.str [115,97,118,101]))) (.f w6)) 1,
 iz (.insert t9 (.c (.pv (.str [114,101,115,116,111,114,101]))) (.f j8)) 1,
 iz (.insert t9 (.c (.pv (.str [118,109,115,116,97,116,117,115]))) (.f q8)) 1,
 i 10 (mv t9) 15,
 i 6 (mv s8) 31] false)
 (.seq (.b6 [i 12 (mv t6) 0,
 i 13 (mv t1) 0,
 i 14 (.lookup y9 A6 (.pv .nilFunc)) 3,
 i 11 (mv C7) 7,
 i 15 (.extract v7 0) 15,
 i 16 (.extract v7 1) 15,
 i 7 (mv G3) 31,
 i 8 (mv G0) 127] false)
 (.seq (.seq (.b6 [i 17 (mv t8) 0,
 i 18 (.not E5) 1] false)
 (.cond I1
 (.seq (.b6 [i 19 (.load true 67 t2) 0,
 iz (.store 67 t4 J9) 1,
 i 5 (.mv (.c (I 24))) 3] false)
 .ret)
 .skip))
 (.seq (.b6 [i 20 (mv t7) 0,
 i 21 (.load true 67 t2) 0,
 i 22 (.build z1 [(0,67,L7)]) 2,
 i 23 (.call N5 [R2]) 7,
 i 24 (.extract U3 0) 15,
 i 25 (.extract U3 1) 15,
 iz (.store 67 t4 W8) 63,
 i 5 (mv W4) 127] false)
 .ret))))⟩
def S3:n4:=⟨2,149,[.tmp 4],
 .seq (.b6 [i 2 (.box 67 t0) 0,
 i 3 (.box 67 t1) 0,
 i 4 (.mv (.c (.pv (.bool false)))) 0] false)
 (.seq (.seq (.b6 [i 9 (.b0 t2 0) 0,
 i 10 (.load false 1 t9) 1,
 i 11 (.b0 t3 0) 0,
 i 12 (.load false 1 v7) 4,
 i 13 (.call (.f u2) [s8,y9]) 15,
 i 14 (.not A6) 31,
 i 15 (mv C7) 63,
 ig 16 (.b0 t2 1) 15 false 127,
 ig 17 (.load false 1 G0) 15 false 255,
 ig 18 (.b0 t3 1) 15 false 127,
 ig 19 (.load false 1 I1) 15 false 639,
 ig 20 (.call (.f u2) [E5,J9]) 15 false 2047,
 ig 21 (.not N5) 15 false 4095,
 i 22 (.pick G3 (.c (.pv (.bool true))) L7) 8191,
 i 23 (mv R2) 16383,
 ig 24 (.b0 t2 2) 23 false 32767,
 ig 25 (.load false 1 W8) 23 false 65535,
 ig 26 (.b0 t3 2) 23 false 32767,
 ig 27 (.load false 1 t26) 23 false 163839,
 ig 28 (.call (.f P6) [W4,t27]) 23 false 524287,
 ig 29 (.not t28) 23 false 1048575,
 i 30 (.pick U3 (.c (.pv (.bool true))) t29) 2097151,
 i 31 (mv t30) 4194303,
 ig 32 (.b0 t2 3) 31 false 8388607,
 ig 33 (.load false 1 t32) 31 false 16777215,
 ig 34 (.j2 t33) 31 false 33554431,
 ig 35 (.b0 t3 3) 31 false 8388607,
 ig 36 (.load false 1 t35) 31 false 75497471,
 ig 37 (.j2 t36) 31 false 209715199,
 ig 38 (.bin .neq t34 t37) 31 false 536870911,
 i 39 (.pick t31 (.c (.pv (.bool true))) t38) 1073741823,
 i 40 (mv t39) 2147483647,
 ig 41 (.b0 t2 4) 40 false 4294967295,
 ig 42 (.load false 1 t41) 40 false 8589934591,
 ig 43 (.b0 t3 4) 40 false 4294967295,
 ig 44 (.load false 1 t43) 40 false 21474836479,
 ig 45 (.bin .neq t42 t44) 40 false 68719476735,
 i 46 (.pick t40 (.c (.pv (.bool true))) t45) 137438953471,
 i 47 (mv t46) 274877906943,
 ig 48 (.b0 t2 62) 47 false 549755813887,
 ig 49 (.load false 1 t48) 47 false 1099511627775,
 ig 50 (.j2 t49) 47 false 2199023255551,
 ig 51 (.b0 t3 62) 47 false 549755813887,
 ig 52 (.load false 1 t51) 47 false 4947802324991,
 ig 53 (.j2 t52) 47 false 13743895347199,
 ig 54 (.bin .neq t50 t53) 47 false 35184372088831,
 i 55 (.pick t47 (.c (.pv (.bool true))) t54) 70368744177663,
 i 56 (mv t55) 140737488355327,
 ig 57 (.b0 t2 65) 56 false 281474976710655,
 ig 58 (.load false 1 t57) 56 false 562949953421311,
 ig 59 (.b0 t3 65) 56 false 281474976710655,
 ig 60 (.load false 1 t59) 56 false 1407374883553279,
 ig 61 (.bin .neq t58 t60) 56 false 4503599627370495,
 i 62 (.pick t56 (.c (.pv (.bool true))) t61) 9007199254740991,
 i 63 (mv t62) 18014398509481983,
 ig 64 (.b0 t2 66) 63 false 36028797018963967,
 ig 65 (.load false 1 t64) 63 false 72057594037927935,
 ig 66 (.b0 t3 66) 63 false 36028797018963967,
 ig 67 (.load false 1 t66) 63 false 180143985094819839,
 ig 68 (.bin .neq t65 t67) 63 false 576460752303423487,
 i 69 (.pick t63 (.c (.pv (.bool true))) t68) 1152921504606846975] false)
 (.cond t69
 (.seq (.b6 [i 4 (.mv (.c (.pv (.bool false)))) 0] false)
 .ret)
 .skip))
 (.seq (.seq (.b6 [i 5 (.mv (.c (I 0))) 0] false)
 (.block 0
 (.loop [2,3,5]
 (.seq (.seq (.b6 [i 70 (mv t5) 0,
 i 71 (.b0 t2 3) 0,
 i 72 (.load false 1 t71) 2,
 i 73 (.j2 t72) 6,
 i 74 (.bin .lss t70 t73) 15] false)
 (.cond t74
 .skip
 (.exit 0)))
 (.seq (.block 1
 (.seq (.b6 [i 77 (.b0 t2 3) 0,
 i 78 (.load false 1 t77) 1,
 i 79 (mv t5) 0,
 i 80 (.j3 3 t78 t79) 7,
 i 81 (.load true 3 t80) 15,
 i 82 (.b0 t3 3) 0,
 i 83 (.load false 1 t82) 32,
 i 84 (mv t5) 0,
 i 85 (.j3 3 t83 t84) 224,
 i 86 (.load true 3 t85) 480,
 i 6 (.alloc [I 0,.emp 7,I 0]) 0,
 i 7 (.alloc [I 0,.emp 7,I 0]) 0,
 iz (.store 3 t6 t81) 3103,
 iz (.store 3 t7 t86) 8191] true)
 (.seq (.b6 [i 87 (.b0 t6 0) 0,
 i 88 (.load false 1 t87) 1,
 i 89 (.b0 t7 0) 0,
 i 90 (.load false 1 t89) 4,
 i 91 (.bin .neq t88 t90) 15,
 i 92 (mv t91) 31,
 ig 93 (.b0 t6 2) 92 false 63,
 ig 94 (.load false 1 t93) 92 false 127,
 ig 95 (.b0 t7 2) 92 false 63,
 ig 96 (.load false 1 t95) 92 false 319,
 ig 97 (.bin .neq t94 t96) 92 false 1023,
 i 98 (.pick t92 (.c (.pv (.bool true))) t97) 2047,
 i 99 (mv t98) 4095,
 ig 100 (.b0 t6 1) 99 false 8191,
 ig 101 (.load false 1 b7Z) 99 false 16383,
 ig 102 (.b0 t7 1) 99 false 8191,
 ig 103 (.load false 1 b8E) 99 false 40959,
 ig 104 (.call (.f P6) [b8F,b8G]) 99 false 131071,
 ig 105 (.not c0d) 99 false 262143,
 i 106 (.pick t99 (.c (.pv (.bool true))) c0a) 524287] false)
 (.cond c0w
 (.seq (.b6 [i 4 (.mv (.c (.pv (.bool false)))) 0] false)
 .ret)
 .skip))))
 (.b6 [i 75 (mv t5) 0,
 i 76 (.bin .add t75 (.c (I 1))) 1,
 i 5 (mv t76) 3] false))))))
 (.seq (.seq (.b6 [i 8 (.mv (.c (I 0))) 0] false)
 (.block 2
 (.loop [2,3,8]
 (.seq (.seq (.b6 [i 107 (mv t8) 0,
 i 108 (.b0 t2 62) 0,
 i 109 (.load false 1 c0t) 2,
 i 110 (.j2 c0N) 6,
 i 111 (.bin .lss c0S b9Q) 15] false)
 (.cond c0z
 .skip
 (.exit 2)))
 (.seq (.block 3
 (.seq (.b6 [i 114 (.b0 t2 62) 0,
 i 115 (.load false 1 c0E) 1,
 i 116 (mv t8) 0,
 i 117 (.j3 57 c1e c0l) 7,
 i 118 (.load true 57 c0J) 15,
 i 119 (.b0 t3 62) 0,
 i 120 (.load false 1 c1i) 32,
 i 121 (mv t8) 0,
 i 122 (.j3 57 c0K b8k) 224,
 i 123 (.load true 57 c0c) 480,
 i 124 (.call (.f L5) [c0F,c0y]) 1023,
 i 125 (.not b9S) 2047] true)
 (.cond c1n
 (.seq (.b6 [i 4 (.mv (.c (.pv (.bool false)))) 0] false)
 .ret)
 .skip)))
 (.b6 [i 112 (mv t8) 0,
 i 113 (.bin .add c1y (.c (I 1))) 1,
 i 8 (mv c0i) 3] false))))))
 (.seq (.b6 [i 126 (.b0 t2 5) 0,
 i 127 (.load true 57 c0o) 1,
 i 128 (.b0 t3 5) 0,
 i 129 (.load true 57 c1d) 4,
 i 130 (.call (.f L5) [b8f,c0u]) 15,
 i 131 (mv c0q) 31,
 ig 132 (.b0 t2 63) 131 true 63,
 ig 133 (.load false 1 c0L) 131 true 127,
 ig 134 (.j2 c1F) 131 true 255,
 ig 135 (.b0 t3 63) 131 true 63,
 ig 136 (.load false 1 c1D) 131 true 575,
 ig 137 (.j2 c1N) 131 true 1599,
 ig 138 (.bin .eql c1h c1C) 131 true 4095,
 i 139 (.pick b9Y c1r (.c (.pv (.bool false)))) 8191,
 i 140 (mv c2a) 16383,
 ig 141 (.b0 t2 64) 140 true 32767,
 ig 142 (.load false 1 c2I) 140 true 65535,
 ig 143 (.j2 c1R) 140 true 131071,
 ig 144 (.b0 t3 64) 140 true 32767,
 ig 145 (.load false 1 c3D) 140 true 294911,
 ig 146 (.j2 c3c) 140 true 819199,
 ig 147 (.bin .eql c2K c3S) 140 true 2097151,
 i 148 (.pick c2k c2T (.c (.pv (.bool false)))) 4194303,
 i 4 (mv c2t) 8388607] false)
 .ret))))⟩
def a5D:n4:=⟨2,23,[.tmp 4,.tmp 5],
 .seq (.b6 [i 2 (.box 67 t0) 0,
 i 4 (.mv (.c (I 0))) 0,
 i 5 (.mv (.c (.pv (.bool false)))) 2] false)
 (.seq (.b6 [i 8 (.load true 67 t2) 0,
 i 9 (.build z1 [(0,67,t8)]) 1,
 i 6 (.alloc z1) 0,
 iz (.store 67 t6 t9) 7] false)
 (.seq (.b6 [i 10 (.load true 67 t6) 0,
 i 11 (mv t1) 0,
 i 12 (.call (.f C3) [s8,v7]) 3,
 i 7 (mv y9) 7] false)
 (.seq (.seq (.b6 [i 13 (mv t7) 0,
 i 14 (.bin .lss A6 (.c (I 0))) 1] false)
 (.cond C7
 (.seq (.b6 [i 4 (.mv (.c (I 0))) 0,
 i 5 (.mv (.c (.pv (.bool false)))) 1] false)
 .ret)
 .skip))
 (.seq (.b6 [i 15 (.b0 t6 0) 0,
 i 16 (.b0 G3 3) 1,
 i 17 (.load false 1 G0) 3,
 i 18 (mv t7) 0,
 i 19 (.j3 3 E5 I1) 15,
 i 20 (.b0 J9 1) 31,
 i 21 (.load false 1 N5) 63,
 i 22 (.j2 L7) 127,
 i 4 (mv R2) 255,
 i 5 (.mv (.c (.pv (.bool true)))) 511] false)
 .ret))))⟩
def a8g:n4:=⟨2,22,[.tmp 4],
 .seq (.b6 [i 2 (.box 67 t0) 0,
 i 4 (.mv (.c (I 0))) 0] false)
 (.seq (.seq (.b6 [i 5 (.mv (.c (I 0))) 0] false)
 (.block 0
 (.loop [1,2,5]
 (.seq (.seq (.b6 [i 6 (mv t5) 0,
 i 7 (.b0 t2 3) 0,
 i 8 (.load false 1 t7) 2,
 i 9 (.j2 t8) 6,
 i 10 (.bin .lss t6 t9) 15] false)
 (.cond s8
 .skip
 (.exit 0)))
 (.seq (.block 1
 (.seq (.b6 [i 13 (.b0 t2 3) 0,
 i 14 (.load false 1 A6) 1,
 i 15 (mv t5) 0,
 i 16 (.j3 3 C7 G3) 7,
 i 17 (.b0 G0 0) 15,
 i 18 (.load false 1 E5) 31,
 i 19 (mv t1) 0,
 i 20 (.bin .eql I1 J9) 127] false)
 (.cond N5
 (.seq (.b6 [i 21 (mv t5) 0,
 i 4 (mv L7) 1] false)
 .ret)
 .skip)))
 (.b6 [i 11 (mv t5) 0,
 i 12 (.bin .add v7 (.c (I 1))) 1,
 i 5 (mv y9) 3] false))))))
 (.seq (.b6 [i 4 (.mv (.c (I (-1)))) 0] false)
 .ret))⟩
def a4n:n4:=⟨0,185,[.tmp 0],
 .seq (.b6 [i 0 (.mv (.c (.pv (.bool false)))) 0] false)
 (.seq (.b6 [i 22 (.call (.f a0I) []) 0,
 i 1 (mv R2) 1] false)
 (.seq (.b6 [i 23 (.build z0 [(0,1,.c (I 9)),(4,1,.c (I 2))]) 0,
 i 2 (.alloc z0) 0,
 iz (.store 7 t2 U3) 3] false)
 (.seq (.b6 [i 25 (mv t1) 0,
 i 26 (.call (.f N9) [.c (I 0),.c (I 1),.c (I 2)]) 0,
 i 27 (.call (.f P3) [W4,t26]) 3,
 i 24 (mv t27) 7,
 i 28 (.extract W8 0) 15,
 i 29 (.extract W8 1) 15,
 i 3 (mv t28) 31,
 i 4 (mv t29) 127] false)
 (.seq (.b6 [i 31 (mv t1) 0,
 i 32 (.build z0 [(0,1,.c (I 7)),(4,1,.c (I 1)),(5,1,.c (I 1)),(6,1,.c (I 1))]) 0,
 i 33 (.call (.f a2O) [t31,t32]) 3,
 i 30 (mv t33) 7,
 i 34 (.extract t30 0) 15,
 i 35 (.extract t30 1) 15,
 i 5 (mv t34) 31,
 i 6 (mv t35) 127] false)
 (.seq (.b6 [i 37 (mv t1) 0,
 i 38 (.call (.f N9) [.c (I 0),.c (I 1),.c (I 4)]) 0,
 i 39 (.call (.f I8) [t37,t38,.c (I 3),.c (.pv (.str [88]))]) 3,
 i 36 (mv t39) 7,
 i 40 (.extract t36 0) 15,
 i 41 (.extract t36 1) 15,
 i 7 (mv t40) 31,
 i 8 (mv t41) 127] false)
 (.seq (.b6 [i 43 (mv t1) 0,
 i 44 (.call (.f N9) [.c (I 0),.c (I 0),.c (I 1)]) 0,
 i 45 (.call (.f a0k) [t43,t44]) 3,
 i 42 (mv t45) 7,
 i 46 (.extract t42 0) 15,
 i 47 (.extract t42 1) 15,
 i 9 (.alloc z0) 0,
 iz (.store 7 t9 t46) 95,
 i 10 (mv t47) 255] false)
 (.seq (.b6 [i 49 (mv t1) 0,
 i 50 (.load true 7 t2) 0,
 i 51 (.load true 7 t9) 0,
 i 52 (.call (.f T8) [t49,t50,t51]) 7,
 i 48 (mv t52) 15,
 i 53 (.extract t48 0) 31,
 i 54 (.extract t48 1) 31,
 i 55 (.extract t48 2) 31,
 i 11 (.alloc z0) 0,
 iz (.store 7 v7 t53) 319,
 i 12 (mv t54) 895,
 i 13 (mv t55) 2047] false)
 (.seq (.b6 [i 57 (mv t1) 0,
 i 58 (.load true 7 t2) 0,
 i 59 (.call (.f F3) [.c (.pv (.str [98]))]) 0,
 i 60 (.call (.f F3) [.c (.pv (.str [99]))]) 4,
 i 61 (.call (.f O5) [t57,t58,t59,t60]) 15,
 i 56 (mv t61) 31,
 i 62 (.extract t56 0) 63,
 i 63 (.extract t56 1) 63,
 i 14 (mv t62) 127,
 i 15 (mv t63) 511] true)
 (.seq (.b6 [i 65 (mv C7) 0,
 i 66 (.load true 7 t2) 0,
 i 67 (.call (.f F3) [.c (.pv (.str [99]))]) 0,
 i 68 (.call (.f F3) [.c (.pv (.str [99]))]) 4,
 i 69 (.call (.f O5) [t65,t66,t67,t68]) 15,
 i 64 (mv t69) 31,
 i 70 (.extract t64 0) 63,
 i 71 (.extract t64 1) 63,
 i 16 (mv t70) 127,
 i 17 (mv t71) 511] true)
 (.seq (.b6 [i 73 (mv t1) 0,
 i 74 (.build z2 [(0,1,.c (I 3)),(5,1,.c (I 10000))]) 0,
 i 75 (.call (.f a5B) [t73,t74]) 3,
 i 72 (mv t75) 7,
 i 76 (.extract t72 0) 15,
 i 77 (.extract t72 1) 15,
 i 78 (.extract t72 2) 15,
 i 18 (mv t76) 31,
 i 19 (mv t77) 191,
 i 20 (mv t78) 511] false)
 (.seq (.b6 [i 79 (mv t4) 0,
 i 80 (.bin .eql t79 (.c (I 0))) 1,
 i 81 (mv t80) 3,
 ig 82 (mv t6) 81 true 7,
 ig 83 (.bin .eql t82 (.c (I 0))) 81 true 15,
 i 84 (.pick t81 t83 (.c (.pv (.bool false)))) 31,
 i 85 (mv t84) 63,
 ig 86 (mv t8) 85 true 127,
 ig 87 (.bin .eql t86 (.c (I 0))) 85 true 255,
 i 88 (.pick t85 t87 (.c (.pv (.bool false)))) 511,
 i 89 (mv t88) 1023,
 ig 90 (mv s8) 89 true 2047,
 ig 91 (.bin .eql t90 (.c (I 0))) 89 true 4095,
 i 92 (.pick t89 t91 (.c (.pv (.bool false)))) 8191,
 i 93 (mv t92) 16383,
 ig 94 (mv A6) 93 true 32767,
 ig 95 (.bin .eql t94 (.c (I 0))) 93 true 65535,
 i 96 (.pick t93 t95 (.c (.pv (.bool false)))) 131071,
 i 97 (mv t96) 262143,
 ig 98 (mv G3) 97 true 524287,
 ig 99 (.bin .eql t98 (.c (I 0))) 97 true 1048575,
 i 100 (.pick t97 t99 (.c (.pv (.bool false)))) 2097151,
 i 101 (mv b7Z) 4194303,
 ig 102 (mv N5) 101 true 8388607,
 ig 103 (.bin .eql b8E (.c (I 0))) 101 true 16777215,
 i 104 (.pick b8F b8G (.c (.pv (.bool false)))) 33554431,
 i 21 (mv c0d) 67108863] false)
 (.seq (.b6 [i 105 (mv L7) 0,
 i 106 (mv c0a) 1,
 ig 107 (mv t1) 106 true 3,
 ig 108 (.call (.f J8) [c0S]) 106 true 7,
 ig 109 (.bin .eql c0t (.c (I 0))) 106 true 15,
 i 110 (.pick c0w c0N (.c (.pv (.bool false)))) 31,
 i 111 (mv b9Q) 63,
 ig 112 (mv t1) 111 true 127,
 ig 113 (.call (.f F6) [c1y]) 111 true 255,
 ig 114 (.bin .eql c0i (.c (I 16))) 111 true 511,
 i 115 (.pick c0z c0E (.c (.pv (.bool false)))) 1023,
 i 116 (mv c1e) 2047,
 ig 117 (mv t3) 116 true 4095,
 ig 118 (.bin .eql c0J (.c (.pv (.str [98,99])))) 116 true 8191,
 i 119 (.pick c0l c0F (.c (.pv (.bool false)))) 16383,
 i 120 (mv c1i) 32767,
 ig 121 (mv t5) 120 true 65535,
 ig 122 (.j2 b8k) 120 true 131071,
 ig 123 (.bin .eql c0c (.c (I 1))) 120 true 262143,
 i 124 (.pick c0K c0y (.c (.pv (.bool false)))) 524287,
 i 125 (mv b9S) 1048575,
 ig 126 (mv t5) 125 true 2097151,
 ig 127 (.j3 7 c0o (.c (I 0))) 125 true 4194303,
 ig 128 (.load true 7 b8f) 125 true 8388607,
 ig 129 (.call (.f N9) [.c (I 0),.c (I 2),.c (I 2)]) 125 true 2097151,
 ig 130 (.eqs false [0,1,0,2,0,0,0] c1d c0u) 125 true 33554431,
 i 131 (.pick c1n c0q (.c (.pv (.bool false)))) 67108863,
 i 132 (mv b9Y) 134217727,
 ig 133 (mv t7) 132 true 268435455,
 ig 134 (.j2 c1F) 132 true 536870911,
 ig 135 (.bin .eql c1h (.c (I 3))) 132 true 1073741823,
 i 136 (.pick c0L c1D (.c (.pv (.bool false)))) 2147483647,
 i 137 (mv c1N) 4294967295,
 ig 138 (mv t7) 137 true 8589934591,
 ig 139 (.j3 7 c1r (.c (I 0))) 137 true 17179869183,
 ig 140 (.b0 c2a 1) 137 true 34359738367,
 ig 141 (.load false 1 c2k) 137 true 68719476735,
 ig 142 (.bin .eql c2I (.c (.pv (.str [97,98,99,100,88,102])))) 137 true 137438953471,
 i 143 (.pick c1C c1R (.c (.pv (.bool false)))) 274877906943,
 i 144 (mv c2K) 549755813887,
 ig 145 (.load true 7 t9) 144 true 1099511627775,
 ig 146 (.call (.f F3) [.c (.pv (.str [97]))]) 144 true 1099511627775,
 ig 147 (.eqs false [0,1,0,2,0,0,0] c3c c3S) 144 true 4398046511103,
 i 148 (.pick c3D c2T (.c (.pv (.bool false)))) 8796093022207,
 i 149 (mv c2t) 17592186044415,
 ig 150 (mv y9) 149 true 35184372088831,
 i 151 (.pick c4g c4L (.c (.pv (.bool false)))) 70368744177663,
 i 152 (mv c4I) 140737488355327,
 ig 153 (.b0 v7 2) 152 true 281474976710655,
 ig 154 (.load false 1 c4d) 152 true 562949953421311,
 ig 155 (.bin .eql c5f (.c (I 7))) 152 true 1125899906842623,
 i 156 (.pick c3Z c4U (.c (.pv (.bool false)))) 2251799813685247,
 i 157 (mv c4y) 4503599627370495,
 ig 158 (mv E5) 157 true 9007199254740991,
 ig 159 (.bin .eql c5U (.c (I 30))) 157 true 18014398509481983,
 i 160 (.pick c6w c5T (.c (.pv (.bool false)))) 36028797018963967,
 i 161 (mv c6N) 72057594037927935,
 ig 162 (mv J9) 161 true 144115188075855871,
 ig 163 (.bin .eql c5e (.c (I 3))) 161 true 288230376151711743,
 i 164 (.pick c6D c6a (.c (.pv (.bool false)))) 576460752303423487,
 i 165 (mv c6c) 1152921504606846975,
 ig 166 (mv t1) 165 true 2305843009213693951,
 ig 167 (.call (.f N9) [.c (I 0),.c (I 0),.c (I 1)]) 165 true 2305843009213693951,
 ig 168 (.call (.f F3) [.c (.pv (.str [97]))]) 165 true 6917529027641081855,
 ig 169 (.call (.f a2L) [c8W,c9l,c9p]) 165 true 18446744073709551615,
 i 170 (.pick c5V c8P (.c (.pv (.bool false)))) 36893488147419103231,
 i 171 (mv c8Y) 73786976294838206463,
 ig 172 (mv t1) 171 true 147573952589676412927,
 ig 173 (.build z0 [(0,1,.c (I 7)),(4,1,.c (I 1)),(6,1,.c (I 1))]) 171 true 147573952589676412927,
 ig 174 (.N6 7 1 z0 [(0,c8Z)]) 171 true 442721857769029238783,
 ig 175 (.call (.f a2G) [c9q,c9t]) 171 true 1180591620717411303423,
 ig 176 (.N6 1 3 [.pv (.bool false)] [(0,.c (.pv (.bool true))),(1,.c (.pv (.bool true))),(2,.c (.pv (.bool false)))]) 171 true 147573952589676412927,
 ig 177 (.call (.f L8) [c8K,c8O]) 171 true 4722366482869645213695,
 i 178 (.pick c9i c8T (.c (.pv (.bool false)))) 9444732965739290427391,
 i 179 (mv c9k) 18889465931478580854783,
 ig 180 (.build z2 []) 179 true 37778931862957161709567,
 ig 181 (.N6 7 1 z2 [(0,c9a)]) 179 true 75557863725914323419135,
 ig 182 (.call (.f J8) [c8L]) 179 true 151115727451828646838271,
 ig 183 (.bin .eql c9d (.c (I 210))) 179 true 302231454903657293676543,
 i 184 (.pick c9c c8V (.c (.pv (.bool false)))) 604462909807314587353087,
 i 0 (mv c9n) 1208925819614629174706175] true)
 .ret))))))))))))⟩
def a5I:n4:=⟨1,32,[.tmp 2],
 .seq (.b6 [i 2 (.mv (.c (I 0))) 0] false)
 (.scope
 (.seq (.seq (.b6 [i 9 (mv t0) 0,
 i 10 (.call (.f F6) [t9]) 1,
 i 11 (.bin .gtr s8 (.c (I 20000))) 3] false)
 (.cond v7
 (.seq (.b6 [i 2 (.mv (.c (I 210))) 0] false)
 .ret)
 .skip))
 (.seq (.b6 [i 12 (mv t0) 0,
 i 13 (.build [.emp 7] [(0,1,y9)]) 1,
 i 3 (.alloc [.emp 7]) 0,
 iz (.store 1 t3 A6) 7,
 i 4 (.mv (.c (I 0))) 15] false)
 (.seq .skip
 (.seq (.seq (.b6 [i 14 (mv t0) 0,
 i 15 (.j2 C7) 1,
 i 16 (.mv (.c (I 0))) 0] false)
 (.block 0
 (.loop [3,4,14,15,16]
 (.seq (.b6 [i 17 (.bin .lss G0 G3) 0] false)
 (.seq (.cond E5
 .skip
 (.exit 0))
 (.seq (.block 1
 (.seq (.b6 [i 18 (.j3 7 C7 G0) 0,
 i 19 (.load true 7 I1) 1,
 i 6 (.alloc z2) 0,
 iz (.store 7 t6 J9) 7] false)
 (.seq (.b6 [i 20 (.build [.pv .nilFunc,.pv .nilFunc,.pv .nilFunc] [(0,1,.f K0),(1,1,.f D2),(2,1,.f G7)]) 0,
 i 21 (.mv (.c (I 0))) 0] false)
 (.block 2
 (.loop [3,4,6,14,15,16,20,21]
 (.seq (.b6 [i 22 (.bin .lss L7 (.c (I 3))) 0] false)
 (.seq (.cond R2
 .skip
 (.exit 2))
 (.seq (.block 3
 (.seq (.b6 [i 23 (.index false 3 1 N5 L7) 0,
 i 8 (mv U3) 1] false)
 (.seq (.b6 [i 24 (mv t8) 0,
 i 25 (.load true 1 t3) 0,
 i 26 (.load true 7 t6) 0,
 i 27 (.call W8 [W4,t26]) 7,
 i 28 (.not t27) 15] false)
 (.cond t28
 (.seq (.b6 [i 4 (.mv (.c (I 210))) 0] false)
 (.exit 0))
 .skip))))
 (.b6 [i 29 (.bin .add L7 (.c (I 1))) 0,
 i 21 (mv t29) 1] false)))))))))
 (.b6 [i 30 (.bin .add G0 (.c (I 1))) 0,
 i 16 (mv t30) 1] false)))))))
 (.seq (.b6 [i 31 (mv t4) 0,
 i 2 (mv t31) 1] false)
 .ret))))))⟩
def a2J:n4:=⟨1,18,[.tmp 2],
 .seq (.b6 [i 2 (.mv (.c (I 0))) 0] false)
 (.seq (.b6 [i 3 (.mv (.c (I 0))) 0] false)
 (.seq (.seq (.b6 [i 6 (mv t0) 0,
 i 7 (.j2 t6) 1,
 i 8 (.mv (.c (I 0))) 0] false)
 (.block 0
 (.loop [3,6,7,8]
 (.seq (.b6 [i 9 (.bin .lss t8 t7) 0] false)
 (.seq (.cond t9
 .skip
 (.exit 0))
 (.seq (.block 1
 (.seq (.b6 [i 10 (.j3 7 t6 t8) 0,
 i 11 (.load true 7 s8) 1,
 i 5 (.alloc z2) 0,
 iz (.store 7 t5 v7) 7] false)
 (.b6 [i 12 (mv t3) 0,
 i 13 (.load true 7 t5) 0,
 i 14 (.call (.f N8) [A6]) 2,
 i 15 (.bin .add y9 C7) 7,
 i 3 (mv G3) 15] false)))
 (.b6 [i 16 (.bin .add t8 (.c (I 1))) 0,
 i 8 (mv G0) 1] false)))))))
 (.seq (.b6 [i 17 (mv t3) 0,
 i 2 (mv E5) 1] false)
 .ret)))⟩
def a8i:n4:=⟨1,19,[.tmp 2],
 .seq (.b6 [i 2 (.mv (.c (I 0))) 0] false)
 (.seq (.b6 [i 3 (.mv (.c (I 0))) 0] false)
 (.seq (.seq (.b6 [i 4 (.mv (.c (I 0))) 0] false)
 (.block 0
 (.loop [0,3,4]
 (.seq (.seq (.b6 [i 5 (mv t4) 0,
 i 6 (mv t0) 0,
 i 7 (.j2 t6) 2,
 i 8 (.bin .lss t5 t7) 7] false)
 (.cond t8
 .skip
 (.exit 0)))
 (.seq (.block 1
 (.b6 [i 11 (mv t3) 0,
 i 12 (mv t0) 0,
 i 13 (mv t4) 0,
 i 14 (.j3 7 y9 A6) 6,
 i 15 (.load true 7 C7) 14,
 i 16 (.call (.f a0y) [G3]) 30,
 i 17 (.bin .add v7 G0) 63,
 i 3 (mv E5) 127] false))
 (.b6 [i 9 (mv t4) 0,
 i 10 (.bin .add t9 (.c (I 1))) 1,
 i 4 (mv s8) 3] false))))))
 (.seq (.b6 [i 18 (mv t3) 0,
 i 2 (mv I1) 1] false)
 .ret)))⟩
def a3U:n4:=⟨1,20,[.tmp 2],
 .seq (.b6 [i 1 (.box 7 t0) 0,
 i 2 (.mv (.c (I 0))) 0] false)
 (.seq (.seq (.b6 [i 3 (.b0 t1 0) 0,
 i 4 (.load false 1 t3) 1,
 i 5 (.bin .eql t4 (.c (I 3))) 3] false)
 (.cond t5
 (.seq (.b6 [i 6 (.b0 t1 5) 0,
 i 7 (.load false 1 t6) 1,
 i 8 (.mm false [t7,.c (I 200)]) 3,
 i 9 (.mm true [.c (I 0),t8]) 7,
 i 10 (.bin .mul (.c (I 2)) t9) 15,
 i 11 (.bin .add (.c (I 1)) s8) 31,
 i 2 (mv v7) 63] false)
 .ret)
 .skip))
 (.seq (.b6 [i 12 (.b0 t1 1) 0,
 i 13 (.load false 1 y9) 1,
 i 14 (.I2 A6) 3,
 i 15 (.bin .add (.c (I 1)) C7) 7,
 i 16 (.b0 t1 2) 0,
 i 17 (.load false 1 G0) 16,
 i 18 (.j2 E5) 48,
 i 19 (.bin .add G3 I1) 127,
 i 2 (mv J9) 255] false)
 .ret))⟩
def a9E:n4:=⟨1,24,[.tmp 2],
 .seq (.b6 [i 1 (.box 7 t0) 0,
 i 2 (.mv (.c (I 0))) 0] false)
 (.seq (.seq (.b6 [i 3 (.b0 t1 0) 0,
 i 4 (.load false 1 t3) 1,
 i 5 (.bin .neq t4 (.c (I 3))) 3] false)
 (.cond t5
 (.seq (.b6 [i 6 (.b0 t1 1) 0,
 i 7 (.load false 1 t6) 1,
 i 8 (.I2 t7) 3,
 i 9 (.bin .add (.c (I 1)) t8) 7,
 i 10 (.b0 t1 2) 0,
 i 11 (.load false 1 s8) 16,
 i 12 (.j2 v7) 48,
 i 13 (.bin .add t9 y9) 127,
 i 2 (mv A6) 255] false)
 .ret)
 .skip))
 (.seq (.seq (.b6 [i 14 (.b0 t1 5) 0,
 i 15 (.load false 1 C7) 1,
 i 16 (.bin .lss G3 (.c (I 0))) 3] false)
 (.cond G0
 (.seq (.b6 [i 2 (.mv (.c (I 1))) 0] false)
 .ret)
 .skip))
 (.seq (.seq (.b6 [i 17 (.b0 t1 5) 0,
 i 18 (.load false 1 E5) 1,
 i 19 (.bin .gtr I1 (.c (I 200))) 3] false)
 (.cond J9
 (.seq (.b6 [i 2 (.mv (.c (I 401))) 0] false)
 .ret)
 .skip))
 (.seq (.b6 [i 20 (.b0 t1 5) 0,
 i 21 (.load false 1 N5) 1,
 i 22 (.bin .mul (.c (I 2)) L7) 3,
 i 23 (.bin .add (.c (I 1)) R2) 7,
 i 2 (mv U3) 15] false)
 .ret))))⟩
def a2h:n4:=⟨2,51,[.tmp 4],
 .seq (.b6 [i 3 (.box 7 t1) 0,
 i 4 (.mv (.c (.pv (.bool false)))) 0] false)
 (.seq (.seq (.b6 [i 6 (.load true 7 t3) 0,
 i 7 (.call (.f n6) [t6]) 1,
 i 8 (.bin .neq t7 (.c (I 0))) 3] false)
 (.cond t8
 (.seq (.b6 [i 4 (.mv (.c (.pv (.bool false)))) 0] false)
 .ret)
 .skip))
 (.seq (.b6 [i 9 (.b0 t3 0) 0,
 i 10 (.load false 1 t9) 1,
 i 11 (.call (.f A9) [s8]) 3,
 i 5 (mv v7) 7] false)
 (.seq (.seq (.b6 [i 12 (mv t5) 0,
 i 13 (.bin .eql y9 (.c (I 0))) 1] false)
 (.cond A6
 (.seq (.b6 [i 4 (.mv (.c (.pv (.bool true)))) 0] false)
 .ret)
 .skip))
 (.seq (.seq (.b6 [i 14 (.b0 t3 4) 0,
 i 15 (.load false 1 C7) 1,
 i 16 (mv t0) 0,
 i 17 (.j2 G0) 4,
 i 18 (.bin .geq G3 E5) 15,
 i 19 (mv I1) 31,
 ig 20 (mv t0) 19 false 63,
 ig 21 (.b0 t3 4) 19 false 63,
 ig 22 (.load false 1 L7) 19 false 191,
 ig 23 (.j3 7 N5 R2) 19 false 511,
 ig 24 (.b0 U3 0) 19 false 1023,
 ig 25 (.load false 1 W8) 19 false 2047,
 ig 26 (mv t5) 19 false 63,
 ig 27 (.bin .neq W4 t26) 19 false 8191,
 i 28 (.pick J9 (.c (.pv (.bool true))) t27) 16383] false)
 (.cond t28
 (.seq (.b6 [i 4 (.mv (.c (.pv (.bool false)))) 0] false)
 .ret)
 .skip))
 (.seq (.b6 [i 29 (.b0 t3 0) 0,
 i 30 (.load false 1 t29) 1,
 i 31 (.bin .eql t30 (.c (I 9))) 3,
 i 32 (mv t31) 7,
 ig 33 (.b0 t3 0) 32 false 15,
 ig 34 (.load false 1 t33) 32 false 31,
 ig 35 (.bin .eql t34 (.c (I 11))) 32 false 63,
 i 36 (.pick t32 (.c (.pv (.bool true))) t35) 127,
 i 37 (mv t36) 255,
 ig 38 (.b0 t3 5) 37 false 511,
 ig 39 (.load false 1 t38) 37 false 1023,
 ig 40 (.b0 t3 6) 37 false 511,
 ig 41 (.load false 1 t40) 37 false 2559,
 ig 42 (.bin .add t39 t41) 37 false 8191,
 ig 43 (mv t0) 37 false 511,
 ig 44 (.b0 t3 4) 37 false 511,
 ig 45 (.load false 1 t44) 37 false 33279,
 ig 46 (.j3 7 t43 t45) 37 false 115199,
 ig 47 (.load true 7 t46) 37 false 246271,
 ig 48 (.call (.f F7) [t47]) 37 false 508415,
 ig 49 (.bin .leq t42 t48) 37 false 1048575,
 i 50 (.pick t37 (.c (.pv (.bool true))) t49) 2097151,
 i 4 (mv t50) 4194303] true)
 .ret)))))⟩
def a8H:n4:=⟨2,24,[.tmp 4,.tmp 5,.tmp 6],
 .seq (.b6 [i 3 (.box 7 t1) 0,
 i 4 (.mv (.c (.emp 7))) 0,
 i 5 (.mv (.c (I 0))) 2,
 i 6 (.mv (.c (I 0))) 6] false)
 (.seq (.seq (.b6 [i 7 (mv t0) 0,
 i 8 (.call (.f F6) [t7]) 1,
 i 9 (.load true 7 t3) 0,
 i 10 (.call (.f N8) [t9]) 7,
 i 11 (.bin .add t8 s8) 15,
 i 12 (.bin .gtr v7 (.c (I 20000))) 31] true)
 (.cond y9
 (.seq (.b6 [i 4 (.mv (.c (.emp 7))) 0,
 i 5 (.mv (.c (I 0))) 1,
 i 6 (.mv (.c (I 27))) 3] false)
 .ret)
 .skip))
 (.seq (.b6 [i 13 (mv t0) 0,
 i 14 (mv t0) 0,
 i 15 (.j2 C7) 2,
 i 16 (mv t0) 0,
 i 17 (.j2 G0) 8,
 i 18 (.slice 7 A6 none (some G3) (some E5)) 31,
 i 19 (.load true 7 t3) 0,
 i 20 (.N6 7 1 z2 [(0,J9)]) 64,
 i 21 (.append 7 112 I1 N5) 255,
 i 22 (mv t0) 0,
 i 23 (.j2 R2) 512,
 i 4 (mv L7) 511,
 i 5 (mv U3) 4095,
 i 6 (.mv (.c (I 0))) 8191] true)
 .ret))⟩
def a2M:n4:=⟨2,27,[.tmp 4],
 .seq (.b6 [i 4 (.mv (.c (.pv (.bool false)))) 0] false)
 (.seq (.seq (.b6 [i 6 (mv t0) 0,
 i 7 (.j2 t6) 1,
 i 8 (mv t1) 0,
 i 9 (.j2 t8) 4,
 i 10 (.bin .neq t7 t9) 15] false)
 (.cond s8
 (.seq (.b6 [i 4 (.mv (.c (.pv (.bool false)))) 0] false)
 .ret)
 .skip))
 (.seq (.seq (.b6 [i 5 (.mv (.c (I 0))) 0] false)
 (.block 0
 (.loop [0,1,5]
 (.seq (.seq (.b6 [i 11 (mv t5) 0,
 i 12 (mv t0) 0,
 i 13 (.j2 y9) 2,
 i 14 (.bin .lss v7 A6) 7] false)
 (.cond C7
 .skip
 (.exit 0)))
 (.seq (.block 1
 (.seq (.b6 [i 17 (mv t0) 0,
 i 18 (mv t5) 0,
 i 19 (.j3 7 E5 I1) 3,
 i 20 (.load true 7 J9) 7,
 i 21 (mv t1) 0,
 i 22 (mv t5) 0,
 i 23 (.j3 7 L7 R2) 48,
 i 24 (.load true 7 U3) 112,
 i 25 (.call (.f G1) [N5,W8]) 255,
 i 26 (.not W4) 511] true)
 (.cond t26
 (.seq (.b6 [i 4 (.mv (.c (.pv (.bool false)))) 0] false)
 .ret)
 .skip)))
 (.b6 [i 15 (mv t5) 0,
 i 16 (.bin .add G3 (.c (I 1))) 1,
 i 5 (mv G0) 3] false))))))
 (.seq (.b6 [i 4 (.mv (.c (.pv (.bool true)))) 0] false)
 .ret)))⟩
def a0f:n4:=⟨1,29,[.tmp 2],
 .seq (.b6 [i 1 (.box 3 t0) 0,
 i 2 (.mv (.c (.emp 7))) 0] false)
 (.seq (.b6 [i 5 (.N6 1 2 [.pv (.str [])] [(0,.c (.pv (.str [97,100,100]))),(1,.c (.pv (.str [112,111,112])))]) 0,
 i 6 (.call (.f u1) [t5]) 1,
 i 3 (mv t6) 3] false)
 (.seq (.seq (.b6 [i 4 (.mv (.c (I 0))) 0] false)
 (.block 0
 (.loop [1,3,4]
 (.seq (.seq (.b6 [i 7 (mv t4) 0,
 i 8 (.b0 t1 0) 0,
 i 9 (.load false 1 t8) 2,
 i 10 (.j2 t9) 6,
 i 11 (.bin .lss t7 s8) 15,
 i 12 (mv v7) 31,
 ig 13 (mv t4) 12 true 63,
 ig 14 (.bin .lss A6 (.c (I 10))) 12 true 127,
 i 15 (.pick y9 C7 (.c (.pv (.bool false)))) 255] false)
 (.cond G3
 .skip
 (.exit 0)))
 (.seq (.block 1
 (.b6 [i 18 (mv t3) 0,
 i 19 (.b0 t1 0) 0,
 i 20 (.load false 1 J9) 2,
 i 21 (mv t4) 0,
 i 22 (.j3 5 N5 L7) 14,
 i 23 (.load true 5 R2) 30,
 i 24 (mv t3) 0,
 i 25 (.call (.f n7) [U3,W8]) 126,
 i 26 (.N6 7 1 z2 [(0,W4)]) 254,
 i 27 (.append 7 112 I1 t26) 511,
 i 3 (mv t27) 1023] false))
 (.b6 [i 16 (mv t4) 0,
 i 17 (.bin .add G0 (.c (I 1))) 1,
 i 4 (mv E5) 3] false))))))
 (.seq (.b6 [i 28 (mv t3) 0,
 i 2 (mv t28) 1] false)
 .ret)))⟩
def a5F:n4:=⟨3,58,[.tmp 6],
 .seq (.b6 [i 4 (.box 7 t1) 0,
 i 5 (.box 7 t2) 0,
 i 6 (.mv (.c (.pv (.bool false)))) 0] false)
 (.seq (.seq (.b6 [i 13 (mv t0) 0,
 i 14 (.load true 7 t4) 0,
 i 15 (.call (.f B0) [A6,C7]) 3,
 i 16 (.not G3) 7,
 i 17 (mv G0) 15,
 ig 18 (mv t0) 17 false 31,
 ig 19 (.load true 7 t5) 17 false 31,
 ig 20 (.call (.f B0) [I1,J9]) 17 false 127,
 ig 21 (.not N5) 17 false 255,
 i 22 (.pick E5 (.c (.pv (.bool true))) L7) 511] false)
 (.cond R2
 (.seq (.b6 [i 6 (.mv (.c (.pv (.bool false)))) 0] false)
 .ret)
 .skip))
 (.seq (.seq (.b6 [i 24 (.load true 7 t4) 0,
 i 25 (.load true 7 t5) 0,
 i 26 (.call (.f V4) [W8,W4]) 3,
 i 23 (mv t26) 7,
 i 27 (.extract U3 0) 15,
 i 28 (.extract U3 1) 15,
 i 7 (mv t27) 31,
 i 8 (mv t28) 127] false)
 (.seq (.b6 [i 29 (mv t8) 0,
 i 30 (.bin .eql t29 (.c (I 0))) 1] false)
 (.cond t30
 (.seq (.b6 [i 31 (mv t7) 0,
 i 32 (.bin .eql t31 (.c (I 0))) 1,
 i 6 (mv t32) 3] false)
 .ret)
 .skip)))
 (.seq (.b6 [i 34 (mv t0) 0,
 i 35 (.load true 7 t4) 0,
 i 36 (.call (.f X8) [t34,t35]) 3,
 i 33 (mv t36) 7,
 i 37 (.extract t33 0) 15,
 i 38 (.extract t33 1) 15,
 i 9 (mv t37) 31,
 i 10 (mv t38) 127] false)
 (.seq (.b6 [i 40 (mv t0) 0,
 i 41 (.load true 7 t5) 0,
 i 42 (.call (.f X8) [t40,t41]) 3,
 i 39 (mv t42) 7,
 i 43 (.extract t39 0) 15,
 i 44 (.extract t39 1) 15,
 i 11 (mv t43) 31,
 i 12 (mv t44) 127] false)
 (.seq (.seq (.b6 [i 45 (mv s8) 0,
 i 46 (mv t45) 1,
 ig 47 (mv y9) 46 true 3,
 i 48 (.pick t46 t47 (.c (.pv (.bool false)))) 7] false)
 (.cond t48
 (.seq (.b6 [i 49 (mv t9) 0,
 i 50 (mv v7) 0,
 i 51 (.bin .eql t49 t50) 3,
 i 6 (mv t51) 7] false)
 .ret)
 .skip))
 (.seq (.b6 [i 52 (.b0 t5 1) 0,
 i 53 (.load false 1 t52) 1,
 i 54 (.b0 t4 1) 3,
 iz (.store 1 t54 t53) 7] false)
 (.seq (.b6 [i 55 (.load true 7 t4) 0,
 i 56 (.load true 7 t5) 0,
 i 57 (.eqs false [0,1,0,2,0,0,0] t55 t56) 3,
 i 6 (mv t57) 7] false)
 .ret)))))))⟩
def W2:n4:=⟨2,26,[.tmp 4],
 .seq (.b6 [i 4 (.mv (.c (.pv (.bool false)))) 0] false)
 (.seq (.seq (.b6 [i 6 (mv t0) 0,
 i 7 (.j2 t6) 1,
 i 8 (mv t1) 0,
 i 9 (.j2 t8) 4,
 i 10 (.bin .neq t7 t9) 15] false)
 (.cond s8
 (.seq (.b6 [i 4 (.mv (.c (.pv (.bool false)))) 0] false)
 .ret)
 .skip))
 (.seq (.seq (.b6 [i 11 (mv t0) 0,
 i 12 (.j2 v7) 1,
 i 13 (.mv (.c (I 0))) 0] false)
 (.block 0
 (.loop [0,1,12,13]
 (.seq (.b6 [i 14 (.bin .lss A6 y9) 0] false)
 (.seq (.cond C7
 .skip
 (.exit 0))
 (.seq (.block 1
 (.seq (.b6 [i 15 (mv A6) 0,
 i 5 (mv G3) 1] false)
 (.seq (.b6 [i 16 (mv t0) 0,
 i 17 (mv t5) 0,
 i 18 (.j3 1 G0 E5) 3,
 i 19 (.load false 1 I1) 7,
 i 20 (mv t1) 0,
 i 21 (mv t5) 0,
 i 22 (.j3 1 N5 L7) 48,
 i 23 (.load false 1 R2) 112,
 i 24 (.eqb true J9 U3) 255] true)
 (.cond W8
 (.seq (.b6 [i 4 (.mv (.c (.pv (.bool false)))) 0] false)
 .ret)
 .skip))))
 (.b6 [i 25 (.bin .add A6 (.c (I 1))) 0,
 i 13 (mv W4) 1] false)))))))
 (.seq (.b6 [i 4 (.mv (.c (.pv (.bool true)))) 0] false)
 .ret)))⟩
def a5y:n4:=⟨2,24,[.tmp 4],
 .seq (.b6 [i 2 (.box 1 t0) 0,
 i 4 (.mv (.c (.emp 1))) 0] false)
 (.seq (.b6 [i 9 (.load false 1 t2) 0,
 i 10 (.j2 t9) 1,
 i 11 (.b4b 1 1 [.bool false] s8) 3,
 i 5 (.alloc [.emp 1]) 0,
 iz (.store 1 t5 v7) 15] false)
 (.seq (.b6 [i 6 (.alloc [.pv .nilFunc]) 0] false)
 (.seq (.b6 [i 12 (.mkf (.func U2) [] [t2,t5,t6]) 0,
 iz (.store 1 t6 y9) 1] false)
 (.seq (.seq (.b6 [i 13 (mv t1) 0,
 i 14 (.j2 A6) 1,
 i 15 (.mv (.c (I 0))) 0] false)
 (.block 0
 (.loop [5,6,13,14,15]
 (.seq (.b6 [i 16 (.bin .lss G3 C7) 0] false)
 (.seq (.cond G0
 .skip
 (.exit 0))
 (.seq (.block 1
 (.seq (.b6 [i 17 (.j3 7 A6 G3) 0,
 i 18 (.load true 7 E5) 1,
 i 8 (.alloc z0) 0,
 iz (.store 7 t8 I1) 7] false)
 (.b6 [i 19 (.load false 1 t6) 0,
 i 20 (.load true 7 t8) 0,
 i 21 (.call J9 [N5]) 3] false)))
 (.b6 [i 22 (.bin .add G3 (.c (I 1))) 0,
 i 15 (mv R2) 1] false)))))))
 (.seq (.b6 [i 23 (.load false 1 t5) 0,
 i 4 (mv U3) 1] false)
 .ret)))))⟩
def a4E:n4:=⟨0,85,[.tmp 0],
 .seq (.b6 [i 0 (.mv (.c (.pv (.bool false)))) 0] false)
 (.seq (.b6 [i 8 (.call (.f q0) [.c (.pv (.str [70]))]) 0,
 i 9 (.call (.f U6) [.c (I 10)]) 1,
 i 10 (.call (.f q0) [.c (.pv (.str [70,111,110,116]))]) 3,
 i 11 (.N6 7 3 z0 [(0,t8),(1,t9),(2,s8)]) 7,
 i 12 (.call (.f L2) [v7]) 15,
 i 13 (.call (.f Q7) [y9,.c (.pv (.str [100,101,102,105,110,101,114,101,115,111,117,114,99,101]))]) 31,
 i 7 (mv A6) 63,
 i 14 (.extract t7 0) 127,
 i 15 (.extract t7 1) 127,
 i 1 (.alloc z1) 0,
 iz (.store 67 t1 C7) 767,
 i 2 (mv G3) 2047] false)
 (.seq (.b6 [i 17 (.load true 67 t1) 0,
 i 18 (.call (.f q0) [.c (.pv (.str [70]))]) 0,
 i 19 (.call (.f Q3) [E5,.c (.pv (.str [70,111,110,116])),I1]) 3,
 i 16 (mv J9) 7,
 i 20 (.extract G0 0) 15,
 i 21 (.extract G0 1) 15,
 i 3 (.alloc z0) 0,
 iz (.store 7 t3 N5) 95,
 i 4 (mv L7) 255] true)
 (.seq (.b6 [i 23 (.load true 67 t1) 0,
 i 24 (.call (.f q0) [.c (.pv (.str [70]))]) 0,
 i 25 (.call (.f Q3) [U3,.c (.pv (.str [70,111,114,109])),W8]) 3,
 i 22 (mv W4) 7,
 i 26 (.extract R2 0) 15,
 i 27 (.extract R2 1) 15,
 i 5 (.alloc z0) 0,
 iz (.store 7 t5 t26) 95,
 i 6 (mv t27) 255] true)
 (.seq (.b6 [i 28 (mv t2) 0,
 i 29 (.bin .eql t28 (.c (I 0))) 1,
 i 30 (mv t29) 3,
 ig 31 (.b0 t1 0) 30 true 7,
 ig 32 (.load false 1 t31) 30 true 15,
 ig 33 (.call (.f U6) [.c (I 10)]) 30 true 7,
 ig 34 (.N6 7 1 z0 [(0,t33)]) 30 true 39,
 ig 35 (.call (.f A1) [t32,t34]) 30 true 127,
 i 36 (.pick t30 t35 (.c (.pv (.bool false)))) 255,
 i 37 (mv t36) 511,
 ig 38 (mv t4) 37 true 1023,
 ig 39 (.bin .eql t38 (.c (I 0))) 37 true 2047,
 i 40 (.pick t37 t39 (.c (.pv (.bool false)))) 4095,
 i 41 (mv t40) 8191,
 ig 42 (.load true 7 t3) 41 true 16383,
 ig 43 (.call (.f U6) [.c (I 10)]) 41 true 16383,
 ig 44 (.eqs false [0,1,0,2,0,0,0] t42 t43) 41 true 65535,
 i 45 (.pick t41 t44 (.c (.pv (.bool false)))) 131071,
 i 46 (mv t45) 262143,
 ig 47 (mv t6) 46 true 524287,
 ig 48 (.bin .eql t47 (.c (I 40))) 46 true 1048575,
 i 49 (.pick t46 t48 (.c (.pv (.bool false)))) 2097151,
 i 50 (mv t49) 4194303,
 ig 51 (.load true 67 t1) 50 true 8388607,
 ig 52 (.call (.f q0) [.c (.pv (.str [70]))]) 50 true 8388607,
 ig 53 (.call (.f q0) [.c (.pv (.str [70,111,110,116]))]) 50 true 25165823,
 ig 54 (.N6 7 2 z0 [(0,t52),(1,t53)]) 50 true 58720255,
 ig 55 (.call (.f V5) [t51,t54]) 50 true 134217727,
 ig 56 (.call (.f U6) [.c (I 10)]) 50 true 268435455,
 ig 57 (.N6 7 1 z0 [(0,t56)]) 50 true 536870911,
 ig 58 (.call (.f a3J) [t55,.c (.pv (.str [102,105,110,100,114,101,115,111,117,114,99,101])),t57]) 50 true 1073741823,
 i 59 (.pick t50 t58 (.c (.pv (.bool false)))) 2147483647,
 i 60 (mv t59) 4294967295,
 ig 61 (.load true 67 t1) 60 true 8589934591,
 ig 62 (.call (.f q0) [.c (.pv (.str [70]))]) 60 true 8589934591,
 ig 63 (.call (.f q0) [.c (.pv (.str [70,111,114,109]))]) 60 true 25769803775,
 ig 64 (.N6 7 2 z0 [(0,t62),(1,t63)]) 60 true 60129542143,
 ig 65 (.call (.f V5) [t61,t64]) 60 true 137438953471,
 ig 66 (.call (.f a1M) [.c (.pv (.bool false))]) 60 true 274877906943,
 ig 67 (.N6 7 1 z0 [(0,t66)]) 60 true 549755813887,
 ig 68 (.call (.f a3J) [t65,.c (.pv (.str [114,101,115,111,117,114,99,101,115,116,97,116,117,115])),t67]) 60 true 1099511627775,
 i 69 (.pick t60 t68 (.c (.pv (.bool false)))) 2199023255551,
 i 70 (mv t69) 4398046511103,
 ig 71 (.call (.f q0) [.c (.pv (.str [70]))]) 70 true 8796093022207,
 ig 72 (.call (.f a7t) [.c (I 1)]) 70 true 17592186044415,
 ig 73 (.call (.f q0) [.c (.pv (.str [70,111,110,116]))]) 70 true 35184372088831,
 ig 74 (.N6 7 3 z0 [(0,t71),(1,t72),(2,t73)]) 70 true 70368744177663,
 ig 75 (.call (.f L2) [t74]) 70 true 140737488355327,
 ig 76 (.call (.f X6) [t75,.c (.pv (.str [100,101,102,105,110,101,114,101,115,111,117,114,99,101])),.c (I 22)]) 70 true 281474976710655,
 i 77 (.pick t70 t76 (.c (.pv (.bool false)))) 562949953421311,
 i 78 (mv t77) 1125899906842623,
 ig 79 (.call (.f q0) [.c (.pv (.str [70]))]) 78 true 2251799813685247,
 ig 80 (.call (.f q0) [.c (.pv (.str [70,111,110,116,115]))]) 78 true 4503599627370495,
 ig 81 (.N6 7 2 z0 [(0,t79),(1,t80)]) 78 true 9007199254740991,
 ig 82 (.call (.f L2) [t81]) 78 true 18014398509481983,
 ig 83 (.call (.f X6) [t82,.c (.pv (.str [102,105,110,100,114,101,115,111,117,114,99,101])),.c (I 24)]) 78 true 36028797018963967,
 i 84 (.pick t78 t83 (.c (.pv (.bool false)))) 72057594037927935,
 i 0 (mv t84) 144115188075855871] true)
 .ret))))⟩
def a4G:n4:=⟨2,48,[.cell 4 true 67,.tmp 5],
 .seq (.b6 [i 2 (.box 67 t0) 0,
 i 4 (.alloc z1) 0,
 i 5 (.mv (.c (I 0))) 0] false)
 (.seq (.b6 [i 12 (.load true 67 t2) 0,
 i 13 (.build z1 [(0,67,y9)]) 1,
 i 6 (.alloc z1) 0,
 iz (.store 67 t6 A6) 7] false)
 (.seq (.b6 [i 14 (.load true 67 t6) 0,
 i 15 (.mkf (.func C8) [C7] []) 1,
 i 7 (.alloc [.pv .nilFunc]) 0,
 iz (.store 1 t7 G3) 7] false)
 (.seq (.b6 [i 16 (.mkf (.func Q4) [] [t7,t2]) 0,
 i 8 (mv G0) 1] false)
 (.seq (.b6 [i 17 (.b1g) 0,
 i 18 (mv t8) 0,
 i 19 (.load true 67 t6) 0,
 i 20 (.mkf (.func B5) [J9] []) 4,
 i 21 (.call I1 [.c (I 3),N5]) 14,
 iz (.insert E5 (.c (.pv (.str [100,101,102,105,110,101,114,101,115,111,117,114,99,101]))) L7) 31,
 i 22 (mv t8) 0,
 i 23 (.load true 67 t6) 0,
 i 24 (.mkf (.func B6) [U3] []) 128,
 i 25 (.call R2 [.c (I 2),W8]) 478,
 iz (.insert E5 (.c (.pv (.str [102,105,110,100,114,101,115,111,117,114,99,101]))) W4) 991,
 i 26 (mv t8) 0,
 i 27 (.load true 67 t6) 0,
 i 28 (.mkf (.func B3) [t27] []) 4096,
 i 29 (.call t26 [.c (I 2),t28]) 15326,
 iz (.insert E5 (.c (.pv (.str [117,110,100,101,102,105,110,101,114,101,115,111,117,114,99,101]))) t29) 31711,
 i 30 (mv t8) 0,
 i 31 (.load true 67 t6) 0,
 i 32 (.mkf (.func B4) [t31] []) 131072,
 i 33 (.call t30 [.c (I 2),t32]) 490462,
 iz (.insert E5 (.c (.pv (.str [114,101,115,111,117,114,99,101,115,116,97,116,117,115]))) t33) 1014751,
 i 34 (mv E5) 2097151,
 i 9 (mv t34) 4194303] true)
 (.seq (.b6 [i 36 (mv t9) 0,
 i 37 (mv t1) 0,
 i 38 (.lookup t36 t37 (.pv .nilFunc)) 3,
 i 35 (mv t38) 7,
 i 39 (.extract t35 0) 15,
 i 40 (.extract t35 1) 15,
 i 10 (mv t39) 31,
 i 11 (mv t40) 127] false)
 (.seq (.seq (.b6 [i 41 (mv v7) 0,
 i 42 (.not t41) 1] false)
 (.cond t42
 (.seq (.b6 [i 43 (.load true 67 t2) 0,
 iz (.store 67 t4 t43) 1,
 i 5 (.mv (.c (I 24))) 3] false)
 .ret)
 .skip))
 (.seq (.b6 [i 44 (mv s8) 0,
 i 45 (.call t44 []) 1,
 i 46 (.extract t45 0) 3,
 i 47 (.extract t45 1) 3,
 iz (.store 67 t4 t46) 15,
 i 5 (mv t47) 31] false)
 .ret)))))))⟩
def V2:n4:=⟨2,52,[.tmp 4],
 .seq (.b6 [i 2 (.box 7 t0) 0,
 i 3 (.box 7 t1) 0,
 i 4 (.mv (.c (.pv (.bool false)))) 0] false)
 (.seq (.b6 [i 5 (.b0 t2 0) 0,
 i 6 (.load false 1 t5) 1,
 i 7 (.b0 t3 0) 0,
 i 8 (.load false 1 t7) 4,
 i 9 (.bin .eql t6 t8) 15,
 i 10 (mv t9) 31,
 ig 11 (.b0 t2 1) 10 true 63,
 ig 12 (.load false 1 v7) 10 true 127,
 ig 13 (.b0 t3 1) 10 true 63,
 ig 14 (.load false 1 A6) 10 true 319,
 ig 15 (.bin .eql y9 C7) 10 true 1023,
 i 16 (.pick s8 G3 (.c (.pv (.bool false)))) 2047,
 i 17 (mv G0) 4095,
 ig 18 (.b0 t2 2) 17 true 8191,
 ig 19 (.load false 1 I1) 17 true 16383,
 ig 20 (.b0 t3 2) 17 true 8191,
 ig 21 (.load false 1 N5) 17 true 40959,
 ig 22 (.call (.f u2) [J9,L7]) 17 true 131071,
 i 23 (.pick E5 R2 (.c (.pv (.bool false)))) 262143,
 i 24 (mv U3) 524287,
 ig 25 (.b0 t2 3) 24 true 1048575,
 ig 26 (.load false 1 W4) 24 true 2097151,
 ig 27 (.b0 t3 3) 24 true 1048575,
 ig 28 (.load false 1 t27) 24 true 5242879,
 ig 29 (.call (.f u2) [t26,t28]) 24 true 16777215,
 i 30 (.pick W8 t29 (.c (.pv (.bool false)))) 33554431,
 i 31 (mv t30) 67108863,
 ig 32 (.b0 t2 4) 31 true 134217727,
 ig 33 (.load false 1 t32) 31 true 268435455,
 ig 34 (.b0 t3 4) 31 true 134217727,
 ig 35 (.load false 1 t34) 31 true 671088639,
 ig 36 (.call (.f u2) [t33,t35]) 31 true 2147483647,
 i 37 (.pick t31 t36 (.c (.pv (.bool false)))) 4294967295,
 i 38 (mv t37) 8589934591,
 ig 39 (.b0 t2 5) 38 true 17179869183,
 ig 40 (.load false 1 t39) 38 true 34359738367,
 ig 41 (.b0 t3 5) 38 true 17179869183,
 ig 42 (.load false 1 t41) 38 true 85899345919,
 ig 43 (.bin .eql t40 t42) 38 true 274877906943,
 i 44 (.pick t38 t43 (.c (.pv (.bool false)))) 549755813887,
 i 45 (mv t44) 1099511627775,
 ig 46 (.b0 t2 6) 45 true 2199023255551,
 ig 47 (.load false 1 t46) 45 true 4398046511103,
 ig 48 (.b0 t3 6) 45 true 2199023255551,
 ig 49 (.load false 1 t48) 45 true 10995116277759,
 ig 50 (.bin .eql t47 t49) 45 true 35184372088831,
 i 51 (.pick t45 t50 (.c (.pv (.bool false)))) 70368744177663,
 i 4 (mv t51) 140737488355327] false)
 .ret)⟩
def a1k:n4:=⟨2,26,[.tmp 4],
 .seq (.b6 [i 4 (.mv (.c (.pv (.bool false)))) 0] false)
 (.seq (.seq (.b6 [i 6 (mv t0) 0,
 i 7 (.j2 t6) 1,
 i 8 (mv t1) 0,
 i 9 (.j2 t8) 4,
 i 10 (.bin .neq t7 t9) 15] false)
 (.cond s8
 (.seq (.b6 [i 4 (.mv (.c (.pv (.bool false)))) 0] false)
 .ret)
 .skip))
 (.seq (.seq (.b6 [i 11 (mv t0) 0,
 i 12 (.j2 v7) 1,
 i 13 (.mv (.c (I 0))) 0] false)
 (.block 0
 (.loop [0,1,12,13]
 (.seq (.b6 [i 14 (.bin .lss A6 y9) 0] false)
 (.seq (.cond C7
 .skip
 (.exit 0))
 (.seq (.block 1
 (.seq (.b6 [i 15 (mv A6) 0,
 i 5 (mv G3) 1] false)
 (.seq (.b6 [i 16 (mv t0) 0,
 i 17 (mv t5) 0,
 i 18 (.j3 1 G0 E5) 3,
 i 19 (.load false 1 I1) 7,
 i 20 (mv t1) 0,
 i 21 (mv t5) 0,
 i 22 (.j3 1 N5 L7) 48,
 i 23 (.load false 1 R2) 112,
 i 24 (.bin .neq J9 U3) 255] true)
 (.cond W8
 (.seq (.b6 [i 4 (.mv (.c (.pv (.bool false)))) 0] false)
 .ret)
 .skip))))
 (.b6 [i 25 (.bin .add A6 (.c (I 1))) 0,
 i 13 (mv W4) 1] false)))))))
 (.seq (.b6 [i 4 (.mv (.c (.pv (.bool true)))) 0] false)
 .ret)))⟩
def y3:n4:=⟨2,139,[.cell 4 true 7],
 .seq (.b6 [i 2 (.box 5 t0) 0,
 i 4 (.alloc z2) 0] false)
 (.seq (.b6 [i 12 (.b0 t2 4) 0,
 i 13 (.load false 1 y9) 1,
 i 14 (.b0 t2 4) 0,
 i 15 (.load false 1 C7) 4,
 i 16 (.I2 G3) 12,
 i 17 (.mm false [G0,.c (I 40)]) 28,
 i 18 (.a2s A6 none (some E5)) 63,
 i 5 (mv I1) 127] false)
 (.seq (.seq (.b6 [i 19 (.b0 t2 0) 0,
 i 20 (.load false 1 J9) 1,
 i 21 (.bin .rem N5 (.c (.pv (.int .u8 (5))))) 3] false)
 (.block 0
 (.seq (.seq (.b6 [i 23 (.bin .eql L7 (.c (.pv (.int .u8 (0))))) 0,
 i 22 (mv U3) 1] false)
 (.cond R2
 .skip
 (.b6 [i 24 (.bin .eql L7 (.c (.pv (.int .u8 (1))))) 0,
 i 22 (mv W8) 1] false)))
 (.cond R2
 (.seq (.b6 [i 25 (mv t5) 0,
 i 26 (.build z2 [(0,1,.c (I 1)),(1,1,W4)]) 1,
 iz (.store 7 t4 t26) 3] false)
 .ret)
 (.seq (.b6 [i 28 (.bin .eql L7 (.c (.pv (.int .u8 (2))))) 0,
 i 27 (mv t28) 1] false)
 (.cond t27
 (.seq (.b6 [i 29 (.build z2 [(0,1,.c (I 2))]) 0,
 i 6 (.alloc z2) 0,
 iz (.store 7 t6 t29) 3] false)
 (.seq (.seq (.b6 [i 7 (.mv (.c (I 0))) 0] false)
 (.block 1
 (.loop [1,2,4,6,7]
 (.seq (.seq (.b6 [i 30 (mv t7) 0,
 i 31 (.b0 t2 1) 0,
 i 32 (.load false 1 t31) 2,
 i 33 (.bin .rem t32 (.c (.pv (.int .u8 (6))))) 6,
 i 34 (.conv .i64 t33) 14,
 i 35 (.bin .lss t30 t34) 31] false)
 (.cond t35
 .skip
 (.exit 1)))
 (.seq (.block 2
 (.seq (.b6 [i 38 (.b0 t2 2) 0,
 i 39 (.load false 1 t38) 1,
 i 40 (mv t7) 0,
 i 41 (.bin .mul (.c (I 5)) t40) 4,
 i 42 (.conv .u8 t41) 12,
 i 43 (.bin .add t39 t42) 31,
 i 44 (.b0 t2 1) 0,
 i 45 (.load false 1 t44) 64,
 i 46 (mv t7) 0,
 i 47 (.conv .u8 t46) 256,
 i 48 (.bin .add t45 t47) 960,
 i 49 (.b0 t2 2) 0,
 i 50 (.load false 1 t49) 2048,
 i 51 (mv t7) 0,
 i 52 (.bin .add t51 (.c (I 1))) 8192,
 i 53 (.conv .u8 t52) 24576,
 i 54 (.bin .mul t50 t53) 63488,
 i 55 (.b0 t2 3) 0,
 i 56 (.load false 1 t55) 131072,
 i 57 (mv t7) 0,
 i 58 (.bin .add t57 (.c (I 1))) 524288,
 i 59 (.conv .i32 t58) 1572864,
 i 60 (.bin .quo t56 t59) 4063232,
 i 61 (.build [.pv (.int .u8 (0)),.pv (.int .u8 (0)),.pv (.int .u8 (0)),.pv (.int .i32 (0)),.pv (.str [])] [(0,1,t43),(1,1,t48),(2,1,t54),(3,1,t60)]) 8388607,
 i 8 (.alloc [.pv (.int .u8 (0)),.pv (.int .u8 (0)),.pv (.int .u8 (0)),.pv (.int .i32 (0)),.pv (.str [])]) 0,
 iz (.store 5 t8 t61) 33554431] true)
 (.b6 [i 62 (.b0 t6 2) 0,
 i 63 (.load false 1 t62) 1,
 i 64 (.load true 5 t8) 0,
 i 65 (mv t1) 0,
 i 66 (.call (.f e6) [t64,t65]) 12,
 i 67 (.N6 7 1 z0 [(0,t66)]) 28,
 i 68 (.append 7 64 t63 t67) 63,
 i 69 (.b0 t6 2) 127,
 iz (.store 1 t69 t68) 255] true)))
 (.b6 [i 36 (mv t7) 0,
 i 37 (.bin .add t36 (.c (I 1))) 1,
 i 7 (mv t37) 3] false))))))
 (.seq (.b6 [i 70 (.load true 7 t6) 0,
 iz (.store 7 t4 t70) 1] false)
 .ret)))
 (.seq (.b6 [i 72 (.bin .eql L7 (.c (.pv (.int .u8 (3))))) 0,
 i 71 (mv t72) 1] false)
 (.cond t71
 (.seq (.b6 [i 73 (.b0 t2 1) 0,
 i 74 (.load false 1 t73) 1,
 i 75 (.bin .rem t74 (.c (.pv (.int .u8 (6))))) 3,
 i 76 (.conv .i64 t75) 7,
 i 77 (.call (.f l8) [t76]) 15,
 i 9 (.alloc z2) 0,
 iz (.store 7 t9 t77) 63] false)
 (.seq (.seq (.b6 [i 10 (.mv (.c (I 0))) 0] false)
 (.block 3
 (.loop [1,2,4,9,10]
 (.seq (.seq (.b6 [i 78 (mv s8) 0,
 i 79 (.b0 t2 2) 0,
 i 80 (.load false 1 t79) 2,
 i 81 (.bin .rem t80 (.c (.pv (.int .u8 (4))))) 6,
 i 82 (.conv .i64 t81) 14,
 i 83 (.bin .lss t78 t82) 31,
 i 84 (mv t83) 63,
 ig 85 (mv s8) 84 true 127,
 ig 86 (.b0 t9 5) 84 true 127,
 ig 87 (.load false 1 t86) 84 true 383,
 ig 88 (.bin .lss t85 t87) 84 true 1023,
 i 89 (.pick t84 t88 (.c (.pv (.bool false)))) 2047] false)
 (.cond t89
 .skip
 (.exit 3)))
 (.seq (.block 4
 (.seq (.b6 [i 92 (.b0 t2 2) 0,
 i 93 (.load false 1 t92) 1,
 i 94 (mv s8) 0,
 i 95 (.bin .mul (.c (I 3)) t94) 4,
 i 96 (.conv .u8 t95) 12,
 i 97 (.bin .add t93 t96) 31,
 i 98 (.b0 t2 1) 0,
 i 99 (.load false 1 t98) 64,
 i 100 (mv s8) 0,
 i 101 (.conv .u8 b7Z) 256,
 i 102 (.bin .add t99 b8F) 960,
 i 103 (.b0 t2 2) 0,
 i 104 (.load false 1 b8G) 2048,
 i 105 (.b0 t2 3) 0,
 i 106 (.load false 1 c0a) 8192,
 i 107 (.build [.pv (.int .u8 (0)),.pv (.int .u8 (0)),.pv (.int .u8 (0)),.pv (.int .i32 (0)),.pv (.str [])] [(0,1,t97),(1,1,b8E),(2,1,c0d),(3,1,c0w)]) 32767,
 i 11 (.alloc [.pv (.int .u8 (0)),.pv (.int .u8 (0)),.pv (.int .u8 (0)),.pv (.int .i32 (0)),.pv (.str [])]) 0,
 iz (.store 5 v7 c0S) 131071] false)
 (.seq (.b6 [i 108 (.b0 t9 3) 0,
 i 109 (.load false 1 c0t) 1,
 i 110 (mv s8) 0,
 i 111 (.a7X 8 1 (.g 0) b9Q) 4,
 i 112 (.load false 1 c0z) 12,
 i 113 (.call (.f w9) [c1y]) 28,
 i 114 (.N6 7 1 z0 [(0,c0i)]) 60,
 i 115 (.append 7 64 c0N c0E) 127,
 i 116 (.b0 t9 3) 255,
 iz (.store 1 c0l c1e) 511] true)
 (.b6 [i 117 (.b0 t9 4) 0,
 i 118 (.load false 1 c0J) 1,
 i 119 (.load true 5 v7) 0,
 i 120 (mv t1) 0,
 i 121 (.call (.f e6) [c1i,c0K]) 12,
 i 122 (.N6 7 1 z0 [(0,b8k)]) 28,
 i 123 (.append 7 64 c0F c0c) 63,
 i 124 (.b0 t9 4) 127,
 iz (.store 1 b9S c0y) 255] true))))
 (.b6 [i 90 (mv s8) 0,
 i 91 (.bin .add t90 (.c (I 1))) 1,
 i 10 (mv t91) 3] false))))))
 (.seq (.b6 [i 125 (.load true 7 t9) 0,
 iz (.store 7 t4 c1n) 1] false)
 .ret)))
 .skip))))))))
 (.seq (.b6 [i 126 (mv t5) 0,
 i 127 (.b0 t2 1) 0,
 i 128 (.load false 1 b8f) 2,
 i 129 (.conv .i64 c1d) 6,
 i 130 (mv t5) 0,
 i 131 (.I2 c0q) 16,
 i 132 (.bin .add b9Y (.c (I 1))) 48,
 i 133 (.bin .rem c0u c0L) 126,
 i 134 (.b0 t2 2) 0,
 i 135 (.load false 1 c1h) 256,
 i 136 (.bin .rem c1D (.c (.pv (.int .u8 (2))))) 768,
 i 137 (.conv .i64 c1N) 1792,
 i 138 (.build z2 [(0,1,.c (I 4)),(1,1,c0o),(6,1,c1F),(5,1,c1C)]) 4095,
 iz (.store 7 t4 c1r) 8191] true)
 .ret)))⟩
def Y9:n4:=⟨4,47,[.tmp 8,.tmp 9],
 .seq (.b6 [i 5 (.box 7 t1) 0,
 i 8 (.mv (.c (.emp 7))) 0,
 i 9 (.mv (.c (I 0))) 2] false)
 (.seq (.b6 [i 14 (mv t0) 0,
 i 15 (.load true 7 t5) 0,
 i 16 (.N6 1 1 [I 0] [(0,.c (I 6))]) 0,
 i 17 (.call (.f y8) [C7,G3,G0]) 7,
 i 13 (mv E5) 15,
 i 18 (.extract A6 0) 31,
 i 19 (.extract A6 1) 31,
 i 10 (.alloc [.emp 7,I 0,.pv (.bool false),I 0,.pv (.str []),I 0,I 0,I 0]) 0,
 iz (.store 8 s8 I1) 191,
 i 11 (mv J9) 511] false)
 (.seq (.seq (.b6 [i 20 (mv v7) 0,
 i 21 (.bin .eql N5 (.c (I 0))) 1] false)
 (.cond L7
 (.b6 [i 22 (.load true 8 s8) 0,
 i 23 (mv t2) 0,
 i 24 (mv t3) 0,
 i 25 (.I2 W8) 4,
 i 26 (.call (.f N1) [R2,U3,W4]) 15,
 i 11 (mv t26) 31] false)
 .skip))
 (.seq (.seq (.b6 [i 27 (mv v7) 0,
 i 28 (.bin .neq t27 (.c (I 0))) 1] false)
 (.cond t28
 (.seq (.b6 [i 29 (mv v7) 0,
 i 8 (.mv (.c (.emp 7))) 0,
 i 9 (mv t29) 3] false)
 .ret)
 .skip))
 (.seq (.b6 [i 30 (.load true 8 s8) 0,
 i 31 (.call (.f o3) [t30]) 1,
 i 12 (.alloc z2) 0,
 iz (.store 7 y9 t31) 7] false)
 (.seq (.b6 [i 32 (.b0 y9 1) 0,
 i 33 (.load false 1 t32) 1,
 i 34 (.s2b t33) 3,
 i 35 (.b0 t5 5) 0,
 i 36 (.load false 1 t35) 8,
 i 37 (mv t2) 0,
 i 38 (.bin .add t36 t37) 56,
 i 39 (mv t3) 0,
 i 40 (.s2b t39) 128,
 i 41 (.call (.f D8) [t34,t38,t40]) 511,
 i 42 (.b2s t41) 1023,
 i 43 (.b0 y9 1) 2047,
 iz (.store 1 t43 t42) 4095] false)
 (.seq (.b6 [i 44 (.load true 8 s8) 0,
 i 45 (.load true 7 y9) 0,
 i 46 (.call (.f x7) [t44,t45]) 3,
 i 8 (mv t46) 7,
 i 9 (.mv (.c (I 0))) 15] false)
 .ret))))))⟩
def a2T:n4:=⟨2,29,[.tmp 4,.tmp 5],
 .seq (.b6 [i 3 (.box 7 t1) 0,
 i 4 (.mv (.c (.pv (.str [])))) 0,
 i 5 (.mv (.c (I 0))) 2] false)
 (.seq (.b6 [i 9 (mv t0) 0,
 i 10 (.load true 7 t3) 0,
 i 11 (.N6 1 1 [I 0] [(0,.c (I 6))]) 0,
 i 12 (.call (.f y8) [t9,s8,v7]) 7,
 i 8 (mv y9) 15,
 i 13 (.extract t8 0) 31,
 i 14 (.extract t8 1) 31,
 i 6 (.alloc [.emp 7,I 0,.pv (.bool false),I 0,.pv (.str []),I 0,I 0,I 0]) 0,
 iz (.store 8 t6 A6) 191,
 i 7 (mv C7) 511] false)
 (.seq (.seq (.b6 [i 15 (mv t7) 0,
 i 16 (.bin .neq G3 (.c (I 0))) 1] false)
 (.cond G0
 (.seq (.b6 [i 17 (mv t7) 0,
 i 4 (.mv (.c (.pv (.str [])))) 0,
 i 5 (mv E5) 3] false)
 .ret)
 .skip))
 (.seq (.b6 [i 18 (.load true 8 t6) 0,
 i 19 (.call (.f o3) [I1]) 1,
 i 20 (.field false 1 1 J9) 3,
 i 21 (.b0 t3 5) 0,
 i 22 (.load false 1 L7) 8,
 i 23 (.b0 t3 5) 0,
 i 24 (.load false 1 U3) 32,
 i 25 (.b0 t3 6) 0,
 i 26 (.load false 1 W4) 128,
 i 27 (.bin .add W8 t26) 480,
 i 28 (.a2s N5 (some R2) (some t27)) 1023,
 i 4 (mv t28) 2047,
 i 5 (.mv (.c (I 0))) 4095] true)
 .ret)))⟩
def a5W:n4:=⟨2,34,[.tmp 4,.tmp 5],
 .seq (.b6 [i 3 (.box 7 t1) 0,
 i 4 (.mv (.c (.emp 7))) 0,
 i 5 (.mv (.c (I 0))) 2] false)
 (.seq (.b6 [i 9 (mv t0) 0,
 i 10 (.load true 7 t3) 0,
 i 11 (.N6 1 2 [I 0] [(0,.c (I 7)),(1,.c (I 8))]) 0,
 i 12 (.call (.f y8) [t9,s8,v7]) 7,
 i 8 (mv y9) 15,
 i 13 (.extract t8 0) 31,
 i 14 (.extract t8 1) 31,
 i 6 (.alloc [.emp 7,I 0,.pv (.bool false),I 0,.pv (.str []),I 0,I 0,I 0]) 0,
 iz (.store 8 t6 A6) 191,
 i 7 (mv C7) 511] false)
 (.seq (.seq (.b6 [i 15 (mv t7) 0,
 i 16 (.bin .neq G3 (.c (I 0))) 1] false)
 (.cond G0
 (.seq (.b6 [i 17 (mv t7) 0,
 i 4 (.mv (.c (.emp 7))) 0,
 i 5 (mv E5) 3] false)
 .ret)
 .skip))
 (.seq (.b6 [i 18 (.load true 8 t6) 0,
 i 19 (.call (.f o3) [I1]) 1,
 i 20 (.field false 2 1 J9) 3,
 i 21 (.b0 t3 5) 0,
 i 22 (.load false 1 L7) 8,
 i 23 (.b0 t3 5) 0,
 i 24 (.load false 1 U3) 32,
 i 25 (.b0 t3 6) 0,
 i 26 (.load false 1 W4) 128,
 i 27 (.bin .add W8 t26) 480,
 i 28 (.b0 t3 5) 0,
 i 29 (.load false 1 t28) 1024,
 i 30 (.b0 t3 6) 0,
 i 31 (.load false 1 t30) 4096,
 i 32 (.bin .add t29 t31) 15360,
 i 33 (.slice 7 N5 (some R2) (some t27) (some t32)) 32767,
 i 4 (mv t33) 65535,
 i 5 (.mv (.c (I 0))) 131071] true)
 .ret)))⟩
def a5E:n4:=⟨2,34,[.cell 4 true 7,.tmp 5],
 .seq (.b6 [i 3 (.box 7 t1) 0,
 i 4 (.alloc z0) 0,
 i 5 (.mv (.c (I 0))) 0] false)
 (.seq (.seq (.b6 [i 8 (mv t0) 0,
 i 9 (.load true 7 t3) 0,
 i 10 (.call (.f B0) [t8,t9]) 3,
 i 11 (.not s8) 7] false)
 (.cond v7
 (.seq (.b6 [i 12 (.build z0 []) 0,
 iz (.store 7 t4 y9) 1,
 i 5 (.mv (.c (I 2))) 3] false)
 .ret)
 .skip))
 (.seq (.seq (.b6 [i 13 (.b0 t3 0) 0,
 i 14 (.load false 1 A6) 1,
 i 15 (.bin .neq C7 (.c (I 6))) 3] false)
 (.cond G3
 (.seq (.b6 [i 16 (.load true 7 t3) 0,
 i 17 (.call (.f P5) [G0]) 1,
 i 18 (.extract E5 0) 3,
 i 19 (.extract E5 1) 3,
 iz (.store 7 t4 I1) 15,
 i 5 (mv J9) 31] false)
 .ret)
 .skip))
 (.seq (.b6 [i 21 (mv t0) 0,
 i 22 (.load true 7 t3) 0,
 i 23 (.call (.f P3) [L7,R2]) 3,
 i 20 (mv U3) 7,
 i 24 (.extract N5 0) 15,
 i 25 (.extract N5 1) 15,
 i 6 (mv W8) 31,
 i 7 (mv W4) 127] false)
 (.seq (.seq (.b6 [i 26 (mv t6) 0,
 i 27 (.I2 t26) 1,
 i 28 (.bin .gtr t27 (.c (I 100))) 3] false)
 (.cond t28
 (.seq (.b6 [i 29 (.build z0 []) 0,
 iz (.store 7 t4 t29) 1,
 i 5 (.mv (.c (I 23))) 3] false)
 .ret)
 .skip))
 (.seq (.b6 [i 30 (mv t6) 0,
 i 31 (.call (.f Y3) [t30,.c (.pv (.bool false))]) 1,
 i 32 (.extract t31 0) 3,
 i 33 (.extract t31 1) 3,
 iz (.store 7 t4 t32) 15,
 i 5 (mv t33) 31] false)
 .ret)))))⟩
def a4m:n4:=⟨3,45,[.cell 6 true 7,.tmp 7,.tmp 8],
 .seq (.b6 [i 4 (.box 7 t1) 0,
 i 5 (.box 7 t2) 0,
 i 6 (.alloc z0) 0,
 i 7 (.mv (.c (.pv (.bool false)))) 0,
 i 8 (.mv (.c (I 0))) 8] false)
 (.seq (.b6 [i 14 (mv t0) 0,
 i 15 (.load true 7 t4) 0,
 i 16 (.N6 1 1 [I 0] [(0,.c (I 9))]) 0,
 i 17 (.call (.f y8) [C7,G3,G0]) 7,
 i 13 (mv E5) 15,
 i 18 (.extract A6 0) 31,
 i 19 (.extract A6 1) 31,
 i 9 (.alloc [.emp 7,I 0,.pv (.bool false),I 0,.pv (.str []),I 0,I 0,I 0]) 0,
 iz (.store 8 t9 I1) 191,
 i 10 (mv J9) 511] false)
 (.seq (.seq (.b6 [i 20 (mv s8) 0,
 i 21 (.bin .neq N5 (.c (I 0))) 1] false)
 (.cond L7
 (.seq (.b6 [i 22 (.build z0 []) 0,
 i 23 (mv s8) 0,
 iz (.store 7 t6 R2) 1,
 i 7 (.mv (.c (.pv (.bool false)))) 5,
 i 8 (mv U3) 15] false)
 .ret)
 .skip))
 (.seq (.b6 [i 24 (.load true 8 t9) 0,
 i 25 (.call (.f o3) [W8]) 1,
 i 11 (.alloc z2) 0,
 iz (.store 7 v7 W4) 7] false)
 (.seq (.b6 [i 26 (.b0 v7 3) 0,
 i 27 (.load false 1 t26) 1,
 i 28 (.load true 7 t5) 0,
 i 29 (.call (.f s7) [t27,t28]) 7,
 i 12 (mv t29) 15] false)
 (.seq (.seq (.b6 [i 30 (mv y9) 0,
 i 31 (.bin .lss t30 (.c (I 0))) 1,
 i 32 (mv t31) 3,
 ig 33 (mv y9) 32 false 7,
 ig 34 (.b0 v7 4) 32 false 7,
 ig 35 (.load false 1 t34) 32 false 23,
 ig 36 (.j2 t35) 32 false 55,
 ig 37 (.bin .geq t33 t36) 32 false 127,
 i 38 (.pick t32 (.c (.pv (.bool true))) t37) 255] false)
 (.cond t38
 (.seq (.b6 [i 39 (.build z0 []) 0,
 iz (.store 7 t6 t39) 1,
 i 7 (.mv (.c (.pv (.bool false)))) 3,
 i 8 (.mv (.c (I 0))) 7] false)
 .ret)
 .skip))
 (.seq (.b6 [i 40 (.b0 v7 4) 0,
 i 41 (.load false 1 t40) 1,
 i 42 (mv y9) 0,
 i 43 (.j3 7 t41 t42) 7,
 i 44 (.load true 7 t43) 15,
 iz (.store 7 t6 t44) 31,
 i 7 (.mv (.c (.pv (.bool true)))) 63,
 i 8 (.mv (.c (I 0))) 127] false)
 .ret))))))⟩
def a2Y:n4:=⟨4,84,[.tmp 8,.tmp 9],
 .seq (.b6 [i 5 (.box 7 t1) 0,
 i 6 (.box 7 t2) 0,
 i 7 (.box 7 t3) 0,
 i 8 (.mv (.c (.emp 7))) 0,
 i 9 (.mv (.c (I 0))) 8] false)
 (.seq (.b6 [i 15 (mv t0) 0,
 i 16 (.load true 7 t5) 0,
 i 17 (.N6 1 1 [I 0] [(0,.c (I 9))]) 0,
 i 18 (.call (.f y8) [G3,G0,E5]) 7,
 i 14 (mv I1) 15,
 i 19 (.extract C7 0) 31,
 i 20 (.extract C7 1) 31,
 i 10 (.alloc [.emp 7,I 0,.pv (.bool false),I 0,.pv (.str []),I 0,I 0,I 0]) 0,
 iz (.store 8 s8 J9) 191,
 i 11 (mv N5) 511] false)
 (.seq (.seq (.b6 [i 21 (mv v7) 0,
 i 22 (.bin .neq L7 (.c (I 0))) 1] false)
 (.cond R2
 (.seq (.b6 [i 23 (mv v7) 0,
 i 8 (.mv (.c (.emp 7))) 0,
 i 9 (mv U3) 3] false)
 .ret)
 .skip))
 (.seq (.b6 [i 24 (.load true 8 s8) 0,
 i 25 (.call (.f o3) [W8]) 1,
 i 12 (.alloc z2) 0,
 iz (.store 7 y9 W4) 7] false)
 (.seq (.seq (.b6 [i 26 (.b0 y9 3) 0,
 i 27 (.load false 1 t26) 1,
 i 28 (.load true 7 t6) 0,
 i 29 (.call (.f s7) [t27,t28]) 7,
 i 13 (mv t29) 15] false)
 (.seq (.b6 [i 30 (mv A6) 0,
 i 31 (.bin .geq t30 (.c (I 0))) 1,
 i 32 (mv t31) 3,
 ig 33 (mv A6) 32 true 7,
 ig 34 (.b0 y9 4) 32 true 7,
 ig 35 (.load false 1 t34) 32 true 23,
 ig 36 (.j2 t35) 32 true 55,
 ig 37 (.bin .lss t33 t36) 32 true 127,
 i 38 (.pick t32 t37 (.c (.pv (.bool false)))) 255] false)
 (.cond t38
 (.seq (.b6 [i 39 (.b0 y9 4) 0,
 i 40 (.load false 1 t39) 1,
 i 41 (mv A6) 0,
 i 42 (.load true 7 t7) 0,
 i 43 (.N6 7 1 z0 [(0,t42)]) 8,
 i 44 (.call (.f E6) [t40,t41,t43]) 31,
 i 45 (.b0 y9 4) 63,
 iz (.store 1 t45 t44) 127] false)
 (.seq (.b6 [i 46 (.load true 8 s8) 0,
 i 47 (.load true 7 y9) 0,
 i 48 (.call (.f x7) [t46,t47]) 3,
 i 8 (mv t48) 7,
 i 9 (.mv (.c (I 0))) 15] false)
 .ret))
 .skip)))
 (.seq (.seq (.b6 [i 49 (.b0 y9 3) 0,
 i 50 (.load false 1 t49) 1,
 i 51 (.j2 t50) 3,
 i 52 (.b0 y9 5) 0,
 i 53 (.load false 1 t52) 8,
 i 54 (.bin .geq t51 t53) 31] false)
 (.cond t54
 (.seq (.b6 [i 8 (.mv (.c (.emp 7))) 0,
 i 9 (.mv (.c (I 30))) 1] false)
 .ret)
 .skip))
 (.seq (.b6 [i 55 (.b0 y9 3) 0,
 i 56 (.load false 1 t55) 1,
 i 57 (.b0 y9 3) 0,
 i 58 (.load false 1 t57) 4,
 i 59 (.j2 t58) 12,
 i 60 (.b0 y9 3) 0,
 i 61 (.load false 1 t60) 32,
 i 62 (.j2 t61) 96,
 i 63 (.slice 7 t56 none (some t59) (some t62)) 255,
 i 64 (.load true 7 t6) 0,
 i 65 (.N6 7 1 z0 [(0,t64)]) 512,
 i 66 (.append 7 64 t63 t65) 2047,
 i 67 (.b0 y9 3) 4095,
 iz (.store 1 t67 t66) 8191] true)
 (.seq (.b6 [i 68 (.b0 y9 4) 0,
 i 69 (.load false 1 t68) 1,
 i 70 (.b0 y9 4) 0,
 i 71 (.load false 1 t70) 4,
 i 72 (.j2 t71) 12,
 i 73 (.b0 y9 4) 0,
 i 74 (.load false 1 t73) 32,
 i 75 (.j2 t74) 96,
 i 76 (.slice 7 t69 none (some t72) (some t75)) 255,
 i 77 (.load true 7 t7) 0,
 i 78 (.N6 7 1 z0 [(0,t77)]) 512,
 i 79 (.append 7 64 t76 t78) 2047,
 i 80 (.b0 y9 4) 4095,
 iz (.store 1 t80 t79) 8191] true)
 (.seq (.b6 [i 81 (.load true 8 s8) 0,
 i 82 (.load true 7 y9) 0,
 i 83 (.call (.f x7) [t81,t82]) 3,
 i 8 (mv t83) 7,
 i 9 (.mv (.c (I 0))) 15] false)
 .ret))))))))⟩
def a4H:n4:=⟨3,57,[.tmp 6,.tmp 7],
 .seq (.b6 [i 4 (.box 7 t1) 0,
 i 5 (.box 7 t2) 0,
 i 6 (.mv (.c (.emp 7))) 0,
 i 7 (.mv (.c (I 0))) 4] false)
 (.seq (.b6 [i 13 (mv t0) 0,
 i 14 (.load true 7 t4) 0,
 i 15 (.N6 1 1 [I 0] [(0,.c (I 9))]) 0,
 i 16 (.call (.f y8) [A6,C7,G3]) 7,
 i 12 (mv G0) 15,
 i 17 (.extract y9 0) 31,
 i 18 (.extract y9 1) 31,
 i 8 (.alloc [.emp 7,I 0,.pv (.bool false),I 0,.pv (.str []),I 0,I 0,I 0]) 0,
 iz (.store 8 t8 E5) 191,
 i 9 (mv I1) 511] false)
 (.seq (.seq (.b6 [i 19 (mv t9) 0,
 i 20 (.bin .neq J9 (.c (I 0))) 1] false)
 (.cond N5
 (.seq (.b6 [i 21 (mv t9) 0,
 i 6 (.mv (.c (.emp 7))) 0,
 i 7 (mv L7) 3] false)
 .ret)
 .skip))
 (.seq (.b6 [i 22 (.load true 8 t8) 0,
 i 23 (.call (.f o3) [R2]) 1,
 i 10 (.alloc z2) 0,
 iz (.store 7 s8 U3) 7] false)
 (.seq (.b6 [i 24 (.b0 s8 3) 0,
 i 25 (.load false 1 W8) 1,
 i 26 (.load true 7 t5) 0,
 i 27 (.call (.f s7) [W4,t26]) 7,
 i 11 (mv t27) 15] false)
 (.seq (.seq (.b6 [i 28 (mv v7) 0,
 i 29 (.bin .lss t28 (.c (I 0))) 1,
 i 30 (mv t29) 3,
 ig 31 (mv v7) 30 false 7,
 ig 32 (.b0 s8 4) 30 false 7,
 ig 33 (.load false 1 t32) 30 false 23,
 ig 34 (.j2 t33) 30 false 55,
 ig 35 (.bin .geq t31 t34) 30 false 127,
 i 36 (.pick t30 (.c (.pv (.bool true))) t35) 255] false)
 (.cond t36
 (.seq (.b6 [i 37 (mv t0) 0,
 i 6 (mv t37) 1,
 i 7 (.mv (.c (I 0))) 3] false)
 .ret)
 .skip))
 (.seq (.b6 [i 38 (.b0 s8 3) 0,
 i 39 (.load false 1 t38) 1,
 i 40 (.call (.f q9) [t39]) 3,
 i 41 (mv v7) 0,
 i 42 (mv v7) 0,
 i 43 (.bin .add t42 (.c (I 1))) 16,
 i 44 (.call (.f E9) [t40,t41,t43]) 63,
 i 45 (.b0 s8 4) 0,
 i 46 (.load false 1 t45) 128,
 i 47 (.call (.f q9) [t46]) 511,
 i 48 (mv v7) 0,
 i 49 (mv v7) 0,
 i 50 (.bin .add t49 (.c (I 1))) 2048,
 i 51 (.call (.f E9) [t47,t48,t50]) 8191,
 i 52 (.b0 s8 3) 511,
 iz (.store 1 t52 t44) 32767,
 i 53 (.b0 s8 4) 65535,
 iz (.store 1 t53 t51) 131071] true)
 (.seq (.b6 [i 54 (.load true 8 t8) 0,
 i 55 (.load true 7 s8) 0,
 i 56 (.call (.f x7) [t54,t55]) 3,
 i 6 (mv t56) 7,
 i 7 (.mv (.c (I 0))) 15] false)
 .ret)))))))⟩
def a1O:n4:=⟨2,90,[.tmp 4],
 .seq (.b6 [i 2 (.box 57 t0) 0,
 i 3 (.box 57 t1) 0,
 i 4 (.mv (.c (.pv (.bool false)))) 0] false)
 (.seq (.b6 [i 5 (.b0 t2 0) 0,
 i 6 (.load true 6 t5) 1,
 i 7 (.b0 t3 0) 0,
 i 8 (.load true 6 t7) 4,
 i 9 (.eqs false [0,0,0,0,0,0] t6 t8) 15,
 i 10 (mv t9) 31,
 ig 11 (.b0 t2 6) 10 true 63,
 ig 12 (.load false 1 v7) 10 true 127,
 ig 13 (.j2 y9) 10 true 255,
 ig 14 (.b0 t3 6) 10 true 63,
 ig 15 (.load false 1 C7) 10 true 575,
 ig 16 (.j2 G3) 10 true 1599,
 ig 17 (.bin .eql A6 G0) 10 true 4095,
 i 18 (.pick s8 E5 (.c (.pv (.bool false)))) 8191,
 i 19 (mv I1) 16383,
 ig 20 (.b0 t2 7) 19 true 32767,
 ig 21 (.b0 N5 0) 19 true 65535,
 ig 22 (.load false 1 L7) 19 true 131071,
 ig 23 (.b0 t3 7) 19 true 32767,
 ig 24 (.b0 U3 0) 19 true 294911,
 ig 25 (.load false 1 W8) 19 true 819199,
 ig 26 (.bin .eql R2 W4) 19 true 2097151,
 i 27 (.pick J9 t26 (.c (.pv (.bool false)))) 4194303,
 i 28 (mv t27) 8388607,
 ig 29 (.b0 t2 7) 28 true 16777215,
 ig 30 (.b0 t29 1) 28 true 33554431,
 ig 31 (.load true 4 t30) 28 true 67108863,
 ig 32 (.b0 t3 7) 28 true 16777215,
 ig 33 (.b0 t32 1) 28 true 150994943,
 ig 34 (.load true 4 t33) 28 true 419430399,
 ig 35 (.eqs false [0,0,0,0] t31 t34) 28 true 1073741823,
 i 36 (.pick t28 t35 (.c (.pv (.bool false)))) 2147483647,
 i 37 (mv t36) 4294967295,
 ig 38 (.b0 t2 34) 37 true 8589934591,
 ig 39 (.b0 t38 0) 37 true 17179869183,
 ig 40 (.load false 1 t39) 37 true 34359738367,
 ig 41 (.b0 t3 34) 37 true 8589934591,
 ig 42 (.b0 t41 0) 37 true 77309411327,
 ig 43 (.load false 1 t42) 37 true 214748364799,
 ig 44 (.bin .eql t40 t43) 37 true 549755813887,
 i 45 (.pick t37 t44 (.c (.pv (.bool false)))) 1099511627775,
 i 46 (mv t45) 2199023255551,
 ig 47 (.b0 t2 40) 46 true 4398046511103,
 ig 48 (.load false 1 t47) 46 true 8796093022207,
 ig 49 (.b0 t3 40) 46 true 4398046511103,
 ig 50 (.load false 1 t49) 46 true 21990232555519,
 ig 51 (.bin .eql t48 t50) 46 true 70368744177663,
 i 52 (.pick t46 t51 (.c (.pv (.bool false)))) 140737488355327,
 i 53 (mv t52) 281474976710655,
 ig 54 (.b0 t2 41) 53 true 562949953421311,
 ig 55 (.load false 1 t54) 53 true 1125899906842623,
 ig 56 (.j2 t55) 53 true 2251799813685247,
 ig 57 (.b0 t3 41) 53 true 562949953421311,
 ig 58 (.load false 1 t57) 53 true 5066549580791807,
 ig 59 (.j2 t58) 53 true 14073748835532799,
 ig 60 (.bin .eql t56 t59) 53 true 36028797018963967,
 i 61 (.pick t53 t60 (.c (.pv (.bool false)))) 72057594037927935,
 i 62 (mv t61) 144115188075855871,
 ig 63 (.b0 t2 42) 62 true 288230376151711743,
 ig 64 (.load true 7 t63) 62 true 576460752303423487,
 ig 65 (.b0 t3 42) 62 true 288230376151711743,
 ig 66 (.load true 7 t65) 62 true 1441151880758558719,
 ig 67 (.eqs false [0,1,0,2,0,0,0] t64 t66) 62 true 4611686018427387903,
 i 68 (.pick t62 t67 (.c (.pv (.bool false)))) 9223372036854775807,
 i 69 (mv t68) 18446744073709551615,
 ig 70 (.b0 t2 49) 69 true 36893488147419103231,
 ig 71 (.load true 6 t70) 69 true 73786976294838206463,
 ig 72 (.b0 t3 49) 69 true 36893488147419103231,
 ig 73 (.load true 6 t72) 69 true 184467440737095516159,
 ig 74 (.eqs false [0,0,0,0,0,0] t71 t73) 69 true 590295810358705651711,
 i 75 (.pick t69 t74 (.c (.pv (.bool false)))) 1180591620717411303423,
 i 76 (mv t75) 2361183241434822606847,
 ig 77 (.b0 t2 55) 76 true 4722366482869645213695,
 ig 78 (.load false 1 t77) 76 true 9444732965739290427391,
 ig 79 (.b0 t3 55) 76 true 4722366482869645213695,
 ig 80 (.load false 1 t79) 76 true 23611832414348226068479,
 ig 81 (.bin .eql t78 t80) 76 true 75557863725914323419135,
 i 82 (.pick t76 t81 (.c (.pv (.bool false)))) 151115727451828646838271,
 i 83 (mv t82) 302231454903657293676543,
 ig 84 (.b0 t2 56) 83 true 604462909807314587353087,
 ig 85 (.load false 1 t84) 83 true 1208925819614629174706175,
 ig 86 (.b0 t3 56) 83 true 604462909807314587353087,
 ig 87 (.load false 1 t86) 83 true 3022314549036572936765439,
 ig 88 (.bin .eql t85 t87) 83 true 9671406556917033397649407,
 i 89 (.pick t83 t88 (.c (.pv (.bool false)))) 19342813113834066795298815,
 i 4 (mv t89) 38685626227668133590597631] false)
 .ret)⟩
def G5:n4:=⟨1,8,[.tmp 2],
 .seq (.b6 [i 2 (.mv (.c (.emp 7))) 0] false)
 (.seq (.seq (.b6 [i 3 (mv t0) 0,
 i 4 (.a9L false t3) 1] false)
 (.cond t4
 (.seq (.b6 [i 2 (.mv (.c (.emp 7))) 0] false)
 .ret)
 .skip))
 (.seq (.b6 [i 5 (.N6 7 0 z0 []) 0,
 i 6 (mv t0) 0,
 i 7 (.append 7 64 t5 t6) 3,
 i 2 (mv t7) 7] false)
 .ret))⟩
def P8:n4:=⟨2,26,[.tmp 4],
 .seq (.b6 [i 4 (.mv (.c (.pv (.bool false)))) 0] false)
 (.seq (.seq (.b6 [i 6 (mv t0) 0,
 i 7 (.j2 t6) 1,
 i 8 (mv t1) 0,
 i 9 (.j2 t8) 4,
 i 10 (.bin .neq t7 t9) 15] false)
 (.cond s8
 (.seq (.b6 [i 4 (.mv (.c (.pv (.bool false)))) 0] false)
 .ret)
 .skip))
 (.seq (.seq (.b6 [i 11 (mv t0) 0,
 i 12 (.j2 v7) 1,
 i 13 (.mv (.c (I 0))) 0] false)
 (.block 0
 (.loop [0,1,12,13]
 (.seq (.b6 [i 14 (.bin .lss A6 y9) 0] false)
 (.seq (.cond C7
 .skip
 (.exit 0))
 (.seq (.block 1
 (.seq (.b6 [i 15 (mv A6) 0,
 i 5 (mv G3) 1] false)
 (.seq (.b6 [i 16 (mv t0) 0,
 i 17 (mv t5) 0,
 i 18 (.j3 7 G0 E5) 3,
 i 19 (.load true 7 I1) 7,
 i 20 (mv t1) 0,
 i 21 (mv t5) 0,
 i 22 (.j3 7 N5 L7) 48,
 i 23 (.load true 7 R2) 112,
 i 24 (.eqs true [0,1,0,2,0,0,0] J9 U3) 255] true)
 (.cond W8
 (.seq (.b6 [i 4 (.mv (.c (.pv (.bool false)))) 0] false)
 .ret)
 .skip))))
 (.b6 [i 25 (.bin .add A6 (.c (I 1))) 0,
 i 13 (mv W4) 1] false)))))))
 (.seq (.b6 [i 4 (.mv (.c (.pv (.bool true)))) 0] false)
 .ret)))⟩
def b2K:n4:=⟨0,2,[.tmp 0],
 .seq (.b6 [i 0 (.mv (.c (.emp 1))) 0] false)
 (.seq (.b6 [i 1 (.N6 1 3 [.pv (.str [])] [(0,.c (.pv (.str [115,97,118,101]))),(1,.c (.pv (.str [114,101,115,116,111,114,101]))),(2,.c (.pv (.str [118,109,115,116,97,116,117,115])))]) 0,
 i 0 (mv t1) 1] false)
 .ret)⟩
def a8m:n4:=⟨0,2,[.tmp 0],
 .seq (.b6 [i 0 (.mv (.c (.emp 1))) 0] false)
 (.seq (.b6 [i 1 (.N6 1 3 [.pv (.str [])] [(0,.c (.pv (.str [115,97,118,101]))),(1,.c (.pv (.str [114,101,115,116,111,114,101]))),(2,.c (.pv (.str [118,109,115,116,97,116,117,115])))]) 0,
 i 0 (mv t1) 1] false)
 .ret)⟩
def W6:n4:=⟨1,63,[.cell 2 true 67],
 .seq (.b6 [i 1 (.box 3 t0) 0,
 i 2 (.alloc z1) 0] false)
 (.seq (.b6 [i 6 (.load true 3 t1) 0,
 i 7 (.call (.f H0) [t6]) 1,
 i 8 (.build z0 [(0,1,.c (I 9))]) 0,
 i 9 (.build z0 [(0,1,.c (I 9)),(4,1,.c (I 1))]) 0,
 i 10 (.N6 7 2 z0 [(0,t8),(1,t9)]) 12,
 i 11 (.build z1 [(2,1,t7),(1,1,s8),(66,1,.c (I 1))]) 31,
 i 3 (.alloc z1) 0,
 iz (.store 67 t3 v7) 127] false)
 (.seq (.seq (.b6 [i 4 (.mv (.c (I 0))) 0] false)
 (.block 0
 (.loop [1,2,3,4]
 (.seq (.seq (.b6 [i 12 (mv t4) 0,
 i 13 (.b0 t1 1) 0,
 i 14 (.load false 1 A6) 2,
 i 15 (.j2 C7) 6,
 i 16 (.bin .lss y9 G3) 15,
 i 17 (mv G0) 31,
 ig 18 (mv t4) 17 true 63,
 ig 19 (.bin .lss I1 (.c (I 20))) 17 true 127,
 i 20 (.pick E5 J9 (.c (.pv (.bool false)))) 255] false)
 (.cond N5
 .skip
 (.exit 0)))
 (.seq (.block 1
 (.b6 [i 23 (.b0 t3 0) 0,
 i 24 (.load false 1 U3) 1,
 i 25 (.b0 t1 1) 0,
 i 26 (.load false 1 W4) 4,
 i 27 (mv t4) 0,
 i 28 (.j3 5 t26 t27) 28,
 i 29 (.load true 5 t28) 60,
 i 30 (.b0 t3 2) 0,
 i 31 (.load false 1 t30) 128,
 i 32 (.call (.f e6) [t29,t31]) 508,
 i 33 (.N6 7 1 z0 [(0,t32)]) 1020,
 i 34 (.append 7 64 W8 t33) 2047,
 i 35 (.b0 t3 0) 4095,
 iz (.store 1 t35 t34) 8191] true))
 (.b6 [i 21 (mv t4) 0,
 i 22 (.bin .add L7 (.c (I 1))) 1,
 i 4 (mv R2) 3] false))))))
 (.seq (.seq (.b6 [i 5 (.mv (.c (I 0))) 0] false)
 (.block 2
 (.loop [1,2,3,5]
 (.seq (.seq (.b6 [i 36 (mv t5) 0,
 i 37 (.b0 t1 2) 0,
 i 38 (.load false 1 t37) 2,
 i 39 (.j2 t38) 6,
 i 40 (.bin .lss t36 t39) 15,
 i 41 (mv t40) 31,
 ig 42 (mv t5) 41 true 63,
 ig 43 (.bin .lss t42 (.c (I 4))) 41 true 127,
 i 44 (.pick t41 t43 (.c (.pv (.bool false)))) 255] false)
 (.cond t44
 .skip
 (.exit 2)))
 (.seq (.block 3
 (.b6 [i 47 (.b0 t3 1) 0,
 i 48 (.load false 1 t47) 1,
 i 49 (.b0 t3 2) 0,
 i 50 (.load false 1 t49) 4,
 i 51 (.b0 t1 2) 0,
 i 52 (.load false 1 t51) 16,
 i 53 (mv t5) 0,
 i 54 (.j3 1 t52 t53) 112,
 i 55 (.load false 1 t54) 240,
 i 56 (.conv .i64 t55) 496,
 i 57 (.call (.f K8) [t50,.c (I 3),t56]) 1020,
 i 58 (.build z0 [(0,1,.c (I 9)),(4,1,t57)]) 2044,
 i 59 (.N6 7 1 z0 [(0,t58)]) 4092,
 i 60 (.append 7 64 t48 t59) 8191,
 i 61 (.b0 t3 1) 16383,
 iz (.store 1 t61 t60) 32767] true))
 (.b6 [i 45 (mv t5) 0,
 i 46 (.bin .add t45 (.c (I 1))) 1,
 i 5 (mv t46) 3] false))))))
 (.seq (.b6 [i 62 (.load true 67 t3) 0,
 iz (.store 67 t2 t62) 1] false)
 .ret))))⟩
def H3:n4:=⟨0,2,[.tmp 0],
 .seq (.b6 [i 0 (.mv (.c (.emp 1))) 0] false)
 (.seq (.b6 [i 1 (.N6 1 5 [.pv (.str [])] [(0,.c (.pv (.str [70,111,110,116]))),(1,.c (.pv (.str [80,97,116,116,101,114,110]))),(2,.c (.pv (.str [69,110,99,111,100,105,110,103]))),(3,.c (.pv (.str [70,111,114,109]))),(4,.c (.pv (.str [71,101,110,101,114,105,99])))]) 0,
 i 0 (mv t1) 1] false)
 .ret)⟩
def a2W:n4:=⟨2,8,[.cell 4 true 67],
 .seq (.b6 [i 2 (.box 67 t0) 0,
 i 4 (.alloc z1) 0] false)
 (.seq (.b6 [i 5 (mv t1) 0,
 i 6 (.b0 t2 0) 1,
 iz (.store 1 t6 t5) 3] false)
 (.seq (.b6 [i 7 (.load true 67 t2) 0,
 iz (.store 67 t4 t7) 1] false)
 .ret))⟩
def a5G:n4:=⟨1,5,[.cell 2 true 7],
 .seq (.b6 [i 2 (.alloc z0) 0] false)
 (.seq (.b6 [i 3 (mv t0) 0,
 i 4 (.build z0 [(0,1,.c (I 5)),(3,1,t3)]) 1,
 iz (.store 7 t2 t4) 3] false)
 .ret)⟩
def a2t:n4:=⟨3,30,[.cell 6 true 7,.tmp 7],
 .seq (.b6 [i 3 (.box 67 t0) 0,
 i 5 (.box 7 t2) 0,
 i 6 (.alloc z0) 0,
 i 7 (.mv (.c (I 0))) 0] false)
 (.seq (.b6 [i 11 (.load true 67 t3) 0,
 i 12 (.build z1 [(0,67,v7)]) 1,
 i 8 (.alloc z1) 0,
 iz (.store 67 t8 y9) 7] false)
 (.seq (.b6 [i 14 (.load true 67 t8) 0,
 i 15 (mv t1) 0,
 i 16 (.build z0 [(0,1,.c (I 5)),(3,1,G3)]) 2,
 i 17 (.call (.f p7) [C7,G0]) 7,
 i 13 (mv E5) 15,
 i 18 (.extract A6 0) 31,
 i 19 (.extract A6 1) 31,
 i 9 (.alloc z0) 0,
 iz (.store 7 t9 I1) 191,
 i 10 (mv J9) 511] false)
 (.seq (.seq (.b6 [i 20 (mv s8) 0,
 i 21 (.bin .neq N5 (.c (I 0))) 1] false)
 (.cond L7
 (.seq (.b6 [i 22 (.build z0 []) 0,
 i 23 (mv s8) 0,
 iz (.store 7 t6 R2) 1,
 i 7 (mv U3) 7] false)
 .ret)
 .skip))
 (.seq (.b6 [i 24 (.load true 67 t8) 0,
 i 25 (.load true 7 t9) 0,
 i 26 (.load true 7 t5) 0,
 i 27 (.call (.f v5) [W8,W4,t26]) 7,
 i 28 (.extract t27 0) 15,
 i 29 (.extract t27 1) 15,
 iz (.store 7 t6 t28) 63,
 i 7 (mv t29) 127] false)
 .ret))))⟩
def a8r:n4:=⟨3,23,[.tmp 6],
 .seq (.b6 [i 3 (.box 67 t0) 0,
 i 6 (.mv (.c (.pv (.bool false)))) 0] false)
 (.seq (.b6 [i 10 (.load true 67 t3) 0,
 i 11 (mv t1) 0,
 i 12 (.call (.f Q7) [s8,v7]) 3,
 i 9 (mv y9) 7,
 i 13 (.extract t9 0) 15,
 i 14 (.extract t9 1) 15,
 i 7 (.alloc z1) 0,
 iz (.store 67 t7 A6) 95,
 i 8 (mv C7) 255] false)
 (.seq (.b6 [i 15 (mv t8) 0,
 i 16 (.bin .eql G3 (.c (I 0))) 1,
 i 17 (mv G0) 3,
 ig 18 (.b0 t7 0) 17 true 7,
 ig 19 (.load false 1 I1) 17 true 15,
 ig 20 (mv t2) 17 true 7,
 ig 21 (.call (.f A1) [J9,N5]) 17 true 63,
 i 22 (.pick E5 L7 (.c (.pv (.bool false)))) 127,
 i 6 (mv R2) 255] false)
 .ret))⟩
def a4p:n4:=⟨1,6,[.cell 2 true 7],
 .seq (.b6 [i 2 (.alloc z0) 0] false)
 (.seq (.seq (.b6 [i 3 (mv t0) 0] false)
 (.cond t3
 (.seq (.b6 [i 4 (.build z0 [(0,1,.c (I 2)),(2,1,.c (I 1))]) 0,
 iz (.store 7 t2 t4) 1] false)
 .ret)
 .skip))
 (.seq (.b6 [i 5 (.build z0 [(0,1,.c (I 2))]) 0,
 iz (.store 7 t2 t5) 1] false)
 .ret))⟩
def a1Y:n4:=⟨0,10,[.cell 0 true 67],
 .seq (.b6 [i 0 (.alloc z1) 0] false)
 (.seq (.b6 [i 1 (.call (.f u1) [.c (.emp 1)]) 0,
 i 2 (.build z2 [(0,1,.c (I 1)),(1,1,.c (.pv (.str [97,98,99])))]) 0,
 i 3 (.N6 7 1 z2 [(0,t2)]) 2,
 i 4 (.append 7 112 t1 t3) 7,
 i 5 (.build z0 [(0,1,.c (I 9))]) 0,
 i 6 (.build z0 [(0,1,.c (I 9)),(4,1,.c (I 1))]) 0,
 i 7 (.N6 7 2 z0 [(0,t5),(1,t6)]) 48,
 i 8 (.build z4 [(40,1,.c (I 1))]) 0,
 i 9 (.build z1 [(2,1,t4),(1,1,t7),(5,57,t8)]) 255,
 iz (.store 67 t0 t9) 511] false)
 .ret)⟩
def a6a:n4:=⟨2,17,[.tmp 4],
 .seq (.b6 [i 2 (.box 7 t0) 0,
 i 4 (.mv (.c (.pv (.bool false)))) 0] false)
 (.seq (.seq (.b6 [i 5 (.b0 t2 0) 0,
 i 6 (.load false 1 t5) 1] false)
 (.block 0
 (.seq (.seq (.b6 [i 8 (.bin .eql t6 (.c (I 6))) 0,
 i 7 (mv t8) 1] false)
 (.cond t7
 .skip
 (.seq (.b6 [i 9 (.bin .eql t6 (.c (I 7))) 0,
 i 7 (mv t9) 1] false)
 (.cond t7
 .skip
 (.seq (.b6 [i 10 (.bin .eql t6 (.c (I 8))) 0,
 i 7 (mv s8) 1] false)
 (.cond t7
 .skip
 (.seq (.b6 [i 11 (.bin .eql t6 (.c (I 9))) 0,
 i 7 (mv v7) 1] false)
 (.cond t7
 .skip
 (.b6 [i 12 (.bin .eql t6 (.c (I 11))) 0,
 i 7 (mv y9) 1] false)))))))))
 (.cond t7
 (.seq (.b6 [i 13 (.b0 t2 4) 0,
 i 14 (.load false 1 A6) 1,
 i 15 (mv t1) 0,
 i 16 (.bin .geq C7 G3) 7,
 i 4 (mv G0) 15] false)
 .ret)
 .skip))))
 (.seq (.b6 [i 4 (.mv (.c (.pv (.bool false)))) 0] false)
 .ret))⟩
def a6v:n4:=⟨3,34,[.cell 6 true 67,.tmp 7],
 .seq (.b6 [i 3 (.box 67 t0) 0,
 i 6 (.alloc z1) 0,
 i 7 (.mv (.c (I 0))) 0] false)
 (.seq (.seq (.b6 [i 9 (.b0 t3 0) 0,
 i 10 (.load false 1 t9) 1,
 i 11 (.j2 s8) 3,
 i 12 (mv t1) 0,
 i 13 (.bin .sub v7 y9) 15,
 i 14 (mv t2) 0,
 i 15 (.j2 C7) 32,
 i 16 (.bin .add A6 G3) 127,
 i 17 (.bin .gtr G0 (.c (I 100))) 255] false)
 (.cond E5
 (.seq (.b6 [i 18 (.load true 67 t3) 0,
 iz (.store 67 t6 I1) 1,
 i 7 (.mv (.c (I 21))) 3] false)
 .ret)
 .skip))
 (.seq (.b6 [i 8 (.mv (.c (.emp 7))) 0] false)
 (.seq (.b6 [i 19 (mv t8) 0,
 i 20 (.b0 t3 0) 0,
 i 21 (.load false 1 N5) 2,
 i 22 (.b0 t3 0) 0,
 i 23 (.load false 1 R2) 8,
 i 24 (.j2 U3) 24,
 i 25 (mv t1) 0,
 i 26 (.bin .sub W8 W4) 120,
 i 27 (.slice 7 L7 none (some t26) none) 254,
 i 28 (.append 7 64 J9 t27) 511,
 i 8 (mv t28) 1023] false)
 (.seq (.b6 [i 29 (mv t8) 0,
 i 30 (mv t2) 0,
 i 31 (.append 7 64 t29 t30) 3,
 i 32 (.b0 t3 0) 7,
 iz (.store 1 t32 t31) 15] false)
 (.seq (.b6 [i 33 (.load true 67 t3) 0,
 iz (.store 67 t6 t33) 1,
 i 7 (.mv (.c (I 0))) 3] false)
 .ret)))))⟩
def a8h:n4:=⟨2,18,[.tmp 4],
 .seq (.b6 [i 4 (.mv (.c (.pv (.bool false)))) 0] false)
 (.seq (.seq (.b6 [i 5 (.mv (.c (I 0))) 0] false)
 (.block 0
 (.loop [0,1,5]
 (.seq (.seq (.b6 [i 6 (mv t5) 0,
 i 7 (mv t0) 0,
 i 8 (.j2 t7) 2,
 i 9 (.bin .lss t6 t8) 7] false)
 (.cond t9
 .skip
 (.exit 0)))
 (.seq (.block 1
 (.seq (.b6 [i 12 (mv t0) 0,
 i 13 (mv t5) 0,
 i 14 (.j3 7 y9 A6) 3,
 i 15 (.load true 7 C7) 7,
 i 16 (mv t1) 0,
 i 17 (.call (.f a1Q) [G3,G0]) 31] false)
 (.cond E5
 (.seq (.b6 [i 4 (.mv (.c (.pv (.bool true)))) 0] false)
 .ret)
 .skip)))
 (.b6 [i 10 (mv t5) 0,
 i 11 (.bin .add s8 (.c (I 1))) 1,
 i 5 (mv v7) 3] false))))))
 (.seq (.b6 [i 4 (.mv (.c (.pv (.bool false)))) 0] false)
 .ret))⟩
def b1m:n4:=⟨1,5,[.cell 2 true 7],
 .seq (.b6 [i 2 (.alloc z0) 0] false)
 (.seq (.b6 [i 3 (mv t0) 0,
 i 4 (.build z0 [(0,1,.c (I 3)),(2,1,t3)]) 1,
 iz (.store 7 t2 t4) 3] false)
 .ret)⟩
def a4W:n4:=⟨4,40,[.tmp 8],
 .seq (.b6 [i 5 (.box 7 t1) 0,
 i 8 (.mv (.c (.emp 7))) 0] false)
 (.seq (.b6 [i 11 (mv t0) 0,
 i 12 (.b0 t5 4) 0,
 i 13 (.load false 1 y9) 2,
 i 14 (.j3 7 v7 A6) 7,
 i 15 (.load true 7 C7) 15,
 i 9 (.alloc z2) 0,
 iz (.store 7 t9 G3) 63] false)
 (.seq (.b6 [i 16 (.b0 t5 5) 0,
 i 17 (.load false 1 G0) 1,
 i 18 (mv t2) 0,
 i 19 (.bin .add E5 I1) 7,
 i 10 (mv J9) 15] false)
 (.seq (.b6 [i 20 (.b0 t9 1) 0,
 i 21 (.load false 1 N5) 1,
 i 22 (mv s8) 0,
 i 23 (.a2s L7 none (some R2)) 7,
 i 24 (mv t3) 0,
 i 25 (.bin .add U3 W8) 31,
 i 26 (.b0 t9 1) 0,
 i 27 (.load false 1 t26) 64,
 i 28 (mv s8) 0,
 i 29 (mv t3) 0,
 i 30 (.I2 t29) 512,
 i 31 (.bin .add t28 t30) 1792,
 i 32 (.a2s t27 (some t31) none) 4032,
 i 33 (.bin .add W4 t32) 8191,
 i 34 (.b0 t9 1) 16383,
 iz (.store 1 t34 t33) 32767] true)
 (.seq (.b6 [i 35 (mv t0) 0,
 i 36 (.b0 t5 4) 0,
 i 37 (.load false 1 t36) 2,
 i 38 (.load true 7 t9) 0,
 i 39 (.call (.f J5) [t35,t37,t38]) 15,
 i 8 (mv t39) 31] false)
 .ret))))⟩
def a4X:n4:=⟨4,61,[.tmp 8],
 .seq (.b6 [i 5 (.box 7 t1) 0,
 i 8 (.mv (.c (.emp 7))) 0] false)
 (.seq (.b6 [i 13 (mv t0) 0,
 i 14 (.b0 t5 4) 0,
 i 15 (.load false 1 C7) 2,
 i 16 (.j3 7 A6 G3) 7,
 i 17 (.load true 7 G0) 15,
 i 9 (.alloc z2) 0,
 iz (.store 7 t9 E5) 63] false)
 (.seq (.b6 [i 10 (.mv (.c (.emp 7))) 0] false)
 (.seq (.seq (.b6 [i 11 (.mv (.c (I 0))) 0] false)
 (.block 0
 (.loop [0,2,3,5,9,10,11]
 (.seq (.seq (.b6 [i 18 (mv v7) 0,
 i 19 (.b0 t9 2) 0,
 i 20 (.load false 1 J9) 2,
 i 21 (.j2 N5) 6,
 i 22 (.bin .lss I1 L7) 15] false)
 (.cond R2
 .skip
 (.exit 0)))
 (.seq (.block 1
 (.seq (.b6 [i 25 (mv v7) 0,
 i 26 (.b0 t5 5) 0,
 i 27 (.load false 1 t26) 2,
 i 28 (.bin .sub W4 t27) 7,
 i 29 (mv t2) 0,
 i 30 (.bin .sub t28 t29) 31,
 i 12 (mv t30) 63] false)
 (.seq (.b6 [i 31 (mv y9) 0,
 i 32 (.bin .geq t31 (.c (I 0))) 1,
 i 33 (mv t32) 3,
 ig 34 (mv y9) 33 true 7,
 ig 35 (mv t3) 33 true 7,
 ig 36 (.j2 t35) 33 true 23,
 ig 37 (.bin .lss t34 t36) 33 true 63,
 i 38 (.pick t33 t37 (.c (.pv (.bool false)))) 127] false)
 (.cond t38
 (.b6 [i 39 (mv s8) 0,
 i 40 (mv t3) 0,
 i 41 (mv y9) 0,
 i 42 (.j3 7 t40 t41) 6,
 i 43 (.load true 7 t42) 14,
 i 44 (.N6 7 1 z0 [(0,t43)]) 30,
 i 45 (.append 7 64 t39 t44) 63,
 i 10 (mv t45) 127] false)
 (.b6 [i 46 (mv s8) 0,
 i 47 (.b0 t9 2) 0,
 i 48 (.load false 1 t47) 2,
 i 49 (mv v7) 0,
 i 50 (.j3 7 t48 t49) 14,
 i 51 (.load true 7 t50) 30,
 i 52 (.N6 7 1 z0 [(0,t51)]) 62,
 i 53 (.append 7 64 t46 t52) 127,
 i 10 (mv t53) 255] false)))))
 (.b6 [i 23 (mv v7) 0,
 i 24 (.bin .add U3 (.c (I 1))) 1,
 i 11 (mv W8) 3] false))))))
 (.seq (.b6 [i 54 (mv s8) 0,
 i 55 (.b0 t9 2) 1,
 iz (.store 1 t55 t54) 3] false)
 (.seq (.b6 [i 56 (mv t0) 0,
 i 57 (.b0 t5 4) 0,
 i 58 (.load false 1 t57) 2,
 i 59 (.load true 7 t9) 0,
 i 60 (.call (.f J5) [t56,t58,t59]) 15,
 i 8 (mv t60) 31] false)
 .ret)))))⟩
def a8j:n4:=⟨4,75,[.tmp 8,.tmp 9],
 .seq (.b6 [i 5 (.box 7 t1) 0,
 i 6 (.box 7 t2) 0,
 i 7 (.box 7 t3) 0,
 i 8 (.mv (.c (.emp 7))) 0,
 i 9 (.mv (.c (.pv (.bool false)))) 8] false)
 (.seq (.b6 [i 15 (mv t0) 0,
 i 16 (.b0 t5 4) 0,
 i 17 (.load false 1 G0) 2,
 i 18 (.j3 7 G3 E5) 7,
 i 19 (.load true 7 I1) 15,
 i 10 (.alloc z2) 0,
 iz (.store 7 s8 J9) 63] false)
 (.seq (.b6 [i 20 (.b0 s8 3) 0,
 i 21 (.load false 1 N5) 1,
 i 22 (.load true 7 t6) 0,
 i 23 (.call (.f a1N) [L7,R2]) 7,
 i 11 (mv U3) 15] false)
 (.seq (.seq (.b6 [i 24 (mv v7) 0,
 i 25 (.bin .lss W8 (.c (I 0))) 1,
 i 26 (mv W4) 3,
 ig 27 (mv v7) 26 false 7,
 ig 28 (.b0 s8 4) 26 false 7,
 ig 29 (.load false 1 t28) 26 false 23,
 ig 30 (.j2 t29) 26 false 55,
 ig 31 (.bin .geq t27 t30) 26 false 127,
 i 32 (.pick t26 (.c (.pv (.bool true))) t31) 255] false)
 (.cond t32
 (.seq (.seq (.b6 [i 33 (.b0 s8 3) 0,
 i 34 (.load false 1 t33) 1,
 i 35 (.j2 t34) 3,
 i 36 (.b0 s8 5) 0,
 i 37 (.load false 1 t36) 8,
 i 38 (.bin .geq t35 t37) 31] false)
 (.cond t38
 (.seq (.b6 [i 8 (.mv (.c (.emp 7))) 0,
 i 9 (.mv (.c (.pv (.bool false)))) 1] false)
 .ret)
 .skip))
 (.seq (.b6 [i 12 (.mv (.c (.emp 7))) 0,
 i 13 (.mv (.c (.emp 7))) 1] false)
 (.seq (.b6 [i 39 (mv y9) 0,
 i 40 (.b0 s8 3) 0,
 i 41 (.load false 1 t40) 2,
 i 42 (.append 7 64 t39 t41) 7,
 i 43 (.load true 7 t6) 0,
 i 44 (.N6 7 1 z0 [(0,t43)]) 16,
 i 45 (.append 7 64 t42 t44) 63,
 i 46 (.b0 s8 3) 127,
 iz (.store 1 t46 t45) 255] true)
 (.seq (.b6 [i 47 (mv A6) 0,
 i 48 (.b0 s8 4) 0,
 i 49 (.load false 1 t48) 2,
 i 50 (.append 7 64 t47 t49) 7,
 i 51 (.load true 7 t7) 0,
 i 52 (.N6 7 1 z0 [(0,t51)]) 16,
 i 53 (.append 7 64 t50 t52) 63,
 i 54 (.b0 s8 4) 127,
 iz (.store 1 t54 t53) 255] true)
 (.seq (.b6 [i 55 (mv t0) 0,
 i 56 (.b0 t5 4) 0,
 i 57 (.load false 1 t56) 2,
 i 58 (.load true 7 s8) 0,
 i 59 (.call (.f J5) [t55,t57,t58]) 15,
 i 8 (mv t59) 31,
 i 9 (.mv (.c (.pv (.bool true)))) 63] false)
 .ret)))))
 .skip))
 (.seq (.b6 [i 14 (.mv (.c (.emp 7))) 0] false)
 (.seq (.b6 [i 60 (mv C7) 0,
 i 61 (.b0 s8 4) 0,
 i 62 (.load false 1 t61) 2,
 i 63 (.append 7 64 t60 t62) 7,
 i 14 (mv t63) 15] false)
 (.seq (.b6 [i 64 (mv C7) 0,
 i 65 (mv v7) 0,
 i 66 (.load true 7 t7) 0,
 i 67 (.j3 7 t64 t65) 7,
 iz (.store 7 t67 t66) 15] false)
 (.seq (.b6 [i 68 (mv C7) 0,
 i 69 (.b0 s8 4) 1,
 iz (.store 1 t69 t68) 3] false)
 (.seq (.b6 [i 70 (mv t0) 0,
 i 71 (.b0 t5 4) 0,
 i 72 (.load false 1 t71) 2,
 i 73 (.load true 7 s8) 0,
 i 74 (.call (.f J5) [t70,t72,t73]) 15,
 i 8 (mv t74) 31,
 i 9 (.mv (.c (.pv (.bool true)))) 63] false)
 .ret))))))))⟩
def a9Q:n4:=⟨4,76,[.cell 8 true 7],
 .seq (.b6 [i 7 (.box 5 t3) 0,
 i 8 (.alloc z0) 0] false)
 (.seq (.b6 [i 11 (mv t0) 0,
 i 12 (mv t2) 0,
 i 13 (.b0 t7 1) 0,
 i 14 (.load false 1 A6) 4,
 i 15 (.conv .i64 C7) 12,
 i 16 (.call (.f K8) [v7,y9,G3]) 31,
 i 9 (mv G0) 63] false)
 (.seq (.seq (.b6 [i 17 (mv t9) 0,
 i 18 (.bin .lss E5 (.c (I 0))) 1] false)
 (.cond I1
 (.seq (.b6 [i 19 (.b0 t7 1) 0,
 i 20 (.load false 1 J9) 1,
 i 21 (.conv .i64 N5) 3,
 i 22 (.build z0 [(0,1,.c (I 3)),(2,1,L7)]) 7,
 iz (.store 7 t8 R2) 15] false)
 .ret)
 .skip))
 (.seq (.b6 [i 23 (mv t1) 0,
 i 24 (.b0 t7 3) 0,
 i 25 (.load false 1 W8) 2,
 i 26 (.bin .rem W4 (.c (.pv (.int .i32 (5))))) 6,
 i 27 (.bin .eql t26 (.c (.pv (.int .i32 (3))))) 14,
 i 28 (mv t9) 0,
 i 29 (.build z0 [(0,1,U3),(1,1,t27),(4,1,t28)]) 63,
 i 10 (.alloc z0) 0,
 iz (.store 7 s8 t29) 255] false)
 (.seq (.seq (.b6 [i 30 (mv t2) 0,
 i 31 (.bin .eql t30 (.c (I 3))) 1,
 i 32 (mv t31) 3,
 ig 33 (mv t2) 32 false 7,
 ig 34 (.bin .eql t33 (.c (I 4))) 32 false 15,
 i 35 (.pick t32 (.c (.pv (.bool true))) t34) 31] false)
 (.cond t35
 (.seq (.b6 [i 36 (.load true 7 s8) 0,
 iz (.store 7 t8 t36) 1] false)
 .ret)
 .skip))
 (.seq (.b6 [i 37 (mv t0) 0,
 i 38 (mv t9) 0,
 i 39 (.j3 7 t37 t38) 3,
 i 40 (.b0 t39 1) 7,
 i 41 (.load false 1 t40) 15,
 i 42 (.I2 t41) 31,
 i 43 (mv t0) 0,
 i 44 (mv t9) 0,
 i 45 (.j3 7 t43 t44) 192,
 i 46 (.b0 t45 2) 448,
 i 47 (.load false 1 t46) 960,
 i 48 (.j2 t47) 1984,
 i 49 (.bin .add t42 t48) 4095,
 i 50 (.b0 s8 6) 8191,
 iz (.store 1 t50 t49) 16383] true)
 (.seq (.seq (.b6 [i 51 (.b0 t7 2) 0,
 i 52 (.load false 1 t51) 1,
 i 53 (.bin .rem t52 (.c (.pv (.int .u8 (3))))) 3,
 i 54 (.bin .eql t53 (.c (.pv (.int .u8 (2))))) 7] false)
 (.cond t54
 (.seq (.b6 [i 55 (.b0 t7 2) 0,
 i 56 (.load false 1 t55) 1,
 i 57 (.conv .i64 t56) 3,
 i 58 (.b0 s8 6) 0,
 i 59 (.load false 1 t58) 8,
 i 60 (.bin .add t59 (.c (I 1))) 24,
 i 61 (.bin .rem t57 t60) 63,
 i 62 (.b0 s8 5) 127,
 iz (.store 1 t62 t61) 255] false)
 (.b6 [i 63 (.b0 t7 2) 0,
 i 64 (.load false 1 t63) 1,
 i 65 (.conv .i64 t64) 3,
 i 66 (.bin .quo t65 (.c (I 3))) 7,
 i 67 (.b0 s8 6) 0,
 i 68 (.load false 1 t67) 16,
 i 69 (.b0 s8 5) 0,
 i 70 (.load false 1 t69) 64,
 i 71 (.bin .sub t68 t70) 240,
 i 72 (.bin .add t71 (.c (I 1))) 496,
 i 73 (.bin .rem t66 t72) 1023,
 i 74 (.b0 s8 6) 2047,
 iz (.store 1 t74 t73) 4095] false))
 .skip))
 (.seq (.b6 [i 75 (.load true 7 s8) 0,
 iz (.store 7 t8 t75) 1] false)
 .ret)))))))⟩
def Z9:n4:=⟨1,76,[.cell 2 true 67,.tmp 3],
 .seq (.b6 [i 1 (.box 67 t0) 0,
 i 2 (.alloc z1) 0,
 i 3 (.mv (.c (I 0))) 0] false)
 (.seq (.seq (.b6 [i 6 (.b0 t1 0) 0,
 i 7 (.b0 t6 3) 1,
 i 8 (.load false 1 t7) 3,
 i 9 (.j2 t8) 7,
 i 10 (.bin .geq t9 (.c (I 10))) 15,
 i 11 (mv s8) 31,
 ig 12 (.b0 t1 0) 11 false 63,
 ig 13 (.b0 y9 62) 11 false 127,
 ig 14 (.load false 1 A6) 11 false 255,
 ig 15 (.j2 C7) 11 false 511,
 ig 16 (.bin .geq G3 (.c (I 20))) 11 false 1023,
 i 17 (.pick v7 (.c (.pv (.bool true))) G0) 2047] false)
 (.cond E5
 (.seq (.b6 [i 18 (.b0 t1 0) 0,
 i 19 (.load true 67 I1) 1,
 iz (.store 67 t2 J9) 3,
 i 3 (.mv (.c (I 26))) 7] false)
 .ret)
 .skip))
 (.seq (.b6 [i 21 (.b0 t1 0) 0,
 i 22 (.load true 67 L7) 1,
 i 23 (.b0 t1 0) 0,
 i 24 (.b0 U3 4) 4,
 i 25 (.load false 1 W8) 12,
 i 26 (.bin .add W4 (.c (I 1))) 28,
 i 27 (.build z0 [(0,1,.c (I 12)),(2,1,t26)]) 60,
 i 28 (.N6 7 1 z0 [(0,t27)]) 124,
 i 29 (.call (.f D1) [R2,t28]) 255,
 i 20 (mv t29) 511,
 i 30 (.extract N5 0) 1023,
 i 31 (.extract N5 1) 1023,
 i 4 (.alloc z1) 0,
 iz (.store 67 t4 t30) 6143,
 i 5 (mv t31) 16383] false)
 (.seq (.seq (.b6 [i 32 (mv t5) 0,
 i 33 (.bin .neq t32 (.c (I 0))) 1] false)
 (.cond t33
 (.seq (.b6 [i 34 (.b0 t1 0) 0,
 i 35 (.load true 67 t34) 1,
 i 36 (mv t5) 0,
 iz (.store 67 t2 t35) 3,
 i 3 (mv t36) 15] false)
 .ret)
 .skip))
 (.seq (.b6 [i 37 (.b0 t4 4) 0,
 i 38 (.load false 1 t37) 1,
 i 39 (.bin .add t38 (.c (I 1))) 3,
 i 40 (.b0 t4 4) 7,
 iz (.store 1 t40 t39) 15] false)
 (.seq (.b6 [i 41 (.b0 t4 3) 0,
 i 42 (.load false 1 t41) 1,
 i 43 (.b0 t4 3) 0,
 i 44 (.load false 1 t43) 4,
 i 45 (.j2 t44) 12,
 i 46 (.b0 t4 3) 0,
 i 47 (.load false 1 t46) 32,
 i 48 (.j2 t47) 96,
 i 49 (.slice 3 t42 none (some t45) (some t48)) 255,
 i 50 (.b0 t4 4) 0,
 i 51 (.load false 1 t50) 512,
 i 52 (.b0 t4 2) 0,
 i 53 (.load false 1 t52) 2048,
 i 54 (.b0 t4 62) 0,
 i 55 (.load false 1 t54) 8192,
 i 56 (.j2 t55) 24576,
 i 57 (.build [I 0,.emp 7,I 0] [(0,1,t51),(1,1,t53),(2,1,t56)]) 65024,
 i 58 (.N6 3 1 [I 0,.emp 7,I 0] [(0,t57)]) 130560,
 i 59 (.append 3 40 t49 t58) 262143,
 i 60 (.b0 t4 3) 524287,
 iz (.store 1 t60 t59) 1048575] true)
 (.seq (.b6 [i 61 (.b0 t4 62) 0,
 i 62 (.load false 1 t61) 1,
 i 63 (.b0 t4 62) 0,
 i 64 (.load false 1 t63) 4,
 i 65 (.j2 t64) 12,
 i 66 (.b0 t4 62) 0,
 i 67 (.load false 1 t66) 32,
 i 68 (.j2 t67) 96,
 i 69 (.slice 57 t62 none (some t65) (some t68)) 255,
 i 70 (.b0 t4 5) 0,
 i 71 (.load true 57 t70) 512,
 i 72 (.N6 57 1 z4 [(0,t71)]) 1536,
 i 73 (.append 57 520 t69 t72) 4095,
 i 74 (.b0 t4 62) 8191,
 iz (.store 1 t74 t73) 16383] true)
 (.seq (.b6 [i 75 (.load true 67 t4) 0,
 iz (.store 67 t2 t75) 1,
 i 3 (.mv (.c (I 0))) 3] false)
 .ret)))))))⟩
def R8:n4:=⟨1,104,[.cell 2 true 67,.tmp 3],
 .seq (.b6 [i 1 (.box 67 t0) 0,
 i 2 (.alloc z1) 0,
 i 3 (.mv (.c (I 0))) 0] false)
 (.seq (.b6 [i 11 (.b0 t1 0) 0,
 i 12 (.load true 67 v7) 1,
 i 13 (.call (.f O1) [y9,.c (I 1)]) 3,
 i 10 (mv A6) 7,
 i 14 (.extract s8 0) 15,
 i 15 (.extract s8 1) 15,
 i 4 (mv C7) 31,
 i 5 (mv G3) 127] false)
 (.seq (.seq (.b6 [i 16 (mv t5) 0,
 i 17 (.bin .neq G0 (.c (I 0))) 1] false)
 (.cond E5
 (.seq (.b6 [i 18 (.b0 t1 0) 0,
 i 19 (.load true 67 I1) 1,
 i 20 (mv t5) 0,
 iz (.store 67 t2 J9) 3,
 i 3 (mv N5) 15] false)
 .ret)
 .skip))
 (.seq (.seq (.b6 [i 21 (mv t4) 0,
 i 22 (.j3 7 L7 (.c (I 0))) 1,
 i 23 (.b0 R2 0) 3,
 i 24 (.load false 1 U3) 7,
 i 25 (.bin .neq W8 (.c (I 12))) 15] false)
 (.cond W4
 (.seq (.b6 [i 26 (.b0 t1 0) 0,
 i 27 (.load true 67 t26) 1,
 iz (.store 67 t2 t27) 3,
 i 3 (.mv (.c (I 22))) 7] false)
 .ret)
 .skip))
 (.seq (.b6 [i 28 (.load true 67 t1) 0,
 i 29 (mv t4) 0,
 i 30 (.j3 7 t29 (.c (I 0))) 2,
 i 31 (.b0 t30 2) 6,
 i 32 (.load false 1 t31) 14,
 i 33 (.call (.f C3) [t28,t32]) 31,
 i 6 (mv t33) 63] true)
 (.seq (.seq (.b6 [i 34 (mv t6) 0,
 i 35 (.bin .lss t34 (.c (I 0))) 1] false)
 (.cond t35
 (.seq (.b6 [i 36 (.b0 t1 0) 0,
 i 37 (.load true 67 t36) 1,
 iz (.store 67 t2 t37) 3,
 i 3 (.mv (.c (I 34))) 7] false)
 .ret)
 .skip))
 (.seq (.b6 [i 38 (.b0 t1 0) 0,
 i 39 (.b0 t38 3) 1,
 i 40 (.load false 1 t39) 3,
 i 41 (mv t6) 0,
 i 42 (.j3 3 t40 t41) 15,
 i 43 (.load true 3 t42) 31,
 i 7 (.alloc [I 0,.emp 7,I 0]) 0,
 iz (.store 3 t7 t43) 127] false)
 (.seq (.b6 [i 44 (.mkf (.func m8) [] [t7]) 0,
 i 8 (mv t44) 1] false)
 (.seq (.b6 [i 46 (.b0 t1 0) 0,
 i 47 (.load true 67 t46) 1,
 i 48 (.call (.f P0) [t47,.c (I 1)]) 3,
 i 45 (mv t48) 7,
 i 49 (.extract t45 0) 15,
 i 50 (.extract t45 1) 15,
 i 9 (.alloc z1) 0,
 iz (.store 67 t9 t49) 95,
 i 5 (mv t50) 255] false)
 (.seq (.seq (.b6 [i 51 (mv t5) 0,
 i 52 (.bin .neq t51 (.c (I 0))) 1] false)
 (.cond t52
 (.seq (.b6 [i 53 (.b0 t1 0) 0,
 i 54 (.load true 67 t53) 1,
 i 55 (mv t5) 0,
 iz (.store 67 t2 t54) 3,
 i 3 (mv t55) 15] false)
 .ret)
 .skip))
 (.seq (.seq (.b6 [i 56 (.b0 t9 0) 0,
 i 57 (.load false 1 t56) 1,
 i 58 (mv t8) 0,
 i 59 (.call (.f J0) [t57,t58]) 7,
 i 60 (mv t59) 15,
 ig 61 (.b0 t9 1) 60 false 31,
 ig 62 (.load false 1 t61) 60 false 63,
 ig 63 (mv t8) 60 false 31,
 ig 64 (.call (.f J0) [t62,t63]) 60 false 255,
 i 65 (.pick t60 (.c (.pv (.bool true))) t64) 511] false)
 (.cond t65
 (.seq (.b6 [i 66 (.b0 t1 0) 0,
 i 67 (.load true 67 t66) 1,
 iz (.store 67 t2 t67) 3,
 i 3 (.mv (.c (I 34))) 7] false)
 .ret)
 .skip))
 (.seq (.b6 [i 68 (.b0 t7 1) 0,
 i 69 (.load false 1 t68) 1,
 i 70 (.b0 t9 3) 0,
 i 71 (.load false 1 t70) 4,
 i 72 (mv t6) 0,
 i 73 (mv t6) 0,
 i 74 (.slice 3 t71 none (some t72) (some t73)) 60,
 i 75 (.b0 t9 2) 15,
 iz (.store 1 t75 t69) 143,
 i 76 (.b0 t9 3) 511,
 iz (.store 1 t76 t74) 1023] true)
 (.seq (.seq (.b6 [i 77 (.b0 t7 2) 0,
 i 78 (.load false 1 t77) 1,
 i 79 (.bin .geq t78 (.c (I 0))) 3,
 i 80 (mv t79) 7,
 ig 81 (.b0 t7 2) 80 true 15,
 ig 82 (.load false 1 t81) 80 true 31,
 ig 83 (.b0 t9 62) 80 true 15,
 ig 84 (.load false 1 t83) 80 true 79,
 ig 85 (.j2 t84) 80 true 207,
 ig 86 (.bin .lss t82 t85) 80 true 511,
 i 87 (.pick t80 t86 (.c (.pv (.bool false)))) 1023] false)
 (.cond t87
 (.b6 [i 88 (.b0 t9 62) 0,
 i 89 (.load false 1 t88) 1,
 i 90 (.b0 t7 2) 0,
 i 91 (.load false 1 t90) 4,
 i 92 (.j3 57 t89 t91) 15,
 i 93 (.load true 57 t92) 31,
 i 94 (.b0 t9 62) 0,
 i 95 (.load false 1 t94) 64,
 i 96 (.b0 t7 2) 0,
 i 97 (.load false 1 t96) 256,
 i 98 (.b0 t7 2) 0,
 i 99 (.load false 1 t98) 1024,
 i 100 (.slice 57 t95 none (some t97) (some t99)) 4032,
 i 101 (.b0 t9 5) 255,
 iz (.store 57 b8F t93) 8447,
 i 102 (.b0 t9 62) 32767,
 iz (.store 1 b8E b7Z) 65535] true)
 .skip))
 (.seq (.b6 [i 103 (.load true 67 t9) 0,
 iz (.store 67 t2 b8G) 1,
 i 3 (.mv (.c (I 0))) 3] false)
 .ret)))))))))))))⟩
def O2:n4:=⟨1,31,[.cell 2 true 67,.tmp 3],
 .seq (.b6 [i 1 (.box 67 t0) 0,
 i 2 (.alloc z1) 0,
 i 3 (.mv (.c (I 0))) 0] false)
 (.seq (.b6 [i 4 (.mv (.c (.emp 7))) 0] false)
 (.seq (.seq (.b6 [i 7 (.b0 t1 0) 0,
 i 8 (.b0 t7 3) 1,
 i 9 (.load false 1 t8) 3,
 i 10 (.j2 t9) 7,
 i 11 (.b0 t1 0) 0,
 i 12 (.b0 v7 2) 16,
 i 13 (.load false 1 y9) 48,
 i 14 (.call (.f F6) [A6]) 112,
 i 15 (.build [I 0,I 0,I 0] [(0,1,s8),(1,1,C7),(2,1,.c (I 20000))]) 255,
 i 16 (.mv (.c (I 0))) 0] true)
 (.block 0
 (.loop [1,2,4,15,16]
 (.seq (.b6 [i 17 (.bin .lss G0 (.c (I 3))) 0] false)
 (.seq (.cond E5
 .skip
 (.exit 0))
 (.seq (.block 1
 (.seq (.b6 [i 18 (.index false 3 1 G3 G0) 0,
 i 6 (mv I1) 1] false)
 (.b6 [i 19 (mv t4) 0,
 i 20 (mv t6) 0,
 i 21 (.build z0 [(0,1,.c (I 3)),(2,1,N5)]) 2,
 i 22 (.N6 7 1 z0 [(0,L7)]) 6,
 i 23 (.append 7 64 J9 R2) 15,
 i 4 (mv U3) 31] false)))
 (.b6 [i 24 (.bin .add G0 (.c (I 1))) 0,
 i 16 (mv W8) 1] false)))))))
 (.seq (.b6 [i 25 (.b0 t1 0) 0,
 i 26 (.load true 67 W4) 1,
 i 27 (mv t4) 0,
 i 28 (.call (.f D1) [t26,t27]) 7,
 i 29 (.extract t28 0) 15,
 i 30 (.extract t28 1) 15,
 iz (.store 67 t2 t29) 63,
 i 3 (mv t30) 127] false)
 .ret)))⟩
def U9:n4:=⟨2,26,[.tmp 4],
 .seq (.b6 [i 4 (.mv (.c (.pv (.bool false)))) 0] false)
 (.seq (.seq (.b6 [i 6 (mv t0) 0,
 i 7 (.j2 t6) 1,
 i 8 (mv t1) 0,
 i 9 (.j2 t8) 4,
 i 10 (.bin .neq t7 t9) 15] false)
 (.cond s8
 (.seq (.b6 [i 4 (.mv (.c (.pv (.bool false)))) 0] false)
 .ret)
 .skip))
 (.seq (.seq (.b6 [i 5 (.mv (.c (I 0))) 0] false)
 (.block 0
 (.loop [0,1,5]
 (.seq (.seq (.b6 [i 11 (mv t5) 0,
 i 12 (mv t0) 0,
 i 13 (.j2 y9) 2,
 i 14 (.bin .lss v7 A6) 7] false)
 (.cond C7
 .skip
 (.exit 0)))
 (.seq (.block 1
 (.seq (.b6 [i 17 (mv t0) 0,
 i 18 (mv t5) 0,
 i 19 (.j3 7 E5 I1) 3,
 i 20 (.load true 7 J9) 7,
 i 21 (mv t1) 0,
 i 22 (mv t5) 0,
 i 23 (.j3 7 L7 R2) 48,
 i 24 (.load true 7 U3) 112,
 i 25 (.eqs true [0,1,0,2,0,0,0] N5 W8) 255] true)
 (.cond W4
 (.seq (.b6 [i 4 (.mv (.c (.pv (.bool false)))) 0] false)
 .ret)
 .skip)))
 (.b6 [i 15 (mv t5) 0,
 i 16 (.bin .add G3 (.c (I 1))) 1,
 i 5 (mv G0) 3] false))))))
 (.seq (.b6 [i 4 (.mv (.c (.pv (.bool true)))) 0] false)
 .ret)))⟩
def a0n:n4:=⟨2,18,[.tmp 4],
 .seq (.b6 [i 2 (.box 67 t0) 0,
 i 3 (.box 1 t1) 0,
 i 4 (.mv (.c (I 0))) 0] false)
 (.scope
 (.seq (.b6 [i 5 (.alloc [I 0]) 0,
 iz (.store 1 t5 (.c (I (-1)))) 1] false)
 (.seq .skip
 (.seq (.seq (.b6 [i 8 (.load true 67 t2) 0,
 i 9 (.call (.f F0) [t8]) 1] false)
 (.block 0
 (.rng t9 [10,11]
 (.seq (.b6 [i 6 (mv s8) 0] false)
 (.b6 [i 7 (.alloc [I 0,.emp 7,I 0]) 0,
 iz (.store 3 t7 v7) 1] false))
 (.block 1
 (.seq (.b6 [i 12 (.b0 t7 0) 0,
 i 13 (.load false 1 y9) 1,
 i 14 (.load false 1 t3) 0,
 i 15 (.bin .eql A6 C7) 7] false)
 (.cond G3
 (.seq (.b6 [i 16 (mv t6) 0,
 iz (.store 1 t5 G0) 1] false)
 (.exit 0))
 .skip))))))
 (.seq (.b6 [i 17 (.load false 1 t5) 0,
 i 4 (mv E5) 1] false)
 .ret)))))⟩
def a3p:n4:=⟨0,13,[.tmp 0],
 .seq (.b6 [i 0 (.mv (.c (.emp 7))) 0] false)
 (.seq (.b6 [i 1 (.build z2 [(0,1,.c (I 1)),(1,1,.c (.pv (.str [97,98,99,100,101,102])))]) 0,
 i 2 (.build z0 [(0,1,.c (I 3)),(2,1,.c (I 1))]) 0,
 i 3 (.build z0 [(0,1,.c (I 6)),(5,1,.c (I 2)),(6,1,.c (I 2))]) 0,
 i 4 (.build z0 []) 0,
 i 5 (.N6 7 3 z0 [(0,t2),(1,t3),(2,t4)]) 14,
 i 6 (.build z2 [(0,1,.c (I 2)),(2,1,t5)]) 30,
 i 7 (.build z0 [(0,1,.c (I 5)),(3,1,.c (.pv (.str [97])))]) 0,
 i 8 (.N6 7 1 z0 [(0,t7)]) 64,
 i 9 (.build z0 [(0,1,.c (I 3)),(2,1,.c (I 7))]) 0,
 i 10 (.N6 7 1 z0 [(0,t9)]) 256,
 i 11 (.build z2 [(0,1,.c (I 3)),(5,1,.c (I 2)),(3,1,t8),(4,1,s8)]) 960,
 i 12 (.N6 7 3 z2 [(0,t1),(1,t6),(2,v7)]) 2047,
 i 0 (mv y9) 4095] false)
 .ret)⟩
def a6W:n4:=⟨3,11,[.cell 6 true 7],
 .seq (.b6 [i 6 (.alloc z0) 0] false)
 (.seq (.b6 [i 7 (mv t0) 0,
 i 8 (mv t1) 0,
 i 9 (mv t2) 0,
 i 10 (.build z0 [(0,1,.c (I 6)),(4,1,t7),(5,1,t8),(6,1,t9)]) 7,
 iz (.store 7 t6 s8) 15] false)
 .ret)⟩
def a5X:n4:=⟨1,5,[.cell 2 true 7],
 .seq (.b6 [i 2 (.alloc z0) 0] false)
 (.seq (.b6 [i 3 (mv t0) 0,
 i 4 (.build z0 [(0,1,.c (I 5)),(3,1,t3)]) 1,
 iz (.store 7 t2 t4) 3] false)
 .ret)⟩
def a0Z:n4:=⟨2,74,[.tmp 4],
 .seq (.b6 [i 2 (.box 1 t0) 0,
 i 3 (.box 7 t1) 0,
 i 4 (.mv (.c (.pv (.bool false)))) 0] false)
 (.seq (.b6 [i 7 (.b0 t3 2) 0,
 i 8 (.load false 1 t7) 1,
 i 9 (.j2 t8) 3,
 i 10 (.b0 t3 3) 0,
 i 11 (.load false 1 s8) 8,
 i 12 (.j2 v7) 24,
 i 13 (.b0 t3 4) 0,
 i 14 (.load false 1 A6) 64,
 i 15 (.j2 C7) 192,
 i 16 (.bin .add y9 G3) 504,
 i 5 (mv t9) 7,
 i 6 (mv G0) 2047] false)
 (.seq (.seq (.b6 [i 17 (.b0 t3 0) 0,
 i 18 (.load false 1 E5) 1] false)
 (.block 0
 (.seq (.b6 [i 20 (.bin .eql I1 (.c (I 1))) 0,
 i 19 (mv N5) 1] false)
 (.cond J9
 (.seq (.b6 [i 21 (mv t5) 0,
 i 22 (mv t6) 0,
 i 23 (.bin .add L7 R2) 3,
 i 24 (.bin .eql U3 (.c (I 0))) 7,
 i 25 (mv W8) 15,
 ig 26 (.b0 t3 5) 25 true 31,
 ig 27 (.load false 1 t26) 25 true 63,
 ig 28 (.bin .eql t27 (.c (I 0))) 25 true 127,
 i 29 (.pick W4 t28 (.c (.pv (.bool false)))) 255,
 i 30 (mv t29) 511,
 ig 31 (.b0 t3 6) 30 true 1023,
 ig 32 (.load false 1 t31) 30 true 2047,
 ig 33 (.bin .eql t32 (.c (I 0))) 30 true 4095,
 i 34 (.pick t30 t33 (.c (.pv (.bool false)))) 8191,
 i 4 (mv t34) 16383] false)
 .ret)
 (.seq (.b6 [i 36 (.bin .eql I1 (.c (I 2))) 0,
 i 35 (mv t36) 1] false)
 (.cond t35
 (.seq (.b6 [i 37 (.b0 t3 1) 0,
 i 38 (.load false 1 t37) 1,
 i 39 (.bin .eql t38 (.c (.pv (.str [])))) 3,
 i 40 (mv t39) 7,
 ig 41 (mv t6) 40 true 15,
 ig 42 (.bin .eql t41 (.c (I 0))) 40 true 31,
 i 43 (.pick t40 t42 (.c (.pv (.bool false)))) 63,
 i 44 (mv t43) 127,
 ig 45 (.b0 t3 5) 44 true 255,
 ig 46 (.load false 1 t45) 44 true 511,
 ig 47 (.bin .eql t46 (.c (I 0))) 44 true 1023,
 i 48 (.pick t44 t47 (.c (.pv (.bool false)))) 2047,
 i 49 (mv t48) 4095,
 ig 50 (.b0 t3 6) 49 true 8191,
 ig 51 (.load false 1 t50) 49 true 16383,
 ig 52 (.bin .eql t51 (.c (I 0))) 49 true 32767,
 i 53 (.pick t49 t52 (.c (.pv (.bool false)))) 65535,
 i 4 (mv t53) 131071] false)
 .ret)
 (.seq (.b6 [i 55 (.bin .eql I1 (.c (I 3))) 0,
 i 54 (mv t55) 1] false)
 (.cond t54
 (.seq (.b6 [i 56 (.b0 t3 1) 0,
 i 57 (.load false 1 t56) 1,
 i 58 (.bin .eql t57 (.c (.pv (.str [])))) 3,
 i 59 (mv t58) 7,
 ig 60 (mv t5) 59 true 15,
 ig 61 (.bin .eql t60 (.c (I 0))) 59 true 31,
 i 62 (.pick t59 t61 (.c (.pv (.bool false)))) 63,
 i 63 (mv t62) 127,
 ig 64 (.b0 t3 6) 63 true 255,
 ig 65 (.load false 1 t64) 63 true 511,
 ig 66 (.bin .eql t65 (.c (I 0))) 63 true 1023,
 i 67 (.pick t63 t66 (.c (.pv (.bool false)))) 2047,
 i 4 (mv t67) 4095] false)
 .ret)
 (.seq (.b6 [i 69 (.bin .eql I1 (.c (I 4))) 0,
 i 68 (mv t69) 1] false)
 (.cond t68
 (.seq (.b6 [i 70 (mv t5) 0,
 i 71 (mv t6) 0,
 i 72 (.bin .add t70 t71) 3,
 i 73 (.bin .eql t72 (.c (I 0))) 7,
 i 4 (mv t73) 15] false)
 .ret)
 .skip))))))))))
 (.seq (.b6 [i 4 (.mv (.c (.pv (.bool false)))) 0] false)
 .ret)))⟩
def T9:n4:=⟨2,73,[.tmp 4],
 .seq (.b6 [i 2 (.box 1 t0) 0,
 i 3 (.box 7 t1) 0,
 i 4 (.mv (.c (.pv (.bool false)))) 0] false)
 (.seq (.seq (.b6 [i 5 (.b0 t3 0) 0,
 i 6 (.load false 1 t5) 1] false)
 (.block 0
 (.seq (.b6 [i 8 (.bin .eql t6 (.c (I 1))) 0,
 i 7 (mv t8) 1] false)
 (.cond t7
 (.seq (.b6 [i 9 (.b0 t3 1) 0,
 i 10 (.load false 1 t9) 1,
 i 11 (.I2 s8) 3,
 i 12 (.bin .leq v7 (.c (I 1000))) 7,
 i 4 (mv y9) 15] false)
 .ret)
 (.seq (.b6 [i 14 (.bin .eql t6 (.c (I 2))) 0,
 i 13 (mv C7) 1] false)
 (.cond A6
 (.seq (.b6 [i 15 (.b0 t3 2) 0,
 i 16 (.load false 1 G3) 1,
 i 17 (.j2 G0) 3,
 i 18 (.bin .leq E5 (.c (I 1000))) 7,
 i 4 (mv I1) 15] false)
 .ret)
 (.seq (.b6 [i 20 (.bin .eql t6 (.c (I 3))) 0,
 i 19 (mv N5) 1] false)
 (.cond J9
 (.seq (.b6 [i 21 (.b0 t3 5) 0,
 i 22 (.load false 1 L7) 1,
 i 23 (.bin .geq R2 (.c (I 0))) 3,
 i 24 (mv U3) 7,
 ig 25 (.b0 t3 5) 24 true 15,
 ig 26 (.load false 1 W4) 24 true 31,
 ig 27 (.bin .leq t26 (.c (I 200))) 24 true 63,
 i 28 (.pick W8 t27 (.c (.pv (.bool false)))) 127,
 i 29 (mv t28) 255,
 ig 30 (.b0 t3 3) 29 true 511,
 ig 31 (.load false 1 t30) 29 true 1023,
 ig 32 (.j2 t31) 29 true 2047,
 ig 33 (.b0 t3 4) 29 true 511,
 ig 34 (.load false 1 t33) 29 true 4607,
 ig 35 (.j2 t34) 29 true 12799,
 ig 36 (.bin .eql t32 t35) 29 true 32767,
 i 37 (.pick t29 t36 (.c (.pv (.bool false)))) 65535,
 i 38 (mv t37) 131071,
 ig 39 (.b0 t3 3) 38 true 262143,
 ig 40 (.load false 1 t39) 38 true 524287,
 ig 41 (.j2 t40) 38 true 1048575,
 ig 42 (.b0 t3 5) 38 true 262143,
 ig 43 (.load false 1 t42) 38 true 2359295,
 ig 44 (.bin .leq t41 t43) 38 true 8388607,
 i 45 (.pick t38 t44 (.c (.pv (.bool false)))) 16777215,
 i 4 (mv t45) 33554431] false)
 .ret)
 .skip))))))))
 (.seq (.b6 [i 46 (.b0 t3 1) 0,
 i 47 (.load false 1 t46) 1,
 i 48 (.I2 t47) 3,
 i 49 (.bin .leq t48 (.c (I 4000))) 7,
 i 50 (mv t49) 15,
 ig 51 (.b0 t3 6) 50 true 31,
 ig 52 (.load false 1 t51) 50 true 63,
 ig 53 (.bin .geq t52 (.c (I 0))) 50 true 127,
 i 54 (.pick t50 t53 (.c (.pv (.bool false)))) 255,
 i 55 (mv t54) 511,
 ig 56 (.b0 t3 6) 55 true 1023,
 ig 57 (.load false 1 t56) 55 true 2047,
 ig 58 (.b0 t3 1) 55 true 1023,
 ig 59 (.load false 1 t58) 55 true 5119,
 ig 60 (.I2 t59) 55 true 13311,
 ig 61 (.bin .leq t57 t60) 55 true 32767,
 i 62 (.pick t55 t61 (.c (.pv (.bool false)))) 65535,
 i 63 (mv t62) 131071,
 ig 64 (.b0 t3 5) 63 true 262143,
 ig 65 (.load false 1 t64) 63 true 524287,
 ig 66 (.bin .eql t65 (.c (I 0))) 63 true 1048575,
 ig 67 (mv t66) 63 true 2097151,
 ig 68 (.b0 t3 5) 67 false 4194303,
 ig 69 (.load false 1 t68) 67 false 8388607,
 ig 70 (.bin .eql t69 (.c (I 1))) 67 false 16777215,
 ig 71 (.pick t67 (.c (.pv (.bool true))) t70) 63 true 33554431,
 i 72 (.pick t63 t71 (.c (.pv (.bool false)))) 67108863,
 i 4 (mv t72) 134217727] false)
 .ret))⟩
def a0a:n4:=⟨2,47,[.cell 4 false 1],
 .seq (.b6 [i 2 (.box 1 t0) 0,
 i 3 (.box 7 t1) 0,
 i 4 (.alloc [.pv (.bool false)]) 0] false)
 (.seq (.seq (.b6 [i 10 (.load true 7 t3) 0,
 i 11 (.call (.f N2) [s8]) 1] false)
 (.block 0
 (.rng v7 [12]
 (.b6 [i 5 (.alloc z0) 0,
 iz (.store 7 t5 y9) 1] false)
 (.block 1
 (.seq (.b6 [i 13 (.b0 t2 0) 0,
 i 14 (.load false 1 A6) 1,
 i 15 (.load true 7 t5) 0,
 i 16 (.call (.f B0) [C7,G3]) 7,
 i 17 (.not G0) 15] false)
 (.cond E5
 (.seq (.b6 [iz (.store 1 t4 (.c (.pv (.bool false)))) 0] false)
 .ret)
 .skip))))))
 (.seq (.seq (.b6 [i 18 (.b0 t3 3) 0,
 i 19 (.load false 1 I1) 1,
 i 20 (.j2 J9) 3,
 i 21 (.mv (.c (I 0))) 0] false)
 (.block 2
 (.loop [3,4,19,20,21]
 (.seq (.b6 [i 22 (.bin .lss L7 N5) 0] false)
 (.seq (.cond R2
 .skip
 (.exit 2))
 (.seq (.block 3
 (.seq (.b6 [i 23 (mv L7) 0,
 i 24 (.j3 7 J9 L7) 0,
 i 25 (.load true 7 W8) 2,
 i 7 (.alloc z0) 0,
 i 6 (mv U3) 15,
 iz (.store 7 t7 W4) 31] false)
 (.seq (.b6 [i 27 (.load true 7 t7) 0,
 i 28 (.call (.f P5) [t27]) 1,
 i 26 (mv t28) 3,
 i 29 (.extract t26 0) 7,
 i 30 (.extract t26 1) 7,
 i 8 (.alloc z0) 0,
 iz (.store 7 t8 t29) 47,
 i 9 (mv t30) 127] false)
 (.seq (.b6 [i 31 (mv t9) 0,
 i 32 (.bin .neq t31 (.c (I 0))) 1,
 i 33 (mv t32) 3,
 ig 34 (.load true 7 t8) 33 false 7,
 ig 35 (.load true 7 t7) 33 false 7,
 ig 36 (.eqs true [0,1,0,2,0,0,0] t34 t35) 33 false 31,
 i 37 (.pick t33 (.c (.pv (.bool true))) t36) 63,
 i 38 (mv t37) 127,
 ig 39 (.b0 t3 3) 38 false 255,
 ig 40 (.load false 1 t39) 38 false 511,
 ig 41 (mv t6) 38 false 255,
 ig 42 (.slice 7 t40 none (some t41) none) 38 false 2047,
 ig 43 (.load true 7 t7) 38 false 255,
 ig 44 (.call (.f C0) [t42,t43]) 38 false 8191,
 i 45 (.pick t38 (.c (.pv (.bool true))) t44) 16383] true)
 (.cond t45
 (.seq (.b6 [iz (.store 1 t4 (.c (.pv (.bool false)))) 0] false)
 .ret)
 .skip)))))
 (.b6 [i 46 (.bin .add L7 (.c (I 1))) 0,
 i 21 (mv t46) 1] false)))))))
 (.seq (.b6 [iz (.store 1 t4 (.c (.pv (.bool true)))) 0] false)
 .ret)))⟩
def T3:n4:=⟨1,30,[.tmp 2],
 .seq (.b6 [i 1 (.box 7 t0) 0,
 i 2 (.mv (.c (I 0))) 0] false)
 (.scope
 (.seq (.seq (.b6 [i 7 (.b0 t1 0) 0,
 i 8 (.load false 1 t7) 1,
 i 9 (.bin .lss t8 (.c (I 0))) 3,
 i 10 (mv t9) 7,
 ig 11 (.b0 t1 0) 10 false 15,
 ig 12 (.load false 1 v7) 10 false 31,
 ig 13 (.bin .geq y9 (.c (I 13))) 10 false 63,
 i 14 (.pick s8 (.c (.pv (.bool true))) A6) 127] false)
 (.cond C7
 (.seq (.b6 [i 2 (.mv (.c (I 200))) 0] false)
 .ret)
 .skip))
 (.seq (.b6 [i 15 (.call (.f G4) []) 0,
 i 16 (.b0 t1 0) 0,
 i 17 (.load false 1 G0) 2,
 i 18 (.index true 13 6 G3 E5) 7,
 i 3 (.alloc [.pv (.str []),I 0,I 0,I 0,I 0,I 0]) 0,
 iz (.store 6 t3 I1) 31] true)
 (.seq (.b6 [i 4 (.mv (.c (I 0))) 0] false)
 (.seq .skip
 (.seq (.seq (.b6 [i 19 (.build [.pv .nilFunc,.pv .nilFunc,.pv .nilFunc] [(0,1,.f p8),(1,1,.f u3),(2,1,.f m7)]) 0,
 i 20 (.mv (.c (I 0))) 0] false)
 (.block 0
 (.loop [1,3,4,19,20]
 (.seq (.b6 [i 21 (.bin .lss N5 (.c (I 3))) 0] false)
 (.seq (.cond L7
 .skip
 (.exit 0))
 (.seq (.block 1
 (.seq (.b6 [i 22 (.index false 3 1 J9 N5) 0,
 i 6 (mv R2) 1] false)
 (.seq (.b6 [i 23 (mv t6) 0,
 i 24 (.load true 6 t3) 0,
 i 25 (.load true 7 t1) 0,
 i 26 (.call U3 [W8,W4]) 7,
 i 27 (.not t26) 15] false)
 (.cond t27
 (.seq (.b6 [i 4 (.mv (.c (I 200))) 0] false)
 (.exit 0))
 .skip))))
 (.b6 [i 28 (.bin .add N5 (.c (I 1))) 0,
 i 20 (mv t28) 1] false)))))))
 (.seq (.b6 [i 29 (mv t4) 0,
 i 2 (mv t29) 1] false)
 .ret)))))))⟩
def Q0:n4:=⟨1,6,[.tmp 2],
 .seq (.b6 [i 2 (.mv (.c (I 0))) 0] false)
 (.seq (.b6 [i 3 (.build [I 0,I 0,I 0,I 0,I 0,I 0,I 0,I 0,I 0,I 0,I 0,I 0,I 0,I 0] [(6,1,.c (I 1)),(7,1,.c (I 2)),(8,1,.c (I 2)),(9,1,.c (I 3)),(11,1,.c (I 4)),(13,1,.c (I 0))]) 0,
 i 4 (mv t0) 0,
 i 5 (.index false 14 1 t3 t4) 3,
 i 2 (mv t5) 7] false)
 .ret)⟩
def X3:n4:=⟨1,12,[.tmp 2],
 .seq (.b6 [i 1 (.box 7 t0) 0,
 i 2 (.mv (.c (I 0))) 0] false)
 (.seq (.seq (.b6 [i 3 (.b0 t1 0) 0,
 i 4 (.load false 1 t3) 1,
 i 5 (.bin .eql t4 (.c (I 1))) 3] false)
 (.cond t5
 (.seq (.b6 [i 6 (.b0 t1 1) 0,
 i 7 (.load false 1 t6) 1,
 i 8 (.I2 t7) 3,
 i 2 (mv t8) 7] false)
 .ret)
 .skip))
 (.seq (.b6 [i 9 (.b0 t1 2) 0,
 i 10 (.load false 1 t9) 1,
 i 11 (.j2 s8) 3,
 i 2 (mv v7) 7] false)
 .ret))⟩
def a4d:n4:=⟨1,26,[.tmp 2],
 .seq (.b6 [i 1 (.box 7 t0) 0,
 i 2 (.mv (.c (.pv (.bool false)))) 0] false)
 (.seq (.b6 [i 3 (.b0 t1 0) 0,
 i 4 (.load false 1 t3) 1,
 i 5 (.bin .eql t4 (.c (I 6))) 3,
 i 6 (mv t5) 7,
 ig 7 (.b0 t1 0) 6 false 15,
 ig 8 (.load false 1 t7) 6 false 31,
 ig 9 (.bin .eql t8 (.c (I 7))) 6 false 63,
 i 10 (.pick t6 (.c (.pv (.bool true))) t9) 127,
 i 11 (mv s8) 255,
 ig 12 (.b0 t1 0) 11 false 511,
 ig 13 (.load false 1 y9) 11 false 1023,
 ig 14 (.bin .eql A6 (.c (I 8))) 11 false 2047,
 i 15 (.pick v7 (.c (.pv (.bool true))) C7) 4095,
 i 16 (mv G3) 8191,
 ig 17 (.b0 t1 0) 16 false 16383,
 ig 18 (.load false 1 E5) 16 false 32767,
 ig 19 (.bin .eql I1 (.c (I 9))) 16 false 65535,
 i 20 (.pick G0 (.c (.pv (.bool true))) J9) 131071,
 i 21 (mv N5) 262143,
 ig 22 (.b0 t1 0) 21 false 524287,
 ig 23 (.load false 1 R2) 21 false 1048575,
 ig 24 (.bin .eql U3 (.c (I 11))) 21 false 2097151,
 i 25 (.pick L7 (.c (.pv (.bool true))) W8) 4194303,
 i 2 (mv W4) 8388607] false)
 .ret)⟩
def L4:n4:=⟨1,89,[.tmp 2],
 .seq (.b6 [i 2 (.mv (.c (.emp 7))) 0] false)
 (.seq (.b6 [i 7 (.call (.f l8) [.c (I 200)]) 0,
 i 8 (.call (.f l8) [.c (I 50)]) 1,
 i 9 (.call (.f l8) [.c (I 30)]) 3,
 i 10 (.call (.f l8) [.c (I 12)]) 7,
 i 11 (.call (.f l8) [.c (I 5)]) 15,
 i 12 (.N6 7 5 z2 [(0,t7),(1,t8),(2,t9),(3,s8),(4,v7)]) 31,
 i 3 (mv y9) 63] false)
 (.seq (.seq (.b6 [i 4 (.mv (.c (I 0))) 0] false)
 (.block 0
 (.loop [0,3,4]
 (.seq (.seq (.b6 [i 13 (mv t4) 0,
 i 14 (mv t0) 0,
 i 15 (.j2 C7) 2,
 i 16 (.bin .lss A6 G3) 7,
 i 17 (mv G0) 15,
 ig 18 (mv t4) 17 true 31,
 ig 19 (.bin .lss I1 (.c (I 200))) 17 true 63,
 i 20 (.pick E5 J9 (.c (.pv (.bool false)))) 127] false)
 (.cond N5
 .skip
 (.exit 0)))
 (.seq (.block 1
 (.seq (.b6 [i 23 (mv t3) 0,
 i 24 (mv t3) 0,
 i 25 (.j3 7 W8 (.c (I 0))) 2,
 i 26 (.b0 W4 3) 6,
 i 27 (.load false 1 t26) 14,
 i 28 (mv t0) 0,
 i 29 (mv t4) 0,
 i 30 (.j3 1 t28 t29) 96,
 i 31 (.load false 1 t30) 224,
 i 32 (.call (.f w9) [t31]) 480,
 i 33 (.N6 7 1 z0 [(0,t32)]) 992,
 i 34 (.append 7 64 t27 t33) 2046,
 i 35 (.j3 7 U3 (.c (I 0))) 4095,
 i 36 (.b0 t35 3) 8191,
 iz (.store 1 t36 t34) 16383] true)
 (.b6 [i 37 (mv t3) 0,
 i 38 (mv t3) 0,
 i 39 (.j3 7 t38 (.c (I 0))) 2,
 i 40 (.b0 t39 4) 6,
 i 41 (.load false 1 t40) 14,
 i 42 (mv t0) 0,
 i 43 (mv t4) 0,
 i 44 (.j3 1 t42 t43) 96,
 i 45 (.load false 1 t44) 224,
 i 46 (.build z0 [(0,1,.c (I 10)),(1,1,.c (.pv (.bool true))),(3,1,t45)]) 480,
 i 47 (.N6 7 1 z0 [(0,t46)]) 992,
 i 48 (.append 7 64 t41 t47) 2046,
 i 49 (.j3 7 t37 (.c (I 0))) 4095,
 i 50 (.b0 t49 4) 8191,
 iz (.store 1 t50 t48) 16383] true)))
 (.b6 [i 21 (mv t4) 0,
 i 22 (.bin .add L7 (.c (I 1))) 1,
 i 4 (mv R2) 3] false))))))
 (.seq (.b6 [i 51 (.call (.f C5) []) 0,
 i 5 (mv t51) 1] false)
 (.seq (.seq (.b6 [i 6 (.mv (.c (I 0))) 0] false)
 (.block 2
 (.loop [3,5,6]
 (.seq (.seq (.b6 [i 52 (mv t6) 0,
 i 53 (mv t5) 0,
 i 54 (.j2 t53) 2,
 i 55 (.bin .lss t52 t54) 7] false)
 (.cond t55
 .skip
 (.exit 2)))
 (.seq (.block 3
 (.seq (.b6 [i 58 (mv t3) 0,
 i 59 (mv t3) 0,
 i 60 (.j3 7 t59 (.c (I 4))) 2,
 i 61 (.b0 t60 3) 6,
 i 62 (.load false 1 t61) 14,
 i 63 (mv t5) 0,
 i 64 (mv t6) 0,
 i 65 (.j3 1 t63 t64) 96,
 i 66 (.load false 1 t65) 224,
 i 67 (.call (.f w9) [t66]) 480,
 i 68 (.N6 7 1 z0 [(0,t67)]) 992,
 i 69 (.append 7 64 t62 t68) 2046,
 i 70 (.j3 7 t58 (.c (I 4))) 4095,
 i 71 (.b0 t70 3) 8191,
 iz (.store 1 t71 t69) 16383] true)
 (.seq (.b6 [i 72 (mv t3) 0,
 i 73 (mv t3) 0,
 i 74 (.j3 7 t73 (.c (I 4))) 2,
 i 75 (.b0 t74 4) 6,
 i 76 (.load false 1 t75) 14,
 i 77 (mv t6) 0,
 i 78 (.bin .add (.c (I 5)) t77) 32,
 i 79 (.build z0 [(0,1,.c (I 9)),(4,1,t78)]) 96,
 i 80 (.N6 7 1 z0 [(0,t79)]) 224,
 i 81 (.append 7 64 t76 t80) 510,
 i 82 (.j3 7 t72 (.c (I 4))) 1023,
 i 83 (.b0 t82 4) 2047,
 iz (.store 1 t83 t81) 4095] false)
 (.b6 [i 84 (mv t3) 0,
 i 85 (.call (.f l8) [.c (I 10)]) 0,
 i 86 (.N6 7 1 z2 [(0,t85)]) 2,
 i 87 (.append 7 112 t84 t86) 7,
 i 3 (mv t87) 15] false))))
 (.b6 [i 56 (mv t6) 0,
 i 57 (.bin .add t56 (.c (I 1))) 1,
 i 6 (mv t57) 3] false))))))
 (.seq (.b6 [i 88 (mv t3) 0,
 i 2 (mv t88) 1] false)
 .ret)))))⟩
def a1q:n4:=⟨2,42,[.tmp 4,.tmp 5],
 .seq (.b6 [i 2 (.box 7 t0) 0,
 i 3 (.box 7 t1) 0,
 i 4 (.mv (.c (I 0))) 0,
 i 5 (.mv (.c (I 0))) 4] false)
 (.seq (.seq (.b6 [i 9 (.load true 7 t2) 0,
 i 10 (.call (.f n6) [t9]) 1,
 i 11 (.bin .neq s8 (.c (I 0))) 3,
 i 12 (mv v7) 7,
 ig 13 (.load true 7 t3) 12 false 15,
 ig 14 (.call (.f n6) [A6]) 12 false 31,
 ig 15 (.bin .neq C7 (.c (I 0))) 12 false 63,
 i 16 (.pick y9 (.c (.pv (.bool true))) G3) 127] false)
 (.cond G0
 (.seq (.b6 [i 4 (.mv (.c (I 0))) 0,
 i 5 (.mv (.c (I 200))) 1] false)
 .ret)
 .skip))
 (.seq (.b6 [i 18 (.load true 7 t2) 0,
 i 19 (.call (.f D5) [I1]) 1,
 i 17 (mv J9) 3,
 i 20 (.extract E5 0) 7,
 i 21 (.extract E5 1) 7,
 i 6 (mv N5) 15,
 i 7 (mv L7) 63] false)
 (.seq (.seq (.b6 [i 22 (mv t7) 0,
 i 23 (.bin .neq R2 (.c (I 0))) 1] false)
 (.cond U3
 (.seq (.b6 [i 24 (mv t7) 0,
 i 4 (.mv (.c (I 0))) 0,
 i 5 (mv W8) 3] false)
 .ret)
 .skip))
 (.seq (.b6 [i 26 (.load true 7 t3) 0,
 i 27 (.call (.f D5) [t26]) 1,
 i 25 (mv t27) 3,
 i 28 (.extract W4 0) 7,
 i 29 (.extract W4 1) 7,
 i 8 (mv t28) 15,
 i 7 (mv t29) 63] false)
 (.seq (.block 0
 (.seq (.b6 [i 31 (mv t7) 0,
 i 32 (.bin .neq t31 (.c (I 0))) 1,
 i 30 (mv t32) 3] false)
 (.cond t30
 (.seq (.b6 [i 33 (mv t7) 0,
 i 4 (.mv (.c (I 0))) 0,
 i 5 (mv t33) 3] false)
 .ret)
 (.seq (.b6 [i 35 (mv t6) 0,
 i 36 (mv t8) 0,
 i 37 (.bin .lss t35 t36) 3,
 i 34 (mv t37) 7] false)
 (.cond t34
 (.seq (.b6 [i 4 (.mv (.c (I (-1)))) 0,
 i 5 (.mv (.c (I 0))) 1] false)
 .ret)
 (.seq (.b6 [i 39 (mv t6) 0,
 i 40 (mv t8) 0,
 i 41 (.bin .gtr t39 t40) 3,
 i 38 (mv t41) 7] false)
 (.cond t38
 (.seq (.b6 [i 4 (.mv (.c (I 1))) 0,
 i 5 (.mv (.c (I 0))) 1] false)
 .ret)
 .skip)))))))
 (.seq (.b6 [i 4 (.mv (.c (I 0))) 0,
 i 5 (.mv (.c (I 0))) 1] false)
 .ret))))))⟩
def a4x:n4:=⟨2,22,[.tmp 4,.tmp 5],
 .seq (.b6 [i 3 (.box 7 t1) 0,
 i 4 (.mv (.c (.pv (.str [])))) 0,
 i 5 (.mv (.c (.pv (.bool false)))) 2] false)
 (.seq (.seq (.b6 [i 8 (.b0 t3 0) 0,
 i 9 (.load false 1 t8) 1,
 i 10 (.bin .eql t9 (.c (I 5))) 3] false)
 (.cond s8
 (.seq (.b6 [i 11 (.b0 t3 3) 0,
 i 12 (.load false 1 v7) 1,
 i 4 (mv y9) 3,
 i 5 (.mv (.c (.pv (.bool true)))) 7] false)
 .ret)
 .skip))
 (.seq (.b6 [i 14 (mv t0) 0,
 i 15 (.load true 7 t3) 0,
 i 16 (.call (.f P3) [C7,G3]) 3,
 i 13 (mv G0) 7,
 i 17 (.extract A6 0) 15,
 i 18 (.extract A6 1) 15,
 i 6 (mv E5) 31,
 i 7 (mv I1) 127] false)
 (.seq (.b6 [i 19 (mv t6) 0,
 i 20 (mv t7) 0,
 i 21 (.bin .eql N5 (.c (I 0))) 2,
 i 4 (mv J9) 1,
 i 5 (mv L7) 15] false)
 .ret)))⟩
def a1e:n4:=⟨4,37,[],
 .seq (.b6 [i 4 (.box 7 t0) 0] false)
 (.seq (.seq (.b6 [i 6 (.load false 1 t1) 0,
 i 7 (.load true 7 t4) 0,
 i 8 (.call (.f B0) [t6,t7]) 3,
 i 9 (.not t8) 7,
 i 10 (mv t9) 15,
 ig 11 (.b0 t4 0) 10 false 31,
 ig 12 (.load false 1 v7) 10 false 63,
 ig 13 (.call (.f A9) [y9]) 10 false 127,
 ig 14 (.bin .eql A6 (.c (I 0))) 10 false 255,
 i 15 (.pick s8 (.c (.pv (.bool true))) C7) 511,
 i 16 (mv G3) 1023,
 ig 17 (.load false 1 t2) 16 false 2047,
 ig 18 (.b0 t4 4) 16 false 2047,
 ig 19 (.load false 1 I1) 16 false 6143,
 ig 20 (.j3 1 E5 J9) 16 false 16383,
 ig 21 (.load false 1 N5) 16 false 32767,
 i 22 (.pick G0 (.c (.pv (.bool true))) L7) 65535] false)
 (.cond R2
 .ret
 .skip))
 (.seq (.b6 [i 23 (.load false 1 t2) 0,
 i 24 (.b0 t4 4) 0,
 i 25 (.load false 1 W8) 2,
 i 26 (.j3 1 U3 W4) 7,
 iz (.store 1 t26 (.c (.pv (.bool true)))) 15] false)
 (.seq (.b6 [i 27 (.load false 1 t1) 0,
 i 28 (.b0 t4 4) 0,
 i 29 (.load false 1 t28) 2,
 i 30 (.j3 7 t27 t29) 7,
 i 31 (.load true 7 t30) 15,
 i 32 (.call (.f N2) [t31]) 31] false)
 (.block 0
 (.rng t32 [33]
 (.b6 [i 5 (.alloc z0) 0,
 iz (.store 7 t5 t33) 1] false)
 (.block 1
 (.b6 [i 34 (.load false 1 t3) 0,
 i 35 (.load true 7 t5) 0,
 i 36 (.call t34 [t35]) 3] false)))))))⟩
def a3v:n4:=⟨1,4,[.tmp 2],
 .seq (.b6 [i 1 (.box 7 t0) 0,
 i 2 (.mv (.c (.pv .nilFunc))) 0] false)
 (.seq (.b6 [i 3 (.mkf (.func x5) [] [t1]) 0,
 i 2 (mv t3) 1] false)
 .ret)⟩
def a1Z:n4:=⟨1,15,[.cell 2 true 67],
 .seq (.b6 [i 2 (.alloc z1) 0] false)
 (.seq (.b6 [i 4 (.call (.f u1) [.c (.emp 1)]) 0,
 i 5 (.build z2 [(0,1,.c (I 3)),(5,1,.c (I 3))]) 0,
 i 6 (.build z2 [(0,1,.c (I 1)),(1,1,.c (.pv (.str [70,70,111,110,116])))]) 0,
 i 7 (.N6 7 2 z2 [(0,t5),(1,t6)]) 6,
 i 8 (.append 7 112 t4 t7) 15,
 i 3 (mv t8) 31] false)
 (.seq (.b6 [i 9 (mv t3) 0,
 i 10 (.call (.f U6) [.c (I 0)]) 0,
 i 11 (.call (.f U6) [.c (I 1)]) 2,
 i 12 (.N6 7 2 z0 [(0,s8),(1,v7)]) 6,
 i 13 (mv t0) 0,
 i 14 (.build z1 [(2,1,t9),(1,1,y9),(0,1,A6)]) 31,
 iz (.store 67 t2 C7) 63] false)
 .ret))⟩
def b0G:n4:=⟨1,5,[.cell 2 true 7],
 .seq (.b6 [i 2 (.alloc z0) 0] false)
 (.seq (.b6 [i 3 (mv t0) 0,
 i 4 (.build z0 [(0,1,.c (I 9)),(4,1,t3)]) 1,
 iz (.store 7 t2 t4) 3] false)
 .ret)⟩
def a4q:n4:=⟨3,23,[.tmp 6],
 .seq (.b6 [i 3 (.box 67 t0) 0,
 i 6 (.mv (.c (.pv (.bool false)))) 0] false)
 (.seq (.b6 [i 10 (.load true 67 t3) 0,
 i 11 (mv t1) 0,
 i 12 (.call (.f Q7) [s8,v7]) 3,
 i 9 (mv y9) 7,
 i 13 (.extract t9 0) 15,
 i 14 (.extract t9 1) 15,
 i 7 (.alloc z1) 0,
 iz (.store 67 t7 A6) 95,
 i 8 (mv C7) 255] false)
 (.seq (.b6 [i 15 (mv t8) 0,
 i 16 (mv t2) 0,
 i 17 (.bin .eql G3 G0) 3,
 i 18 (mv E5) 7,
 ig 19 (.load true 67 t7) 18 true 15,
 ig 20 (.load true 67 t3) 18 true 15,
 ig 21 (.call (.f y4) [J9,N5]) 18 true 63,
 i 22 (.pick I1 L7 (.c (.pv (.bool false)))) 127,
 i 6 (mv R2) 255] false)
 .ret))⟩
def b0y:n4:=⟨1,5,[.cell 2 true 7],
 .seq (.b6 [i 2 (.alloc z0) 0] false)
 (.seq (.b6 [i 3 (mv t0) 0,
 i 4 (.build z0 [(0,1,.c (I 3)),(2,1,t3)]) 1,
 iz (.store 7 t2 t4) 3] false)
 .ret)⟩
def L3:n4:=⟨2,88,[.cell 4 true 29,.tmp 5],
 .seq (.b6 [i 2 (.box 67 t0) 0,
 i 4 (.alloc z3) 0,
 i 5 (.mv (.c (I 0))) 0] false)
 (.seq (.b6 [i 11 (.b0 t2 0) 0,
 i 12 (.load true 67 v7) 1,
 i 13 (mv t1) 0,
 i 14 (.call (.f O1) [y9,A6]) 7,
 i 10 (mv C7) 15,
 i 15 (.extract s8 0) 31,
 i 16 (.extract s8 1) 31,
 i 6 (mv G3) 63,
 i 7 (mv G0) 255] false)
 (.seq (.seq (.b6 [i 17 (mv t7) 0,
 i 18 (.bin .neq E5 (.c (I 0))) 1] false)
 (.cond I1
 (.seq (.b6 [i 19 (.build z3 []) 0,
 i 20 (mv t7) 0,
 iz (.store 29 t4 J9) 1,
 i 5 (mv N5) 7] false)
 .ret)
 .skip))
 (.seq (.b6 [i 21 (mv t6) 0,
 i 22 (mv t1) 0,
 i 23 (.bin .sub R2 (.c (I 1))) 2,
 i 24 (.j3 7 L7 U3) 7,
 i 25 (.load true 7 W8) 15,
 i 8 (.alloc z0) 0,
 iz (.store 7 t8 W4) 63] false)
 (.seq (.seq (.b6 [i 26 (mv t6) 0,
 i 27 (.j3 7 t26 (.c (I 0))) 1,
 i 28 (.b0 t27 0) 3,
 i 29 (.load false 1 t28) 7,
 i 30 (.bin .eql t29 (.c (I 0))) 15,
 i 31 (mv t30) 31,
 ig 32 (.b0 t8 0) 31 false 63,
 ig 33 (.load false 1 t32) 31 false 127,
 ig 34 (.bin .neq t33 (.c (I 5))) 31 false 255,
 ig 35 (mv t34) 31 false 511,
 ig 36 (.b0 t8 0) 35 true 1023,
 ig 37 (.load false 1 t36) 35 true 2047,
 ig 38 (.bin .neq t37 (.c (I 6))) 35 true 4095,
 ig 39 (.pick t35 t38 (.c (.pv (.bool false)))) 31 false 8191,
 i 40 (.pick t31 (.c (.pv (.bool true))) t39) 16383] false)
 (.cond t40
 (.seq (.b6 [i 41 (.build z3 []) 0,
 iz (.store 29 t4 t41) 1,
 i 5 (.mv (.c (I 22))) 3] false)
 .ret)
 .skip))
 (.seq (.b6 [i 42 (mv t6) 0,
 i 43 (.j3 7 t42 (.c (I 1))) 1,
 i 44 (.load true 7 t43) 3,
 i 45 (mv t1) 0,
 i 46 (.build z3 [(7,7,t44),(28,1,t45)]) 15,
 i 9 (.alloc z3) 0,
 iz (.store 29 t9 t46) 63] false)
 (.seq (.seq (.b6 [i 48 (.b0 t2 0) 0,
 i 49 (.b0 t48 2) 1,
 i 50 (.load false 1 t49) 3,
 i 51 (mv t6) 0,
 i 52 (.j3 7 t51 (.c (I 0))) 8,
 i 53 (.load true 7 t52) 24,
 i 54 (.call (.f a0k) [t50,t53]) 63,
 i 47 (mv t54) 127,
 i 55 (.extract t47 0) 255,
 i 56 (.extract t47 1) 255,
 i 57 (.b0 t9 0) 511,
 iz (.store 7 t57 t55) 1535,
 i 7 (mv t56) 4095] true)
 (.seq (.b6 [i 58 (mv t7) 0,
 i 59 (.bin .neq t58 (.c (I 0))) 1] false)
 (.cond t59
 (.seq (.b6 [i 60 (.build z3 []) 0,
 i 61 (mv t7) 0,
 iz (.store 29 t4 t60) 1,
 i 5 (mv t61) 7] false)
 .ret)
 .skip)))
 (.seq (.seq (.b6 [i 63 (.b0 t2 0) 0,
 i 64 (.b0 t63 2) 1,
 i 65 (.load false 1 t64) 3,
 i 66 (.load true 7 t8) 0,
 i 67 (.call (.f a0k) [t65,t66]) 15,
 i 62 (mv t67) 31,
 i 68 (.extract t62 0) 63,
 i 69 (.extract t62 1) 63,
 i 70 (.b0 t9 14) 127,
 iz (.store 7 t70 t68) 383,
 i 7 (mv t69) 1023] false)
 (.seq (.b6 [i 71 (mv t7) 0,
 i 72 (.bin .neq t71 (.c (I 0))) 1] false)
 (.cond t72
 (.seq (.b6 [i 73 (.build z3 []) 0,
 i 74 (mv t7) 0,
 iz (.store 29 t4 t73) 1,
 i 5 (mv t74) 7] false)
 .ret)
 .skip)))
 (.seq (.seq (.b6 [i 76 (.load true 67 t2) 0,
 i 77 (.b0 t9 14) 0,
 i 78 (.load true 7 t77) 2,
 i 79 (.call (.f p7) [t76,t78]) 7,
 i 75 (mv t79) 15,
 i 80 (.extract t75 0) 31,
 i 81 (.extract t75 1) 31,
 i 82 (.b0 t9 21) 63,
 iz (.store 7 t82 t80) 191,
 i 7 (mv t81) 511] false)
 (.seq (.b6 [i 83 (mv t7) 0,
 i 84 (.bin .neq t83 (.c (I 0))) 1] false)
 (.cond t84
 (.seq (.b6 [i 85 (.build z3 []) 0,
 i 86 (mv t7) 0,
 iz (.store 29 t4 t85) 1,
 i 5 (mv t86) 7] false)
 .ret)
 .skip)))
 (.seq (.b6 [i 87 (.load true 29 t9) 0,
 iz (.store 29 t4 t87) 1,
 i 5 (.mv (.c (I 0))) 3] false)
 .ret)))))))))⟩
def Z4:n4:=⟨4,8,[.tmp 6],
 .seq (.b6 [i 4 (.box 1 t0) 0,
 i 5 (.box 1 t1) 0,
 i 6 (.mv (.c (.pv .nilFunc))) 0] false)
 (.seq (.b6 [i 7 (.mkf (.func K6) [] [t2,t4,t3,t5]) 0,
 i 6 (mv t7) 1] false)
 .ret)⟩
def S4:n4:=⟨4,23,[.cell 4 true 67,.tmp 5],
 .seq (.b6 [i 4 (.alloc z1) 0,
 i 5 (.mv (.c (I 0))) 0] false)
 (.seq (.b6 [i 9 (.load false 1 t0) 0,
 i 10 (.load false 1 t1) 0,
 i 11 (.call t9 [s8]) 3,
 i 8 (mv v7) 7,
 i 12 (.extract t8 0) 15,
 i 13 (.extract t8 1) 15,
 i 6 (.alloc z3) 0,
 iz (.store 29 t6 y9) 95,
 i 7 (mv A6) 255] false)
 (.seq (.seq (.b6 [i 14 (mv t7) 0,
 i 15 (.bin .neq C7 (.c (I 0))) 1] false)
 (.cond G3
 (.seq (.b6 [i 16 (.load true 67 t2) 0,
 i 17 (mv t7) 0,
 iz (.store 67 t4 G0) 1,
 i 5 (mv E5) 7] false)
 .ret)
 .skip))
 (.seq (.b6 [i 18 (.load false 1 t3) 0,
 i 19 (.load true 29 t6) 0,
 i 20 (.call I1 [J9]) 3,
 i 21 (.extract N5 0) 7,
 i 22 (.extract N5 1) 7,
 iz (.store 67 t4 L7) 31,
 i 5 (mv R2) 63] false)
 .ret)))⟩
def I5:n4:=⟨2,44,[.cell 4 true 67,.tmp 5],
 .seq (.b6 [i 2 (.box 67 t0) 0,
 i 3 (.box 29 t1) 0,
 i 4 (.alloc z1) 0,
 i 5 (.mv (.c (I 0))) 0] false)
 (.seq (.seq (.b6 [i 8 (.b0 t3 14) 0,
 i 9 (.b0 t8 3) 1,
 i 10 (.load false 1 t9) 3,
 i 11 (.b0 t3 7) 0,
 i 12 (.load true 7 v7) 8,
 i 13 (.call (.f U8) [s8,y9]) 31,
 i 14 (.not A6) 63] false)
 (.cond C7
 (.seq (.b6 [i 15 (.b0 t2 0) 0,
 i 16 (.load true 67 G3) 1,
 iz (.store 67 t4 G0) 3,
 i 5 (.mv (.c (I 22))) 7] false)
 .ret)
 .skip))
 (.seq (.b6 [i 18 (.b0 t2 0) 0,
 i 19 (.b0 I1 2) 1,
 i 20 (.load false 1 J9) 3,
 i 21 (.b0 t3 21) 0,
 i 22 (.load true 7 L7) 8,
 i 23 (.b0 t3 0) 0,
 i 24 (.load true 7 U3) 32,
 i 25 (.b0 t3 7) 0,
 i 26 (.load true 7 W4) 128,
 i 27 (.call (.f O5) [N5,R2,W8,t26]) 511,
 i 17 (mv t27) 1023,
 i 28 (.extract E5 0) 2047,
 i 29 (.extract E5 1) 2047,
 i 6 (mv t28) 4095,
 i 7 (mv t29) 16383] false)
 (.seq (.seq (.b6 [i 30 (mv t7) 0,
 i 31 (.bin .neq t30 (.c (I 0))) 1] false)
 (.cond t31
 (.seq (.b6 [i 32 (.b0 t2 0) 0,
 i 33 (.load true 67 t32) 1,
 i 34 (mv t7) 0,
 iz (.store 67 t4 t33) 3,
 i 5 (mv t34) 15] false)
 .ret)
 .skip))
 (.seq (.b6 [i 35 (.load true 67 t2) 0,
 i 36 (.load true 29 t3) 0,
 i 37 (mv t6) 0,
 i 38 (.b0 t3 7) 0,
 i 39 (.load true 7 t38) 8,
 i 40 (.N6 7 1 z0 [(0,t39)]) 24,
 i 41 (.call (.f o5) [t35,t36,t37,t40]) 63,
 i 42 (.extract t41 0) 127,
 i 43 (.extract t41 1) 127,
 iz (.store 67 t4 t42) 511,
 i 5 (mv t43) 1023] false)
 .ret))))⟩
def I7:n4:=⟨2,32,[.cell 4 true 67,.tmp 5],
 .seq (.b6 [i 2 (.box 67 t0) 0,
 i 3 (.box 29 t1) 0,
 i 4 (.alloc z1) 0,
 i 5 (.mv (.c (I 0))) 0] false)
 (.seq (.b6 [i 9 (.load true 67 t2) 0,
 i 10 (.b0 t3 21) 0,
 i 11 (.load true 7 s8) 2,
 i 12 (.b0 t3 0) 0,
 i 13 (.load true 7 y9) 8,
 i 14 (.call (.f v5) [t9,v7,A6]) 31,
 i 8 (mv C7) 63,
 i 15 (.extract t8 0) 127,
 i 16 (.extract t8 1) 127,
 i 6 (.alloc z0) 0,
 iz (.store 7 t6 G3) 767,
 i 7 (mv G0) 2047] false)
 (.seq (.seq (.b6 [i 17 (mv t7) 0,
 i 18 (.bin .neq E5 (.c (I 0))) 1] false)
 (.cond I1
 (.seq (.b6 [i 19 (.b0 t2 0) 0,
 i 20 (.load true 67 J9) 1,
 i 21 (mv t7) 0,
 iz (.store 67 t4 N5) 3,
 i 5 (mv L7) 15] false)
 .ret)
 .skip))
 (.seq (.b6 [i 22 (.load true 67 t2) 0,
 i 23 (.load true 29 t3) 0,
 i 24 (.b0 t2 0) 0,
 i 25 (.b0 W8 2) 4,
 i 26 (.load false 1 W4) 12,
 i 27 (.load true 7 t6) 0,
 i 28 (.N6 7 1 z0 [(0,t27)]) 32,
 i 29 (.call (.f o5) [R2,U3,t26,t28]) 127,
 i 30 (.extract t29 0) 255,
 i 31 (.extract t29 1) 255,
 iz (.store 67 t4 t30) 1023,
 i 5 (mv t31) 2047] false)
 .ret)))⟩
def I6:n4:=⟨2,30,[.cell 4 true 67,.tmp 5],
 .seq (.b6 [i 2 (.box 67 t0) 0,
 i 3 (.box 29 t1) 0,
 i 4 (.alloc z1) 0,
 i 5 (.mv (.c (I 0))) 0] false)
 (.seq (.b6 [i 9 (.b0 t2 0) 0,
 i 10 (.b0 t9 2) 1,
 i 11 (.load false 1 s8) 3,
 i 12 (.b0 t3 21) 0,
 i 13 (.load true 7 y9) 8,
 i 14 (.b0 t3 0) 0,
 i 15 (.load true 7 C7) 32,
 i 16 (.call (.f a1W) [v7,A6,G3]) 127,
 i 8 (mv G0) 255,
 i 17 (.extract t8 0) 511,
 i 18 (.extract t8 1) 511,
 i 6 (mv E5) 1023,
 i 7 (mv I1) 4095] false)
 (.seq (.seq (.b6 [i 19 (mv t7) 0,
 i 20 (.bin .neq J9 (.c (I 0))) 1] false)
 (.cond N5
 (.seq (.b6 [i 21 (.b0 t2 0) 0,
 i 22 (.load true 67 L7) 1,
 i 23 (mv t7) 0,
 iz (.store 67 t4 R2) 3,
 i 5 (mv U3) 15] false)
 .ret)
 .skip))
 (.seq (.b6 [i 24 (.load true 67 t2) 0,
 i 25 (.load true 29 t3) 0,
 i 26 (mv t6) 0,
 i 27 (.call (.f o5) [W8,W4,t26,.c (.emp 7)]) 7,
 i 28 (.extract t27 0) 15,
 i 29 (.extract t27 1) 15,
 iz (.store 67 t4 t28) 63,
 i 5 (mv t29) 127] false)
 .ret)))⟩
def I3:n4:=⟨2,32,[.cell 4 true 67,.tmp 5],
 .seq (.b6 [i 2 (.box 67 t0) 0,
 i 3 (.box 29 t1) 0,
 i 4 (.alloc z1) 0,
 i 5 (.mv (.c (I 0))) 0] false)
 (.seq (.b6 [i 9 (.build z0 [(0,1,.c (I 2))]) 0,
 i 6 (.alloc z0) 0,
 iz (.store 7 t6 t9) 3] false)
 (.seq (.seq (.b6 [i 11 (.load true 67 t2) 0,
 i 12 (.b0 t3 21) 0,
 i 13 (.load true 7 y9) 2,
 i 14 (.b0 t3 0) 0,
 i 15 (.load true 7 C7) 8,
 i 16 (.call (.f v5) [v7,A6,G3]) 31,
 i 10 (mv G0) 63,
 i 17 (.extract s8 0) 127,
 i 18 (.extract s8 1) 127,
 i 7 (.alloc z0) 0,
 iz (.store 7 t7 E5) 767,
 i 8 (mv I1) 2047] false)
 (.seq (.b6 [i 19 (mv t8) 0,
 i 20 (.bin .eql J9 (.c (I 0))) 1] false)
 (.cond N5
 (.b6 [i 21 (.b0 t6 2) 0,
 iz (.store 1 L7 (.c (I 1))) 1] false)
 .skip)))
 (.seq (.b6 [i 22 (.load true 67 t2) 0,
 i 23 (.load true 29 t3) 0,
 i 24 (.b0 t2 0) 0,
 i 25 (.b0 W8 2) 4,
 i 26 (.load false 1 W4) 12,
 i 27 (.load true 7 t6) 0,
 i 28 (.N6 7 1 z0 [(0,t27)]) 32,
 i 29 (.call (.f o5) [R2,U3,t26,t28]) 127,
 i 30 (.extract t29 0) 255,
 i 31 (.extract t29 1) 255,
 iz (.store 67 t4 t30) 1023,
 i 5 (mv t31) 2047] false)
 .ret)))⟩
def P2:n4:=⟨1,5,[.cell 2 true 7],
 .seq (.b6 [i 2 (.alloc z2) 0] false)
 (.seq (.b6 [i 3 (mv t0) 0,
 i 4 (.build z2 [(0,1,.c (I 3)),(5,1,t3)]) 1,
 iz (.store 7 t2 t4) 3] false)
 .ret)⟩
def a0R:n4:=⟨1,5,[.cell 2 true 7],
 .seq (.b6 [i 2 (.alloc z0) 0] false)
 (.seq (.b6 [i 3 (mv t0) 0,
 i 4 (.build z0 [(0,1,.c (I 5)),(3,1,t3)]) 1,
 iz (.store 7 t2 t4) 3] false)
 .ret)⟩
def Y0:n4:=⟨3,23,[.cell 6 true 8,.tmp 7],
 .seq (.b6 [i 4 (.box 7 t1) 0,
 i 6 (.alloc [.emp 7,I 0,.pv (.bool false),I 0,.pv (.str []),I 0,I 0,I 0]) 0,
 i 7 (.mv (.c (I 0))) 0] false)
 (.seq (.seq (.b6 [i 8 (mv t0) 0,
 i 9 (.load true 7 t4) 0,
 i 10 (.call (.f B0) [t8,t9]) 3,
 i 11 (.not s8) 7] false)
 (.cond v7
 (.seq (.b6 [i 12 (.build [.emp 7,I 0,.pv (.bool false),I 0,.pv (.str []),I 0,I 0,I 0] []) 0,
 iz (.store 8 t6 y9) 1,
 i 7 (.mv (.c (I 2))) 3] false)
 .ret)
 .skip))
 (.seq (.seq (.b6 [i 13 (mv t2) 0,
 i 14 (.b0 t4 0) 0,
 i 15 (.load false 1 C7) 2,
 i 16 (.call (.f y6) [A6,G3]) 7,
 i 17 (.not G0) 15] false)
 (.cond E5
 (.seq (.b6 [i 18 (.build [.emp 7,I 0,.pv (.bool false),I 0,.pv (.str []),I 0,I 0,I 0] []) 0,
 iz (.store 8 t6 I1) 1,
 i 7 (.mv (.c (I 22))) 3] false)
 .ret)
 .skip))
 (.seq (.b6 [i 19 (mv t0) 0,
 i 20 (.build [.emp 7] [(0,1,J9)]) 1,
 i 21 (.load true 7 t4) 0,
 i 22 (.build [.emp 7,I 0,.pv (.bool false),I 0,.pv (.str []),I 0,I 0,I 0] [(0,1,N5),(1,7,L7)]) 7,
 iz (.store 8 t6 R2) 15,
 i 7 (.mv (.c (I 0))) 31] false)
 .ret)))⟩
def U7:n4:=⟨3,25,[.tmp 6],
 .seq (.b6 [i 3 (.box 8 t0) 0,
 i 6 (.mv (.c (I 0))) 0] false)
 (.seq (.seq (.b6 [i 7 (mv t1) 0,
 i 8 (.bin .lss t7 (.c (I 0))) 1,
 i 9 (mv t8) 3,
 ig 10 (mv t1) 9 false 7,
 ig 11 (.b0 t3 1) 9 false 7,
 ig 12 (.b0 v7 6) 9 false 23,
 ig 13 (.load false 1 y9) 9 false 55,
 ig 14 (.bin .gtr s8 A6) 9 false 127,
 i 15 (.pick t9 (.c (.pv (.bool true))) C7) 255,
 i 16 (mv G3) 511,
 ig 17 (mv t2) 16 false 1023,
 ig 18 (.b0 t3 1) 16 false 1023,
 ig 19 (.b0 I1 6) 16 false 3071,
 ig 20 (.load false 1 J9) 16 false 7167,
 ig 21 (mv t1) 16 false 1023,
 ig 22 (.bin .sub N5 L7) 16 false 31743,
 ig 23 (.bin .gtr E5 R2) 16 false 65535,
 i 24 (.pick G0 (.c (.pv (.bool true))) U3) 131071] false)
 (.cond W8
 (.seq (.b6 [i 6 (.mv (.c (I 23))) 0] false)
 .ret)
 .skip))
 (.seq (.b6 [i 6 (.mv (.c (I 0))) 0] false)
 .ret))⟩
def N4:n4:=⟨1,11,[.cell 2 true 7],
 .seq (.b6 [i 1 (.box 8 t0) 0,
 i 2 (.alloc z2) 0] false)
 (.seq (.b6 [i 3 (.b0 t1 0) 0,
 i 4 (.b0 t3 0) 1,
 i 5 (.load false 1 t4) 3,
 i 6 (.b0 t1 1) 0,
 i 7 (.b0 t6 4) 8,
 i 8 (.load false 1 t7) 24,
 i 9 (.j3 7 t5 t8) 63,
 i 10 (.load true 7 t9) 127,
 iz (.store 7 t2 s8) 255] false)
 .ret)⟩
def J7:n4:=⟨3,20,[.tmp 6],
 .seq (.b6 [i 6 (.mv (.c (.emp 1))) 0] false)
 (.seq (.b6 [i 8 (mv t0) 0,
 i 9 (.j2 t8) 1,
 i 10 (.b4b 1 1 [.int .u8 (0)] t9) 3,
 i 7 (mv s8) 7] false)
 (.seq (.b6 [i 11 (mv t7) 0,
 i 12 (mv t0) 0,
 i 13 (.copy 1 v7 y9) 3] false)
 (.seq (.b6 [i 14 (mv t7) 0,
 i 15 (mv t1) 0,
 i 16 (.slice 1 C7 (some G3) none none) 3,
 i 17 (mv t2) 0,
 i 18 (.copy 1 G0 E5) 15] false)
 (.seq (.b6 [i 19 (mv t7) 0,
 i 6 (mv J9) 1] false)
 .ret))))⟩
def M1:n4:=⟨2,23,[.tmp 4],
 .seq (.b6 [i 2 (.box 8 t0) 0,
 i 3 (.box 7 t1) 0,
 i 4 (.mv (.c (.emp 7))) 0] false)
 (.seq (.b6 [i 6 (.b0 t2 0) 0,
 i 7 (.b0 t6 0) 1,
 i 8 (.load false 1 t7) 3,
 i 9 (.j2 t8) 7,
 i 10 (.b4b 7 112 [.int .i64 (0),.str [],.sl 7 [],.sl 7 [],.sl 7 [],.int .i64 (0),.int .i64 (0)] t9) 15,
 i 5 (mv s8) 31] false)
 (.seq (.b6 [i 11 (mv t5) 0,
 i 12 (.b0 t2 0) 0,
 i 13 (.b0 y9 0) 2,
 i 14 (.load false 1 A6) 6,
 i 15 (.copy 7 v7 C7) 15] false)
 (.seq (.b6 [i 16 (mv t5) 0,
 i 17 (.b0 t2 1) 0,
 i 18 (.b0 E5 4) 2,
 i 19 (.load false 1 I1) 6,
 i 20 (.load true 7 t3) 0,
 i 21 (.j3 7 G0 J9) 31,
 iz (.store 7 L7 N5) 63] false)
 (.seq (.b6 [i 22 (mv t5) 0,
 i 4 (mv R2) 1] false)
 .ret))))⟩
def L6:n4:=⟨3,20,[.tmp 6],
 .seq (.b6 [i 6 (.mv (.c (.emp 7))) 0] false)
 (.seq (.b6 [i 8 (mv t0) 0,
 i 9 (.j2 t8) 1,
 i 10 (.b4b 7 64 [.int .i64 (0),.bool false,.int .i64 (0),.str [],.int .i64 (0),.int .i64 (0),.int .i64 (0)] t9) 3,
 i 7 (mv s8) 7] false)
 (.seq (.b6 [i 11 (mv t7) 0,
 i 12 (mv t0) 0,
 i 13 (.copy 7 v7 y9) 3] false)
 (.seq (.b6 [i 14 (mv t7) 0,
 i 15 (mv t1) 0,
 i 16 (.slice 7 C7 (some G3) none none) 3,
 i 17 (mv t2) 0,
 i 18 (.copy 7 G0 E5) 15] false)
 (.seq (.b6 [i 19 (mv t7) 0,
 i 6 (mv J9) 1] false)
 .ret))))⟩
def a2X:n4:=⟨1,37,[.cell 2 true 7,.tmp 3],
 .seq (.b6 [i 1 (.box 7 t0) 0,
 i 2 (.alloc z0) 0,
 i 3 (.mv (.c (I 0))) 0] false)
 (.seq (.seq (.b6 [i 5 (.load true 7 t1) 0,
 i 6 (.call (.f n6) [t5]) 1,
 i 4 (mv t6) 3] false)
 (.seq (.b6 [i 7 (mv t4) 0,
 i 8 (.bin .neq t7 (.c (I 0))) 1] false)
 (.cond t8
 (.seq (.b6 [i 9 (.build z0 []) 0,
 i 10 (mv t4) 0,
 iz (.store 7 t2 t9) 1,
 i 3 (mv s8) 7] false)
 .ret)
 .skip)))
 (.seq (.seq (.b6 [i 11 (.load true 7 t1) 0,
 i 12 (.b0 t1 1) 0,
 i 13 (.load false 1 y9) 2,
 i 14 (.build z0 [(0,1,.c (I 0)),(1,1,A6)]) 6,
 i 15 (.eqs false [0,1,0,2,0,0,0] v7 C7) 15,
 i 16 (mv G3) 31,
 ig 17 (.b0 t1 0) 16 false 63,
 ig 18 (.load false 1 E5) 16 false 127,
 ig 19 (.bin .eql I1 (.c (I 6))) 16 false 255,
 i 20 (.pick G0 (.c (.pv (.bool true))) J9) 511] false)
 (.cond N5
 (.seq (.b6 [i 21 (.build z0 []) 0,
 iz (.store 7 t2 L7) 1,
 i 3 (.mv (.c (I 22))) 3] false)
 .ret)
 .skip))
 (.seq (.seq (.b6 [i 22 (.b0 t1 0) 0,
 i 23 (.load false 1 R2) 1,
 i 24 (.bin .eql U3 (.c (I 4))) 3,
 i 25 (mv W8) 7,
 ig 26 (.b0 t1 2) 25 true 15,
 ig 27 (.load false 1 t26) 25 true 31,
 ig 28 (.bin .rem t27 (.c (I 65536))) 25 true 63,
 ig 29 (.bin .eql t28 (.c (I 0))) 25 true 127,
 i 30 (.pick W4 t29 (.c (.pv (.bool false)))) 255] false)
 (.cond t30
 (.seq (.b6 [i 31 (.load true 7 t1) 0,
 i 32 (.call (.f M4) [t31]) 1,
 i 33 (.extract t32 0) 3,
 i 34 (.extract t32 1) 3,
 iz (.store 7 t2 t33) 15,
 i 3 (mv t34) 31] false)
 .ret)
 .skip))
 (.seq (.b6 [i 35 (.b0 t1 1) 0,
 iz (.store 1 t35 (.c (.pv (.bool false)))) 1] false)
 (.seq (.b6 [i 36 (.load true 7 t1) 0,
 iz (.store 7 t2 t36) 1,
 i 3 (.mv (.c (I 0))) 3] false)
 .ret)))))⟩
def a1L:n4:=⟨2,11,[.cell 4 true 7,.tmp 5],
 .seq (.b6 [i 3 (.box 1 t1) 0,
 i 4 (.alloc z0) 0,
 i 5 (.mv (.c (I 0))) 0] false)
 (.seq (.b6 [i 6 (mv t0) 0,
 i 7 (.mkf (.func Q5) [] [t3]) 0,
 i 8 (.call (.f D3) [t6,t7]) 3,
 i 9 (.extract t8 0) 7,
 i 10 (.extract t8 1) 7,
 iz (.store 7 t4 t9) 31,
 i 5 (mv s8) 63] false)
 .ret)⟩
def P1:n4:=⟨2,19,[.tmp 4],
 .seq (.b6 [i 3 (.box 7 t1) 0,
 i 4 (.mv (.c (I 0))) 0] false)
 (.seq (.seq (.b6 [i 6 (mv t0) 0,
 i 7 (.j2 t6) 1,
 i 8 (.mv (.c (I 0))) 0] false)
 (.block 0
 (.loop [0,3,7,8]
 (.seq (.b6 [i 9 (.bin .lss t8 t7) 0] false)
 (.seq (.cond t9
 .skip
 (.exit 0))
 (.seq (.block 1
 (.seq (.b6 [i 10 (mv t8) 0,
 i 5 (mv s8) 1] false)
 (.seq (.b6 [i 11 (.load true 7 t3) 0,
 i 12 (mv t0) 0,
 i 13 (mv t5) 0,
 i 14 (.j3 7 y9 A6) 6,
 i 15 (.load true 7 C7) 14,
 i 16 (.eqs false [0,1,0,2,0,0,0] v7 G3) 31] true)
 (.cond G0
 (.seq (.b6 [i 17 (mv t5) 0,
 i 4 (mv E5) 1] false)
 .ret)
 .skip))))
 (.b6 [i 18 (.bin .add t8 (.c (I 1))) 0,
 i 8 (mv I1) 1] false)))))))
 (.seq (.b6 [i 4 (.mv (.c (I (-1)))) 0] false)
 .ret))⟩
def W0:n4:=⟨3,33,[.tmp 6],
 .seq (.b6 [i 6 (.mv (.c (.emp 7))) 0] false)
 (.seq (.b6 [i 8 (mv t0) 0,
 i 9 (mv t1) 0,
 i 10 (mv t2) 0,
 i 11 (mv t0) 0,
 i 12 (.j2 v7) 8,
 i 13 (.slice 7 t8 (some t9) (some s8) (some y9)) 31] false)
 (.seq (.seq (.b6 [i 14 (mv t1) 0,
 i 15 (mv t2) 0,
 i 16 (.bin .eql C7 G3) 3] false)
 (.cond G0
 (.seq (.b6 [i 17 (mv t0) 0,
 i 6 (mv E5) 1] false)
 .ret)
 .skip))
 (.seq (.b6 [i 18 (mv t0) 0,
 i 19 (.j2 I1) 1,
 i 7 (mv J9) 3] false)
 (.seq (.b6 [i 20 (mv t0) 0,
 i 21 (mv t1) 0,
 i 22 (.slice 7 N5 none (some L7) none) 3,
 i 23 (mv t0) 0,
 i 24 (mv t2) 0,
 i 25 (.slice 7 U3 (some W8) none none) 24,
 i 26 (.append 7 64 R2 W4) 63,
 i 0 (mv t26) 127] true)
 (.seq (.b6 [i 27 (mv t0) 0,
 i 28 (mv t0) 0,
 i 29 (.j2 t28) 2,
 i 30 (mv t7) 0,
 i 31 (.slice 7 t27 (some t29) (some t30) none) 15,
 iz (.clear 7 [.int .i64 (0),.bool false,.int .i64 (0),.str [],.int .i64 (0),.int .i64 (0),.int .i64 (0)] t31) 31] false)
 (.seq (.b6 [i 32 (mv t0) 0,
 i 6 (mv t32) 1] false)
 .ret))))))⟩
def a5z:n4:=⟨3,36,[.tmp 6],
 .seq (.b6 [i 6 (.mv (.c (I 0))) 0] false)
 (.seq (.b6 [i 7 (.mv (.c (.emp 1))) 0] false)
 (.seq (.seq (.b6 [i 8 (.mv (.c (I 0))) 0] false)
 (.block 0
 (.loop [0,1,2,7,8]
 (.seq (.seq (.b6 [i 9 (mv t8) 0,
 i 10 (mv t0) 0,
 i 11 (.j2 s8) 2,
 i 12 (.bin .lss t9 v7) 7] false)
 (.cond y9
 .skip
 (.exit 0)))
 (.seq (.block 1
 (.seq (.b6 [i 15 (mv t0) 0,
 i 16 (mv t8) 0,
 i 17 (.j3 7 G3 G0) 3,
 i 18 (.b0 E5 0) 7,
 i 19 (.load false 1 I1) 15,
 i 20 (mv t1) 0,
 i 21 (.bin .eql J9 N5) 63] false)
 (.cond L7
 (.b6 [i 22 (mv t7) 0,
 i 23 (mv t8) 0,
 i 24 (.N6 1 1 [I 0] [(0,U3)]) 2,
 i 25 (.append 1 8 R2 W8) 7,
 i 7 (mv W4) 15] false)
 .skip)))
 (.b6 [i 13 (mv t8) 0,
 i 14 (.bin .add A6 (.c (I 1))) 1,
 i 8 (mv C7) 3] false))))))
 (.seq (.seq (.b6 [i 26 (mv t7) 0,
 i 27 (.j2 t26) 1,
 i 28 (.bin .eql t27 (.c (I 0))) 3] false)
 (.cond t28
 (.seq (.b6 [i 6 (.mv (.c (I (-1)))) 0] false)
 .ret)
 .skip))
 (.seq (.b6 [i 29 (mv t7) 0,
 i 30 (mv t2) 0,
 i 31 (mv t7) 0,
 i 32 (.j2 t31) 4,
 i 33 (.bin .rem t30 t32) 14,
 i 34 (.j3 1 t29 t33) 31,
 i 35 (.load false 1 t34) 63,
 i 6 (mv t35) 127] false)
 .ret))))⟩
def D6:n4:=⟨2,32,[.cell 4 true 7,.tmp 5],
 .seq (.b6 [i 2 (.box 67 t0) 0,
 i 3 (.box 7 t1) 0,
 i 4 (.alloc z0) 0,
 i 5 (.mv (.c (I 0))) 0] false)
 (.seq (.b6 [i 10 (.b0 t2 0) 0,
 i 11 (.b0 s8 2) 1,
 i 12 (.load false 1 v7) 3,
 i 13 (.build z0 [(0,1,.c (I 9)),(4,1,.c (I 4))]) 0,
 i 14 (.load true 7 t3) 0,
 i 15 (.call (.f T8) [y9,A6,C7]) 31,
 i 9 (mv G3) 63,
 i 16 (.extract t9 0) 127,
 i 17 (.extract t9 1) 127,
 i 18 (.extract t9 2) 127,
 i 6 (.alloc z0) 0,
 iz (.store 7 t6 G0) 1279,
 i 7 (mv E5) 3583,
 i 8 (mv I1) 8191] false)
 (.seq (.seq (.b6 [i 19 (mv t8) 0,
 i 20 (.bin .neq J9 (.c (I 0))) 1,
 i 21 (mv N5) 3,
 ig 22 (mv t7) 21 false 7,
 ig 23 (.not R2) 21 false 15,
 i 24 (.pick L7 (.c (.pv (.bool true))) U3) 31,
 i 25 (mv W8) 63,
 ig 26 (.b0 t6 0) 25 false 127,
 ig 27 (.load false 1 t26) 25 false 255,
 ig 28 (.bin .neq t27 (.c (I 9))) 25 false 511,
 i 29 (.pick W4 (.c (.pv (.bool true))) t28) 1023] false)
 (.cond t29
 (.seq (.b6 [i 30 (.build z0 []) 0,
 iz (.store 7 t4 t30) 1,
 i 5 (.mv (.c (I 24))) 3] false)
 .ret)
 .skip))
 (.seq (.b6 [i 31 (.load true 7 t6) 0,
 iz (.store 7 t4 t31) 1,
 i 5 (.mv (.c (I 0))) 3] false)
 .ret)))⟩
def M9:n4:=⟨3,29,[.cell 6 true 7,.tmp 7],
 .seq (.b6 [i 3 (.box 67 t0) 0,
 i 4 (.box 7 t1) 0,
 i 5 (.box 7 t2) 0,
 i 6 (.alloc z0) 0,
 i 7 (.mv (.c (I 0))) 0] false)
 (.seq (.b6 [i 12 (.b0 t3 0) 0,
 i 13 (.b0 y9 2) 1,
 i 14 (.load false 1 A6) 3,
 i 15 (.load true 7 t4) 0,
 i 16 (.load true 7 t5) 0,
 i 17 (.call (.f T8) [C7,G3,G0]) 31,
 i 11 (mv E5) 63,
 i 18 (.extract v7 0) 127,
 i 19 (.extract v7 1) 127,
 i 20 (.extract v7 2) 127,
 i 8 (.alloc z0) 0,
 iz (.store 7 t8 I1) 1279,
 i 9 (mv J9) 3583,
 i 10 (mv N5) 8191] false)
 (.seq (.seq (.b6 [i 21 (mv s8) 0,
 i 22 (.bin .eql L7 (.c (I 0))) 1,
 i 23 (mv R2) 3,
 ig 24 (mv t9) 23 true 7,
 ig 25 (.not W8) 23 true 15,
 i 26 (.pick U3 W4 (.c (.pv (.bool false)))) 31] false)
 (.cond t26
 (.b6 [i 10 (.mv (.c (I 40))) 0] false)
 .skip))
 (.seq (.b6 [i 27 (.load true 7 t8) 0,
 i 28 (mv s8) 0,
 iz (.store 7 t6 t27) 1,
 i 7 (mv t28) 7] false)
 .ret)))⟩
def a8k:n4:=⟨2,13,[.tmp 4],
 .seq (.b6 [i 2 (.box 7 t0) 0,
 i 4 (.mv (.c (.pv (.bool false)))) 0] false)
 (.seq (.b6 [i 5 (.load true 7 t2) 0,
 i 6 (.call (.f L0) [t5]) 1,
 i 7 (mv t6) 3,
 ig 8 (.b0 t2 4) 7 true 7,
 ig 9 (.load false 1 t8) 7 true 15,
 ig 10 (mv t1) 7 true 7,
 ig 11 (.bin .geq t9 s8) 7 true 63,
 i 12 (.pick t7 v7 (.c (.pv (.bool false)))) 127,
 i 4 (mv y9) 255] false)
 .ret)⟩
def a9M:n4:=⟨3,16,[.tmp 6],
 .seq (.b6 [i 5 (.box 7 t2) 0,
 i 6 (.mv (.c (.emp 7))) 0] false)
 (.seq (.b6 [i 7 (.mv (.c (.emp 7))) 0] false)
 (.seq (.b6 [i 8 (mv t7) 0,
 i 9 (mv t0) 0,
 i 10 (.append 7 112 t8 t9) 3,
 i 7 (mv s8) 7] false)
 (.seq (.b6 [i 11 (mv t7) 0,
 i 12 (mv t1) 0,
 i 13 (.load true 7 t5) 0,
 i 14 (.j3 7 v7 y9) 7,
 iz (.store 7 C7 A6) 15] false)
 (.seq (.b6 [i 15 (mv t7) 0,
 i 6 (mv G3) 1] false)
 .ret))))⟩
def a8d:n4:=⟨2,19,[.tmp 4],
 .seq (.b6 [i 3 (.box 7 t1) 0,
 i 4 (.mv (.c (I 0))) 0] false)
 (.seq (.seq (.b6 [i 5 (.mv (.c (I 0))) 0] false)
 (.block 0
 (.loop [0,3,5]
 (.seq (.seq (.b6 [i 6 (mv t5) 0,
 i 7 (mv t0) 0,
 i 8 (.j2 t7) 2,
 i 9 (.bin .lss t6 t8) 7] false)
 (.cond t9
 .skip
 (.exit 0)))
 (.seq (.block 1
 (.seq (.b6 [i 12 (mv t0) 0,
 i 13 (mv t5) 0,
 i 14 (.j3 7 y9 A6) 3,
 i 15 (.load true 7 C7) 7,
 i 16 (.load true 7 t3) 0,
 i 17 (.eqs false [0,1,0,2,0,0,0] G3 G0) 31] true)
 (.cond E5
 (.seq (.b6 [i 18 (mv t5) 0,
 i 4 (mv I1) 1] false)
 .ret)
 .skip)))
 (.b6 [i 10 (mv t5) 0,
 i 11 (.bin .add s8 (.c (I 1))) 1,
 i 5 (mv v7) 3] false))))))
 (.seq (.b6 [i 4 (.mv (.c (I (-1)))) 0] false)
 .ret))⟩
def a2K:n4:=⟨2,27,[.cell 4 true 67,.tmp 5],
 .seq (.b6 [i 2 (.box 67 t0) 0,
 i 4 (.alloc z1) 0,
 i 5 (.mv (.c (I 0))) 0] false)
 (.seq (.seq (.b6 [i 6 (.b0 t2 0) 0,
 i 7 (.load false 1 t6) 1,
 i 8 (.j2 t7) 3,
 i 9 (mv t1) 0,
 i 10 (.j2 t9) 8,
 i 11 (.bin .add t8 s8) 31,
 i 12 (.bin .gtr v7 (.c (I 100))) 63] false)
 (.cond y9
 (.seq (.b6 [i 13 (.load true 67 t2) 0,
 iz (.store 67 t4 A6) 1,
 i 5 (.mv (.c (I 21))) 3] false)
 .ret)
 .skip))
 (.seq (.b6 [i 14 (.b0 t2 0) 0,
 i 15 (.load false 1 C7) 1,
 i 16 (.b0 t2 0) 0,
 i 17 (.load false 1 G0) 4,
 i 18 (.j2 E5) 12,
 i 19 (.b0 t2 0) 0,
 i 20 (.load false 1 J9) 32,
 i 21 (.j2 N5) 96,
 i 22 (.slice 7 G3 none (some I1) (some L7)) 255,
 i 23 (mv t1) 0,
 i 24 (.append 7 64 R2 U3) 1023,
 i 25 (.b0 t2 0) 2047,
 iz (.store 1 W4 W8) 4095] false)
 (.seq (.b6 [i 26 (.load true 67 t2) 0,
 iz (.store 67 t4 t26) 1,
 i 5 (.mv (.c (I 0))) 3] false)
 .ret)))⟩
def a4e:n4:=⟨2,27,[.tmp 4,.tmp 5],
 .seq (.b6 [i 2 (.box 67 t0) 0,
 i 4 (.mv (.c (.emp 7))) 0,
 i 5 (.mv (.c (I 0))) 2] false)
 (.seq (.seq (.b6 [i 6 (mv t1) 0,
 i 7 (.bin .lss t6 (.c (I 0))) 1] false)
 (.cond t7
 (.seq (.b6 [i 4 (.mv (.c (.emp 7))) 0,
 i 5 (.mv (.c (I 2))) 1] false)
 .ret)
 .skip))
 (.seq (.seq (.b6 [i 8 (mv t1) 0,
 i 9 (.b0 t2 0) 0,
 i 10 (.load false 1 t9) 2,
 i 11 (.j2 s8) 6,
 i 12 (.bin .gtr t8 v7) 15] false)
 (.cond y9
 (.seq (.b6 [i 4 (.mv (.c (.emp 7))) 0,
 i 5 (.mv (.c (I 20))) 1] false)
 .ret)
 .skip))
 (.seq (.b6 [i 13 (.b0 t2 0) 0,
 i 14 (.load false 1 A6) 1,
 i 15 (.b0 t2 0) 0,
 i 16 (.load false 1 G3) 4,
 i 17 (.j2 G0) 12,
 i 18 (mv t1) 0,
 i 19 (.bin .sub E5 I1) 60,
 i 20 (.b0 t2 0) 0,
 i 21 (.load false 1 N5) 128,
 i 22 (.j2 L7) 384,
 i 23 (.b0 t2 0) 0,
 i 24 (.load false 1 U3) 1024,
 i 25 (.j2 W8) 3072,
 i 26 (.slice 7 C7 (some J9) (some R2) (some W4)) 8191,
 i 4 (mv t26) 16383,
 i 5 (.mv (.c (I 0))) 32767] false)
 .ret)))⟩
def N0:n4:=⟨2,9,[.tmp 3],
 .seq (.b6 [i 2 (.box 7 t0) 0,
 i 3 (.mv (.c (.pv (.bool false)))) 0] false)
 (.seq (.b6 [i 4 (.load true 7 t2) 0,
 i 5 (.b0 t1 1) 0,
 i 6 (.load false 1 t5) 2,
 i 7 (.j2 t6) 6,
 i 8 (.call (.f K3) [t4,t7]) 15,
 i 3 (mv t8) 31] false)
 .ret)⟩
def a2R:n4:=⟨2,30,[.cell 4 true 67,.tmp 5],
 .seq (.b6 [i 2 (.box 67 t0) 0,
 i 4 (.alloc z1) 0,
 i 5 (.mv (.c (I 0))) 0] false)
 (.seq (.seq (.b6 [i 6 (mv t1) 0,
 i 7 (.bin .lss t6 (.c (I 0))) 1] false)
 (.cond t7
 (.seq (.b6 [i 8 (.load true 67 t2) 0,
 iz (.store 67 t4 t8) 1,
 i 5 (.mv (.c (I 2))) 3] false)
 .ret)
 .skip))
 (.seq (.seq (.b6 [i 9 (mv t1) 0,
 i 10 (.b0 t2 0) 0,
 i 11 (.load false 1 s8) 2,
 i 12 (.j2 v7) 6,
 i 13 (.bin .gtr t9 y9) 15] false)
 (.cond A6
 (.seq (.b6 [i 14 (.load true 67 t2) 0,
 iz (.store 67 t4 C7) 1,
 i 5 (.mv (.c (I 20))) 3] false)
 .ret)
 .skip))
 (.seq (.b6 [i 15 (.b0 t2 0) 0,
 i 16 (.load false 1 G3) 1,
 i 17 (.b0 t2 0) 0,
 i 18 (.load false 1 E5) 4,
 i 19 (.j2 I1) 12,
 i 20 (mv t1) 0,
 i 21 (.bin .sub J9 N5) 60,
 i 22 (.b0 t2 0) 0,
 i 23 (.load false 1 R2) 128,
 i 24 (.j2 U3) 384,
 i 25 (mv t1) 0,
 i 26 (.bin .sub W8 W4) 1920,
 i 27 (.slice 7 G0 none (some L7) (some t26)) 4095,
 i 28 (.b0 t2 0) 8191,
 iz (.store 1 t28 t27) 16383] false)
 (.seq (.b6 [i 29 (.load true 67 t2) 0,
 iz (.store 67 t4 t29) 1,
 i 5 (.mv (.c (I 0))) 3] false)
 .ret))))⟩
def a2u:n4:=⟨2,8,[.tmp 4],
 .seq (.b6 [i 4 (.mv (.c (.pv (.bool false)))) 0] false)
 (.seq (.b6 [i 5 (mv t0) 0,
 i 6 (mv t1) 0,
 i 7 (.call (.f y0) [t5,t6]) 3,
 i 4 (mv t7) 7] false)
 .ret)⟩
def W7:n4:=⟨1,4,[.tmp 2],
 .seq (.b6 [i 1 (.box 67 t0) 0,
 i 2 (.mv (.c (.pv .nilFunc))) 0] false)
 (.seq (.b6 [i 3 (.mkf (.func m0) [] [t1]) 0,
 i 2 (mv t3) 1] false)
 .ret)⟩
def R3:n4:=⟨2,9,[.tmp 4],
 .seq (.b6 [i 3 (.box 7 t1) 0,
 i 4 (.mv (.c (.pv (.bool false)))) 0] false)
 (.seq (.b6 [i 5 (mv t0) 0,
 i 6 (.load true 7 t3) 0,
 i 7 (.call (.f s7) [t5,t6]) 3,
 i 8 (.bin .geq t7 (.c (I 0))) 7,
 i 4 (mv t8) 15] false)
 .ret)⟩
def T0:n4:=⟨0,15,[.cell 0 true 78],
 .seq (.b6 [i 0 (.alloc z5) 0] false)
 (.seq (.b6 [i 1 (.build [.pv (.str []),I 0,I 0,I 0,I 0,I 0] [(0,1,.c (.pv (.str [110,117,108,108,116,121,112,101])))]) 0,
 i 2 (.build [.pv (.str []),I 0,I 0,I 0,I 0,I 0] [(0,1,.c (.pv (.str [109,97,114,107,116,121,112,101])))]) 0,
 i 3 (.build [.pv (.str []),I 0,I 0,I 0,I 0,I 0] [(0,1,.c (.pv (.str [98,111,111,108,101,97,110,116,121,112,101]))),(2,1,.c (I 1))]) 0,
 i 4 (.build [.pv (.str []),I 0,I 0,I 0,I 0,I 0] [(0,1,.c (.pv (.str [105,110,116,101,103,101,114,116,121,112,101]))),(1,1,.c (I (-2147483648))),(2,1,.c (I 2147483647))]) 0,
 i 5 (.build [.pv (.str []),I 0,I 0,I 0,I 0,I 0] [(0,1,.c (.pv (.str [114,101,97,108,116,121,112,101]))),(1,1,.c (I (-2147483648))),(2,1,.c (I 2147483648))]) 0,
 i 6 (.build [.pv (.str []),I 0,I 0,I 0,I 0,I 0] [(0,1,.c (.pv (.str [110,97,109,101,116,121,112,101]))),(4,1,.c (I 100))]) 0,
 i 7 (.build [.pv (.str []),I 0,I 0,I 0,I 0,I 0] [(0,1,.c (.pv (.str [115,116,114,105,110,103,116,121,112,101]))),(5,1,.c (I 1))]) 0,
 i 8 (.build [.pv (.str []),I 0,I 0,I 0,I 0,I 0] [(0,1,.c (.pv (.str [97,114,114,97,121,116,121,112,101]))),(5,1,.c (I 2))]) 0,
 i 9 (.build [.pv (.str []),I 0,I 0,I 0,I 0,I 0] [(0,1,.c (.pv (.str [112,97,99,107,101,100,97,114,114,97,121,116,121,112,101]))),(5,1,.c (I 2))]) 0,
 i 10 (.build [.pv (.str []),I 0,I 0,I 0,I 0,I 0] [(0,1,.c (.pv (.str [100,105,99,116,116,121,112,101]))),(5,1,.c (I 3))]) 0,
 i 11 (.build [.pv (.str []),I 0,I 0,I 0,I 0,I 0] [(0,1,.c (.pv (.str [111,112,101,114,97,116,111,114,116,121,112,101]))),(3,1,.c (I 1)),(4,1,.c (I 100))]) 0,
 i 12 (.build [.pv (.str []),I 0,I 0,I 0,I 0,I 0] [(0,1,.c (.pv (.str [102,105,108,101,116,121,112,101]))),(5,1,.c (I 3))]) 0,
 i 13 (.build [.pv (.str []),I 0,I 0,I 0,I 0,I 0] [(0,1,.c (.pv (.str [115,97,118,101,116,121,112,101]))),(1,1,.c (I 1)),(2,1,.c (I 9223372036854775807))]) 0,
 i 14 (.build z5 [(0,6,t1),(6,6,t2),(12,6,t3),(18,6,t4),(24,6,t5),(30,6,t6),(36,6,t7),(42,6,t8),(48,6,t9),(54,6,s8),(60,6,v7),(66,6,y9),(72,6,A6)]) 8191,
 iz (.store 78 t0 C7) 16383] false)
 .ret)⟩
def D7:n4:=⟨2,17,[.tmp 4],
 .seq (.b6 [i 2 (.box 6 t0) 0,
 i 3 (.box 7 t1) 0,
 i 4 (.mv (.c (.pv (.bool false)))) 0] false)
 (.seq (.b6 [i 5 (.b0 t3 2) 0,
 i 6 (.load false 1 t5) 1,
 i 7 (.b0 t2 1) 0,
 i 8 (.load false 1 t7) 4,
 i 9 (.bin .geq t6 t8) 15,
 i 10 (mv t9) 31,
 ig 11 (.b0 t3 2) 10 true 63,
 ig 12 (.load false 1 v7) 10 true 127,
 ig 13 (.b0 t2 2) 10 true 63,
 ig 14 (.load false 1 A6) 10 true 319,
 ig 15 (.bin .leq y9 C7) 10 true 1023,
 i 16 (.pick s8 G3 (.c (.pv (.bool false)))) 2047,
 i 4 (mv G0) 4095] false)
 .ret)⟩
def E8:n4:=⟨2,19,[.tmp 4],
 .seq (.b6 [i 2 (.box 6 t0) 0,
 i 3 (.box 7 t1) 0,
 i 4 (.mv (.c (.pv (.bool false)))) 0] false)
 (.seq (.b6 [i 5 (.b0 t3 3) 0,
 i 6 (.load false 1 t5) 1,
 i 7 (.I2 t6) 3,
 i 8 (.b0 t2 3) 0,
 i 9 (.load false 1 t8) 8,
 i 10 (.bin .geq t7 t9) 31,
 i 11 (mv s8) 63,
 ig 12 (.b0 t3 3) 11 true 127,
 ig 13 (.load false 1 y9) 11 true 255,
 ig 14 (.I2 A6) 11 true 511,
 ig 15 (.b0 t2 4) 11 true 127,
 ig 16 (.load false 1 G3) 11 true 1151,
 ig 17 (.bin .leq C7 G0) 11 true 4095,
 i 18 (.pick v7 E5 (.c (.pv (.bool false)))) 8191,
 i 4 (mv I1) 16383] false)
 .ret)⟩
def A3:n4:=⟨2,57,[.tmp 4],
 .seq (.b6 [i 2 (.box 6 t0) 0,
 i 3 (.box 7 t1) 0,
 i 4 (.mv (.c (.pv (.bool false)))) 0] false)
 (.seq (.seq (.b6 [i 6 (.b0 t2 5) 0,
 i 7 (.load false 1 t6) 1,
 i 8 (.bin .eql t7 (.c (I 0))) 3] false)
 (.cond t8
 (.seq (.b6 [i 9 (.b0 t3 4) 0,
 i 10 (.load false 1 t9) 1,
 i 11 (.bin .eql s8 (.c (I 0))) 3,
 i 12 (mv v7) 7,
 ig 13 (.b0 t3 5) 12 true 15,
 ig 14 (.load false 1 A6) 12 true 31,
 ig 15 (.bin .eql C7 (.c (I 0))) 12 true 63,
 i 16 (.pick y9 G3 (.c (.pv (.bool false)))) 127,
 i 17 (mv G0) 255,
 ig 18 (.b0 t3 6) 17 true 511,
 ig 19 (.load false 1 I1) 17 true 1023,
 ig 20 (.bin .eql J9 (.c (I 0))) 17 true 2047,
 i 21 (.pick E5 N5 (.c (.pv (.bool false)))) 4095,
 i 4 (mv L7) 8191] false)
 .ret)
 .skip))
 (.seq (.b6 [i 22 (.load true 6 t2) 0,
 i 23 (.call (.f u6) [R2]) 1,
 i 5 (mv U3) 3] false)
 (.seq (.b6 [i 24 (.b0 t3 4) 0,
 i 25 (.load false 1 W8) 1,
 i 26 (.bin .geq W4 (.c (I 0))) 3,
 i 27 (mv t26) 7,
 ig 28 (.b0 t3 4) 27 true 15,
 ig 29 (.load false 1 t28) 27 true 31,
 ig 30 (.bin .leq t29 (.c (I 20000))) 27 true 63,
 i 31 (.pick t27 t30 (.c (.pv (.bool false)))) 127,
 i 32 (mv t31) 255,
 ig 33 (.b0 t3 5) 32 true 511,
 ig 34 (.load false 1 t33) 32 true 1023,
 ig 35 (.bin .geq t34 (.c (I 0))) 32 true 2047,
 i 36 (.pick t32 t35 (.c (.pv (.bool false)))) 4095,
 i 37 (mv t36) 8191,
 ig 38 (.b0 t3 6) 37 true 16383,
 ig 39 (.load false 1 t38) 37 true 32767,
 ig 40 (.bin .geq t39 (.c (I 0))) 37 true 65535,
 i 41 (.pick t37 t40 (.c (.pv (.bool false)))) 131071,
 i 42 (mv t41) 262143,
 ig 43 (.b0 t3 5) 42 true 524287,
 ig 44 (.load false 1 t43) 42 true 1048575,
 ig 45 (mv t5) 42 true 524287,
 ig 46 (.bin .leq t44 t45) 42 true 4194303,
 i 47 (.pick t42 t46 (.c (.pv (.bool false)))) 8388607,
 i 48 (mv t47) 16777215,
 ig 49 (.b0 t3 6) 48 true 33554431,
 ig 50 (.load false 1 t49) 48 true 67108863,
 ig 51 (mv t5) 48 true 33554431,
 ig 52 (.b0 t3 5) 48 true 33554431,
 ig 53 (.load false 1 t52) 48 true 301989887,
 ig 54 (.bin .sub t51 t53) 48 true 973078527,
 ig 55 (.bin .leq t50 t54) 48 true 2147483647,
 i 56 (.pick t48 t55 (.c (.pv (.bool false)))) 4294967295,
 i 4 (mv t56) 8589934591] false)
 .ret)))⟩
def a1d:n4:=⟨1,16,[.tmp 2,.tmp 3],
 .seq (.b6 [i 1 (.box 7 t0) 0,
 i 2 (.mv (.c (I 0))) 0,
 i 3 (.mv (.c (I 0))) 2] false)
 (.seq (.b6 [i 7 (.load true 7 t1) 0,
 i 8 (.call (.f A8) [t7]) 1,
 i 6 (mv t8) 3,
 i 9 (.extract t6 0) 7,
 i 10 (.extract t6 1) 7,
 i 4 (.alloc z0) 0,
 iz (.store 7 t4 t9) 47,
 i 5 (mv s8) 127] false)
 (.seq (.seq (.b6 [i 11 (mv t5) 0,
 i 12 (.bin .neq v7 (.c (I 0))) 1] false)
 (.cond y9
 (.seq (.b6 [i 13 (mv t5) 0,
 i 2 (.mv (.c (I 0))) 0,
 i 3 (mv A6) 3] false)
 .ret)
 .skip))
 (.seq (.b6 [i 14 (.load true 7 t4) 0,
 i 15 (.call (.f u4) [C7]) 1,
 i 2 (mv G3) 3,
 i 3 (.mv (.c (I 0))) 7] false)
 .ret)))⟩
def C4:n4:=⟨2,29,[],
 .seq (.b6 [i 7 (.b0 t1 2) 0,
 i 8 (.load false 1 t7) 1,
 i 9 (.b0 t1 3) 0,
 i 10 (.load false 1 t9) 4,
 i 11 (.b0 t1 4) 0,
 i 12 (.load false 1 v7) 16,
 i 13 (.build [.emp 7,.emp 7,.emp 7] [(0,1,t8),(1,1,s8),(2,1,y9)]) 63,
 i 14 (.mv (.c (I 0))) 0] false)
 (.block 0
 (.loop [0,13,14]
 (.seq (.b6 [i 15 (.bin .lss C7 (.c (I 3))) 0] false)
 (.seq (.cond G3
 .skip
 (.exit 0))
 (.seq (.block 1
 (.seq (.b6 [i 16 (.index false 3 1 A6 C7) 0,
 i 4 (mv G0) 1] false)
 (.seq (.b6 [i 17 (mv t4) 0,
 i 18 (.j2 E5) 1,
 i 19 (.mv (.c (I 0))) 0] false)
 (.block 2
 (.loop [0,13,14,17,18,19]
 (.seq (.b6 [i 20 (.bin .lss J9 I1) 0] false)
 (.seq (.cond N5
 .skip
 (.exit 2))
 (.seq (.block 3
 (.seq (.b6 [i 21 (.j3 7 E5 J9) 0,
 i 22 (.load true 7 L7) 1,
 i 6 (.alloc z0) 0,
 iz (.store 7 t6 R2) 7] false)
 (.seq (.b6 [i 23 (mv t0) 0,
 i 24 (.load true 7 t6) 0,
 i 25 (.call U3 [W8]) 3,
 i 26 (.not W4) 7] false)
 (.cond t26
 .ret
 .skip))))
 (.b6 [i 27 (.bin .add J9 (.c (I 1))) 0,
 i 19 (mv t27) 1] false)))))))))
 (.b6 [i 28 (.bin .add C7 (.c (I 1))) 0,
 i 14 (mv t28) 1] false))))))⟩
def a1n:n4:=⟨2,26,[.tmp 4],
 .seq (.b6 [i 3 (.box 7 t1) 0,
 i 4 (.mv (.c (.pv (.bool false)))) 0] false)
 (.scope
 (.seq (.b6 [i 5 (.mv (.c (.pv (.bool true)))) 0] false)
 (.seq .skip
 (.seq (.seq (.b6 [i 8 (.build [.pv (.str []),.pv .nilFunc] [(0,1,.c (.pv (.str [70,111,110,116]))),(1,1,.f E1)]) 0,
 i 9 (.build [.pv (.str []),.pv .nilFunc] [(0,1,.c (.pv (.str [80,97,116,116,101,114,110]))),(1,1,.f E1)]) 0,
 i 10 (.build [.pv (.str []),.pv .nilFunc] [(0,1,.c (.pv (.str [70,111,114,109]))),(1,1,.f E1)]) 0,
 i 11 (.build [.pv (.str []),.pv .nilFunc] [(0,1,.c (.pv (.str [69,110,99,111,100,105,110,103]))),(1,1,.f P4)]) 0,
 i 12 (.build [.pv (.str []),.pv .nilFunc,.pv (.str []),.pv .nilFunc,.pv (.str []),.pv .nilFunc,.pv (.str []),.pv .nilFunc] [(0,2,t8),(2,2,t9),(4,2,s8),(6,2,v7)]) 15,
 i 13 (.mv (.c (I 0))) 0] false)
 (.block 0
 (.loop [0,3,5,12,13]
 (.seq (.b6 [i 14 (.bin .lss A6 (.c (I 4))) 0] false)
 (.seq (.cond C7
 .skip
 (.exit 0))
 (.seq (.block 1
 (.seq (.b6 [i 15 (.index true 4 2 y9 A6) 0,
 i 7 (.alloc [.pv (.str []),.pv .nilFunc]) 0,
 iz (.store 2 t7 G3) 3] false)
 (.seq (.b6 [i 16 (.b0 t7 0) 0,
 i 17 (.load false 1 G0) 1,
 i 18 (mv t0) 0,
 i 19 (.bin .eql E5 I1) 7] false)
 (.cond J9
 (.seq (.b6 [i 20 (.b0 t7 1) 0,
 i 21 (.load false 1 N5) 1,
 i 22 (.load true 7 t3) 0,
 i 23 (.call L7 [R2]) 7,
 i 5 (mv U3) 15] false)
 (.exit 0))
 .skip))))
 (.b6 [i 24 (.bin .add A6 (.c (I 1))) 0,
 i 13 (mv W8) 1] false)))))))
 (.seq (.b6 [i 25 (mv t5) 0,
 i 4 (mv W4) 1] false)
 .ret)))))⟩
def M8:n4:=⟨4,40,[.cell 8 true 67,.tmp 9],
 .seq (.b6 [i 4 (.box 67 t0) 0,
 i 5 (.box 29 t1) 0,
 i 8 (.alloc z1) 0,
 i 9 (.mv (.c (I 0))) 0] false)
 (.seq (.b6 [i 14 (.b0 t4 0) 0,
 i 15 (.load true 67 C7) 1,
 i 16 (.b0 t5 28) 0,
 i 17 (.load false 1 G0) 4,
 i 18 (.call (.f P0) [G3,E5]) 15,
 i 13 (mv I1) 31,
 i 19 (.extract A6 0) 63,
 i 20 (.extract A6 1) 63,
 i 10 (.alloc z1) 0,
 iz (.store 67 s8 J9) 383,
 i 11 (mv N5) 1023] false)
 (.seq (.seq (.b6 [i 21 (mv v7) 0,
 i 22 (.bin .neq L7 (.c (I 0))) 1] false)
 (.cond R2
 (.seq (.b6 [i 23 (.b0 t4 0) 0,
 i 24 (.load true 67 U3) 1,
 i 25 (mv v7) 0,
 iz (.store 67 t8 W8) 3,
 i 9 (mv W4) 15] false)
 .ret)
 .skip))
 (.seq (.b6 [i 27 (.load true 67 s8) 0,
 i 28 (mv t3) 0,
 i 29 (.call (.f D1) [t27,t28]) 3,
 i 26 (mv t29) 7,
 i 30 (.extract t26 0) 15,
 i 31 (.extract t26 1) 15,
 i 12 (.alloc z1) 0,
 iz (.store 67 y9 t30) 95,
 i 11 (mv t31) 255] false)
 (.seq (.seq (.b6 [i 32 (mv v7) 0,
 i 33 (.bin .neq t32 (.c (I 0))) 1] false)
 (.cond t33
 (.seq (.b6 [i 34 (.b0 t4 0) 0,
 i 35 (.load true 67 t34) 1,
 i 36 (mv v7) 0,
 iz (.store 67 t8 t35) 3,
 i 9 (mv t36) 15] false)
 .ret)
 .skip))
 (.seq (.b6 [i 37 (mv t2) 0,
 i 38 (.b0 y9 2) 1,
 iz (.store 1 t38 t37) 3] false)
 (.seq (.b6 [i 39 (.load true 67 y9) 0,
 iz (.store 67 t8 t39) 1,
 i 9 (.mv (.c (I 0))) 3] false)
 .ret))))))⟩
def B9:n4:=⟨2,9,[.tmp 4],
 .seq (.b6 [i 4 (.mv (.c (.pv (.bool false)))) 0] false)
 (.seq (.b6 [i 5 (mv t0) 0,
 i 6 (mv t1) 0,
 i 7 (.call (.f C2) [t5,t6]) 3,
 i 8 (.bin .geq t7 (.c (I 0))) 7,
 i 4 (mv t8) 15] false)
 .ret)⟩
def a0O:n4:=⟨1,20,[.cell 2 true 7,.tmp 3],
 .seq (.b6 [i 1 (.box 7 t0) 0,
 i 2 (.alloc z0) 0,
 i 3 (.mv (.c (I 0))) 0] false)
 (.seq (.b6 [i 7 (.load true 7 t1) 0,
 i 8 (.call (.f D5) [t7]) 1,
 i 6 (mv t8) 3,
 i 9 (.extract t6 0) 7,
 i 10 (.extract t6 1) 7,
 i 4 (mv t9) 15,
 i 5 (mv s8) 63] false)
 (.seq (.seq (.b6 [i 11 (mv t5) 0,
 i 12 (.bin .neq v7 (.c (I 0))) 1] false)
 (.cond y9
 (.seq (.b6 [i 13 (.build z0 []) 0,
 i 14 (mv t5) 0,
 iz (.store 7 t2 A6) 1,
 i 3 (mv C7) 7] false)
 .ret)
 .skip))
 (.seq (.b6 [i 15 (mv t4) 0,
 i 16 (.bin .quo G3 (.c (I 65536))) 1,
 i 17 (.call (.f V3) [G0]) 3,
 i 18 (.extract E5 0) 7,
 i 19 (.extract E5 1) 7,
 iz (.store 7 t2 I1) 31,
 i 3 (mv J9) 63] false)
 .ret)))⟩
def L1:n4:=⟨2,15,[.cell 4 true 7,.tmp 5],
 .seq (.b6 [i 4 (.alloc z0) 0,
 i 5 (.mv (.c (I 0))) 0] false)
 (.seq (.b6 [i 7 (mv t1) 0,
 i 8 (mv t0) 0,
 i 9 (.call t7 [t8]) 3,
 i 6 (.alloc z0) 0,
 iz (.store 7 t6 t9) 15] false)
 (.seq (.seq (.b6 [i 10 (.load true 7 t6) 0,
 i 11 (.call (.f n6) [s8]) 1,
 i 12 (.bin .neq v7 (.c (I 0))) 3] false)
 (.cond y9
 (.seq (.b6 [i 13 (.build z0 []) 0,
 iz (.store 7 t4 A6) 1,
 i 5 (.mv (.c (I 2))) 3] false)
 .ret)
 .skip))
 (.seq (.b6 [i 14 (.load true 7 t6) 0,
 iz (.store 7 t4 C7) 1,
 i 5 (.mv (.c (I 0))) 3] false)
 .ret)))⟩
def Z1:n4:=⟨2,7,[.cell 3 true 7],
 .seq (.b6 [i 3 (.alloc z0) 0] false)
 (.seq (.b6 [i 4 (mv t0) 0,
 i 5 (.load false 1 t1) 0,
 i 6 (.build z0 [(0,1,.c (I 5)),(3,1,t4),(1,1,t5)]) 3,
 iz (.store 7 t3 t6) 7] false)
 .ret)⟩
def I4:n4:=⟨2,9,[.tmp 4],
 .seq (.b6 [i 4 (.mv (.c (.pv (.bool false)))) 0] false)
 (.seq (.b6 [i 5 (mv t0) 0,
 i 6 (mv t1) 0,
 i 7 (.call (.f A7) [t5,t6]) 3,
 i 8 (.bin .geq t7 (.c (I 0))) 7,
 i 4 (mv t8) 15] false)
 .ret)⟩
def u7:n4:=⟨2,20,[],
 .seq (.b6 [i 5 (.b0 t1 0) 0,
 i 6 (.b0 t5 3) 1,
 i 7 (.load false 1 t6) 3,
 i 8 (.j2 t7) 7,
 i 9 (.mv (.c (I 0))) 0] false)
 (.block 0
 (.loop [0,7,8,9]
 (.seq (.b6 [i 10 (.bin .lss t9 t8) 0] false)
 (.seq (.cond s8
 .skip
 (.exit 0))
 (.seq (.block 1
 (.seq (.b6 [i 11 (mv t9) 0,
 i 12 (.j3 3 t7 t9) 0,
 i 13 (.load true 3 y9) 2,
 i 4 (.alloc [I 0,.emp 7,I 0]) 0,
 i 3 (mv v7) 15,
 iz (.store 3 t4 A6) 31] false)
 (.seq (.b6 [i 14 (mv t0) 0,
 i 15 (mv t3) 0,
 i 16 (.load true 3 t4) 0,
 i 17 (.call C7 [G3,G0]) 7,
 i 18 (.not E5) 15] false)
 (.cond I1
 .ret
 .skip))))
 (.b6 [i 19 (.bin .add t9 (.c (I 1))) 0,
 i 9 (mv J9) 1] false))))))⟩
def B8:n4:=⟨1,7,[.tmp 2],
 .seq (.b6 [i 1 (.box 6 t0) 0,
 i 2 (.mv (.c (I 0))) 0] false)
 (.seq (.b6 [i 3 (.build [I 0,I 0,I 0,I 0] [(0,1,.c (I 0)),(1,1,.c (I 1000)),(2,1,.c (I 1000)),(3,1,.c (I 0))]) 0,
 i 4 (.b0 t1 5) 0,
 i 5 (.load false 1 t4) 2,
 i 6 (.index false 4 1 t3 t5) 7,
 i 2 (mv t6) 15] false)
 .ret)⟩
def S2:n4:=⟨1,22,[.cell 2 true 7,.tmp 3],
 .seq (.b6 [i 1 (.box 7 t0) 0,
 i 2 (.alloc z0) 0,
 i 3 (.mv (.c (I 0))) 0] false)
 (.seq (.seq (.b6 [i 5 (.load true 7 t1) 0,
 i 6 (.call (.f n6) [t5]) 1,
 i 4 (mv t6) 3] false)
 (.seq (.b6 [i 7 (mv t4) 0,
 i 8 (.bin .neq t7 (.c (I 0))) 1] false)
 (.cond t8
 (.seq (.b6 [i 9 (.build z0 []) 0,
 i 10 (mv t4) 0,
 iz (.store 7 t2 t9) 1,
 i 3 (mv s8) 7] false)
 .ret)
 .skip)))
 (.seq (.seq (.b6 [i 11 (.b0 t1 0) 0,
 i 12 (.load false 1 v7) 1,
 i 13 (.bin .neq y9 (.c (I 3))) 3,
 i 14 (mv A6) 7,
 ig 15 (.b0 t1 0) 14 true 15,
 ig 16 (.load false 1 G3) 14 true 31,
 ig 17 (.bin .neq G0 (.c (I 4))) 14 true 63,
 i 18 (.pick C7 E5 (.c (.pv (.bool false)))) 127] false)
 (.cond I1
 (.seq (.b6 [i 19 (.build z0 []) 0,
 iz (.store 7 t2 J9) 1,
 i 3 (.mv (.c (I 22))) 3] false)
 .ret)
 .skip))
 (.seq (.b6 [i 20 (.load true 7 t1) 0,
 i 21 (.build z0 [(0,7,N5)]) 1,
 iz (.store 7 t2 L7) 3,
 i 3 (.mv (.c (I 0))) 7] false)
 .ret)))⟩
def H6:n4:=⟨1,14,[.tmp 2],
 .seq (.b6 [i 1 (.box 7 t0) 0,
 i 2 (.mv (.c (I 0))) 0] false)
 (.seq (.seq (.b6 [i 3 (.b0 t1 0) 0,
 i 4 (.b0 t3 0) 1,
 i 5 (.load false 1 t4) 3,
 i 6 (.bin .eql t5 (.c (I 3))) 7] false)
 (.cond t6
 (.seq (.b6 [i 7 (.b0 t1 0) 0,
 i 8 (.b0 t7 2) 1,
 i 9 (.load false 1 t8) 3,
 i 10 (.bin .mul t9 (.c (I 65536))) 7,
 i 2 (mv s8) 15] false)
 .ret)
 .skip))
 (.seq (.b6 [i 11 (.b0 t1 0) 0,
 i 12 (.b0 v7 2) 1,
 i 13 (.load false 1 y9) 3,
 i 2 (mv A6) 7] false)
 .ret))⟩
def a0U:n4:=⟨1,6,[.tmp 2],
 .seq (.b6 [i 1 (.box 7 t0) 0,
 i 2 (.mv (.c (.pv (.bool false)))) 0] false)
 (.seq (.b6 [i 3 (.b0 t1 0) 0,
 i 4 (.load false 1 t3) 1,
 i 5 (.bin .eql t4 (.c (I 9))) 3,
 i 2 (mv t5) 7] false)
 .ret)⟩
def a0o:n4:=⟨1,11,[.tmp 2],
 .seq (.b6 [i 1 (.box 7 t0) 0,
 i 2 (.mv (.c (.pv (.bool false)))) 0] false)
 (.seq (.b6 [i 3 (.b0 t1 0) 0,
 i 4 (.load false 1 t3) 1,
 i 5 (.bin .eql t4 (.c (I 7))) 3,
 i 6 (mv t5) 7,
 ig 7 (.b0 t1 0) 6 false 15,
 ig 8 (.load false 1 t7) 6 false 31,
 ig 9 (.bin .eql t8 (.c (I 8))) 6 false 63,
 i 10 (.pick t6 (.c (.pv (.bool true))) t9) 127,
 i 2 (mv s8) 255] false)
 .ret)⟩
def G9:n4:=⟨2,19,[.tmp 4],
 .seq (.b6 [i 4 (.mv (.c (I 0))) 0] false)
 (.seq (.seq (.b6 [i 6 (mv t0) 0,
 i 7 (.j2 t6) 1,
 i 8 (.mv (.c (I 0))) 0] false)
 (.block 0
 (.loop [0,1,7,8]
 (.seq (.b6 [i 9 (.bin .lss t8 t7) 0] false)
 (.seq (.cond t9
 .skip
 (.exit 0))
 (.seq (.block 1
 (.seq (.b6 [i 10 (mv t8) 0,
 i 5 (mv s8) 1] false)
 (.seq (.b6 [i 11 (mv t1) 0,
 i 12 (mv t0) 0,
 i 13 (mv t5) 0,
 i 14 (.j3 1 y9 A6) 6,
 i 15 (.load false 1 C7) 14,
 i 16 (.bin .eql v7 G3) 31] false)
 (.cond G0
 (.seq (.b6 [i 17 (mv t5) 0,
 i 4 (mv E5) 1] false)
 .ret)
 .skip))))
 (.b6 [i 18 (.bin .add t8 (.c (I 1))) 0,
 i 8 (mv I1) 1] false)))))))
 (.seq (.b6 [i 4 (.mv (.c (I (-1)))) 0] false)
 .ret))⟩
def a2V:n4:=⟨1,8,[.cell 2 true 7,.tmp 3],
 .seq (.b6 [i 2 (.alloc z0) 0,
 i 3 (.mv (.c (I 0))) 0] false)
 (.seq (.b6 [i 4 (mv t0) 0,
 i 5 (.call (.f E2) [t4,.f H4]) 1,
 i 6 (.extract t5 0) 3,
 i 7 (.extract t5 1) 3,
 iz (.store 7 t2 t6) 15,
 i 3 (mv t7) 31] false)
 .ret)⟩
def O6:n4:=⟨2,19,[.tmp 4],
 .seq (.b6 [i 4 (.mv (.c (I 0))) 0] false)
 (.seq (.seq (.b6 [i 6 (mv t0) 0,
 i 7 (.j2 t6) 1,
 i 8 (.mv (.c (I 0))) 0] false)
 (.block 0
 (.loop [0,1,7,8]
 (.seq (.b6 [i 9 (.bin .lss t8 t7) 0] false)
 (.seq (.cond t9
 .skip
 (.exit 0))
 (.seq (.block 1
 (.seq (.b6 [i 10 (mv t8) 0,
 i 5 (mv s8) 1] false)
 (.seq (.b6 [i 11 (mv t1) 0,
 i 12 (mv t0) 0,
 i 13 (mv t5) 0,
 i 14 (.j3 7 y9 A6) 6,
 i 15 (.load true 7 C7) 14,
 i 16 (.call v7 [G3]) 31] false)
 (.cond G0
 (.seq (.b6 [i 17 (mv t5) 0,
 i 4 (mv E5) 1] false)
 .ret)
 .skip))))
 (.b6 [i 18 (.bin .add t8 (.c (I 1))) 0,
 i 8 (mv I1) 1] false)))))))
 (.seq (.b6 [i 4 (.mv (.c (I (-1)))) 0] false)
 .ret))⟩
def S0:n4:=⟨2,15,[.cell 4 true 7,.tmp 5],
 .seq (.b6 [i 4 (.alloc z0) 0,
 i 5 (.mv (.c (I 0))) 0] false)
 (.seq (.b6 [i 7 (mv t1) 0,
 i 8 (mv t0) 0,
 i 9 (.call t7 [t8]) 3,
 i 6 (.alloc z0) 0,
 iz (.store 7 t6 t9) 15] false)
 (.seq (.seq (.b6 [i 10 (.load true 7 t6) 0,
 i 11 (.call (.f n6) [s8]) 1,
 i 12 (.bin .neq v7 (.c (I 0))) 3] false)
 (.cond y9
 (.seq (.b6 [i 13 (.build z0 []) 0,
 iz (.store 7 t4 A6) 1,
 i 5 (.mv (.c (I 2))) 3] false)
 .ret)
 .skip))
 (.seq (.b6 [i 14 (.load true 7 t6) 0,
 iz (.store 7 t4 C7) 1,
 i 5 (.mv (.c (I 0))) 3] false)
 .ret)))⟩
def a0V:n4:=⟨1,5,[.cell 2 true 7],
 .seq (.b6 [i 2 (.alloc z0) 0] false)
 (.seq (.b6 [i 3 (mv t0) 0,
 i 4 (.build z0 [(0,1,.c (I 3)),(2,1,t3)]) 1,
 iz (.store 7 t2 t4) 3] false)
 .ret)⟩
end Go.Ab.Td
namespace Go.Ab.Td
open Go.Ab
def c9b:TF:=(.node (.node (.node (.node (.node (.leaf J8 a5I) (.leaf a1X a8f)) (.node (.leaf a5B a8H) (.leaf G2 b0N))) (.node (.node (.leaf a0y a9E) (.node (.leaf i7 a3l) (.leaf G1 V2))) (.node (.leaf a2L a5F) (.node (.leaf Y1 a4n) (.leaf P3 a2T))))) (.node (.node (.node (.leaf a1I a8i) (.leaf u9 a3Y)) (.node (.leaf P6 a2M) (.node (.leaf a2H a5D) (.leaf I8 Y9)))) (.node (.node (.leaf B0 a2h) (.node (.leaf e6 a4R) (.leaf C1 a1k))) (.node (.leaf L8 W2) (.leaf a2O a5W))))) (.node (.node (.node (.node (.leaf F6 a2J) (.node (.leaf a4a b1s) (.leaf X9 a4E))) (.node .nil (.node (.leaf y4 S3) (.leaf n7 y3)))) (.node (.leaf W9 a4o) (.leaf a1E a4L))) (.node (.node (.node (.leaf N8 a3U) (.node (.leaf A0 b2N) (.leaf Q7 a4G))) (.node (.leaf H0 a0f) (.leaf a1K a8g))) (.node (.leaf V8 a2Q) (.node (.node (.leaf R1 a4s) (.leaf a2G a5y)) .nil)))))
def c8N:TF:=(.node (.node (.node (.node (.node (.node (.leaf T8 a4m) (.leaf C3 a0n)) (.leaf Q3 a2t)) (.node (.leaf q9 G5) (.leaf U5 a4W))) (.node (.leaf K3 a6a) (.node (.leaf F1 W6) (.leaf w6 Z9)))) (.node (.node (.node (.leaf N9 a6W) (.leaf a1M a4p)) (.node (.leaf a6j b2K) (.leaf X7 a8j))) (.node (.node (.leaf D2 T9) (.leaf X4 a8h)) (.node (.leaf V5 a2W) (.leaf q8 O2))))) (.node (.node (.node (.node (.node (.leaf O5 a2Y) (.leaf a0I a3p)) (.leaf a3J a8r)) (.node (.leaf A1 P8) (.leaf V7 a4X))) (.node (.node (.leaf K0 a0Z) (.leaf s9 a6v)) (.node (.leaf C5 H3) (.leaf j8 R8)))) (.node (.node (.node (.node (.leaf a1W a4H) (.leaf F3 a5X)) (.leaf Q8 a1Y)) (.node (.leaf Y2 a8m) (.leaf J6 a9Q))) (.node (.node (.leaf L5 a1O) (.leaf a0r b1m)) (.node (.leaf q0 a5G) (.node (.leaf u2 U9) (.leaf a0k a5E)))))))
def c8Q:TF:=(.node (.node (.node (.node (.node (.leaf B4 I3) (.leaf P5 a2X)) (.node (.node (.leaf l8 P2) (.leaf n6 T3)) (.leaf X6 a4q))) (.node (.leaf N2 a3v) (.node (.node (.leaf o3 N4) (.leaf L0 a4d)) (.leaf K6 S4)))) (.node (.node (.leaf s7 P1) (.node (.node (.leaf y8 Y0) (.leaf F7 X3)) (.leaf C8 L3))) (.node (.node .nil (.node (.leaf p7 D6) (.leaf L2 a1Z))) (.node (.node (.leaf x7 M1) (.leaf V4 a1q)) (.leaf B6 I7))))) (.node (.node (.node (.leaf Y3 a1L) (.node (.node (.leaf w9 a0R) (.leaf A9 Q0)) (.leaf a7t b0y))) (.node (.leaf K8 a5z) (.node (.node (.leaf D8 J7) (.leaf u1 L4)) (.leaf B5 I5)))) (.node (.node (.node .nil (.node (.leaf E9 W0) (.leaf U2 a1e))) (.node (.leaf N1 U7) (.leaf Q4 Z4))) (.node (.node (.leaf G7 a0a) (.leaf U6 b0G)) (.node (.node (.leaf E6 L6) (.leaf X8 a4x)) (.leaf B3 I6))))))
def c9f:TF:=(.node (.node (.node (.node (.node (.node (.leaf H4 a0V) (.leaf F0 W7)) (.leaf y6 B9)) (.node .nil (.node (.leaf a1Q a8k) (.leaf u4 H6)))) (.node (.node (.leaf G4 T0) (.leaf y0 I4)) (.node (.leaf x5 C4) (.node (.leaf O1 a4e) (.leaf C2 G9))))) (.node (.node (.leaf D3 L1) (.node (.leaf D5 a1d) (.node (.leaf a1N a8d) (.leaf P4 a0o)))) (.node (.node (.leaf u3 E8) (.leaf u6 B8)) (.node (.leaf o5 M8) (.node (.leaf P0 a2R) (.leaf A7 O6)))))) (.node (.node (.node (.leaf M4 a0O) (.node .nil (.node (.leaf J5 a9M) (.leaf E1 a0U)))) (.node (.node (.leaf p8 D7) (.leaf m0 u7)) (.node (.leaf U8 a1n) (.node (.leaf m8 N0) (.leaf V3 a2V))))) (.node (.node (.node (.leaf C0 R3) (.leaf Q5 Z1)) (.leaf D1 a2K)) (.node (.node (.leaf m7 A3) (.node (.leaf v5 M9) (.leaf A8 S2))) (.node .nil (.node (.leaf J0 a2u) (.leaf E2 S0)))))))
structure Laid (P:Program):Prop where
 mixed:P.follows .mixedOrders=true
 t0:c9b.all (b9 P)=true
 t1:c8N.all (b9 P)=true
 t2:c8Q.all (b9 P)=true
 t3:c9f.all (b9 P)=true
variable {P:Program} (C:Laid P)
include C
theorem b0O:b9 P a1E a4L=true:=TF.b8 C.t0 _ _ rfl
theorem b3H:b9 P R1 a4s=true:=TF.b8 C.t0 _ _ rfl
theorem b3U:b9 P a1X a8f=true:=TF.b8 C.t0 _ _ rfl
theorem b6Y:b9 P a4a b1s=true:=TF.b8 C.t0 _ _ rfl
theorem R9:b9 P u9 a3Y=true:=TF.b8 C.t0 _ _ rfl
theorem G8:b9 P A0 b2N=true:=TF.b8 C.t0 _ _ rfl
theorem k8:b9 P i7 a3l=true:=TF.b8 C.t0 _ _ rfl
theorem b3L:b9 P W9 a4o=true:=TF.b8 C.t0 _ _ rfl
theorem b0K:b9 P e6 a4R=true:=TF.b8 C.t0 _ _ rfl
theorem a9Y:b9 P V8 a2Q=true:=TF.b8 C.t0 _ _ rfl
theorem a7C:b9 P G2 b0N=true:=TF.b8 C.t0 _ _ rfl
theorem a0G:b9 P y4 S3=true:=TF.b8 C.t0 _ _ rfl
theorem b6u:b9 P a2H a5D=true:=TF.b8 C.t0 _ _ rfl
theorem b4k:b9 P a1K a8g=true:=TF.b8 C.t0 _ _ rfl
theorem b4w:b9 P Y1 a4n=true:=TF.b8 C.t0 _ _ rfl
theorem a8X:b9 P J8 a5I=true:=TF.b8 C.t0 _ _ rfl
theorem a6i:b9 P F6 a2J=true:=TF.b8 C.t0 _ _ rfl
theorem b3W:b9 P a1I a8i=true:=TF.b8 C.t0 _ _ rfl
theorem a6K:b9 P N8 a3U=true:=TF.b8 C.t0 _ _ rfl
theorem b6q:b9 P a0y a9E=true:=TF.b8 C.t0 _ _ rfl
theorem a3X:b9 P B0 a2h=true:=TF.b8 C.t0 _ _ rfl
theorem b7U:b9 P a5B a8H=true:=TF.b8 C.t0 _ _ rfl
theorem a5C:b9 P P6 a2M=true:=TF.b8 C.t0 _ _ rfl
theorem a8A:b9 P H0 a0f=true:=TF.b8 C.t0 _ _ rfl
theorem b5q:b9 P a2L a5F=true:=TF.b8 C.t0 _ _ rfl
theorem a7R:b9 P L8 W2=true:=TF.b8 C.t0 _ _ rfl
theorem b6k:b9 P a2G a5y=true:=TF.b8 C.t0 _ _ rfl
theorem b3J:b9 P X9 a4E=true:=TF.b8 C.t0 _ _ rfl
theorem b3V:b9 P Q7 a4G=true:=TF.b8 C.t0 _ _ rfl
theorem a1v:b9 P G1 V2=true:=TF.b8 C.t0 _ _ rfl
theorem a6A:b9 P C1 a1k=true:=TF.b8 C.t0 _ _ rfl
theorem a4b:b9 P n7 y3=true:=TF.b8 C.t0 _ _ rfl
theorem a6u:b9 P I8 Y9=true:=TF.b8 C.t0 _ _ rfl
theorem a9c:b9 P P3 a2T=true:=TF.b8 C.t0 _ _ rfl
theorem b5k:b9 P a2O a5W=true:=TF.b8 C.t0 _ _ rfl
theorem b3s:b9 P a0k a5E=true:=TF.b8 C.t1 _ _ rfl
theorem b1l:b9 P T8 a4m=true:=TF.b8 C.t1 _ _ rfl
theorem a9m:b9 P O5 a2Y=true:=TF.b8 C.t1 _ _ rfl
theorem b3G:b9 P a1W a4H=true:=TF.b8 C.t1 _ _ rfl
theorem a4F:b9 P L5 a1O=true:=TF.b8 C.t1 _ _ rfl
theorem a0j:b9 P q9 G5=true:=TF.b8 C.t1 _ _ rfl
theorem a3t:b9 P A1 P8=true:=TF.b8 C.t1 _ _ rfl
theorem b8m:b9 P a6j b2K=true:=TF.b8 C.t1 _ _ rfl
theorem b4c:b9 P Y2 a8m=true:=TF.b8 C.t1 _ _ rfl
theorem a7N:b9 P F1 W6=true:=TF.b8 C.t1 _ _ rfl
theorem a0e:b9 P C5 H3=true:=TF.b8 C.t1 _ _ rfl
theorem a9K:b9 P V5 a2W=true:=TF.b8 C.t1 _ _ rfl
theorem b5n:b9 P q0 a5G=true:=TF.b8 C.t1 _ _ rfl
theorem b1A:b9 P Q3 a2t=true:=TF.b8 C.t1 _ _ rfl
theorem b8l:b9 P a3J a8r=true:=TF.b8 C.t1 _ _ rfl
theorem b4m:b9 P a1M a4p=true:=TF.b8 C.t1 _ _ rfl
theorem a8e:b9 P Q8 a1Y=true:=TF.b8 C.t1 _ _ rfl
theorem a9X:b9 P K3 a6a=true:=TF.b8 C.t1 _ _ rfl
theorem a6x:b9 P s9 a6v=true:=TF.b8 C.t1 _ _ rfl
theorem b4f:b9 P X4 a8h=true:=TF.b8 C.t1 _ _ rfl
theorem b6F:b9 P a0r b1m=true:=TF.b8 C.t1 _ _ rfl
theorem b0z:b9 P U5 a4W=true:=TF.b8 C.t1 _ _ rfl
theorem b0v:b9 P V7 a4X=true:=TF.b8 C.t1 _ _ rfl
theorem a8b:b9 P X7 a8j=true:=TF.b8 C.t1 _ _ rfl
theorem b5s:b9 P J6 a9Q=true:=TF.b8 C.t1 _ _ rfl
theorem P7:b9 P w6 Z9=true:=TF.b8 C.t1 _ _ rfl
theorem u5:b9 P j8 R8=true:=TF.b8 C.t1 _ _ rfl
theorem O3:b9 P q8 O2=true:=TF.b8 C.t1 _ _ rfl
theorem a1G:b9 P u2 U9=true:=TF.b8 C.t1 _ _ rfl
theorem a3r:b9 P C3 a0n=true:=TF.b8 C.t1 _ _ rfl
theorem b2H:b9 P a0I a3p=true:=TF.b8 C.t1 _ _ rfl
theorem b6I:b9 P N9 a6W=true:=TF.b8 C.t1 _ _ rfl
theorem b5g:b9 P F3 a5X=true:=TF.b8 C.t1 _ _ rfl
theorem a4j:b9 P K0 a0Z=true:=TF.b8 C.t1 _ _ rfl
theorem a2g:b9 P D2 T9=true:=TF.b8 C.t1 _ _ rfl
theorem a3F:b9 P G7 a0a=true:=TF.b8 C.t2 _ _ rfl
theorem a0F:b9 P n6 T3=true:=TF.b8 C.t2 _ _ rfl
theorem Z3:b9 P A9 Q0=true:=TF.b8 C.t2 _ _ rfl
theorem a1U:b9 P F7 X3=true:=TF.b8 C.t2 _ _ rfl
theorem a9r:b9 P L0 a4d=true:=TF.b8 C.t2 _ _ rfl
theorem X5:b9 P u1 L4=true:=TF.b8 C.t2 _ _ rfl
theorem b0o:b9 P V4 a1q=true:=TF.b8 C.t2 _ _ rfl
theorem b3S:b9 P X8 a4x=true:=TF.b8 C.t2 _ _ rfl
theorem a7j:b9 P U2 a1e=true:=TF.b8 C.t2 _ _ rfl
theorem a6T:b9 P N2 a3v=true:=TF.b8 C.t2 _ _ rfl
theorem a7S:b9 P L2 a1Z=true:=TF.b8 C.t2 _ _ rfl
theorem c1t:b9 P U6 b0G=true:=TF.b8 C.t2 _ _ rfl
theorem b4u:b9 P X6 a4q=true:=TF.b8 C.t2 _ _ rfl
theorem c1x:b9 P a7t b0y=true:=TF.b8 C.t2 _ _ rfl
theorem a4C:b9 P C8 L3=true:=TF.b8 C.t2 _ _ rfl
theorem a6r:b9 P Q4 Z4=true:=TF.b8 C.t2 _ _ rfl
theorem a3Z:b9 P K6 S4=true:=TF.b8 C.t2 _ _ rfl
theorem a3R:b9 P B5 I5=true:=TF.b8 C.t2 _ _ rfl
theorem a3P:b9 P B6 I7=true:=TF.b8 C.t2 _ _ rfl
theorem a3O:b9 P B3 I6=true:=TF.b8 C.t2 _ _ rfl
theorem a3M:b9 P B4 I3=true:=TF.b8 C.t2 _ _ rfl
theorem V0:b9 P l8 P2=true:=TF.b8 C.t2 _ _ rfl
theorem a3a:b9 P w9 a0R=true:=TF.b8 C.t2 _ _ rfl
theorem a4B:b9 P y8 Y0=true:=TF.b8 C.t2 _ _ rfl
theorem a4U:b9 P N1 U7=true:=TF.b8 C.t2 _ _ rfl
theorem a1F:b9 P o3 N4=true:=TF.b8 C.t2 _ _ rfl
theorem a2j:b9 P D8 J7=true:=TF.b8 C.t2 _ _ rfl
theorem a1D:b9 P x7 M1=true:=TF.b8 C.t2 _ _ rfl
theorem a2C:b9 P E6 L6=true:=TF.b8 C.t2 _ _ rfl
theorem a5Z:b9 P P5 a2X=true:=TF.b8 C.t2 _ _ rfl
theorem a7Y:b9 P Y3 a1L=true:=TF.b8 C.t2 _ _ rfl
theorem a0m:b9 P s7 P1=true:=TF.b8 C.t2 _ _ rfl
theorem a7K:b9 P E9 W0=true:=TF.b8 C.t2 _ _ rfl
theorem a9e:b9 P K8 a5z=true:=TF.b8 C.t2 _ _ rfl
theorem a2f:b9 P p7 D6=true:=TF.b8 C.t2 _ _ rfl
theorem a4O:b9 P v5 M9=true:=TF.b8 C.t3 _ _ rfl
theorem b3O:b9 P a1Q a8k=true:=TF.b8 C.t3 _ _ rfl
theorem b5R:b9 P J5 a9M=true:=TF.b8 C.t3 _ _ rfl
theorem b3K:b9 P a1N a8d=true:=TF.b8 C.t3 _ _ rfl
theorem a2P:b9 P D1 a2K=true:=TF.b8 C.t3 _ _ rfl
theorem a4k:b9 P O1 a4e=true:=TF.b8 C.t3 _ _ rfl
theorem a0s:b9 P m8 N0=true:=TF.b8 C.t3 _ _ rfl
theorem a5Q:b9 P P0 a2R=true:=TF.b8 C.t3 _ _ rfl
theorem a6s:b9 P J0 a2u=true:=TF.b8 C.t3 _ _ rfl
theorem a2A:b9 P F0 W7=true:=TF.b8 C.t3 _ _ rfl
theorem a1l:b9 P C0 R3=true:=TF.b8 C.t3 _ _ rfl
theorem a0Y:b9 P G4 T0=true:=TF.b8 C.t3 _ _ rfl
theorem K9:b9 P p8 D7=true:=TF.b8 C.t3 _ _ rfl
theorem M0:b9 P u3 E8=true:=TF.b8 C.t3 _ _ rfl
theorem D9:b9 P m7 A3=true:=TF.b8 C.t3 _ _ rfl
theorem a3j:b9 P D5 a1d=true:=TF.b8 C.t3 _ _ rfl
theorem a1s:b9 P x5 C4=true:=TF.b8 C.t3 _ _ rfl
theorem b0E:b9 P U8 a1n=true:=TF.b8 C.t3 _ _ rfl
theorem a5i:b9 P o5 M8=true:=TF.b8 C.t3 _ _ rfl
theorem R6:b9 P y6 B9=true:=TF.b8 C.t3 _ _ rfl
theorem a3I:b9 P M4 a0O=true:=TF.b8 C.t3 _ _ rfl
theorem a2n:b9 P D3 L1=true:=TF.b8 C.t3 _ _ rfl
theorem a6m:b9 P Q5 Z1=true:=TF.b8 C.t3 _ _ rfl
theorem V9:b9 P y0 I4=true:=TF.b8 C.t3 _ _ rfl
theorem R7:b9 P m0 u7=true:=TF.b8 C.t3 _ _ rfl
theorem H7:b9 P u6 B8=true:=TF.b8 C.t3 _ _ rfl
theorem a0K:b9 P A8 S2=true:=TF.b8 C.t3 _ _ rfl
theorem R5:b9 P u4 H6=true:=TF.b8 C.t3 _ _ rfl
theorem a9f:b9 P E1 a0U=true:=TF.b8 C.t3 _ _ rfl
theorem a8R:b9 P P4 a0o=true:=TF.b8 C.t3 _ _ rfl
theorem Z8:b9 P C2 G9=true:=TF.b8 C.t3 _ _ rfl
theorem a5K:b9 P V3 a2V=true:=TF.b8 C.t3 _ _ rfl
theorem a0H:b9 P A7 O6=true:=TF.b8 C.t3 _ _ rfl
theorem a0D:b9 P E2 S0=true:=TF.b8 C.t3 _ _ rfl
theorem a3A:b9 P H4 a0V=true:=TF.b8 C.t3 _ _ rfl
end Go.Ab.Td
