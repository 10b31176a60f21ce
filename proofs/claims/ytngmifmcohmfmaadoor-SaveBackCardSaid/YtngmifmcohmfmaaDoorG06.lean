/- A part of the proof: the texts TdNm, TdCd0. Under: nothing. -/
import Derived.Test.YtngmifmcohmfmaaDoorG05
set_option linter.unusedVariables false
namespace Go.Ab.Td
abbrev a1L:Nat:=11
abbrev R9:Nat:=15
abbrev a1X:Nat:=16
abbrev a4t:Nat:=17
abbrev p7:Nat:=18
abbrev B1:Nat:=19
abbrev i7:Nat:=20
abbrev M4:Nat:=21
abbrev e8:Nat:=22
abbrev L0:Nat:=23
abbrev A5:Nat:=24
abbrev n9:Nat:=25
abbrev a3g:Nat:=26
abbrev a2c:Nat:=27
abbrev Z0:Nat:=28
abbrev K8:Nat:=32
abbrev G1:Nat:=33
abbrev a1Y:Nat:=34
abbrev O9:Nat:=35
abbrev a1e:Nat:=36
abbrev B5:Nat:=38
abbrev a6t:Nat:=40
abbrev G3:Nat:=42
abbrev H9:Nat:=43
abbrev a3d:Nat:=44
abbrev M9:Nat:=46
abbrev a3f:Nat:=47
abbrev Z2:Nat:=49
abbrev S0:Nat:=51
abbrev G6:Nat:=52
abbrev o0:Nat:=57
abbrev J6:Nat:=58
abbrev Q2:Nat:=60
abbrev a3e:Nat:=62
abbrev a0v:Nat:=63
abbrev V1:Nat:=64
abbrev Q3:Nat:=65
abbrev a1V:Nat:=67
abbrev R7:Nat:=68
abbrev B2:Nat:=69
abbrev C9:Nat:=70
abbrev D6:Nat:=71
abbrev s8:Nat:=72
abbrev A2:Nat:=73
abbrev a2a:Nat:=75
abbrev F5:Nat:=76
abbrev D1:Nat:=77
abbrev W5:Nat:=78
abbrev r9:Nat:=79
abbrev R4:Nat:=80
abbrev a3N:Nat:=81
abbrev a1W:Nat:=82
abbrev R8:Nat:=83
abbrev L6:Nat:=84
abbrev u3:Nat:=85
abbrev Z5:Nat:=86
abbrev a0B:Nat:=87
abbrev W8:Nat:=88
abbrev W9:Nat:=89
abbrev Z4:Nat:=90
abbrev L3:Nat:=91
abbrev w8:Nat:=92
abbrev k7:Nat:=93
abbrev s7:Nat:=94
abbrev u5:Nat:=95
abbrev D2:Nat:=96
abbrev a1d:Nat:=97
abbrev P0:Nat:=98
abbrev G2:Nat:=99
abbrev K9:Nat:=101
abbrev E2:Nat:=102
abbrev H6:Nat:=103
abbrev n8:Nat:=104
abbrev B6:Nat:=105
abbrev G5:Nat:=106
abbrev L1:Nat:=108
abbrev u4:Nat:=109
abbrev W6:Nat:=110
abbrev Y9:Nat:=111
abbrev V2:Nat:=115
abbrev O0:Nat:=116
abbrev M3:Nat:=118
abbrev W4:Nat:=119
abbrev Z1:Nat:=120
abbrev a7Q:Nat:=121
abbrev D7:Nat:=122
abbrev R3:Nat:=123
abbrev L5:Nat:=124
abbrev B9:Nat:=125
abbrev C0:Nat:=126
abbrev C1:Nat:=127
abbrev C2:Nat:=128
abbrev l8:Nat:=136
abbrev y1:Nat:=137
abbrev z8:Nat:=138
abbrev O1:Nat:=139
abbrev o8:Nat:=140
abbrev E1:Nat:=141
abbrev y0:Nat:=142
abbrev F4:Nat:=143
abbrev Q4:Nat:=144
abbrev Z3:Nat:=145
abbrev s9:Nat:=146
abbrev F7:Nat:=147
abbrev E9:Nat:=148
abbrev L4:Nat:=149
abbrev q8:Nat:=150
abbrev w6:Nat:=151
abbrev a2b:Nat:=152
abbrev L2:Nat:=153
abbrev a1Z:Nat:=154
abbrev D8:Nat:=155
abbrev P1:Nat:=156
abbrev n4:Nat:=157
abbrev Q6:Nat:=158
abbrev J7:Nat:=159
abbrev F6:Nat:=160
abbrev C6:Nat:=163
abbrev H8:Nat:=164
abbrev q0:Nat:=165
abbrev u6:Nat:=166
abbrev m9:Nat:=167
abbrev E3:Nat:=170
abbrev x9:Nat:=172
abbrev X0:Nat:=173
abbrev o9:Nat:=174
abbrev z7:Nat:=176
abbrev O2:Nat:=177
abbrev E4:Nat:=178
abbrev R2:Nat:=179
abbrev y5:Nat:=180
abbrev m7:Nat:=181
abbrev v7:Nat:=182
abbrev B0:Nat:=183
abbrev v8:Nat:=184
abbrev E8:Nat:=185
abbrev Q5:Nat:=186
abbrev D3:Nat:=188
abbrev W7:Nat:=189
abbrev B3:Nat:=190
abbrev E7:Nat:=191
abbrev H7:Nat:=192
open Go Go.Ab
abbrev I (n:Int):AV:=.pv (.int .i64 n)
abbrev z0:List AV:=[I 0,.pv (.bool false),I 0,.pv (.str []),I 0,I 0,I 0]
abbrev z1:List AV:=[.emp 7,.emp 7,.emp 7,.emp 3,I 0,I 0,I 0,I 0,I 0,I 0,I 0,.emp 7,I 0,I 0,I 0,I 0,I 0,I 0,I 0,I 0,I 0,I 0,I 0,I 0,I 0,I 0,I 0,I 0,I 0,I 0,I 0,I 0,.pv (.bool false),.pv (.bool false),.emp 47,I 0,I 0,I 0,I 0,I 0,I 0,I 0,I 0,.emp 1,I 0,I 0,.emp 2,I 0,.pv (.bool false),I 0,.pv (.str []),I 0,I 0,I 0,I 0,I 0,I 0,I 0,I 0,I 0,I 0,I 0,.emp 57,.emp 47,.emp 3,.pv (.str []),I 0]
abbrev z2:List AV:=[I 0,.pv (.str []),.emp 7,.emp 7,.emp 7,I 0,I 0]
abbrev z3:List AV:=[I 0,.pv (.bool false),I 0,.pv (.str []),I 0,I 0,I 0,I 0,.pv (.bool false),I 0,.pv (.str []),I 0,I 0,I 0,I 0,.pv (.bool false),I 0,.pv (.str []),I 0,I 0,I 0,I 0,.pv (.bool false),I 0,.pv (.str []),I 0,I 0,I 0,I 0]
abbrev z4:List AV:=[I 0,I 0,I 0,I 0,I 0,I 0,.emp 7,I 0,I 0,I 0,I 0,I 0,I 0,I 0,I 0,I 0,I 0,I 0,I 0,I 0,I 0,I 0,I 0,I 0,I 0,I 0,I 0,.pv (.bool false),.pv (.bool false),.emp 47,I 0,I 0,I 0,I 0,I 0,I 0,I 0,I 0,.emp 1,I 0,I 0,.emp 2,I 0,.pv (.bool false),I 0,.pv (.str []),I 0,I 0,I 0,I 0,I 0,I 0,I 0,I 0,I 0,I 0,I 0]
abbrev z5:List AV:=[.pv (.str []),I 0,I 0,I 0,I 0,I 0,.pv (.str []),I 0,I 0,I 0,I 0,I 0,.pv (.str []),I 0,I 0,I 0,I 0,I 0,.pv (.str []),I 0,I 0,I 0,I 0,I 0,.pv (.str []),I 0,I 0,I 0,I 0,I 0,.pv (.str []),I 0,I 0,I 0,I 0,I 0,.pv (.str []),I 0,I 0,I 0,I 0,I 0,.pv (.str []),I 0,I 0,I 0,I 0,I 0,.pv (.str []),I 0,I 0,I 0,I 0,I 0,.pv (.str []),I 0,I 0,I 0,I 0,I 0,.pv (.str []),I 0,I 0,I 0,I 0,I 0,.pv (.str []),I 0,I 0,I 0,I 0,I 0,.pv (.str []),I 0,I 0,I 0,I 0,I 0]
abbrev i (d:Nat) (o:ROp) (p:Nat):n5:=⟨some d,o,none,p⟩
abbrev ig (d:Nat) (o:ROp) (g:Nat) (b:Bool) (p:Nat):n5:=⟨some d,o,some (g,b),p⟩
abbrev iz (o:ROp) (p:Nat):n5:=⟨none,o,none,p⟩
abbrev mv (a:RA):ROp:=.mv a
abbrev t0:RA:=.t 0
abbrev t1:RA:=.t 1
abbrev t2:RA:=.t 2
abbrev t3:RA:=.t 3
abbrev t4:RA:=.t 4
abbrev t5:RA:=.t 5
abbrev t6:RA:=.t 6
abbrev t7:RA:=.t 7
abbrev t8:RA:=.t 8
abbrev t9:RA:=.t 9
abbrev u0:RA:=.t 10
abbrev u7:RA:=.t 11
abbrev x5:RA:=.t 12
abbrev z9:RA:=.t 13
abbrev C7:RA:=.t 14
abbrev G9:RA:=.t 15
abbrev F9:RA:=.t 16
abbrev F2:RA:=.t 17
abbrev I6:RA:=.t 18
abbrev M5:RA:=.t 19
abbrev O6:RA:=.t 20
abbrev M6:RA:=.t 21
abbrev S3:RA:=.t 22
abbrev V7:RA:=.t 23
abbrev Y3:RA:=.t 24
abbrev Y1:RA:=.t 25
abbrev t26:RA:=.t 26
abbrev t27:RA:=.t 27
abbrev t28:RA:=.t 28
abbrev t29:RA:=.t 29
abbrev t30:RA:=.t 30
abbrev t31:RA:=.t 31
abbrev t32:RA:=.t 32
abbrev t33:RA:=.t 33
abbrev t34:RA:=.t 34
abbrev t35:RA:=.t 35
abbrev t36:RA:=.t 36
abbrev t37:RA:=.t 37
abbrev t38:RA:=.t 38
abbrev t39:RA:=.t 39
abbrev t40:RA:=.t 40
abbrev t41:RA:=.t 41
abbrev t42:RA:=.t 42
abbrev t43:RA:=.t 43
abbrev t44:RA:=.t 44
abbrev t45:RA:=.t 45
abbrev t46:RA:=.t 46
abbrev t47:RA:=.t 47
abbrev t48:RA:=.t 48
abbrev t49:RA:=.t 49
abbrev t50:RA:=.t 50
abbrev t51:RA:=.t 51
abbrev t52:RA:=.t 52
abbrev t53:RA:=.t 53
abbrev t54:RA:=.t 54
abbrev t55:RA:=.t 55
abbrev t56:RA:=.t 56
abbrev t57:RA:=.t 57
abbrev t58:RA:=.t 58
abbrev t59:RA:=.t 59
abbrev t60:RA:=.t 60
abbrev t61:RA:=.t 61
abbrev t62:RA:=.t 62
abbrev t63:RA:=.t 63
abbrev t64:RA:=.t 64
abbrev t65:RA:=.t 65
abbrev t66:RA:=.t 66
abbrev t67:RA:=.t 67
abbrev t68:RA:=.t 68
abbrev t69:RA:=.t 69
abbrev t70:RA:=.t 70
abbrev t71:RA:=.t 71
abbrev t72:RA:=.t 72
abbrev t73:RA:=.t 73
abbrev t74:RA:=.t 74
abbrev t75:RA:=.t 75
abbrev t76:RA:=.t 76
abbrev t77:RA:=.t 77
abbrev t78:RA:=.t 78
abbrev t79:RA:=.t 79
abbrev t80:RA:=.t 80
abbrev t81:RA:=.t 81
abbrev t82:RA:=.t 82
abbrev t83:RA:=.t 83
abbrev t84:RA:=.t 84
abbrev t85:RA:=.t 85
abbrev t86:RA:=.t 86
abbrev t87:RA:=.t 87
abbrev t88:RA:=.t 88
abbrev t89:RA:=.t 89
abbrev t90:RA:=.t 90
abbrev t91:RA:=.t 91
abbrev t92:RA:=.t 92
abbrev t93:RA:=.t 93
abbrev t94:RA:=.t 94
abbrev t95:RA:=.t 95
abbrev t96:RA:=.t 96
abbrev t97:RA:=.t 97
abbrev t98:RA:=.t 98
abbrev t99:RA:=.t 99
abbrev b8v:RA:=.t 100
abbrev b8w:RA:=.t 101
abbrev b8x:RA:=.t 102
abbrev b8y:RA:=.t 103
abbrev b9u:RA:=.t 104
abbrev b9v:RA:=.t 105
abbrev b9w:RA:=.t 106
abbrev b9x:RA:=.t 107
abbrev b9y:RA:=.t 108
abbrev b9z:RA:=.t 109
abbrev b9A:RA:=.t 110
abbrev b9B:RA:=.t 111
abbrev b9C:RA:=.t 112
abbrev b9D:RA:=.t 113
abbrev b9E:RA:=.t 114
abbrev b9F:RA:=.t 115
abbrev b9G:RA:=.t 116
abbrev b9H:RA:=.t 117
abbrev b9I:RA:=.t 118
abbrev b9J:RA:=.t 119
abbrev b9K:RA:=.t 120
abbrev b8z:RA:=.t 121
abbrev b9L:RA:=.t 122
abbrev b9M:RA:=.t 123
abbrev b9N:RA:=.t 124
abbrev b9O:RA:=.t 125
abbrev b9P:RA:=.t 126
abbrev b8A:RA:=.t 127
abbrev b9Q:RA:=.t 128
abbrev b9R:RA:=.t 129
abbrev b9S:RA:=.t 130
abbrev b9T:RA:=.t 131
abbrev b9U:RA:=.t 132
abbrev b9V:RA:=.t 133
abbrev b9W:RA:=.t 134
abbrev b9X:RA:=.t 135
abbrev b9Y:RA:=.t 136
abbrev b9Z:RA:=.t 137
abbrev c0a:RA:=.t 138
abbrev c2q:RA:=.t 139
abbrev c2r:RA:=.t 140
abbrev c2s:RA:=.t 141
abbrev c2t:RA:=.t 142
abbrev c2u:RA:=.t 143
abbrev c2v:RA:=.t 144
abbrev c2w:RA:=.t 145
abbrev c2x:RA:=.t 146
abbrev c2y:RA:=.t 147
abbrev c2z:RA:=.t 148
abbrev c4t:RA:=.t 149
abbrev c4u:RA:=.t 150
abbrev c4v:RA:=.t 151
abbrev c4w:RA:=.t 152
abbrev c4x:RA:=.t 153
abbrev c4y:RA:=.t 154
abbrev c4z:RA:=.t 155
abbrev c4A:RA:=.t 156
abbrev c5J:RA:=.t 157
abbrev c5K:RA:=.t 158
abbrev c5L:RA:=.t 159
abbrev c5M:RA:=.t 160
abbrev c5N:RA:=.t 161
abbrev c4B:RA:=.t 162
abbrev c5O:RA:=.t 163
abbrev c5P:RA:=.t 164
abbrev c5Q:RA:=.t 165
abbrev c9j:RA:=.t 166
abbrev c9k:RA:=.t 167
abbrev c9l:RA:=.t 168
abbrev c9m:RA:=.t 169
abbrev c9n:RA:=.t 170
abbrev c9o:RA:=.t 171
abbrev c9p:RA:=.t 172
abbrev c9q:RA:=.t 173
abbrev c9r:RA:=.t 174
abbrev c9s:RA:=.t 175
abbrev c9t:RA:=.t 176
abbrev c9u:RA:=.t 177
abbrev c9v:RA:=.t 178
abbrev c9w:RA:=.t 179
abbrev c9x:RA:=.t 180
abbrev c9y:RA:=.t 181
abbrev c9z:RA:=.t 182
abbrev c9A:RA:=.t 183
abbrev c9B:RA:=.t 184
abbrev d0c:RA:=.t 185
abbrev d0d:RA:=.t 186
abbrev c9C:RA:=.t 187
abbrev d0e:RA:=.t 188
abbrev d0f:RA:=.t 189
abbrev d0g:RA:=.t 190
abbrev d0h:RA:=.t 191
abbrev d0i:RA:=.t 192
abbrev d0j:RA:=.t 193
abbrev d0k:RA:=.t 194
abbrev d0l:RA:=.t 195
abbrev d0m:RA:=.t 196
abbrev d0n:RA:=.t 197
abbrev d0Q:RA:=.t 198
abbrev d0R:RA:=.t 199
abbrev d0S:RA:=.t 200
abbrev d0T:RA:=.t 201
abbrev d0U:RA:=.t 202
abbrev d0V:RA:=.t 203
abbrev d0W:RA:=.t 204
abbrev d0X:RA:=.t 205
abbrev d0Y:RA:=.t 206
abbrev d0Z:RA:=.t 207
abbrev d1a:RA:=.t 208
abbrev d1b:RA:=.t 209
abbrev d1c:RA:=.t 210
abbrev d1d:RA:=.t 211
abbrev d1e:RA:=.t 212
abbrev d1f:RA:=.t 213
abbrev d1g:RA:=.t 214
abbrev d1h:RA:=.t 215
abbrev d1i:RA:=.t 216
abbrev d1j:RA:=.t 217
abbrev d1k:RA:=.t 218
abbrev d1l:RA:=.t 219
abbrev d1m:RA:=.t 220
abbrev d1n:RA:=.t 221
abbrev d1o:RA:=.t 222
abbrev d1p:RA:=.t 223
abbrev d1q:RA:=.t 224
abbrev d1r:RA:=.t 225
abbrev d1s:RA:=.t 226
abbrev d1t:RA:=.t 227
abbrev d1u:RA:=.t 228
abbrev d1v:RA:=.t 229
abbrev d1w:RA:=.t 230
abbrev d1x:RA:=.t 231
abbrev d1y:RA:=.t 232
abbrev d1z:RA:=.t 233
abbrev d1A:RA:=.t 234
abbrev d1B:RA:=.t 235
abbrev d1C:RA:=.t 236
abbrev d1D:RA:=.t 237
abbrev d1E:RA:=.t 238
abbrev d1F:RA:=.t 239
abbrev d1G:RA:=.t 240
abbrev d1H:RA:=.t 241
abbrev d1I:RA:=.t 242
abbrev d1J:RA:=.t 243
abbrev d1K:RA:=.t 246
abbrev d1L:RA:=.t 247
abbrev d1M:RA:=.t 248
abbrev d1N:RA:=.t 249
abbrev d1O:RA:=.t 251
abbrev d1P:RA:=.t 252
abbrev d1Q:RA:=.t 253
end Go.Ab.Td
namespace Go.Ab.Td
open Go.Ab
def a5j:m8:=⟨3,198,[.tmp 6],
 .seq (.b6 [i 3 (.box 3 t0) 0,
 i 6 (.mv (.c (.pv (.bool false)))) 0] false)
 (.seq (.seq (.b6 [i 19 (.call (.f R9) []) 0,
 i 20 (.not M5) 1] false)
 (.cond O6
 (.seq (.b6 [i 6 (.mv (.c (.pv (.bool false)))) 0] false)
 .ret)
 .skip))
 (.seq (.b6 [i 22 (.load true 3 t3) 0,
 i 23 (.call (.f a1X) [S3]) 1,
 i 24 (mv t1) 0,
 i 25 (.call (.f R7) [V7,Y3]) 7,
 i 21 (mv Y1) 15,
 i 26 (.extract M6 0) 31,
 i 27 (.extract M6 1) 31,
 i 7 (.alloc z1) 0,
 iz (.store 67 t7 t26) 191,
 i 8 (mv t27) 511] false)
 (.seq (.seq (.b6 [i 28 (mv t8) 0,
 i 29 (.not t28) 1] false)
 (.cond t29
 (.seq (.b6 [i 6 (.mv (.c (.pv (.bool false)))) 0] false)
 .ret)
 .skip))
 (.seq (.b6 [i 30 (.b0 t7 0) 0,
 i 31 (.load false 1 t30) 1,
 i 32 (.b0 t7 0) 0,
 i 33 (.load false 1 t32) 4,
 i 34 (.i9 t33) 12,
 i 35 (.mm false [t34,.c (I 50)]) 28,
 i 36 (.slice 7 t31 none (some t35) none) 63,
 i 37 (.b0 t7 0) 127,
 iz (.store 1 t37 t36) 255] false)
 (.seq (.b6 [i 39 (.load true 67 t7) 0,
 i 40 (.call (.f A5) [t39,.c (.pv (.str [115,97,118,101]))]) 1,
 i 38 (mv t40) 3,
 i 41 (.extract t38 0) 7,
 i 42 (.extract t38 1) 7,
 i 9 (.alloc z1) 0,
 iz (.store 67 t9 t41) 47,
 i 10 (mv t42) 127] false)
 (.seq (.seq (.b6 [i 43 (mv u0) 0,
 i 44 (.bin .neq t43 (.c (I 0))) 1] false)
 (.cond t44
 (.seq (.b6 [i 45 (mv u0) 0,
 i 46 (.bin .eql t45 (.c (I 26))) 1,
 i 47 (mv t46) 3,
 ig 48 (.b0 t7 3) 47 true 7,
 ig 49 (.load false 1 t48) 47 true 15,
 ig 50 (.i9 t49) 47 true 31,
 ig 51 (.bin .eql t50 (.c (I 10))) 47 true 63,
 ig 52 (mv t51) 47 true 127,
 ig 53 (.b0 t7 62) 52 false 255,
 ig 54 (.load false 1 t53) 52 false 511,
 ig 55 (.i9 t54) 52 false 1023,
 ig 56 (.bin .eql t55 (.c (I 20))) 52 false 2047,
 ig 57 (.pick t52 (.c (.pv (.bool true))) t56) 47 true 4095,
 i 58 (.pick t47 t57 (.c (.pv (.bool false)))) 8191,
 i 6 (mv t58) 16383] false)
 .ret)
 .skip))
 (.seq (.seq (.b6 [i 59 (.b0 t9 0) 0,
 i 60 (.load false 1 t59) 1,
 i 61 (.i9 t60) 3,
 i 62 (.b0 t7 0) 0,
 i 63 (.load false 1 t62) 8,
 i 64 (.i9 t63) 24,
 i 65 (.bin .add t64 (.c (I 1))) 56,
 i 66 (.bin .neq t61 t65) 127] false)
 (.cond t66
 (.seq (.b6 [i 6 (.mv (.c (.pv (.bool false)))) 0] false)
 .ret)
 .skip))
 (.seq (.b6 [i 67 (.b0 t9 0) 0,
 i 68 (.load false 1 t67) 1,
 i 69 (.b0 t7 0) 0,
 i 70 (.load false 1 t69) 4,
 i 71 (.i9 t70) 12,
 i 72 (.j3 7 t68 t71) 31,
 i 73 (.load true 7 t72) 63,
 i 11 (.alloc z0) 0,
 iz (.store 7 u7 t73) 255] false)
 (.seq (.b6 [i 75 (.load true 67 t9) 0,
 i 76 (mv t2) 0,
 i 77 (.call (.f R7) [t75,t76]) 3,
 i 74 (mv t77) 7,
 i 78 (.extract t74 0) 15,
 i 79 (.extract t74 1) 15,
 i 12 (.alloc z1) 0,
 iz (.store 67 x5 t78) 95,
 i 8 (mv t79) 255] false)
 (.seq (.seq (.b6 [i 80 (mv t8) 0,
 i 81 (.not t80) 1,
 i 82 (mv t81) 3,
 ig 83 (.b0 x5 1) 82 false 7,
 ig 84 (.load false 1 t83) 82 false 15,
 ig 85 (.i9 t84) 82 false 31,
 ig 86 (.bin .lss t85 (.c (I 2))) 82 false 63,
 i 87 (.pick t82 (.c (.pv (.bool true))) t86) 127] false)
 (.cond t87
 (.seq (.b6 [i 6 (.mv (.c (.pv (.bool false)))) 0] false)
 .ret)
 .skip))
 (.seq (.b6 [i 88 (.load true 7 u7) 0,
 i 89 (.O5 7 1 z0 [(0,t88)]) 1,
 i 90 (.b0 x5 1) 0,
 i 91 (.load false 1 t90) 4,
 i 92 (.slice 7 t91 none (some (.c (I 2))) none) 12,
 i 93 (.b0 x5 0) 15,
 iz (.store 1 t93 t89) 47,
 i 94 (.b0 x5 1) 127,
 iz (.store 1 t94 t92) 255] true)
 (.seq (.b6 [i 96 (.load true 67 x5) 0,
 i 97 (.call (.f A5) [t96,.c (.pv (.str [114,101,115,116,111,114,101]))]) 1,
 i 95 (mv t97) 3,
 i 98 (.extract t95 0) 7,
 i 99 (.extract t95 1) 7,
 i 13 (.alloc z1) 0,
 iz (.store 67 z9 t98) 47,
 i 14 (mv t99) 127] false)
 (.seq (.seq (.b6 [i 100 (.b0 x5 3) 0,
 i 101 (.load false 1 b8v) 1,
 i 102 (.mkf (.func C9) [] [u7]) 0,
 i 103 (.call (.f B2) [b8w,b8x]) 7,
 i 15 (mv b8y) 15] false)
 (.seq (.b6 [i 104 (mv G9) 0,
 i 105 (.not b9u) 1] false)
 (.cond b9v
 (.seq (.b6 [i 106 (mv C7) 0,
 i 107 (.bin .eql b9w (.c (I 34))) 1,
 i 108 (mv b9x) 3,
 ig 109 (.load true 67 z9) 108 true 7,
 ig 110 (.load true 67 x5) 108 true 7,
 ig 111 (.call (.f n9) [b9z,b9A]) 108 true 31,
 i 112 (.pick b9y b9B (.c (.pv (.bool false)))) 63,
 i 6 (mv b9C) 127] false)
 .ret)
 .skip)))
 (.seq (.seq (.b6 [i 113 (mv C7) 0,
 i 114 (.bin .neq b9D (.c (I 0))) 1,
 i 115 (mv b9E) 3,
 ig 116 (.b0 z9 0) 115 false 7,
 ig 117 (.load false 1 b9G) 115 false 15,
 ig 118 (.i9 b9H) 115 false 31,
 ig 119 (.bin .neq b9I (.c (I 0))) 115 false 63,
 i 120 (.pick b9F (.c (.pv (.bool true))) b9J) 127,
 i 121 (mv b9K) 255,
 ig 122 (.b0 z9 2) 121 false 511,
 ig 123 (.load false 1 b9L) 121 false 1023,
 ig 124 (.b0 t7 2) 121 false 511,
 ig 125 (.load false 1 b9N) 121 false 2559,
 ig 126 (.call (.f G3) [b9M,b9O]) 121 false 8191,
 ig 127 (.not b9P) 121 false 16383,
 i 128 (.pick b8z (.c (.pv (.bool true))) b8A) 32767,
 i 129 (mv b9Q) 65535,
 ig 130 (.b0 z9 5) 129 false 131071,
 ig 131 (.load true 57 b9S) 129 false 262143,
 ig 132 (.b0 t7 5) 129 false 131071,
 ig 133 (.load true 57 b9U) 129 false 655359,
 ig 134 (.call (.f D6) [b9T,b9V]) 129 false 2097151,
 ig 135 (.not b9W) 129 false 4194303,
 i 136 (.pick b9R (.c (.pv (.bool true))) b9X) 8388607,
 i 137 (mv b9Y) 16777215,
 ig 138 (.b0 z9 62) 137 false 33554431,
 ig 139 (.load false 1 c0a) 137 false 67108863,
 ig 140 (.i9 c2q) 137 false 134217727,
 ig 141 (.b0 t7 62) 137 false 33554431,
 ig 142 (.load false 1 c2s) 137 false 301989887,
 ig 143 (.i9 c2t) 137 false 838860799,
 ig 144 (.bin .neq c2r c2u) 137 false 2147483647,
 i 145 (.pick b9Z (.c (.pv (.bool true))) c2v) 4294967295,
 i 146 (mv c2w) 8589934591,
 ig 147 (.b0 z9 3) 146 false 17179869183,
 ig 148 (.load false 1 c2y) 146 false 34359738367,
 ig 149 (.i9 c2z) 146 false 68719476735,
 ig 150 (.b0 t7 3) 146 false 17179869183,
 ig 151 (.load false 1 c4u) 146 false 154618822655,
 ig 152 (.i9 c4v) 146 false 429496729599,
 ig 153 (.bin .neq c4t c4w) 146 false 1099511627775,
 i 154 (.pick c2x (.c (.pv (.bool true))) c4x) 2199023255551,
 i 155 (mv c4y) 4398046511103,
 ig 156 (.b0 z9 4) 155 false 8796093022207,
 ig 157 (.load false 1 c4A) 155 false 17592186044415,
 ig 158 (.b0 x5 4) 155 false 8796093022207,
 ig 159 (.load false 1 c5K) 155 false 43980465111039,
 ig 160 (.bin .neq c5J c5L) 155 false 140737488355327,
 i 161 (.pick c4z (.c (.pv (.bool true))) c5M) 281474976710655,
 i 162 (mv c5N) 562949953421311,
 ig 163 (.b0 z9 2) 162 false 1125899906842623,
 ig 164 (.load false 1 c5O) 162 false 2251799813685247,
 ig 165 (.call (.f K8) [c5P]) 162 false 4503599627370495,
 ig 166 (.bin .neq c5Q (.c (I 0))) 162 false 9007199254740991,
 i 167 (.pick c4B (.c (.pv (.bool true))) c9j) 18014398509481983] false)
 (.cond c9k
 (.seq (.b6 [i 6 (.mv (.c (.pv (.bool false)))) 0] false)
 .ret)
 .skip))
 (.seq (.seq (.b6 [i 168 (.b0 x5 4) 0,
 i 169 (.load false 1 c9l) 1,
 i 170 (.b0 u7 2) 0,
 i 171 (.load false 1 c9n) 4,
 i 172 (.bin .sub c9m c9o) 15,
 i 173 (.bin .gtr c9p (.c (I 100))) 31,
 i 174 (mv c9q) 63,
 ig 175 (.b0 u7 2) 174 false 127,
 ig 176 (.load false 1 c9s) 174 false 255,
 ig 177 (.bin .lss c9t (.c (I 1))) 174 false 511,
 i 178 (.pick c9r (.c (.pv (.bool true))) c9u) 1023] false)
 (.cond c9v
 (.seq (.b6 [i 6 (.mv (.c (.pv (.bool false)))) 0] false)
 .ret)
 .skip))
 (.seq (.seq (.b6 [i 179 (.b0 u7 2) 0,
 i 180 (.load false 1 c9w) 1,
 i 16 (mv c9x) 3] false)
 (.block 0
 (.loop [12,13,16]
 (.seq (.seq (.b6 [i 181 (mv F9) 0,
 i 182 (.b0 x5 4) 0,
 i 183 (.load false 1 c9z) 2,
 i 184 (.bin .leq c9y c9A) 7] false)
 (.cond c9B
 .skip
 (.exit 0)))
 (.seq (.block 1
 (.seq (.b6 [i 188 (.load true 67 z9) 0,
 i 189 (mv F9) 0,
 i 190 (.call (.f M4) [d0f]) 2,
 i 191 (.O5 7 1 z0 [(0,d0g)]) 6,
 i 192 (.call (.f L0) [d0e,d0h]) 15,
 i 193 (.call (.f A5) [d0i,.c (.pv (.str [114,101,115,116,111,114,101]))]) 31,
 i 187 (mv d0j) 63,
 i 194 (.extract c9C 0) 127,
 i 195 (.extract c9C 1) 127,
 i 17 (.alloc z1) 0,
 iz (.store 67 F2 d0k) 767,
 i 18 (mv d0l) 2047] true)
 (.seq (.b6 [i 196 (mv I6) 0,
 i 197 (.bin .neq d0m (.c (I 34))) 1] false)
 (.cond d0n
 (.seq (.b6 [i 6 (.mv (.c (.pv (.bool false)))) 0] false)
 .ret)
 .skip))))
 (.b6 [i 185 (mv F9) 0,
 i 186 (.bin .add d0c (.c (I 1))) 1,
 i 16 (mv d0d) 3] false))))))
 (.seq (.b6 [i 6 (.mv (.c (.pv (.bool true)))) 0] false)
 .ret)))))))))))))))))⟩
def a4K:m8:=⟨0,157,[.tmp 0],
 .seq (.b6 [i 0 (.mv (.c (.pv (.bool false)))) 0] false)
 (.seq (.b6 [i 19 (.call (.f R8) []) 0,
 i 20 (.call (.f A5) [M5,.c (.pv (.str [115,97,118,101]))]) 1,
 i 18 (mv O6) 3,
 i 21 (.extract I6 0) 7,
 i 22 (.extract I6 1) 7,
 i 1 (.alloc z1) 0,
 iz (.store 67 t1 M6) 47,
 i 2 (mv S3) 127] false)
 (.seq (.seq (.b6 [i 23 (mv t2) 0,
 i 24 (.bin .neq V7 (.c (I 0))) 1,
 i 25 (mv Y3) 3,
 ig 26 (.b0 t1 0) 25 false 7,
 ig 27 (.load false 1 t26) 25 false 15,
 ig 28 (.call (.f M4) [.c (I 1)]) 25 false 7,
 ig 29 (.O5 7 1 z0 [(0,t28)]) 25 false 39,
 ig 30 (.call (.f A2) [t27,t29]) 25 false 127,
 ig 31 (.not t30) 25 false 255,
 i 32 (.pick Y1 (.c (.pv (.bool true))) t31) 511,
 i 33 (mv t32) 1023,
 ig 34 (.b0 t1 3) 33 false 2047,
 ig 35 (.load false 1 t34) 33 false 4095,
 ig 36 (.i9 t35) 33 false 8191,
 ig 37 (.bin .neq t36 (.c (I 1))) 33 false 16383,
 i 38 (.pick t33 (.c (.pv (.bool true))) t37) 32767,
 i 39 (mv t38) 65535,
 ig 40 (.b0 t1 62) 39 false 131071,
 ig 41 (.load false 1 t40) 39 false 262143,
 ig 42 (.i9 t41) 39 false 524287,
 ig 43 (.bin .neq t42 (.c (I 1))) 39 false 1048575,
 i 44 (.pick t39 (.c (.pv (.bool true))) t43) 2097151,
 i 45 (mv t44) 4194303,
 ig 46 (.b0 t1 4) 45 false 8388607,
 ig 47 (.load false 1 t46) 45 false 16777215,
 ig 48 (.bin .neq t47 (.c (I 1))) 45 false 33554431,
 i 49 (.pick t45 (.c (.pv (.bool true))) t48) 67108863] true)
 (.cond t49
 (.seq (.b6 [i 0 (.mv (.c (.pv (.bool false)))) 0] false)
 .ret)
 .skip))
 (.seq (.b6 [i 50 (.build z0 [(0,1,.c (I 6)),(4,1,.c (I 10)),(6,1,.c (I 3))]) 0,
 i 3 (.alloc z0) 0,
 iz (.store 7 t3 t50) 3] false)
 (.seq (.b6 [i 52 (.b0 t1 2) 0,
 i 53 (.load false 1 t52) 1,
 i 54 (.load true 7 t3) 0,
 i 55 (.call (.f J6) [t53,t54,.c (I 0),.c (.pv (.str [65]))]) 7,
 i 51 (mv t55) 15,
 i 56 (.extract t51 0) 31,
 i 57 (.extract t51 1) 31,
 i 4 (mv t56) 63,
 i 5 (mv t57) 255] false)
 (.seq (.b6 [i 58 (.load true 67 t1) 0,
 i 6 (.alloc z1) 0,
 iz (.store 67 t6 t58) 3] false)
 (.seq (.b6 [i 59 (mv t4) 0,
 i 60 (.b0 t6 2) 1,
 iz (.store 1 t60 t59) 3,
 i 61 (.b0 t6 5) 7,
 i 62 (.b0 t61 40) 15,
 iz (.store 1 t62 (.c (I 9))) 31] false)
 (.seq (.b6 [i 64 (.load true 67 t6) 0,
 i 65 (.call (.f A5) [t64,.c (.pv (.str [114,101,115,116,111,114,101]))]) 1,
 i 63 (mv t65) 3,
 i 66 (.extract t63 0) 7,
 i 67 (.extract t63 1) 7,
 i 7 (.alloc z1) 0,
 iz (.store 67 t7 t66) 47,
 i 8 (mv t67) 127] false)
 (.seq (.b6 [i 69 (.load true 67 t7) 0,
 i 70 (.call (.f M4) [.c (I 1)]) 0,
 i 71 (.O5 7 1 z0 [(0,t70)]) 2,
 i 72 (.call (.f L0) [t69,t71]) 7,
 i 73 (.call (.f A5) [t72,.c (.pv (.str [114,101,115,116,111,114,101]))]) 15,
 i 68 (mv t73) 31,
 i 74 (.extract t68 0) 63,
 i 75 (.extract t68 1) 63,
 i 9 (.alloc z1) 0,
 iz (.store 67 t9 t74) 383,
 i 10 (mv t75) 1023] true)
 (.seq (.b6 [i 77 (.load true 67 t1) 0,
 i 78 (.call (.f a3g) [t77,.c (I 1)]) 1,
 i 76 (mv t78) 3,
 i 79 (.extract t76 0) 7,
 i 80 (.extract t76 1) 7,
 i 11 (mv t79) 15,
 i 12 (mv t80) 63] false)
 (.seq (.b6 [i 82 (.load true 67 t1) 0,
 i 83 (.call (.f A5) [t82,.c (.pv (.str [118,109,115,116,97,116,117,115]))]) 1,
 i 81 (mv t83) 3,
 i 84 (.extract t81 0) 7,
 i 85 (.extract t81 1) 7,
 i 13 (.alloc z1) 0,
 iz (.store 67 z9 t84) 47,
 i 14 (mv t85) 127] false)
 (.seq (.b6 [i 87 (.load true 67 t1) 0,
 i 88 (.load true 7 t3) 0,
 i 89 (.O5 7 1 z0 [(0,t88)]) 2,
 i 90 (.call (.f L0) [t87,t89]) 7,
 i 91 (.call (.f A5) [t90,.c (.pv (.str [114,101,115,116,111,114,101]))]) 15,
 i 86 (mv t91) 31,
 i 92 (.extract t86 0) 63,
 i 93 (.extract t86 1) 63,
 i 15 (.alloc z1) 0,
 iz (.store 67 G9 t92) 383,
 i 16 (mv t93) 1023] false)
 (.seq (.b6 [i 94 (.call (.f R8) []) 0,
 i 17 (.alloc z1) 0,
 iz (.store 67 F2 t94) 3] false)
 (.seq (.b6 [i 95 (.b0 F2 4) 0,
 iz (.store 1 t95 (.c (I 1))) 1] false)
 (.seq (.b6 [i 96 (mv t5) 0,
 i 97 (.bin .eql t96 (.c (I 0))) 1,
 i 98 (mv t97) 3,
 ig 99 (mv t8) 98 true 7,
 ig 100 (.bin .eql t99 (.c (I 0))) 98 true 15,
 i 101 (.pick t98 b8v (.c (.pv (.bool false)))) 31,
 i 102 (mv b8w) 63,
 ig 103 (.load true 67 t7) 102 true 127,
 ig 104 (.load true 67 F2) 102 true 127,
 ig 105 (.call (.f n9) [b8y,b9u]) 102 true 511,
 i 106 (.pick b8x b9v (.c (.pv (.bool false)))) 1023,
 i 107 (mv b9w) 2047,
 ig 108 (mv u0) 107 true 4095,
 ig 109 (.bin .eql b9y (.c (I 34))) 107 true 8191,
 i 110 (.pick b9x b9z (.c (.pv (.bool false)))) 16383,
 i 111 (mv b9A) 32767,
 ig 112 (mv u7) 111 true 65535,
 ig 113 (.bin .eql b9C (.c (I 11))) 111 true 131071,
 i 114 (.pick b9B b9D (.c (.pv (.bool false)))) 262143,
 i 115 (mv b9E) 524287,
 ig 116 (mv x5) 115 true 1048575,
 i 117 (.pick b9F b9G (.c (.pv (.bool false)))) 2097151,
 i 118 (mv b9H) 4194303,
 ig 119 (mv C7) 118 true 8388607,
 ig 120 (.bin .eql b9J (.c (I 0))) 118 true 16777215,
 i 121 (.pick b9I b9K (.c (.pv (.bool false)))) 33554431,
 i 122 (mv b8z) 67108863,
 ig 123 (.b0 z9 0) 122 true 134217727,
 ig 124 (.load false 1 b9M) 122 true 268435455,
 ig 125 (.i9 b9N) 122 true 536870911,
 ig 126 (.bin .eql b9O (.c (I 4))) 122 true 1073741823,
 i 127 (.pick b9L b9P (.c (.pv (.bool false)))) 2147483647,
 i 128 (mv b8A) 4294967295,
 ig 129 (.b0 z9 0) 128 true 8589934591,
 ig 130 (.load false 1 b9R) 128 true 17179869183,
 ig 131 (.j3 7 b9S (.c (I 1))) 128 true 34359738367,
 ig 132 (.b0 b9T 2) 128 true 68719476735,
 ig 133 (.load false 1 b9U) 128 true 137438953471,
 ig 134 (.bin .eql b9V (.c (I 1))) 128 true 274877906943,
 i 135 (.pick b9Q b9W (.c (.pv (.bool false)))) 549755813887,
 i 136 (mv b9X) 1099511627775,
 ig 137 (.b0 z9 0) 136 true 2199023255551,
 ig 138 (.load false 1 b9Z) 136 true 4398046511103,
 ig 139 (.j3 7 c0a (.c (I 3))) 136 true 8796093022207,
 ig 140 (.b0 c2q 2) 136 true 17592186044415,
 ig 141 (.load false 1 c2r) 136 true 35184372088831,
 ig 142 (.bin .eql c2s (.c (I 20000))) 136 true 70368744177663,
 i 143 (.pick b9Y c2t (.c (.pv (.bool false)))) 140737488355327,
 i 144 (mv c2u) 281474976710655,
 ig 145 (mv F9) 144 true 562949953421311,
 ig 146 (.bin .eql c2w (.c (I 22))) 144 true 1125899906842623,
 i 147 (.pick c2v c2x (.c (.pv (.bool false)))) 2251799813685247,
 i 148 (mv c2y) 4503599627370495,
 ig 149 (.load true 7 t3) 148 true 9007199254740991,
 ig 150 (.call (.f L6) [c4t,.c (I 10)]) 148 true 18014398509481983,
 i 151 (.pick c2z c4u (.c (.pv (.bool false)))) 36028797018963967,
 i 152 (mv c4v) 72057594037927935,
 ig 153 (.load true 7 t3) 152 true 144115188075855871,
 ig 154 (.call (.f L6) [c4x,.c (I 11)]) 152 true 288230376151711743,
 ig 155 (.not c4y) 152 true 576460752303423487,
 i 156 (.pick c4w c4z (.c (.pv (.bool false)))) 1152921504606846975,
 i 0 (mv c4A) 2305843009213693951] false)
 .ret))))))))))))))⟩
def a8o:m8:=⟨1,9,[.cell 2 true 67],
 .seq (.b6 [i 1 (.box 3 t0) 0,
 i 2 (.alloc z1) 0] false)
 (.seq (.b6 [i 4 (.load true 3 t1) 0,
 i 5 (.call (.f F5) [t4]) 1,
 i 3 (.alloc z1) 0,
 iz (.store 67 t3 t5) 7] false)
 (.seq (.b6 [i 6 (.b0 t3 5) 0,
 i 7 (.b0 t6 40) 1,
 iz (.store 1 t7 (.c (I 1))) 3] false)
 (.seq (.b6 [i 8 (.load true 67 t3) 0,
 iz (.store 67 t2 t8) 1] false)
 .ret)))⟩
def b1A:m8:=⟨1,8,[.tmp 2],
 .seq (.b6 [i 2 (.mv (.c (.emp 6))) 0] false)
 (.seq (.b6 [i 3 (mv t0) 0,
 i 4 (mv t0) 0,
 i 5 (.i9 t4) 2,
 i 6 (.mm false [t5,.c (I 60)]) 6,
 i 7 (.slice 6 t3 none (some t6) none) 15,
 i 2 (mv t7) 31] false)
 .ret)⟩
def a4i:m8:=⟨1,13,[.tmp 2],
 .seq (.b6 [i 1 (.box 6 t0) 0,
 i 2 (.mv (.c (.pv (.str [])))) 0] false)
 (.seq (.seq (.b6 [i 3 (.b0 t1 0) 0,
 i 4 (.load false 1 t3) 1,
 i 5 (.bin .rem t4 (.c (.pv (.int .u8 (8))))) 3,
 i 6 (.bin .lss t5 (.c (.pv (.int .u8 (3))))) 7] false)
 (.cond t6
 (.seq (.b6 [i 7 (.call (.f a2a) []) 0,
 i 8 (.b0 t1 0) 0,
 i 9 (.load false 1 t8) 2,
 i 10 (.bin .rem t9 (.c (.pv (.int .u8 (8))))) 6,
 i 11 (.j3 1 t7 u0) 15,
 i 12 (.load false 1 u7) 31,
 i 2 (mv x5) 63] true)
 .ret)
 .skip))
 (.seq (.b6 [i 2 (.mv (.c (.pv (.str [])))) 0] false)
 .ret))⟩
def b2U:m8:=⟨2,166,[.cell 4 true 67,.tmp 5],
 .seq (.b6 [i 2 (.box 67 t0) 0,
 i 4 (.alloc z1) 0,
 i 5 (.mv (.c (I 0))) 0] false)
 (.seq (.b6 [i 16 (.b0 t2 0) 0,
 i 17 (.load false 1 F9) 1,
 i 18 (.i9 F2) 3,
 i 6 (mv I6) 7] false)
 (.seq (.seq (.b6 [i 19 (mv t1) 0] false)
 (.block 0
 (.seq (.b6 [i 21 (.bin .eql M5 (.c (.pv (.str [115,97,118,101])))) 0,
 i 20 (mv M6) 1] false)
 (.cond O6
 (.seq (.seq (.b6 [i 22 (.b0 t2 3) 0,
 i 23 (.load false 1 S3) 1,
 i 24 (.i9 V7) 3,
 i 25 (.bin .geq Y3 (.c (I 10))) 7,
 i 26 (mv Y1) 15,
 ig 27 (.b0 t2 62) 26 false 31,
 ig 28 (.load false 1 t27) 26 false 63,
 ig 29 (.i9 t28) 26 false 127,
 ig 30 (.bin .geq t29 (.c (I 20))) 26 false 255,
 i 31 (.pick t26 (.c (.pv (.bool true))) t30) 511] false)
 (.cond t31
 (.seq (.b6 [i 32 (.load true 67 t2) 0,
 iz (.store 67 t4 t32) 1,
 i 5 (.mv (.c (I 26))) 3] false)
 .ret)
 .skip))
 (.seq (.b6 [i 34 (.load true 67 t2) 0,
 i 35 (.b0 t2 4) 0,
 i 36 (.load false 1 t35) 2,
 i 37 (.bin .add t36 (.c (I 1))) 6,
 i 38 (.build z0 [(0,1,.c (I 12)),(2,1,t37)]) 14,
 i 39 (.O5 7 1 z0 [(0,t38)]) 30,
 i 40 (.call (.f u3) [t34,.c (I 0),t39]) 63,
 i 33 (mv t40) 127,
 i 41 (.extract t33 0) 255,
 i 42 (.extract t33 1) 255,
 i 7 (.alloc z1) 0,
 iz (.store 67 t7 t41) 1535,
 i 8 (mv t42) 4095] false)
 (.seq (.seq (.b6 [i 43 (mv t8) 0,
 i 44 (.bin .neq t43 (.c (I 0))) 1] false)
 (.cond t44
 (.seq (.b6 [i 45 (.load true 67 t2) 0,
 i 46 (mv t8) 0,
 iz (.store 67 t4 t45) 1,
 i 5 (mv t46) 7] false)
 .ret)
 .skip))
 (.seq (.b6 [i 47 (.b0 t2 4) 0,
 i 48 (.load false 1 t47) 1,
 i 49 (.bin .add t48 (.c (I 1))) 3,
 i 50 (.b0 t7 4) 7,
 iz (.store 1 t50 t49) 15] false)
 (.seq (.b6 [i 9 (.mv (.c (.emp 3))) 0] false)
 (.seq (.b6 [i 51 (mv t9) 0,
 i 52 (.b0 t2 3) 0,
 i 53 (.load false 1 t52) 2,
 i 54 (.append 3 40 t51 t53) 7,
 i 55 (.b0 t7 4) 0,
 i 56 (.load false 1 t55) 16,
 i 57 (.b0 t2 2) 0,
 i 58 (.load false 1 t57) 64,
 i 59 (.b0 t2 62) 0,
 i 60 (.load false 1 t59) 256,
 i 61 (.i9 t60) 768,
 i 62 (.build [I 0,.emp 7,I 0] [(0,1,t56),(1,1,t58),(2,1,t61)]) 2032,
 i 63 (.O5 3 1 [I 0,.emp 7,I 0] [(0,t62)]) 4080,
 i 64 (.append 3 40 t54 t63) 8191,
 i 65 (.b0 t7 3) 16383,
 iz (.store 1 t65 t64) 32767] true)
 (.seq (.b6 [i 10 (.mv (.c (.emp 57))) 0] false)
 (.seq (.b6 [i 66 (mv u0) 0,
 i 67 (.b0 t2 62) 0,
 i 68 (.load false 1 t67) 2,
 i 69 (.append 57 520 t66 t68) 7,
 i 70 (.b0 t2 5) 0,
 i 71 (.load true 57 t70) 16,
 i 72 (.O5 57 1 z4 [(0,t71)]) 48,
 i 73 (.append 57 520 t69 t72) 127,
 i 74 (.b0 t7 62) 255,
 iz (.store 1 t74 t73) 511] true)
 (.seq (.b6 [i 75 (.load true 67 t7) 0,
 iz (.store 67 t4 t75) 1,
 i 5 (.mv (.c (I 0))) 3] false)
 .ret)))))))))
 (.seq (.b6 [i 77 (.bin .eql M5 (.c (.pv (.str [114,101,115,116,111,114,101])))) 0,
 i 76 (mv t77) 1] false)
 (.cond t76
 (.seq (.seq (.b6 [i 78 (mv t6) 0,
 i 79 (.bin .lss t78 (.c (I 1))) 1] false)
 (.cond t79
 (.seq (.b6 [i 80 (.load true 67 t2) 0,
 iz (.store 67 t4 t80) 1,
 i 5 (.mv (.c (I 20))) 3] false)
 .ret)
 .skip))
 (.seq (.b6 [i 81 (.b0 t2 0) 0,
 i 82 (.load false 1 t81) 1,
 i 83 (mv t6) 0,
 i 84 (.bin .sub t83 (.c (I 1))) 4,
 i 85 (.j3 7 t82 t84) 15,
 i 86 (.load true 7 t85) 31,
 i 11 (.alloc z0) 0,
 iz (.store 7 u7 t86) 127] false)
 (.seq (.seq (.b6 [i 87 (.b0 u7 0) 0,
 i 88 (.load false 1 t87) 1,
 i 89 (.bin .neq t88 (.c (I 12))) 3] false)
 (.cond t89
 (.seq (.b6 [i 90 (.load true 67 t2) 0,
 iz (.store 67 t4 t90) 1,
 i 5 (.mv (.c (I 22))) 3] false)
 .ret)
 .skip))
 (.seq (.b6 [i 91 (.load true 67 t2) 0,
 i 92 (.b0 u7 2) 0,
 i 93 (.load false 1 t92) 2,
 i 94 (.call (.f a2c) [t91,t93]) 7,
 i 12 (mv t94) 15] false)
 (.seq (.seq (.b6 [i 95 (mv x5) 0,
 i 96 (.bin .lss t95 (.c (I 0))) 1] false)
 (.cond t96
 (.seq (.b6 [i 97 (.load true 67 t2) 0,
 iz (.store 67 t4 t97) 1,
 i 5 (.mv (.c (I 34))) 3] false)
 .ret)
 .skip))
 (.seq (.b6 [i 98 (.b0 t2 3) 0,
 i 99 (.load false 1 t98) 1,
 i 100 (mv x5) 0,
 i 101 (.j3 3 t99 b8v) 7,
 i 102 (.load true 3 b8w) 15,
 i 13 (.alloc [I 0,.emp 7,I 0]) 0,
 iz (.store 3 z9 b8x) 63] false)
 (.seq (.seq (.b6 [i 103 (.b0 t2 0) 0,
 i 104 (.load false 1 b8y) 1,
 i 105 (mv t6) 0,
 i 106 (.bin .sub b9v (.c (I 1))) 4,
 i 107 (.slice 7 b9u none (some b9w) none) 15,
 i 108 (.b0 z9 1) 0,
 i 109 (.load false 1 b9y) 32,
 i 110 (.i9 b9z) 96,
 i 111 (.call (.f Z5) [b9x,b9A]) 255,
 i 112 (mv b9B) 511,
 ig 113 (.b0 t2 1) 112 false 1023,
 ig 114 (.load false 1 b9D) 112 false 2047,
 ig 115 (.b0 z9 1) 112 false 1023,
 ig 116 (.load false 1 b9F) 112 false 5119,
 ig 117 (.i9 b9G) 112 false 13311,
 ig 118 (.call (.f Z5) [b9E,b9H]) 112 false 32767,
 i 119 (.pick b9C (.c (.pv (.bool true))) b9I) 65535] true)
 (.cond b9J
 (.seq (.b6 [i 120 (.load true 67 t2) 0,
 iz (.store 67 t4 b9K) 1,
 i 5 (.mv (.c (I 34))) 3] false)
 .ret)
 .skip))
 (.seq (.b6 [i 122 (.load true 67 t2) 0,
 i 123 (.call (.f u3) [b9L,.c (I 1),.c (.emp 7)]) 1,
 i 121 (mv b9M) 3,
 i 124 (.extract b8z 0) 7,
 i 125 (.extract b8z 1) 7,
 i 14 (.alloc z1) 0,
 iz (.store 67 C7 b9N) 47,
 i 15 (mv b9O) 127] false)
 (.seq (.b6 [i 126 (.b0 z9 1) 0,
 i 127 (.load false 1 b9P) 1,
 i 128 (.b0 C7 2) 3,
 iz (.store 1 b9Q b8A) 7] false)
 (.seq (.b6 [i 129 (.b0 t2 62) 0,
 i 130 (.load false 1 b9R) 1,
 i 131 (.b0 z9 2) 0,
 i 132 (.load false 1 b9T) 4,
 i 133 (.j3 57 b9S b9U) 15,
 i 134 (.load true 57 b9V) 31,
 i 135 (.b0 C7 5) 63,
 iz (.store 57 b9X b9W) 127] false)
 (.seq (.b6 [i 136 (.b0 t2 62) 0,
 i 137 (.load false 1 b9Y) 1,
 i 138 (.b0 z9 2) 0,
 i 139 (.load false 1 c0a) 4,
 i 140 (.slice 57 b9Z none (some c2q) none) 15,
 i 141 (.b0 C7 62) 31,
 iz (.store 1 c2s c2r) 63] false)
 (.seq (.b6 [i 142 (.b0 t2 3) 0,
 i 143 (.load false 1 c2t) 1,
 i 144 (mv x5) 0,
 i 145 (.slice 3 c2u none (some c2v) none) 7,
 i 146 (.b0 C7 3) 15,
 iz (.store 1 c2x c2w) 31] false)
 (.seq (.b6 [i 147 (.load true 67 C7) 0,
 i 148 (mv G9) 0,
 iz (.store 67 t4 c2y) 1,
 i 5 (mv c2z) 7] false)
 .ret)))))))))))))
 (.seq (.b6 [i 150 (.bin .eql M5 (.c (.pv (.str [118,109,115,116,97,116,117,115])))) 0,
 i 149 (mv c4u) 1] false)
 (.cond c4t
 (.seq (.b6 [i 151 (.load true 67 t2) 0,
 i 152 (.b0 t2 3) 0,
 i 153 (.load false 1 c4w) 2,
 i 154 (.i9 c4x) 6,
 i 155 (.call (.f a0B) [c4y]) 14,
 i 156 (.b0 t2 2) 0,
 i 157 (.load false 1 c4A) 32,
 i 158 (.call (.f a1Y) [c5J]) 126,
 i 159 (.call (.f a0B) [c5K]) 254,
 i 160 (.call (.f a0B) [.c (I 20000)]) 510,
 i 161 (.O5 7 3 z0 [(0,c4z),(1,c5L),(2,c5M)]) 1022,
 i 162 (.call (.f u3) [c4v,.c (I 0),c5N]) 2047,
 i 163 (.extract c4B 0) 4095,
 i 164 (.extract c4B 1) 4095,
 iz (.store 67 t4 c5O) 16383,
 i 5 (mv c5P) 32767] true)
 .ret)
 .skip))))))))
 (.seq (.b6 [i 165 (.load true 67 t2) 0,
 iz (.store 67 t4 c5Q) 1,
 i 5 (.mv (.c (I 24))) 3] false)
 .ret)))⟩
def a3B:m8:=⟨2,166,[.cell 4 true 67],
 .seq (.b6 [i 2 (.box 6 t0) 0,
 i 3 (.box 67 t1) 0,
 i 4 (.alloc z1) 0] false)
 (.seq (.b6 [i 11 (.b0 t2 1) 0,
 i 12 (.load true 5 u7) 1,
 i 13 (.b0 t3 2) 0,
 i 14 (.load false 1 z9) 4,
 i 15 (.call (.f e8) [x5,C7]) 15,
 i 5 (.alloc z0) 0,
 iz (.store 7 t5 G9) 63] false)
 (.seq (.seq (.b6 [i 16 (.b0 t2 0) 0,
 i 17 (.load false 1 F9) 1,
 i 18 (.bin .rem F2 (.c (.pv (.int .u8 (8))))) 3] false)
 (.block 0
 (.seq (.b6 [i 20 (.bin .eql I6 (.c (.pv (.int .u8 (3))))) 0,
 i 19 (mv O6) 1] false)
 (.cond M5
 (.seq (.b6 [i 21 (.b0 t3 0) 0,
 i 22 (.load false 1 M6) 1,
 i 23 (.i9 S3) 3,
 i 24 (.bin .lss V7 (.c (I 100))) 7] false)
 (.cond Y3
 (.b6 [i 26 (.load true 67 t3) 0,
 i 27 (.load true 7 t5) 0,
 i 28 (.O5 7 1 z0 [(0,t27)]) 2,
 i 29 (.call (.f u3) [t26,.c (I 0),t28]) 7,
 i 25 (mv t29) 15,
 i 30 (.extract Y1 0) 31,
 i 31 (.extract Y1 1) 31,
 iz (.store 67 t3 t30) 63] false)
 .skip))
 (.seq (.b6 [i 33 (.bin .eql I6 (.c (.pv (.int .u8 (4))))) 0,
 i 32 (mv t33) 1] false)
 (.cond t32
 (.b6 [i 35 (.load true 67 t3) 0,
 i 36 (.b0 t3 0) 0,
 i 37 (.load false 1 t36) 2,
 i 38 (.i9 t37) 6,
 i 39 (.b0 t2 1) 0,
 i 40 (.b0 t39 1) 16,
 i 41 (.load false 1 t40) 48,
 i 42 (.bin .rem t41 (.c (.pv (.int .u8 (2))))) 112,
 i 43 (.conv .i64 t42) 240,
 i 44 (.bin .add (.c (I 1)) t43) 496,
 i 45 (.mm false [t38,t44]) 1022,
 i 46 (.call (.f u3) [t35,t45,.c (.emp 7)]) 2047,
 i 34 (mv t46) 4095,
 i 47 (.extract t34 0) 8191,
 i 48 (.extract t34 1) 8191,
 iz (.store 67 t3 t47) 16383] false)
 (.seq (.b6 [i 50 (.bin .eql I6 (.c (.pv (.int .u8 (5))))) 0,
 i 49 (mv t50) 1] false)
 (.cond t49
 (.seq (.b6 [i 51 (.b0 t2 1) 0,
 i 52 (.load true 5 t51) 1,
 i 53 (.b0 t3 2) 0,
 i 54 (.load false 1 t53) 4,
 i 55 (.call (.f o0) [t52,t54]) 15,
 i 6 (.alloc z2) 0,
 iz (.store 7 t6 t55) 63] false)
 (.seq (.b6 [i 56 (.b0 t3 2) 0,
 i 57 (.load false 1 t56) 1,
 i 58 (.i9 t57) 3,
 i 59 (.bin .lss t58 (.c (I 60))) 7,
 i 60 (mv t59) 15,
 ig 61 (.b0 t3 0) 60 true 31,
 ig 62 (.load false 1 t61) 60 true 63,
 ig 63 (.i9 t62) 60 true 127,
 ig 64 (.bin .lss t63 (.c (I 100))) 60 true 255,
 i 65 (.pick t60 t64 (.c (.pv (.bool false)))) 511] false)
 (.cond t65
 (.seq (.b6 [i 7 (.mv (.c (.emp 7))) 0] false)
 (.seq (.b6 [i 66 (mv t7) 0,
 i 67 (.b0 t3 2) 0,
 i 68 (.load false 1 t67) 2,
 i 69 (.append 7 112 t66 t68) 7,
 i 70 (.load true 7 t6) 0,
 i 71 (.O5 7 1 z2 [(0,t70)]) 16,
 i 72 (.append 7 112 t69 t71) 63,
 i 73 (.b0 t3 2) 127,
 iz (.store 1 t73 t72) 255] true)
 (.seq (.b6 [i 74 (.b0 t6 0) 0,
 i 75 (.load false 1 t74) 1,
 i 76 (.bin .eql t75 (.c (I 1))) 3] false)
 (.cond t76
 (.b6 [i 78 (.load true 67 t3) 0,
 i 79 (mv t7) 0,
 i 80 (.i9 t79) 2,
 i 81 (.b0 t3 2) 0,
 i 82 (.load false 1 t81) 8,
 i 83 (.i9 t82) 24,
 i 84 (.bin .add t80 t83) 62,
 i 85 (.bin .sub t84 (.c (I 1))) 126,
 i 86 (.b0 t6 1) 0,
 i 87 (.load false 1 t86) 256,
 i 88 (.J3 t87) 768,
 i 89 (.build z0 [(0,1,.c (I 6)),(4,1,t85),(6,1,t88)]) 2046,
 i 90 (.O5 7 1 z0 [(0,t89)]) 4094,
 i 91 (.call (.f u3) [t78,.c (I 0),t90]) 8191,
 i 77 (mv t91) 16383,
 i 92 (.extract t77 0) 32767,
 i 93 (.extract t77 1) 32767,
 iz (.store 67 t3 t92) 65535] false)
 .skip))))
 .skip)))
 (.seq (.b6 [i 95 (.bin .eql I6 (.c (.pv (.int .u8 (6))))) 0,
 i 94 (mv t95) 1] false)
 (.cond t94
 (.seq (.seq (.b6 [i 96 (.b0 t5 0) 0,
 i 97 (.load false 1 t96) 1,
 i 98 (.bin .eql t97 (.c (I 6))) 3,
 i 99 (mv t98) 7,
 ig 100 (.b0 t5 6) 99 true 15,
 ig 101 (.load false 1 b8v) 99 true 31,
 ig 102 (.bin .gtr b8w (.c (I 0))) 99 true 63,
 i 103 (.pick t99 b8x (.c (.pv (.bool false)))) 127] false)
 (.cond b8y
 (.b6 [i 104 (.b0 t3 2) 0,
 i 105 (.load false 1 b9u) 1,
 i 106 (.load true 7 t5) 0,
 i 107 (.call (.f W8) [b9v,b9w,.c (I 0),.c (.pv (.str [122]))]) 7,
 i 108 (.b0 t3 2) 15,
 iz (.store 1 b9y b9x) 31] false)
 .skip))
 (.seq (.seq (.b6 [i 109 (.b0 t5 0) 0,
 i 110 (.load false 1 b9z) 1,
 i 111 (.bin .eql b9A (.c (I 7))) 3,
 i 112 (mv b9B) 7,
 ig 113 (.b0 t5 6) 112 true 15,
 ig 114 (.load false 1 b9D) 112 true 31,
 ig 115 (.bin .gtr b9E (.c (I 0))) 112 true 63,
 i 116 (.pick b9C b9F (.c (.pv (.bool false)))) 127] false)
 (.cond b9G
 (.b6 [i 117 (.b0 t3 2) 0,
 i 118 (.load false 1 b9H) 1,
 i 119 (.load true 7 t5) 0,
 i 120 (.load true 7 t5) 0,
 i 121 (.O5 7 1 z0 [(0,b9K)]) 8,
 i 122 (.call (.f W9) [b9I,b9J,.c (I 0),b8z]) 31,
 i 123 (.b0 t3 2) 63,
 iz (.store 1 b9M b9L) 127] false)
 .skip))
 (.seq (.b6 [i 124 (.b0 t5 0) 0,
 i 125 (.load false 1 b9N) 1,
 i 126 (.bin .eql b9O (.c (I 9))) 3] false)
 (.cond b9P
 (.seq (.b6 [i 128 (.b0 t3 2) 0,
 i 129 (.load false 1 b9Q) 1,
 i 130 (.load true 7 t5) 0,
 i 131 (.build z0 [(0,1,.c (I 5)),(3,1,.c (.pv (.str [110,101,119])))]) 0,
 i 132 (.load true 7 t5) 0,
 i 133 (.call (.f Z4) [b9R,b9S,b9T,b9U]) 31,
 i 127 (mv b9V) 63,
 i 134 (.extract b8A 0) 127,
 i 135 (.extract b8A 1) 127,
 i 8 (mv b9W) 255,
 i 9 (mv b9X) 1023] false)
 (.seq (.b6 [i 136 (mv t9) 0] false)
 (.cond b9Y
 (.b6 [i 137 (mv t8) 0,
 i 138 (.b0 t3 2) 1,
 iz (.store 1 c0a b9Z) 3] false)
 .skip)))
 .skip))))
 (.seq (.b6 [i 140 (.bin .eql I6 (.c (.pv (.int .u8 (7))))) 0,
 i 139 (mv c2r) 1] false)
 (.cond c2q
 (.seq (.b6 [i 141 (.b0 t2 1) 0,
 i 142 (.b0 c2s 1) 1,
 i 143 (.load false 1 c2t) 3,
 i 144 (.conv .i64 c2u) 7,
 i 145 (.bin .add (.c (I 1)) c2v) 15,
 i 146 (.b0 t3 5) 31,
 i 147 (.b0 c2x 40) 63,
 iz (.store 1 c2y c2w) 127] false)
 (.seq (.b6 [i 148 (.b0 t5 0) 0,
 i 149 (.load false 1 c2z) 1,
 i 150 (.bin .eql c4t (.c (I 9))) 3,
 i 151 (mv c4u) 7,
 ig 152 (.b0 t3 1) 151 true 15,
 ig 153 (.load false 1 c4w) 151 true 31,
 ig 154 (.i9 c4x) 151 true 63,
 ig 155 (.bin .lss c4y (.c (I 20))) 151 true 127,
 i 156 (.pick c4v c4z (.c (.pv (.bool false)))) 255] false)
 (.cond c4A
 (.seq (.b6 [i 10 (.mv (.c (.emp 7))) 0] false)
 (.b6 [i 157 (mv u0) 0,
 i 158 (.b0 t3 1) 0,
 i 159 (.load false 1 c5K) 2,
 i 160 (.append 7 64 c5J c5L) 7,
 i 161 (.load true 7 t5) 0,
 i 162 (.O5 7 1 z0 [(0,c5N)]) 16,
 i 163 (.append 7 64 c5M c4B) 63,
 i 164 (.b0 t3 1) 127,
 iz (.store 1 c5P c5O) 255] true))
 .skip)))
 .skip))))))))))))
 (.seq (.b6 [i 165 (.load true 67 t3) 0,
 iz (.store 67 t4 c5Q) 1] false)
 .ret)))⟩
def a4J:m8:=⟨1,5,[.cell 2 true 7],
 .seq (.b6 [i 2 (.alloc z0) 0] false)
 (.seq (.b6 [i 3 (mv t0) 0,
 i 4 (.build z0 [(0,1,.c (I 12)),(2,1,t3)]) 1,
 iz (.store 7 t2 t4) 3] false)
 .ret)⟩
def a5m:m8:=⟨2,84,[.cell 4 true 7],
 .seq (.b6 [i 2 (.box 5 t0) 0,
 i 4 (.alloc z0) 0] false)
 (.seq (.b6 [i 6 (.b0 t2 3) 0,
 i 7 (.load false 1 t6) 1,
 i 8 (.conv .i64 t7) 3,
 i 5 (mv t8) 7] false)
 (.seq (.seq (.b6 [i 9 (.b0 t2 0) 0,
 i 10 (.load false 1 t9) 1,
 i 11 (.bin .rem u0 (.c (.pv (.int .u8 (16))))) 3] false)
 (.block 0
 (.seq (.b6 [i 13 (.bin .eql u7 (.c (.pv (.int .u8 (0))))) 0,
 i 12 (mv z9) 1] false)
 (.cond x5
 (.seq (.b6 [i 14 (.build z0 [(0,1,.c (I 0))]) 0,
 iz (.store 7 t4 C7) 1] false)
 .ret)
 (.seq (.b6 [i 16 (.bin .eql u7 (.c (.pv (.int .u8 (1))))) 0,
 i 15 (mv F9) 1] false)
 (.cond G9
 (.seq (.b6 [i 17 (.build z0 [(0,1,.c (I 1))]) 0,
 iz (.store 7 t4 F2) 1] false)
 .ret)
 (.seq (.b6 [i 19 (.bin .eql u7 (.c (.pv (.int .u8 (2))))) 0,
 i 18 (mv M5) 1] false)
 (.cond I6
 (.seq (.b6 [i 20 (.b0 t2 1) 0,
 i 21 (.load false 1 O6) 1,
 i 22 (.bin .rem M6 (.c (.pv (.int .u8 (2))))) 3,
 i 23 (.conv .i64 S3) 7,
 i 24 (.build z0 [(0,1,.c (I 2)),(2,1,V7)]) 15,
 iz (.store 7 t4 Y3) 31] false)
 .ret)
 (.seq (.seq (.b6 [i 26 (.bin .eql u7 (.c (.pv (.int .u8 (3))))) 0,
 i 25 (mv t26) 1] false)
 (.cond Y1
 .skip
 (.b6 [i 27 (.bin .eql u7 (.c (.pv (.int .u8 (4))))) 0,
 i 25 (mv t27) 1] false)))
 (.cond Y1
 (.seq (.b6 [i 28 (mv t5) 0,
 i 29 (.bin .rem t28 (.c (I 10))) 1,
 i 30 (.build z0 [(0,1,.c (I 3)),(2,1,t29)]) 3,
 iz (.store 7 t4 t30) 7] false)
 .ret)
 (.seq (.b6 [i 32 (.bin .eql u7 (.c (.pv (.int .u8 (5))))) 0,
 i 31 (mv t32) 1] false)
 (.cond t31
 (.seq (.b6 [i 33 (mv t5) 0,
 i 34 (.build z0 [(0,1,.c (I 3)),(2,1,t33)]) 1,
 iz (.store 7 t4 t34) 3] false)
 .ret)
 (.seq (.b6 [i 36 (.bin .eql u7 (.c (.pv (.int .u8 (6))))) 0,
 i 35 (mv t36) 1] false)
 (.cond t35
 (.seq (.b6 [i 37 (mv t5) 0,
 i 38 (.bin .rem t37 (.c (I 1048576))) 1,
 i 39 (.build z0 [(0,1,.c (I 4)),(2,1,t38)]) 3,
 iz (.store 7 t4 t39) 7] false)
 .ret)
 (.seq (.b6 [i 41 (.bin .eql u7 (.c (.pv (.int .u8 (7))))) 0,
 i 40 (mv t41) 1] false)
 (.cond t40
 (.seq (.b6 [i 42 (mv t5) 0,
 i 43 (.build z0 [(0,1,.c (I 4)),(2,1,t42)]) 1,
 iz (.store 7 t4 t43) 3] false)
 .ret)
 (.seq (.seq (.b6 [i 45 (.bin .eql u7 (.c (.pv (.int .u8 (8))))) 0,
 i 44 (mv t45) 1] false)
 (.cond t44
 .skip
 (.b6 [i 46 (.bin .eql u7 (.c (.pv (.int .u8 (9))))) 0,
 i 44 (mv t46) 1] false)))
 (.cond t44
 (.seq (.b6 [i 47 (.b0 t2 0) 0,
 i 48 (.load false 1 t47) 1,
 i 49 (.bin .rem t48 (.c (.pv (.int .u8 (16))))) 3,
 i 50 (.bin .eql t49 (.c (.pv (.int .u8 (9))))) 7,
 i 51 (.b0 t2 1) 0,
 i 52 (.load false 1 t51) 16,
 i 53 (.conv .i64 t52) 48,
 i 54 (.bin .rem t53 (.c (I 8))) 112,
 i 55 (.a8F 8 1 (.g 0) t54) 240,
 i 56 (.load false 1 t55) 496,
 i 57 (.build z0 [(0,1,.c (I 5)),(1,1,t50),(3,1,t56)]) 1023,
 iz (.store 7 t4 t57) 2047] true)
 .ret)
 (.seq (.b6 [i 59 (.bin .eql u7 (.c (.pv (.int .u8 (10))))) 0,
 i 58 (mv t59) 1] false)
 (.cond t58
 (.seq (.b6 [i 60 (mv t1) 0,
 i 61 (.load true 5 t2) 0,
 i 62 (.call (.f L3) [t60,.c (I 6),.c (I 1),t61]) 3,
 iz (.store 7 t4 t62) 7] false)
 .ret)
 (.seq (.b6 [i 64 (.bin .eql u7 (.c (.pv (.int .u8 (11))))) 0,
 i 63 (mv t64) 1] false)
 (.cond t63
 (.seq (.b6 [i 65 (mv t1) 0,
 i 66 (.load true 5 t2) 0,
 i 67 (.call (.f L3) [t65,.c (I 7),.c (I 2),t66]) 3,
 iz (.store 7 t4 t67) 7] false)
 .ret)
 (.seq (.b6 [i 69 (.bin .eql u7 (.c (.pv (.int .u8 (12))))) 0,
 i 68 (mv t69) 1] false)
 (.cond t68
 (.seq (.b6 [i 70 (mv t1) 0,
 i 71 (.load true 5 t2) 0,
 i 72 (.call (.f L3) [t70,.c (I 8),.c (I 2),t71]) 3,
 iz (.store 7 t4 t72) 7] false)
 .ret)
 (.seq (.b6 [i 74 (.bin .eql u7 (.c (.pv (.int .u8 (13))))) 0,
 i 73 (mv t74) 1] false)
 (.cond t73
 (.seq (.b6 [i 75 (mv t1) 0,
 i 76 (.load true 5 t2) 0,
 i 77 (.call (.f L3) [t75,.c (I 9),.c (I 3),t76]) 3,
 iz (.store 7 t4 t77) 7] false)
 .ret)
 (.seq (.b6 [i 79 (.bin .eql u7 (.c (.pv (.int .u8 (14))))) 0,
 i 78 (mv t79) 1] false)
 (.cond t78
 (.seq (.b6 [i 80 (.build z0 [(0,1,.c (I 10)),(1,1,.c (.pv (.bool true))),(3,1,.c (.pv (.str [97,100,100])))]) 0,
 iz (.store 7 t4 t80) 1] false)
 .ret)
 .skip))))))))))))))))))))))))))))
 (.seq (.b6 [i 81 (mv t1) 0,
 i 82 (.load true 5 t2) 0,
 i 83 (.call (.f L3) [t81,.c (I 11),.c (I 4),t82]) 3,
 iz (.store 7 t4 t83) 7] false)
 .ret)))⟩
def a2R:m8:=⟨2,12,[.cell 4 true 67],
 .seq (.b6 [i 2 (.box 67 t0) 0,
 i 4 (.alloc z1) 0] false)
 (.seq (.b6 [i 5 (.b0 t2 0) 0,
 i 6 (.load false 1 t5) 1,
 i 7 (.call (.f s8) [t6]) 3,
 i 8 (mv t1) 0,
 i 9 (.append 7 64 t7 t8) 15,
 i 10 (.b0 t2 0) 31,
 iz (.store 1 u0 t9) 63] false)
 (.seq (.b6 [i 11 (.load true 67 t2) 0,
 iz (.store 67 t4 u7) 1] false)
 .ret))⟩
def b0J:m8:=⟨2,26,[.cell 4 true 67,.tmp 5],
 .seq (.b6 [i 2 (.box 67 t0) 0,
 i 4 (.alloc z1) 0,
 i 5 (.mv (.c (I 0))) 0] false)
 (.seq (.b6 [i 9 (.b1L) 0,
 iz (.insert t9 (.c (.pv (.str [115,97,118,101]))) (.f w8)) 1,
 iz (.insert t9 (.c (.pv (.str [114,101,115,116,111,114,101]))) (.f k7)) 1,
 iz (.insert t9 (.c (.pv (.str [118,109,115,116,97,116,117,115]))) (.f s7)) 1,
 i 10 (mv t9) 15,
 i 6 (mv u0) 31] false)
 (.seq (.b6 [i 12 (mv t6) 0,
 i 13 (mv t1) 0,
 i 14 (.lookup x5 z9 (.pv .nilFunc)) 3,
 i 11 (mv C7) 7,
 i 15 (.extract u7 0) 15,
 i 16 (.extract u7 1) 15,
 i 7 (mv G9) 31,
 i 8 (mv F9) 127] false)
 (.seq (.seq (.b6 [i 17 (mv t8) 0,
 i 18 (.not F2) 1] false)
 (.cond I6
 (.seq (.b6 [i 19 (.load true 67 t2) 0,
 iz (.store 67 t4 M5) 1,
 i 5 (.mv (.c (I 24))) 3] false)
 .ret)
 .skip))
 (.seq (.b6 [i 20 (mv t7) 0,
 i 21 (.load true 67 t2) 0,
 i 22 (.build z1 [(0,67,M6)]) 2,
 i 23 (.call O6 [S3]) 7,
 i 24 (.extract V7 0) 15,
 i 25 (.extract V7 1) 15,
 iz (.store 67 t4 Y3) 63,
 i 5 (mv Y1) 127] false)
 .ret))))⟩
def T5:m8:=⟨2,149,[.tmp 4],
 .seq (.b6 [i 2 (.box 67 t0) 0,
 i 3 (.box 67 t1) 0,
 i 4 (.mv (.c (.pv (.bool false)))) 0] false)
 (.seq (.seq (.b6 [i 9 (.b0 t2 0) 0,
 i 10 (.load false 1 t9) 1,
 i 11 (.b0 t3 0) 0,
 i 12 (.load false 1 u7) 4,
 i 13 (.call (.f u5) [u0,x5]) 15,
 i 14 (.not z9) 31,
 i 15 (mv C7) 63,
 ig 16 (.b0 t2 1) 15 false 127,
 ig 17 (.load false 1 F9) 15 false 255,
 ig 18 (.b0 t3 1) 15 false 127,
 ig 19 (.load false 1 I6) 15 false 639,
 ig 20 (.call (.f u5) [F2,M5]) 15 false 2047,
 ig 21 (.not O6) 15 false 4095,
 i 22 (.pick G9 (.c (.pv (.bool true))) M6) 8191,
 i 23 (mv S3) 16383,
 ig 24 (.b0 t2 2) 23 false 32767,
 ig 25 (.load false 1 Y3) 23 false 65535,
 ig 26 (.b0 t3 2) 23 false 32767,
 ig 27 (.load false 1 t26) 23 false 163839,
 ig 28 (.call (.f G3) [Y1,t27]) 23 false 524287,
 ig 29 (.not t28) 23 false 1048575,
 i 30 (.pick V7 (.c (.pv (.bool true))) t29) 2097151,
 i 31 (mv t30) 4194303,
 ig 32 (.b0 t2 3) 31 false 8388607,
 ig 33 (.load false 1 t32) 31 false 16777215,
 ig 34 (.i9 t33) 31 false 33554431,
 ig 35 (.b0 t3 3) 31 false 8388607,
 ig 36 (.load false 1 t35) 31 false 75497471,
 ig 37 (.i9 t36) 31 false 209715199,
 ig 38 (.bin .neq t34 t37) 31 false 536870911,
 i 39 (.pick t31 (.c (.pv (.bool true))) t38) 1073741823,
 i 40 (mv t39) 2147483647,
 ig 41 (.b0 t2 4) 40 false 4294967295,
 ig 42 (.load false 1 t41) 40 false 8589934591,
 ig 43 (.b0 t3 4) 40 false 4294967295,
 ig 44 (.load false 1 t43) 40 false 21474836479,
 ig 45 (.bin .neq t42 t44) 40 false 68719476735,
 i 46 (.pick t40 (.c (.pv (.bool true))) t45) 137438953471,
 i 47 (mv t46) 274877906943,
 ig 48 (.b0 t2 62) 47 false 549755813887,
 ig 49 (.load false 1 t48) 47 false 1099511627775,
 ig 50 (.i9 t49) 47 false 2199023255551,
 ig 51 (.b0 t3 62) 47 false 549755813887,
 ig 52 (.load false 1 t51) 47 false 4947802324991,
 ig 53 (.i9 t52) 47 false 13743895347199,
 ig 54 (.bin .neq t50 t53) 47 false 35184372088831,
 i 55 (.pick t47 (.c (.pv (.bool true))) t54) 70368744177663,
 i 56 (mv t55) 140737488355327,
 ig 57 (.b0 t2 65) 56 false 281474976710655,
 ig 58 (.load false 1 t57) 56 false 562949953421311,
 ig 59 (.b0 t3 65) 56 false 281474976710655,
 ig 60 (.load false 1 t59) 56 false 1407374883553279,
 ig 61 (.bin .neq t58 t60) 56 false 4503599627370495,
 i 62 (.pick t56 (.c (.pv (.bool true))) t61) 9007199254740991,
 i 63 (mv t62) 18014398509481983,
 ig 64 (.b0 t2 66) 63 false 36028797018963967,
 ig 65 (.load false 1 t64) 63 false 72057594037927935,
 ig 66 (.b0 t3 66) 63 false 36028797018963967,
 ig 67 (.load false 1 t66) 63 false 180143985094819839,
 ig 68 (.bin .neq t65 t67) 63 false 576460752303423487,
 i 69 (.pick t63 (.c (.pv (.bool true))) t68) 1152921504606846975] false)
 (.cond t69
 (.seq (.b6 [i 4 (.mv (.c (.pv (.bool false)))) 0] false)
 .ret)
 .skip))
 (.seq (.seq (.b6 [i 5 (.mv (.c (I 0))) 0] false)
 (.block 0
 (.loop [2,3,5]
 (.seq (.seq (.b6 [i 70 (mv t5) 0,
 i 71 (.b0 t2 3) 0,
 i 72 (.load false 1 t71) 2,
 i 73 (.i9 t72) 6,
 i 74 (.bin .lss t70 t73) 15] false)
 (.cond t74
 .skip
 (.exit 0)))
 (.seq (.block 1
 (.seq (.b6 [i 77 (.b0 t2 3) 0,
 i 78 (.load false 1 t77) 1,
 i 79 (mv t5) 0,
 i 80 (.j3 3 t78 t79) 7,
 i 81 (.load true 3 t80) 15,
 i 82 (.b0 t3 3) 0,
 i 83 (.load false 1 t82) 32,
 i 84 (mv t5) 0,
 i 85 (.j3 3 t83 t84) 224,
 i 86 (.load true 3 t85) 480,
 i 6 (.alloc [I 0,.emp 7,I 0]) 0,
 i 7 (.alloc [I 0,.emp 7,I 0]) 0,
 iz (.store 3 t6 t81) 3103,
 iz (.store 3 t7 t86) 8191] true)
 (.seq (.b6 [i 87 (.b0 t6 0) 0,
 i 88 (.load false 1 t87) 1,
 i 89 (.b0 t7 0) 0,
 i 90 (.load false 1 t89) 4,
 i 91 (.bin .neq t88 t90) 15,
 i 92 (mv t91) 31,
 ig 93 (.b0 t6 2) 92 false 63,
 ig 94 (.load false 1 t93) 92 false 127,
 ig 95 (.b0 t7 2) 92 false 63,
 ig 96 (.load false 1 t95) 92 false 319,
 ig 97 (.bin .neq t94 t96) 92 false 1023,
 i 98 (.pick t92 (.c (.pv (.bool true))) t97) 2047,
 i 99 (mv t98) 4095,
 ig 100 (.b0 t6 1) 99 false 8191,
 ig 101 (.load false 1 b8v) 99 false 16383,
 ig 102 (.b0 t7 1) 99 false 8191,
 ig 103 (.load false 1 b8x) 99 false 40959,
 ig 104 (.call (.f G3) [b8w,b8y]) 99 false 131071,
 ig 105 (.not b9u) 99 false 262143,
 i 106 (.pick t99 (.c (.pv (.bool true))) b9v) 524287] false)
 (.cond b9w
 (.seq (.b6 [i 4 (.mv (.c (.pv (.bool false)))) 0] false)
 .ret)
 .skip))))
 (.b6 [i 75 (mv t5) 0,
 i 76 (.bin .add t75 (.c (I 1))) 1,
 i 5 (mv t76) 3] false))))))
 (.seq (.seq (.b6 [i 8 (.mv (.c (I 0))) 0] false)
 (.block 2
 (.loop [2,3,8]
 (.seq (.seq (.b6 [i 107 (mv t8) 0,
 i 108 (.b0 t2 62) 0,
 i 109 (.load false 1 b9y) 2,
 i 110 (.i9 b9z) 6,
 i 111 (.bin .lss b9x b9A) 15] false)
 (.cond b9B
 .skip
 (.exit 2)))
 (.seq (.block 3
 (.seq (.b6 [i 114 (.b0 t2 62) 0,
 i 115 (.load false 1 b9E) 1,
 i 116 (mv t8) 0,
 i 117 (.j3 57 b9F b9G) 7,
 i 118 (.load true 57 b9H) 15,
 i 119 (.b0 t3 62) 0,
 i 120 (.load false 1 b9J) 32,
 i 121 (mv t8) 0,
 i 122 (.j3 57 b9K b8z) 224,
 i 123 (.load true 57 b9L) 480,
 i 124 (.call (.f D6) [b9I,b9M]) 1023,
 i 125 (.not b9N) 2047] true)
 (.cond b9O
 (.seq (.b6 [i 4 (.mv (.c (.pv (.bool false)))) 0] false)
 .ret)
 .skip)))
 (.b6 [i 112 (mv t8) 0,
 i 113 (.bin .add b9C (.c (I 1))) 1,
 i 8 (mv b9D) 3] false))))))
 (.seq (.b6 [i 126 (.b0 t2 5) 0,
 i 127 (.load true 57 b9P) 1,
 i 128 (.b0 t3 5) 0,
 i 129 (.load true 57 b9Q) 4,
 i 130 (.call (.f D6) [b8A,b9R]) 15,
 i 131 (mv b9S) 31,
 ig 132 (.b0 t2 63) 131 true 63,
 ig 133 (.load false 1 b9U) 131 true 127,
 ig 134 (.i9 b9V) 131 true 255,
 ig 135 (.b0 t3 63) 131 true 63,
 ig 136 (.load false 1 b9X) 131 true 575,
 ig 137 (.i9 b9Y) 131 true 1599,
 ig 138 (.bin .eql b9W b9Z) 131 true 4095,
 i 139 (.pick b9T c0a (.c (.pv (.bool false)))) 8191,
 i 140 (mv c2q) 16383,
 ig 141 (.b0 t2 64) 140 true 32767,
 ig 142 (.load false 1 c2s) 140 true 65535,
 ig 143 (.i9 c2t) 140 true 131071,
 ig 144 (.b0 t3 64) 140 true 32767,
 ig 145 (.load false 1 c2v) 140 true 294911,
 ig 146 (.i9 c2w) 140 true 819199,
 ig 147 (.bin .eql c2u c2x) 140 true 2097151,
 i 148 (.pick c2r c2y (.c (.pv (.bool false)))) 4194303,
 i 4 (mv c2z) 8388607] false)
 .ret))))⟩
def a6d:m8:=⟨2,23,[.tmp 4,.tmp 5],
 .seq (.b6 [i 2 (.box 67 t0) 0,
 i 4 (.mv (.c (I 0))) 0,
 i 5 (.mv (.c (.pv (.bool false)))) 2] false)
 (.seq (.b6 [i 8 (.load true 67 t2) 0,
 i 9 (.build z1 [(0,67,t8)]) 1,
 i 6 (.alloc z1) 0,
 iz (.store 67 t6 t9) 7] false)
 (.seq (.b6 [i 10 (.load true 67 t6) 0,
 i 11 (mv t1) 0,
 i 12 (.call (.f D2) [u0,u7]) 3,
 i 7 (mv x5) 7] false)
 (.seq (.seq (.b6 [i 13 (mv t7) 0,
 i 14 (.bin .lss z9 (.c (I 0))) 1] false)
 (.cond C7
 (.seq (.b6 [i 4 (.mv (.c (I 0))) 0,
 i 5 (.mv (.c (.pv (.bool false)))) 1] false)
 .ret)
 .skip))
 (.seq (.b6 [i 15 (.b0 t6 0) 0,
 i 16 (.b0 G9 3) 1,
 i 17 (.load false 1 F9) 3,
 i 18 (mv t7) 0,
 i 19 (.j3 3 F2 I6) 15,
 i 20 (.b0 M5 1) 31,
 i 21 (.load false 1 O6) 63,
 i 22 (.i9 M6) 127,
 i 4 (mv S3) 255,
 i 5 (.mv (.c (.pv (.bool true)))) 511] false)
 .ret))))⟩
def a8u:m8:=⟨2,22,[.tmp 4],
 .seq (.b6 [i 2 (.box 67 t0) 0,
 i 4 (.mv (.c (I 0))) 0] false)
 (.seq (.seq (.b6 [i 5 (.mv (.c (I 0))) 0] false)
 (.block 0
 (.loop [1,2,5]
 (.seq (.seq (.b6 [i 6 (mv t5) 0,
 i 7 (.b0 t2 3) 0,
 i 8 (.load false 1 t7) 2,
 i 9 (.i9 t8) 6,
 i 10 (.bin .lss t6 t9) 15] false)
 (.cond u0
 .skip
 (.exit 0)))
 (.seq (.block 1
 (.seq (.b6 [i 13 (.b0 t2 3) 0,
 i 14 (.load false 1 z9) 1,
 i 15 (mv t5) 0,
 i 16 (.j3 3 C7 G9) 7,
 i 17 (.b0 F9 0) 15,
 i 18 (.load false 1 F2) 31,
 i 19 (mv t1) 0,
 i 20 (.bin .eql I6 M5) 127] false)
 (.cond O6
 (.seq (.b6 [i 21 (mv t5) 0,
 i 4 (mv M6) 1] false)
 .ret)
 .skip)))
 (.b6 [i 11 (mv t5) 0,
 i 12 (.bin .add u7 (.c (I 1))) 1,
 i 5 (mv x5) 3] false))))))
 (.seq (.b6 [i 4 (.mv (.c (I (-1)))) 0] false)
 .ret))⟩
def a4F:m8:=⟨0,185,[.tmp 0],
 .seq (.b6 [i 0 (.mv (.c (.pv (.bool false)))) 0] false)
 (.seq (.b6 [i 22 (.call (.f a1d) []) 0,
 i 1 (mv S3) 1] false)
 (.seq (.b6 [i 23 (.build z0 [(0,1,.c (I 9)),(4,1,.c (I 2))]) 0,
 i 2 (.alloc z0) 0,
 iz (.store 7 t2 V7) 3] false)
 (.seq (.b6 [i 25 (mv t1) 0,
 i 26 (.call (.f P0) [.c (I 0),.c (I 1),.c (I 2)]) 0,
 i 27 (.call (.f Q2) [Y1,t26]) 3,
 i 24 (mv t27) 7,
 i 28 (.extract Y3 0) 15,
 i 29 (.extract Y3 1) 15,
 i 3 (mv t28) 31,
 i 4 (mv t29) 127] false)
 (.seq (.b6 [i 31 (mv t1) 0,
 i 32 (.build z0 [(0,1,.c (I 7)),(4,1,.c (I 1)),(5,1,.c (I 1)),(6,1,.c (I 1))]) 0,
 i 33 (.call (.f a3e) [t31,t32]) 3,
 i 30 (mv t33) 7,
 i 34 (.extract t30 0) 15,
 i 35 (.extract t30 1) 15,
 i 5 (mv t34) 31,
 i 6 (mv t35) 127] false)
 (.seq (.b6 [i 37 (mv t1) 0,
 i 38 (.call (.f P0) [.c (I 0),.c (I 1),.c (I 4)]) 0,
 i 39 (.call (.f J6) [t37,t38,.c (I 3),.c (.pv (.str [88]))]) 3,
 i 36 (mv t39) 7,
 i 40 (.extract t36 0) 15,
 i 41 (.extract t36 1) 15,
 i 7 (mv t40) 31,
 i 8 (mv t41) 127] false)
 (.seq (.b6 [i 43 (mv t1) 0,
 i 44 (.call (.f P0) [.c (I 0),.c (I 0),.c (I 1)]) 0,
 i 45 (.call (.f a0v) [t43,t44]) 3,
 i 42 (mv t45) 7,
 i 46 (.extract t42 0) 15,
 i 47 (.extract t42 1) 15,
 i 9 (.alloc z0) 0,
 iz (.store 7 t9 t46) 95,
 i 10 (mv t47) 255] false)
 (.seq (.b6 [i 49 (mv t1) 0,
 i 50 (.load true 7 t2) 0,
 i 51 (.load true 7 t9) 0,
 i 52 (.call (.f V1) [t49,t50,t51]) 7,
 i 48 (mv t52) 15,
 i 53 (.extract t48 0) 31,
 i 54 (.extract t48 1) 31,
 i 55 (.extract t48 2) 31,
 i 11 (.alloc z0) 0,
 iz (.store 7 u7 t53) 319,
 i 12 (mv t54) 895,
 i 13 (mv t55) 2047] false)
 (.seq (.b6 [i 57 (mv t1) 0,
 i 58 (.load true 7 t2) 0,
 i 59 (.call (.f G2) [.c (.pv (.str [98]))]) 0,
 i 60 (.call (.f G2) [.c (.pv (.str [99]))]) 4,
 i 61 (.call (.f Q3) [t57,t58,t59,t60]) 15,
 i 56 (mv t61) 31,
 i 62 (.extract t56 0) 63,
 i 63 (.extract t56 1) 63,
 i 14 (mv t62) 127,
 i 15 (mv t63) 511] true)
 (.seq (.b6 [i 65 (mv C7) 0,
 i 66 (.load true 7 t2) 0,
 i 67 (.call (.f G2) [.c (.pv (.str [99]))]) 0,
 i 68 (.call (.f G2) [.c (.pv (.str [99]))]) 4,
 i 69 (.call (.f Q3) [t65,t66,t67,t68]) 15,
 i 64 (mv t69) 31,
 i 70 (.extract t64 0) 63,
 i 71 (.extract t64 1) 63,
 i 16 (mv t70) 127,
 i 17 (mv t71) 511] true)
 (.seq (.b6 [i 73 (mv t1) 0,
 i 74 (.build z2 [(0,1,.c (I 3)),(5,1,.c (I 10000))]) 0,
 i 75 (.call (.f a6t) [t73,t74]) 3,
 i 72 (mv t75) 7,
 i 76 (.extract t72 0) 15,
 i 77 (.extract t72 1) 15,
 i 78 (.extract t72 2) 15,
 i 18 (mv t76) 31,
 i 19 (mv t77) 191,
 i 20 (mv t78) 511] false)
 (.seq (.b6 [i 79 (mv t4) 0,
 i 80 (.bin .eql t79 (.c (I 0))) 1,
 i 81 (mv t80) 3,
 ig 82 (mv t6) 81 true 7,
 ig 83 (.bin .eql t82 (.c (I 0))) 81 true 15,
 i 84 (.pick t81 t83 (.c (.pv (.bool false)))) 31,
 i 85 (mv t84) 63,
 ig 86 (mv t8) 85 true 127,
 ig 87 (.bin .eql t86 (.c (I 0))) 85 true 255,
 i 88 (.pick t85 t87 (.c (.pv (.bool false)))) 511,
 i 89 (mv t88) 1023,
 ig 90 (mv u0) 89 true 2047,
 ig 91 (.bin .eql t90 (.c (I 0))) 89 true 4095,
 i 92 (.pick t89 t91 (.c (.pv (.bool false)))) 8191,
 i 93 (mv t92) 16383,
 ig 94 (mv z9) 93 true 32767,
 ig 95 (.bin .eql t94 (.c (I 0))) 93 true 65535,
 i 96 (.pick t93 t95 (.c (.pv (.bool false)))) 131071,
 i 97 (mv t96) 262143,
 ig 98 (mv G9) 97 true 524287,
 ig 99 (.bin .eql t98 (.c (I 0))) 97 true 1048575,
 i 100 (.pick t97 t99 (.c (.pv (.bool false)))) 2097151,
 i 101 (mv b8v) 4194303,
 ig 102 (mv O6) 101 true 8388607,
 ig 103 (.bin .eql b8x (.c (I 0))) 101 true 16777215,
 i 104 (.pick b8w b8y (.c (.pv (.bool false)))) 33554431,
 i 21 (mv b9u) 67108863] false)
 (.seq (.b6 [i 105 (mv M6) 0,
 i 106 (mv b9v) 1,
 ig 107 (mv t1) 106 true 3,
 ig 108 (.call (.f K8) [b9x]) 106 true 7,
 ig 109 (.bin .eql b9y (.c (I 0))) 106 true 15,
 i 110 (.pick b9w b9z (.c (.pv (.bool false)))) 31,
 i 111 (mv b9A) 63,
 ig 112 (mv t1) 111 true 127,
 ig 113 (.call (.f G1) [b9C]) 111 true 255,
 ig 114 (.bin .eql b9D (.c (I 16))) 111 true 511,
 i 115 (.pick b9B b9E (.c (.pv (.bool false)))) 1023,
 i 116 (mv b9F) 2047,
 ig 117 (mv t3) 116 true 4095,
 ig 118 (.bin .eql b9H (.c (.pv (.str [98,99])))) 116 true 8191,
 i 119 (.pick b9G b9I (.c (.pv (.bool false)))) 16383,
 i 120 (mv b9J) 32767,
 ig 121 (mv t5) 120 true 65535,
 ig 122 (.i9 b8z) 120 true 131071,
 ig 123 (.bin .eql b9L (.c (I 1))) 120 true 262143,
 i 124 (.pick b9K b9M (.c (.pv (.bool false)))) 524287,
 i 125 (mv b9N) 1048575,
 ig 126 (mv t5) 125 true 2097151,
 ig 127 (.j3 7 b9P (.c (I 0))) 125 true 4194303,
 ig 128 (.load true 7 b8A) 125 true 8388607,
 ig 129 (.call (.f P0) [.c (I 0),.c (I 2),.c (I 2)]) 125 true 2097151,
 ig 130 (.eqs false [0,1,0,2,0,0,0] b9Q b9R) 125 true 33554431,
 i 131 (.pick b9O b9S (.c (.pv (.bool false)))) 67108863,
 i 132 (mv b9T) 134217727,
 ig 133 (mv t7) 132 true 268435455,
 ig 134 (.i9 b9V) 132 true 536870911,
 ig 135 (.bin .eql b9W (.c (I 3))) 132 true 1073741823,
 i 136 (.pick b9U b9X (.c (.pv (.bool false)))) 2147483647,
 i 137 (mv b9Y) 4294967295,
 ig 138 (mv t7) 137 true 8589934591,
 ig 139 (.j3 7 c0a (.c (I 0))) 137 true 17179869183,
 ig 140 (.b0 c2q 1) 137 true 34359738367,
 ig 141 (.load false 1 c2r) 137 true 68719476735,
 ig 142 (.bin .eql c2s (.c (.pv (.str [97,98,99,100,88,102])))) 137 true 137438953471,
 i 143 (.pick b9Z c2t (.c (.pv (.bool false)))) 274877906943,
 i 144 (mv c2u) 549755813887,
 ig 145 (.load true 7 t9) 144 true 1099511627775,
 ig 146 (.call (.f G2) [.c (.pv (.str [97]))]) 144 true 1099511627775,
 ig 147 (.eqs false [0,1,0,2,0,0,0] c2w c2x) 144 true 4398046511103,
 i 148 (.pick c2v c2y (.c (.pv (.bool false)))) 8796093022207,
 i 149 (mv c2z) 17592186044415,
 ig 150 (mv x5) 149 true 35184372088831,
 i 151 (.pick c4t c4u (.c (.pv (.bool false)))) 70368744177663,
 i 152 (mv c4v) 140737488355327,
 ig 153 (.b0 u7 2) 152 true 281474976710655,
 ig 154 (.load false 1 c4x) 152 true 562949953421311,
 ig 155 (.bin .eql c4y (.c (I 7))) 152 true 1125899906842623,
 i 156 (.pick c4w c4z (.c (.pv (.bool false)))) 2251799813685247,
 i 157 (mv c4A) 4503599627370495,
 ig 158 (mv F2) 157 true 9007199254740991,
 ig 159 (.bin .eql c5K (.c (I 30))) 157 true 18014398509481983,
 i 160 (.pick c5J c5L (.c (.pv (.bool false)))) 36028797018963967,
 i 161 (mv c5M) 72057594037927935,
 ig 162 (mv M5) 161 true 144115188075855871,
 ig 163 (.bin .eql c4B (.c (I 3))) 161 true 288230376151711743,
 i 164 (.pick c5N c5O (.c (.pv (.bool false)))) 576460752303423487,
 i 165 (mv c5P) 1152921504606846975,
 ig 166 (mv t1) 165 true 2305843009213693951,
 ig 167 (.call (.f P0) [.c (I 0),.c (I 0),.c (I 1)]) 165 true 2305843009213693951,
 ig 168 (.call (.f G2) [.c (.pv (.str [97]))]) 165 true 6917529027641081855,
 ig 169 (.call (.f a3d) [c9j,c9k,c9l]) 165 true 18446744073709551615,
 i 170 (.pick c5Q c9m (.c (.pv (.bool false)))) 36893488147419103231,
 i 171 (mv c9n) 73786976294838206463,
 ig 172 (mv t1) 171 true 147573952589676412927,
 ig 173 (.build z0 [(0,1,.c (I 7)),(4,1,.c (I 1)),(6,1,.c (I 1))]) 171 true 147573952589676412927,
 ig 174 (.O5 7 1 z0 [(0,c9q)]) 171 true 442721857769029238783,
 ig 175 (.call (.f a3f) [c9p,c9r]) 171 true 1180591620717411303423,
 ig 176 (.O5 1 3 [.pv (.bool false)] [(0,.c (.pv (.bool true))),(1,.c (.pv (.bool true))),(2,.c (.pv (.bool false)))]) 171 true 147573952589676412927,
 ig 177 (.call (.f M9) [c9s,c9t]) 171 true 4722366482869645213695,
 i 178 (.pick c9o c9u (.c (.pv (.bool false)))) 9444732965739290427391,
 i 179 (mv c9v) 18889465931478580854783,
 ig 180 (.build z2 []) 179 true 37778931862957161709567,
 ig 181 (.O5 7 1 z2 [(0,c9x)]) 179 true 75557863725914323419135,
 ig 182 (.call (.f K8) [c9y]) 179 true 151115727451828646838271,
 ig 183 (.bin .eql c9z (.c (I 210))) 179 true 302231454903657293676543,
 i 184 (.pick c9w c9A (.c (.pv (.bool false)))) 604462909807314587353087,
 i 0 (mv c9B) 1208925819614629174706175] true)
 .ret))))))))))))⟩
def a5V:m8:=⟨1,32,[.tmp 2],
 .seq (.b6 [i 2 (.mv (.c (I 0))) 0] false)
 (.scope
 (.seq (.seq (.b6 [i 9 (mv t0) 0,
 i 10 (.call (.f G1) [t9]) 1,
 i 11 (.bin .gtr u0 (.c (I 20000))) 3] false)
 (.cond u7
 (.seq (.b6 [i 2 (.mv (.c (I 210))) 0] false)
 .ret)
 .skip))
 (.seq (.b6 [i 12 (mv t0) 0,
 i 13 (.build [.emp 7] [(0,1,x5)]) 1,
 i 3 (.alloc [.emp 7]) 0,
 iz (.store 1 t3 z9) 7,
 i 4 (.mv (.c (I 0))) 15] false)
 (.seq .skip
 (.seq (.seq (.b6 [i 14 (mv t0) 0,
 i 15 (.i9 C7) 1,
 i 16 (.mv (.c (I 0))) 0] false)
 (.block 0
 (.loop [3,4,14,15,16]
 (.seq (.b6 [i 17 (.bin .lss F9 G9) 0] false)
 (.seq (.cond F2
 .skip
 (.exit 0))
 (.seq (.block 1
 (.seq (.b6 [i 18 (.j3 7 C7 F9) 0,
 i 19 (.load true 7 I6) 1,
 i 6 (.alloc z2) 0,
 iz (.store 7 t6 M5) 7] false)
 (.seq (.b6 [i 20 (.build [.pv .nilFunc,.pv .nilFunc,.pv .nilFunc] [(0,1,.f K9),(1,1,.f E2),(2,1,.f H6)]) 0,
 i 21 (.mv (.c (I 0))) 0] false)
 (.block 2
 (.loop [3,4,6,14,15,16,20,21]
 (.seq (.b6 [i 22 (.bin .lss M6 (.c (I 3))) 0] false)
 (.seq (.cond S3
 .skip
 (.exit 2))
 (.seq (.block 3
 (.seq (.b6 [i 23 (.index false 3 1 O6 M6) 0,
 i 8 (mv V7) 1] false)
 (.seq (.b6 [i 24 (mv t8) 0,
 i 25 (.load true 1 t3) 0,
 i 26 (.load true 7 t6) 0,
 i 27 (.call Y3 [Y1,t26]) 7,
 i 28 (.not t27) 15] false)
 (.cond t28
 (.seq (.b6 [i 4 (.mv (.c (I 210))) 0] false)
 (.exit 0))
 .skip))))
 (.b6 [i 29 (.bin .add M6 (.c (I 1))) 0,
 i 21 (mv t29) 1] false)))))))))
 (.b6 [i 30 (.bin .add F9 (.c (I 1))) 0,
 i 16 (mv t30) 1] false)))))))
 (.seq (.b6 [i 31 (mv t4) 0,
 i 2 (mv t31) 1] false)
 .ret))))))⟩
def a2P:m8:=⟨1,18,[.tmp 2],
 .seq (.b6 [i 2 (.mv (.c (I 0))) 0] false)
 (.seq (.b6 [i 3 (.mv (.c (I 0))) 0] false)
 (.seq (.seq (.b6 [i 6 (mv t0) 0,
 i 7 (.i9 t6) 1,
 i 8 (.mv (.c (I 0))) 0] false)
 (.block 0
 (.loop [3,6,7,8]
 (.seq (.b6 [i 9 (.bin .lss t8 t7) 0] false)
 (.seq (.cond t9
 .skip
 (.exit 0))
 (.seq (.block 1
 (.seq (.b6 [i 10 (.j3 7 t6 t8) 0,
 i 11 (.load true 7 u0) 1,
 i 5 (.alloc z2) 0,
 iz (.store 7 t5 u7) 7] false)
 (.b6 [i 12 (mv t3) 0,
 i 13 (.load true 7 t5) 0,
 i 14 (.call (.f O9) [z9]) 2,
 i 15 (.bin .add x5 C7) 7,
 i 3 (mv G9) 15] false)))
 (.b6 [i 16 (.bin .add t8 (.c (I 1))) 0,
 i 8 (mv F9) 1] false)))))))
 (.seq (.b6 [i 17 (mv t3) 0,
 i 2 (mv F2) 1] false)
 .ret)))⟩
def a8q:m8:=⟨1,19,[.tmp 2],
 .seq (.b6 [i 2 (.mv (.c (I 0))) 0] false)
 (.seq (.b6 [i 3 (.mv (.c (I 0))) 0] false)
 (.seq (.seq (.b6 [i 4 (.mv (.c (I 0))) 0] false)
 (.block 0
 (.loop [0,3,4]
 (.seq (.seq (.b6 [i 5 (mv t4) 0,
 i 6 (mv t0) 0,
 i 7 (.i9 t6) 2,
 i 8 (.bin .lss t5 t7) 7] false)
 (.cond t8
 .skip
 (.exit 0)))
 (.seq (.block 1
 (.b6 [i 11 (mv t3) 0,
 i 12 (mv t0) 0,
 i 13 (mv t4) 0,
 i 14 (.j3 7 x5 z9) 6,
 i 15 (.load true 7 C7) 14,
 i 16 (.call (.f a1e) [G9]) 30,
 i 17 (.bin .add u7 F9) 63,
 i 3 (mv F2) 127] false))
 (.b6 [i 9 (mv t4) 0,
 i 10 (.bin .add t9 (.c (I 1))) 1,
 i 4 (mv u0) 3] false))))))
 (.seq (.b6 [i 18 (mv t3) 0,
 i 2 (mv I6) 1] false)
 .ret)))⟩
def a4g:m8:=⟨1,20,[.tmp 2],
 .seq (.b6 [i 1 (.box 7 t0) 0,
 i 2 (.mv (.c (I 0))) 0] false)
 (.seq (.seq (.b6 [i 3 (.b0 t1 0) 0,
 i 4 (.load false 1 t3) 1,
 i 5 (.bin .eql t4 (.c (I 3))) 3] false)
 (.cond t5
 (.seq (.b6 [i 6 (.b0 t1 5) 0,
 i 7 (.load false 1 t6) 1,
 i 8 (.mm false [t7,.c (I 200)]) 3,
 i 9 (.mm true [.c (I 0),t8]) 7,
 i 10 (.bin .mul (.c (I 2)) t9) 15,
 i 11 (.bin .add (.c (I 1)) u0) 31,
 i 2 (mv u7) 63] false)
 .ret)
 .skip))
 (.seq (.b6 [i 12 (.b0 t1 1) 0,
 i 13 (.load false 1 x5) 1,
 i 14 (.J3 z9) 3,
 i 15 (.bin .add (.c (I 1)) C7) 7,
 i 16 (.b0 t1 2) 0,
 i 17 (.load false 1 F9) 16,
 i 18 (.i9 F2) 48,
 i 19 (.bin .add G9 I6) 127,
 i 2 (mv M5) 255] false)
 .ret))⟩
def a9x:m8:=⟨1,24,[.tmp 2],
 .seq (.b6 [i 1 (.box 7 t0) 0,
 i 2 (.mv (.c (I 0))) 0] false)
 (.seq (.seq (.b6 [i 3 (.b0 t1 0) 0,
 i 4 (.load false 1 t3) 1,
 i 5 (.bin .neq t4 (.c (I 3))) 3] false)
 (.cond t5
 (.seq (.b6 [i 6 (.b0 t1 1) 0,
 i 7 (.load false 1 t6) 1,
 i 8 (.J3 t7) 3,
 i 9 (.bin .add (.c (I 1)) t8) 7,
 i 10 (.b0 t1 2) 0,
 i 11 (.load false 1 u0) 16,
 i 12 (.i9 u7) 48,
 i 13 (.bin .add t9 x5) 127,
 i 2 (mv z9) 255] false)
 .ret)
 .skip))
 (.seq (.seq (.b6 [i 14 (.b0 t1 5) 0,
 i 15 (.load false 1 C7) 1,
 i 16 (.bin .lss G9 (.c (I 0))) 3] false)
 (.cond F9
 (.seq (.b6 [i 2 (.mv (.c (I 1))) 0] false)
 .ret)
 .skip))
 (.seq (.seq (.b6 [i 17 (.b0 t1 5) 0,
 i 18 (.load false 1 F2) 1,
 i 19 (.bin .gtr I6 (.c (I 200))) 3] false)
 (.cond M5
 (.seq (.b6 [i 2 (.mv (.c (I 401))) 0] false)
 .ret)
 .skip))
 (.seq (.b6 [i 20 (.b0 t1 5) 0,
 i 21 (.load false 1 O6) 1,
 i 22 (.bin .mul (.c (I 2)) M6) 3,
 i 23 (.bin .add (.c (I 1)) S3) 7,
 i 2 (mv V7) 15] false)
 .ret))))⟩
def a2k:m8:=⟨2,51,[.tmp 4],
 .seq (.b6 [i 3 (.box 7 t1) 0,
 i 4 (.mv (.c (.pv (.bool false)))) 0] false)
 (.seq (.seq (.b6 [i 6 (.load true 7 t3) 0,
 i 7 (.call (.f n8) [t6]) 1,
 i 8 (.bin .neq t7 (.c (I 0))) 3] false)
 (.cond t8
 (.seq (.b6 [i 4 (.mv (.c (.pv (.bool false)))) 0] false)
 .ret)
 .skip))
 (.seq (.b6 [i 9 (.b0 t3 0) 0,
 i 10 (.load false 1 t9) 1,
 i 11 (.call (.f B6) [u0]) 3,
 i 5 (mv u7) 7] false)
 (.seq (.seq (.b6 [i 12 (mv t5) 0,
 i 13 (.bin .eql x5 (.c (I 0))) 1] false)
 (.cond z9
 (.seq (.b6 [i 4 (.mv (.c (.pv (.bool true)))) 0] false)
 .ret)
 .skip))
 (.seq (.seq (.b6 [i 14 (.b0 t3 4) 0,
 i 15 (.load false 1 C7) 1,
 i 16 (mv t0) 0,
 i 17 (.i9 F9) 4,
 i 18 (.bin .geq G9 F2) 15,
 i 19 (mv I6) 31,
 ig 20 (mv t0) 19 false 63,
 ig 21 (.b0 t3 4) 19 false 63,
 ig 22 (.load false 1 M6) 19 false 191,
 ig 23 (.j3 7 O6 S3) 19 false 511,
 ig 24 (.b0 V7 0) 19 false 1023,
 ig 25 (.load false 1 Y3) 19 false 2047,
 ig 26 (mv t5) 19 false 63,
 ig 27 (.bin .neq Y1 t26) 19 false 8191,
 i 28 (.pick M5 (.c (.pv (.bool true))) t27) 16383] false)
 (.cond t28
 (.seq (.b6 [i 4 (.mv (.c (.pv (.bool false)))) 0] false)
 .ret)
 .skip))
 (.seq (.b6 [i 29 (.b0 t3 0) 0,
 i 30 (.load false 1 t29) 1,
 i 31 (.bin .eql t30 (.c (I 9))) 3,
 i 32 (mv t31) 7,
 ig 33 (.b0 t3 0) 32 false 15,
 ig 34 (.load false 1 t33) 32 false 31,
 ig 35 (.bin .eql t34 (.c (I 11))) 32 false 63,
 i 36 (.pick t32 (.c (.pv (.bool true))) t35) 127,
 i 37 (mv t36) 255,
 ig 38 (.b0 t3 5) 37 false 511,
 ig 39 (.load false 1 t38) 37 false 1023,
 ig 40 (.b0 t3 6) 37 false 511,
 ig 41 (.load false 1 t40) 37 false 2559,
 ig 42 (.bin .add t39 t41) 37 false 8191,
 ig 43 (mv t0) 37 false 511,
 ig 44 (.b0 t3 4) 37 false 511,
 ig 45 (.load false 1 t44) 37 false 33279,
 ig 46 (.j3 7 t43 t45) 37 false 115199,
 ig 47 (.load true 7 t46) 37 false 246271,
 ig 48 (.call (.f G5) [t47]) 37 false 508415,
 ig 49 (.bin .leq t42 t48) 37 false 1048575,
 i 50 (.pick t37 (.c (.pv (.bool true))) t49) 2097151,
 i 4 (mv t50) 4194303] true)
 .ret)))))⟩
def a8M:m8:=⟨2,24,[.tmp 4,.tmp 5,.tmp 6],
 .seq (.b6 [i 3 (.box 7 t1) 0,
 i 4 (.mv (.c (.emp 7))) 0,
 i 5 (.mv (.c (I 0))) 2,
 i 6 (.mv (.c (I 0))) 6] false)
 (.seq (.seq (.b6 [i 7 (mv t0) 0,
 i 8 (.call (.f G1) [t7]) 1,
 i 9 (.load true 7 t3) 0,
 i 10 (.call (.f O9) [t9]) 7,
 i 11 (.bin .add t8 u0) 15,
 i 12 (.bin .gtr u7 (.c (I 20000))) 31] true)
 (.cond x5
 (.seq (.b6 [i 4 (.mv (.c (.emp 7))) 0,
 i 5 (.mv (.c (I 0))) 1,
 i 6 (.mv (.c (I 27))) 3] false)
 .ret)
 .skip))
 (.seq (.b6 [i 13 (mv t0) 0,
 i 14 (mv t0) 0,
 i 15 (.i9 C7) 2,
 i 16 (mv t0) 0,
 i 17 (.i9 F9) 8,
 i 18 (.slice 7 z9 none (some G9) (some F2)) 31,
 i 19 (.load true 7 t3) 0,
 i 20 (.O5 7 1 z2 [(0,M5)]) 64,
 i 21 (.append 7 112 I6 O6) 255,
 i 22 (mv t0) 0,
 i 23 (.i9 S3) 512,
 i 4 (mv M6) 511,
 i 5 (mv V7) 4095,
 i 6 (.mv (.c (I 0))) 8191] true)
 .ret))⟩
def a2U:m8:=⟨2,27,[.tmp 4],
 .seq (.b6 [i 4 (.mv (.c (.pv (.bool false)))) 0] false)
 (.seq (.seq (.b6 [i 6 (mv t0) 0,
 i 7 (.i9 t6) 1,
 i 8 (mv t1) 0,
 i 9 (.i9 t8) 4,
 i 10 (.bin .neq t7 t9) 15] false)
 (.cond u0
 (.seq (.b6 [i 4 (.mv (.c (.pv (.bool false)))) 0] false)
 .ret)
 .skip))
 (.seq (.seq (.b6 [i 5 (.mv (.c (I 0))) 0] false)
 (.block 0
 (.loop [0,1,5]
 (.seq (.seq (.b6 [i 11 (mv t5) 0,
 i 12 (mv t0) 0,
 i 13 (.i9 x5) 2,
 i 14 (.bin .lss u7 z9) 7] false)
 (.cond C7
 .skip
 (.exit 0)))
 (.seq (.block 1
 (.seq (.b6 [i 17 (mv t0) 0,
 i 18 (mv t5) 0,
 i 19 (.j3 7 F2 I6) 3,
 i 20 (.load true 7 M5) 7,
 i 21 (mv t1) 0,
 i 22 (mv t5) 0,
 i 23 (.j3 7 M6 S3) 48,
 i 24 (.load true 7 V7) 112,
 i 25 (.call (.f G6) [O6,Y3]) 255,
 i 26 (.not Y1) 511] true)
 (.cond t26
 (.seq (.b6 [i 4 (.mv (.c (.pv (.bool false)))) 0] false)
 .ret)
 .skip)))
 (.b6 [i 15 (mv t5) 0,
 i 16 (.bin .add G9 (.c (I 1))) 1,
 i 5 (mv F9) 3] false))))))
 (.seq (.b6 [i 4 (.mv (.c (.pv (.bool true)))) 0] false)
 .ret)))⟩
def a0k:m8:=⟨1,29,[.tmp 2],
 .seq (.b6 [i 1 (.box 3 t0) 0,
 i 2 (.mv (.c (.emp 7))) 0] false)
 (.seq (.b6 [i 5 (.O5 1 2 [.pv (.str [])] [(0,.c (.pv (.str [97,100,100]))),(1,.c (.pv (.str [112,111,112])))]) 0,
 i 6 (.call (.f u4) [t5]) 1,
 i 3 (mv t6) 3] false)
 (.seq (.seq (.b6 [i 4 (.mv (.c (I 0))) 0] false)
 (.block 0
 (.loop [1,3,4]
 (.seq (.seq (.b6 [i 7 (mv t4) 0,
 i 8 (.b0 t1 0) 0,
 i 9 (.load false 1 t8) 2,
 i 10 (.i9 t9) 6,
 i 11 (.bin .lss t7 u0) 15,
 i 12 (mv u7) 31,
 ig 13 (mv t4) 12 true 63,
 ig 14 (.bin .lss z9 (.c (I 10))) 12 true 127,
 i 15 (.pick x5 C7 (.c (.pv (.bool false)))) 255] false)
 (.cond G9
 .skip
 (.exit 0)))
 (.seq (.block 1
 (.b6 [i 18 (mv t3) 0,
 i 19 (.b0 t1 0) 0,
 i 20 (.load false 1 M5) 2,
 i 21 (mv t4) 0,
 i 22 (.j3 5 O6 M6) 14,
 i 23 (.load true 5 S3) 30,
 i 24 (mv t3) 0,
 i 25 (.call (.f o0) [V7,Y3]) 126,
 i 26 (.O5 7 1 z2 [(0,Y1)]) 254,
 i 27 (.append 7 112 I6 t26) 511,
 i 3 (mv t27) 1023] false))
 (.b6 [i 16 (mv t4) 0,
 i 17 (.bin .add F9 (.c (I 1))) 1,
 i 4 (mv F2) 3] false))))))
 (.seq (.b6 [i 28 (mv t3) 0,
 i 2 (mv t28) 1] false)
 .ret)))⟩
def a5W:m8:=⟨3,58,[.tmp 6],
 .seq (.b6 [i 4 (.box 7 t1) 0,
 i 5 (.box 7 t2) 0,
 i 6 (.mv (.c (.pv (.bool false)))) 0] false)
 (.seq (.seq (.b6 [i 13 (mv t0) 0,
 i 14 (.load true 7 t4) 0,
 i 15 (.call (.f B5) [z9,C7]) 3,
 i 16 (.not G9) 7,
 i 17 (mv F9) 15,
 ig 18 (mv t0) 17 false 31,
 ig 19 (.load true 7 t5) 17 false 31,
 ig 20 (.call (.f B5) [I6,M5]) 17 false 127,
 ig 21 (.not O6) 17 false 255,
 i 22 (.pick F2 (.c (.pv (.bool true))) M6) 511] false)
 (.cond S3
 (.seq (.b6 [i 6 (.mv (.c (.pv (.bool false)))) 0] false)
 .ret)
 .skip))
 (.seq (.seq (.b6 [i 24 (.load true 7 t4) 0,
 i 25 (.load true 7 t5) 0,
 i 26 (.call (.f W6) [Y3,Y1]) 3,
 i 23 (mv t26) 7,
 i 27 (.extract V7 0) 15,
 i 28 (.extract V7 1) 15,
 i 7 (mv t27) 31,
 i 8 (mv t28) 127] false)
 (.seq (.b6 [i 29 (mv t8) 0,
 i 30 (.bin .eql t29 (.c (I 0))) 1] false)
 (.cond t30
 (.seq (.b6 [i 31 (mv t7) 0,
 i 32 (.bin .eql t31 (.c (I 0))) 1,
 i 6 (mv t32) 3] false)
 .ret)
 .skip)))
 (.seq (.b6 [i 34 (mv t0) 0,
 i 35 (.load true 7 t4) 0,
 i 36 (.call (.f Y9) [t34,t35]) 3,
 i 33 (mv t36) 7,
 i 37 (.extract t33 0) 15,
 i 38 (.extract t33 1) 15,
 i 9 (mv t37) 31,
 i 10 (mv t38) 127] false)
 (.seq (.b6 [i 40 (mv t0) 0,
 i 41 (.load true 7 t5) 0,
 i 42 (.call (.f Y9) [t40,t41]) 3,
 i 39 (mv t42) 7,
 i 43 (.extract t39 0) 15,
 i 44 (.extract t39 1) 15,
 i 11 (mv t43) 31,
 i 12 (mv t44) 127] false)
 (.seq (.seq (.b6 [i 45 (mv u0) 0,
 i 46 (mv t45) 1,
 ig 47 (mv x5) 46 true 3,
 i 48 (.pick t46 t47 (.c (.pv (.bool false)))) 7] false)
 (.cond t48
 (.seq (.b6 [i 49 (mv t9) 0,
 i 50 (mv u7) 0,
 i 51 (.bin .eql t49 t50) 3,
 i 6 (mv t51) 7] false)
 .ret)
 .skip))
 (.seq (.b6 [i 52 (.b0 t5 1) 0,
 i 53 (.load false 1 t52) 1,
 i 54 (.b0 t4 1) 3,
 iz (.store 1 t54 t53) 7] false)
 (.seq (.b6 [i 55 (.load true 7 t4) 0,
 i 56 (.load true 7 t5) 0,
 i 57 (.eqs false [0,1,0,2,0,0,0] t55 t56) 3,
 i 6 (mv t57) 7] false)
 .ret)))))))⟩
def X9:m8:=⟨2,26,[.tmp 4],
 .seq (.b6 [i 4 (.mv (.c (.pv (.bool false)))) 0] false)
 (.seq (.seq (.b6 [i 6 (mv t0) 0,
 i 7 (.i9 t6) 1,
 i 8 (mv t1) 0,
 i 9 (.i9 t8) 4,
 i 10 (.bin .neq t7 t9) 15] false)
 (.cond u0
 (.seq (.b6 [i 4 (.mv (.c (.pv (.bool false)))) 0] false)
 .ret)
 .skip))
 (.seq (.seq (.b6 [i 11 (mv t0) 0,
 i 12 (.i9 u7) 1,
 i 13 (.mv (.c (I 0))) 0] false)
 (.block 0
 (.loop [0,1,12,13]
 (.seq (.b6 [i 14 (.bin .lss z9 x5) 0] false)
 (.seq (.cond C7
 .skip
 (.exit 0))
 (.seq (.block 1
 (.seq (.b6 [i 15 (mv z9) 0,
 i 5 (mv G9) 1] false)
 (.seq (.b6 [i 16 (mv t0) 0,
 i 17 (mv t5) 0,
 i 18 (.j3 1 F9 F2) 3,
 i 19 (.load false 1 I6) 7,
 i 20 (mv t1) 0,
 i 21 (mv t5) 0,
 i 22 (.j3 1 O6 M6) 48,
 i 23 (.load false 1 S3) 112,
 i 24 (.eqb true M5 V7) 255] true)
 (.cond Y3
 (.seq (.b6 [i 4 (.mv (.c (.pv (.bool false)))) 0] false)
 .ret)
 .skip))))
 (.b6 [i 25 (.bin .add z9 (.c (I 1))) 0,
 i 13 (mv Y1) 1] false)))))))
 (.seq (.b6 [i 4 (.mv (.c (.pv (.bool true)))) 0] false)
 .ret)))⟩
def a5Z:m8:=⟨2,24,[.tmp 4],
 .seq (.b6 [i 2 (.box 1 t0) 0,
 i 4 (.mv (.c (.emp 1))) 0] false)
 (.seq (.b6 [i 9 (.load false 1 t2) 0,
 i 10 (.i9 t9) 1,
 i 11 (.b4H 1 1 [.bool false] u0) 3,
 i 5 (.alloc [.emp 1]) 0,
 iz (.store 1 t5 u7) 15] false)
 (.seq (.b6 [i 6 (.alloc [.pv .nilFunc]) 0] false)
 (.seq (.b6 [i 12 (.mkf (.func V2) [] [t2,t5,t6]) 0,
 iz (.store 1 t6 x5) 1] false)
 (.seq (.seq (.b6 [i 13 (mv t1) 0,
 i 14 (.i9 z9) 1,
 i 15 (.mv (.c (I 0))) 0] false)
 (.block 0
 (.loop [5,6,13,14,15]
 (.seq (.b6 [i 16 (.bin .lss G9 C7) 0] false)
 (.seq (.cond F9
 .skip
 (.exit 0))
 (.seq (.block 1
 (.seq (.b6 [i 17 (.j3 7 z9 G9) 0,
 i 18 (.load true 7 F2) 1,
 i 8 (.alloc z0) 0,
 iz (.store 7 t8 I6) 7] false)
 (.b6 [i 19 (.load false 1 t6) 0,
 i 20 (.load true 7 t8) 0,
 i 21 (.call M5 [O6]) 3] false)))
 (.b6 [i 22 (.bin .add G9 (.c (I 1))) 0,
 i 15 (mv S3) 1] false)))))))
 (.seq (.b6 [i 23 (.load false 1 t5) 0,
 i 4 (mv V7) 1] false)
 .ret)))))⟩
def a4I:m8:=⟨0,85,[.tmp 0],
 .seq (.b6 [i 0 (.mv (.c (.pv (.bool false)))) 0] false)
 (.seq (.b6 [i 8 (.call (.f r9) [.c (.pv (.str [70]))]) 0,
 i 9 (.call (.f W4) [.c (I 10)]) 1,
 i 10 (.call (.f r9) [.c (.pv (.str [70,111,110,116]))]) 3,
 i 11 (.O5 7 3 z0 [(0,t8),(1,t9),(2,u0)]) 7,
 i 12 (.call (.f M3) [u7]) 15,
 i 13 (.call (.f S0) [x5,.c (.pv (.str [100,101,102,105,110,101,114,101,115,111,117,114,99,101]))]) 31,
 i 7 (mv z9) 63,
 i 14 (.extract t7 0) 127,
 i 15 (.extract t7 1) 127,
 i 1 (.alloc z1) 0,
 iz (.store 67 t1 C7) 767,
 i 2 (mv G9) 2047] false)
 (.seq (.b6 [i 17 (.load true 67 t1) 0,
 i 18 (.call (.f r9) [.c (.pv (.str [70]))]) 0,
 i 19 (.call (.f R4) [F2,.c (.pv (.str [70,111,110,116])),I6]) 3,
 i 16 (mv M5) 7,
 i 20 (.extract F9 0) 15,
 i 21 (.extract F9 1) 15,
 i 3 (.alloc z0) 0,
 iz (.store 7 t3 O6) 95,
 i 4 (mv M6) 255] true)
 (.seq (.b6 [i 23 (.load true 67 t1) 0,
 i 24 (.call (.f r9) [.c (.pv (.str [70]))]) 0,
 i 25 (.call (.f R4) [V7,.c (.pv (.str [70,111,114,109])),Y3]) 3,
 i 22 (mv Y1) 7,
 i 26 (.extract S3 0) 15,
 i 27 (.extract S3 1) 15,
 i 5 (.alloc z0) 0,
 iz (.store 7 t5 t26) 95,
 i 6 (mv t27) 255] true)
 (.seq (.b6 [i 28 (mv t2) 0,
 i 29 (.bin .eql t28 (.c (I 0))) 1,
 i 30 (mv t29) 3,
 ig 31 (.b0 t1 0) 30 true 7,
 ig 32 (.load false 1 t31) 30 true 15,
 ig 33 (.call (.f W4) [.c (I 10)]) 30 true 7,
 ig 34 (.O5 7 1 z0 [(0,t33)]) 30 true 39,
 ig 35 (.call (.f A2) [t32,t34]) 30 true 127,
 i 36 (.pick t30 t35 (.c (.pv (.bool false)))) 255,
 i 37 (mv t36) 511,
 ig 38 (mv t4) 37 true 1023,
 ig 39 (.bin .eql t38 (.c (I 0))) 37 true 2047,
 i 40 (.pick t37 t39 (.c (.pv (.bool false)))) 4095,
 i 41 (mv t40) 8191,
 ig 42 (.load true 7 t3) 41 true 16383,
 ig 43 (.call (.f W4) [.c (I 10)]) 41 true 16383,
 ig 44 (.eqs false [0,1,0,2,0,0,0] t42 t43) 41 true 65535,
 i 45 (.pick t41 t44 (.c (.pv (.bool false)))) 131071,
 i 46 (mv t45) 262143,
 ig 47 (mv t6) 46 true 524287,
 ig 48 (.bin .eql t47 (.c (I 40))) 46 true 1048575,
 i 49 (.pick t46 t48 (.c (.pv (.bool false)))) 2097151,
 i 50 (mv t49) 4194303,
 ig 51 (.load true 67 t1) 50 true 8388607,
 ig 52 (.call (.f r9) [.c (.pv (.str [70]))]) 50 true 8388607,
 ig 53 (.call (.f r9) [.c (.pv (.str [70,111,110,116]))]) 50 true 25165823,
 ig 54 (.O5 7 2 z0 [(0,t52),(1,t53)]) 50 true 58720255,
 ig 55 (.call (.f W5) [t51,t54]) 50 true 134217727,
 ig 56 (.call (.f W4) [.c (I 10)]) 50 true 268435455,
 ig 57 (.O5 7 1 z0 [(0,t56)]) 50 true 536870911,
 ig 58 (.call (.f a3N) [t55,.c (.pv (.str [102,105,110,100,114,101,115,111,117,114,99,101])),t57]) 50 true 1073741823,
 i 59 (.pick t50 t58 (.c (.pv (.bool false)))) 2147483647,
 i 60 (mv t59) 4294967295,
 ig 61 (.load true 67 t1) 60 true 8589934591,
 ig 62 (.call (.f r9) [.c (.pv (.str [70]))]) 60 true 8589934591,
 ig 63 (.call (.f r9) [.c (.pv (.str [70,111,114,109]))]) 60 true 25769803775,
 ig 64 (.O5 7 2 z0 [(0,t62),(1,t63)]) 60 true 60129542143,
 ig 65 (.call (.f W5) [t61,t64]) 60 true 137438953471,
 ig 66 (.call (.f a1W) [.c (.pv (.bool false))]) 60 true 274877906943,
 ig 67 (.O5 7 1 z0 [(0,t66)]) 60 true 549755813887,
 ig 68 (.call (.f a3N) [t65,.c (.pv (.str [114,101,115,111,117,114,99,101,115,116,97,116,117,115])),t67]) 60 true 1099511627775,
 i 69 (.pick t60 t68 (.c (.pv (.bool false)))) 2199023255551,
 i 70 (mv t69) 4398046511103,
 ig 71 (.call (.f r9) [.c (.pv (.str [70]))]) 70 true 8796093022207,
 ig 72 (.call (.f a7Q) [.c (I 1)]) 70 true 17592186044415,
 ig 73 (.call (.f r9) [.c (.pv (.str [70,111,110,116]))]) 70 true 35184372088831,
 ig 74 (.O5 7 3 z0 [(0,t71),(1,t72),(2,t73)]) 70 true 70368744177663,
 ig 75 (.call (.f M3) [t74]) 70 true 140737488355327,
 ig 76 (.call (.f Z1) [t75,.c (.pv (.str [100,101,102,105,110,101,114,101,115,111,117,114,99,101])),.c (I 22)]) 70 true 281474976710655,
 i 77 (.pick t70 t76 (.c (.pv (.bool false)))) 562949953421311,
 i 78 (mv t77) 1125899906842623,
 ig 79 (.call (.f r9) [.c (.pv (.str [70]))]) 78 true 2251799813685247,
 ig 80 (.call (.f r9) [.c (.pv (.str [70,111,110,116,115]))]) 78 true 4503599627370495,
 ig 81 (.O5 7 2 z0 [(0,t79),(1,t80)]) 78 true 9007199254740991,
 ig 82 (.call (.f M3) [t81]) 78 true 18014398509481983,
 ig 83 (.call (.f Z1) [t82,.c (.pv (.str [102,105,110,100,114,101,115,111,117,114,99,101])),.c (I 24)]) 78 true 36028797018963967,
 i 84 (.pick t78 t83 (.c (.pv (.bool false)))) 72057594037927935,
 i 0 (mv t84) 144115188075855871] true)
 .ret))))⟩
def a4L:m8:=⟨2,48,[.cell 4 true 67,.tmp 5],
 .seq (.b6 [i 2 (.box 67 t0) 0,
 i 4 (.alloc z1) 0,
 i 5 (.mv (.c (I 0))) 0] false)
 (.seq (.b6 [i 12 (.load true 67 t2) 0,
 i 13 (.build z1 [(0,67,x5)]) 1,
 i 6 (.alloc z1) 0,
 iz (.store 67 t6 z9) 7] false)
 (.seq (.b6 [i 14 (.load true 67 t6) 0,
 i 15 (.mkf (.func D7) [C7] []) 1,
 i 7 (.alloc [.pv .nilFunc]) 0,
 iz (.store 1 t7 G9) 7] false)
 (.seq (.b6 [i 16 (.mkf (.func R3) [] [t7,t2]) 0,
 i 8 (mv F9) 1] false)
 (.seq (.b6 [i 17 (.b1L) 0,
 i 18 (mv t8) 0,
 i 19 (.load true 67 t6) 0,
 i 20 (.mkf (.func B9) [M5] []) 4,
 i 21 (.call I6 [.c (I 3),O6]) 14,
 iz (.insert F2 (.c (.pv (.str [100,101,102,105,110,101,114,101,115,111,117,114,99,101]))) M6) 31,
 i 22 (mv t8) 0,
 i 23 (.load true 67 t6) 0,
 i 24 (.mkf (.func C0) [V7] []) 128,
 i 25 (.call S3 [.c (I 2),Y3]) 478,
 iz (.insert F2 (.c (.pv (.str [102,105,110,100,114,101,115,111,117,114,99,101]))) Y1) 991,
 i 26 (mv t8) 0,
 i 27 (.load true 67 t6) 0,
 i 28 (.mkf (.func C1) [t27] []) 4096,
 i 29 (.call t26 [.c (I 2),t28]) 15326,
 iz (.insert F2 (.c (.pv (.str [117,110,100,101,102,105,110,101,114,101,115,111,117,114,99,101]))) t29) 31711,
 i 30 (mv t8) 0,
 i 31 (.load true 67 t6) 0,
 i 32 (.mkf (.func C2) [t31] []) 131072,
 i 33 (.call t30 [.c (I 2),t32]) 490462,
 iz (.insert F2 (.c (.pv (.str [114,101,115,111,117,114,99,101,115,116,97,116,117,115]))) t33) 1014751,
 i 34 (mv F2) 2097151,
 i 9 (mv t34) 4194303] true)
 (.seq (.b6 [i 36 (mv t9) 0,
 i 37 (mv t1) 0,
 i 38 (.lookup t36 t37 (.pv .nilFunc)) 3,
 i 35 (mv t38) 7,
 i 39 (.extract t35 0) 15,
 i 40 (.extract t35 1) 15,
 i 10 (mv t39) 31,
 i 11 (mv t40) 127] false)
 (.seq (.seq (.b6 [i 41 (mv u7) 0,
 i 42 (.not t41) 1] false)
 (.cond t42
 (.seq (.b6 [i 43 (.load true 67 t2) 0,
 iz (.store 67 t4 t43) 1,
 i 5 (.mv (.c (I 24))) 3] false)
 .ret)
 .skip))
 (.seq (.b6 [i 44 (mv u0) 0,
 i 45 (.call t44 []) 1,
 i 46 (.extract t45 0) 3,
 i 47 (.extract t45 1) 3,
 iz (.store 67 t4 t46) 15,
 i 5 (mv t47) 31] false)
 .ret)))))))⟩
def V9:m8:=⟨2,52,[.tmp 4],
 .seq (.b6 [i 2 (.box 7 t0) 0,
 i 3 (.box 7 t1) 0,
 i 4 (.mv (.c (.pv (.bool false)))) 0] false)
 (.seq (.b6 [i 5 (.b0 t2 0) 0,
 i 6 (.load false 1 t5) 1,
 i 7 (.b0 t3 0) 0,
 i 8 (.load false 1 t7) 4,
 i 9 (.bin .eql t6 t8) 15,
 i 10 (mv t9) 31,
 ig 11 (.b0 t2 1) 10 true 63,
 ig 12 (.load false 1 u7) 10 true 127,
 ig 13 (.b0 t3 1) 10 true 63,
 ig 14 (.load false 1 z9) 10 true 319,
 ig 15 (.bin .eql x5 C7) 10 true 1023,
 i 16 (.pick u0 G9 (.c (.pv (.bool false)))) 2047,
 i 17 (mv F9) 4095,
 ig 18 (.b0 t2 2) 17 true 8191,
 ig 19 (.load false 1 I6) 17 true 16383,
 ig 20 (.b0 t3 2) 17 true 8191,
 ig 21 (.load false 1 O6) 17 true 40959,
 ig 22 (.call (.f u5) [M5,M6]) 17 true 131071,
 i 23 (.pick F2 S3 (.c (.pv (.bool false)))) 262143,
 i 24 (mv V7) 524287,
 ig 25 (.b0 t2 3) 24 true 1048575,
 ig 26 (.load false 1 Y1) 24 true 2097151,
 ig 27 (.b0 t3 3) 24 true 1048575,
 ig 28 (.load false 1 t27) 24 true 5242879,
 ig 29 (.call (.f u5) [t26,t28]) 24 true 16777215,
 i 30 (.pick Y3 t29 (.c (.pv (.bool false)))) 33554431,
 i 31 (mv t30) 67108863,
 ig 32 (.b0 t2 4) 31 true 134217727,
 ig 33 (.load false 1 t32) 31 true 268435455,
 ig 34 (.b0 t3 4) 31 true 134217727,
 ig 35 (.load false 1 t34) 31 true 671088639,
 ig 36 (.call (.f u5) [t33,t35]) 31 true 2147483647,
 i 37 (.pick t31 t36 (.c (.pv (.bool false)))) 4294967295,
 i 38 (mv t37) 8589934591,
 ig 39 (.b0 t2 5) 38 true 17179869183,
 ig 40 (.load false 1 t39) 38 true 34359738367,
 ig 41 (.b0 t3 5) 38 true 17179869183,
 ig 42 (.load false 1 t41) 38 true 85899345919,
 ig 43 (.bin .eql t40 t42) 38 true 274877906943,
 i 44 (.pick t38 t43 (.c (.pv (.bool false)))) 549755813887,
 i 45 (mv t44) 1099511627775,
 ig 46 (.b0 t2 6) 45 true 2199023255551,
 ig 47 (.load false 1 t46) 45 true 4398046511103,
 ig 48 (.b0 t3 6) 45 true 2199023255551,
 ig 49 (.load false 1 t48) 45 true 10995116277759,
 ig 50 (.bin .eql t47 t49) 45 true 35184372088831,
 i 51 (.pick t45 t50 (.c (.pv (.bool false)))) 70368744177663,
 i 4 (mv t51) 140737488355327] false)
 .ret)⟩
def y8:m8:=⟨2,139,[.cell 4 true 7],
 .seq (.b6 [i 2 (.box 5 t0) 0,
 i 4 (.alloc z2) 0] false)
 (.seq (.b6 [i 12 (.b0 t2 4) 0,
 i 13 (.load false 1 x5) 1,
 i 14 (.b0 t2 4) 0,
 i 15 (.load false 1 C7) 4,
 i 16 (.J3 G9) 12,
 i 17 (.mm false [F9,.c (I 40)]) 28,
 i 18 (.a2C z9 none (some F2)) 63,
 i 5 (mv I6) 127] false)
 (.seq (.seq (.b6 [i 19 (.b0 t2 0) 0,
 i 20 (.load false 1 M5) 1,
 i 21 (.bin .rem O6 (.c (.pv (.int .u8 (5))))) 3] false)
 (.block 0
 (.seq (.seq (.b6 [i 23 (.bin .eql M6 (.c (.pv (.int .u8 (0))))) 0,
 i 22 (mv V7) 1] false)
 (.cond S3
 .skip
 (.b6 [i 24 (.bin .eql M6 (.c (.pv (.int .u8 (1))))) 0,
 i 22 (mv Y3) 1] false)))
 (.cond S3
 (.seq (.b6 [i 25 (mv t5) 0,
 i 26 (.build z2 [(0,1,.c (I 1)),(1,1,Y1)]) 1,
 iz (.store 7 t4 t26) 3] false)
 .ret)
 (.seq (.b6 [i 28 (.bin .eql M6 (.c (.pv (.int .u8 (2))))) 0,
 i 27 (mv t28) 1] false)
 (.cond t27
 (.seq (.b6 [i 29 (.build z2 [(0,1,.c (I 2))]) 0,
 i 6 (.alloc z2) 0,
 iz (.store 7 t6 t29) 3] false)
 (.seq (.seq (.b6 [i 7 (.mv (.c (I 0))) 0] false)
 (.block 1
 (.loop [1,2,4,6,7]
 (.seq (.seq (.b6 [i 30 (mv t7) 0,
 i 31 (.b0 t2 1) 0,
 i 32 (.load false 1 t31) 2,
 i 33 (.bin .rem t32 (.c (.pv (.int .u8 (6))))) 6,
 i 34 (.conv .i64 t33) 14,
 i 35 (.bin .lss t30 t34) 31] false)
 (.cond t35
 .skip
 (.exit 1)))
 (.seq (.block 2
 (.seq (.b6 [i 38 (.b0 t2 2) 0,
 i 39 (.load false 1 t38) 1,
 i 40 (mv t7) 0,
 i 41 (.bin .mul (.c (I 5)) t40) 4,
 i 42 (.conv .u8 t41) 12,
 i 43 (.bin .add t39 t42) 31,
 i 44 (.b0 t2 1) 0,
 i 45 (.load false 1 t44) 64,
 i 46 (mv t7) 0,
 i 47 (.conv .u8 t46) 256,
 i 48 (.bin .add t45 t47) 960,
 i 49 (.b0 t2 2) 0,
 i 50 (.load false 1 t49) 2048,
 i 51 (mv t7) 0,
 i 52 (.bin .add t51 (.c (I 1))) 8192,
 i 53 (.conv .u8 t52) 24576,
 i 54 (.bin .mul t50 t53) 63488,
 i 55 (.b0 t2 3) 0,
 i 56 (.load false 1 t55) 131072,
 i 57 (mv t7) 0,
 i 58 (.bin .add t57 (.c (I 1))) 524288,
 i 59 (.conv .i32 t58) 1572864,
 i 60 (.bin .quo t56 t59) 4063232,
 i 61 (.build [.pv (.int .u8 (0)),.pv (.int .u8 (0)),.pv (.int .u8 (0)),.pv (.int .i32 (0)),.pv (.str [])] [(0,1,t43),(1,1,t48),(2,1,t54),(3,1,t60)]) 8388607,
 i 8 (.alloc [.pv (.int .u8 (0)),.pv (.int .u8 (0)),.pv (.int .u8 (0)),.pv (.int .i32 (0)),.pv (.str [])]) 0,
 iz (.store 5 t8 t61) 33554431] true)
 (.b6 [i 62 (.b0 t6 2) 0,
 i 63 (.load false 1 t62) 1,
 i 64 (.load true 5 t8) 0,
 i 65 (mv t1) 0,
 i 66 (.call (.f e8) [t64,t65]) 12,
 i 67 (.O5 7 1 z0 [(0,t66)]) 28,
 i 68 (.append 7 64 t63 t67) 63,
 i 69 (.b0 t6 2) 127,
 iz (.store 1 t69 t68) 255] true)))
 (.b6 [i 36 (mv t7) 0,
 i 37 (.bin .add t36 (.c (I 1))) 1,
 i 7 (mv t37) 3] false))))))
 (.seq (.b6 [i 70 (.load true 7 t6) 0,
 iz (.store 7 t4 t70) 1] false)
 .ret)))
 (.seq (.b6 [i 72 (.bin .eql M6 (.c (.pv (.int .u8 (3))))) 0,
 i 71 (mv t72) 1] false)
 (.cond t71
 (.seq (.b6 [i 73 (.b0 t2 1) 0,
 i 74 (.load false 1 t73) 1,
 i 75 (.bin .rem t74 (.c (.pv (.int .u8 (6))))) 3,
 i 76 (.conv .i64 t75) 7,
 i 77 (.call (.f l8) [t76]) 15,
 i 9 (.alloc z2) 0,
 iz (.store 7 t9 t77) 63] false)
 (.seq (.seq (.b6 [i 10 (.mv (.c (I 0))) 0] false)
 (.block 3
 (.loop [1,2,4,9,10]
 (.seq (.seq (.b6 [i 78 (mv u0) 0,
 i 79 (.b0 t2 2) 0,
 i 80 (.load false 1 t79) 2,
 i 81 (.bin .rem t80 (.c (.pv (.int .u8 (4))))) 6,
 i 82 (.conv .i64 t81) 14,
 i 83 (.bin .lss t78 t82) 31,
 i 84 (mv t83) 63,
 ig 85 (mv u0) 84 true 127,
 ig 86 (.b0 t9 5) 84 true 127,
 ig 87 (.load false 1 t86) 84 true 383,
 ig 88 (.bin .lss t85 t87) 84 true 1023,
 i 89 (.pick t84 t88 (.c (.pv (.bool false)))) 2047] false)
 (.cond t89
 .skip
 (.exit 3)))
 (.seq (.block 4
 (.seq (.b6 [i 92 (.b0 t2 2) 0,
 i 93 (.load false 1 t92) 1,
 i 94 (mv u0) 0,
 i 95 (.bin .mul (.c (I 3)) t94) 4,
 i 96 (.conv .u8 t95) 12,
 i 97 (.bin .add t93 t96) 31,
 i 98 (.b0 t2 1) 0,
 i 99 (.load false 1 t98) 64,
 i 100 (mv u0) 0,
 i 101 (.conv .u8 b8v) 256,
 i 102 (.bin .add t99 b8w) 960,
 i 103 (.b0 t2 2) 0,
 i 104 (.load false 1 b8y) 2048,
 i 105 (.b0 t2 3) 0,
 i 106 (.load false 1 b9v) 8192,
 i 107 (.build [.pv (.int .u8 (0)),.pv (.int .u8 (0)),.pv (.int .u8 (0)),.pv (.int .i32 (0)),.pv (.str [])] [(0,1,t97),(1,1,b8x),(2,1,b9u),(3,1,b9w)]) 32767,
 i 11 (.alloc [.pv (.int .u8 (0)),.pv (.int .u8 (0)),.pv (.int .u8 (0)),.pv (.int .i32 (0)),.pv (.str [])]) 0,
 iz (.store 5 u7 b9x) 131071] false)
 (.seq (.b6 [i 108 (.b0 t9 3) 0,
 i 109 (.load false 1 b9y) 1,
 i 110 (mv u0) 0,
 i 111 (.a8F 8 1 (.g 0) b9A) 4,
 i 112 (.load false 1 b9B) 12,
 i 113 (.call (.f y1) [b9C]) 28,
 i 114 (.O5 7 1 z0 [(0,b9D)]) 60,
 i 115 (.append 7 64 b9z b9E) 127,
 i 116 (.b0 t9 3) 255,
 iz (.store 1 b9G b9F) 511] true)
 (.b6 [i 117 (.b0 t9 4) 0,
 i 118 (.load false 1 b9H) 1,
 i 119 (.load true 5 u7) 0,
 i 120 (mv t1) 0,
 i 121 (.call (.f e8) [b9J,b9K]) 12,
 i 122 (.O5 7 1 z0 [(0,b8z)]) 28,
 i 123 (.append 7 64 b9I b9L) 63,
 i 124 (.b0 t9 4) 127,
 iz (.store 1 b9N b9M) 255] true))))
 (.b6 [i 90 (mv u0) 0,
 i 91 (.bin .add t90 (.c (I 1))) 1,
 i 10 (mv t91) 3] false))))))
 (.seq (.b6 [i 125 (.load true 7 t9) 0,
 iz (.store 7 t4 b9O) 1] false)
 .ret)))
 .skip))))))))
 (.seq (.b6 [i 126 (mv t5) 0,
 i 127 (.b0 t2 1) 0,
 i 128 (.load false 1 b8A) 2,
 i 129 (.conv .i64 b9Q) 6,
 i 130 (mv t5) 0,
 i 131 (.J3 b9S) 16,
 i 132 (.bin .add b9T (.c (I 1))) 48,
 i 133 (.bin .rem b9R b9U) 126,
 i 134 (.b0 t2 2) 0,
 i 135 (.load false 1 b9W) 256,
 i 136 (.bin .rem b9X (.c (.pv (.int .u8 (2))))) 768,
 i 137 (.conv .i64 b9Y) 1792,
 i 138 (.build z2 [(0,1,.c (I 4)),(1,1,b9P),(6,1,b9V),(5,1,b9Z)]) 4095,
 iz (.store 7 t4 c0a) 8191] true)
 .ret)))⟩
def Z9:m8:=⟨4,47,[.tmp 8,.tmp 9],
 .seq (.b6 [i 5 (.box 7 t1) 0,
 i 8 (.mv (.c (.emp 7))) 0,
 i 9 (.mv (.c (I 0))) 2] false)
 (.seq (.b6 [i 14 (mv t0) 0,
 i 15 (.load true 7 t5) 0,
 i 16 (.O5 1 1 [I 0] [(0,.c (I 6))]) 0,
 i 17 (.call (.f z8) [C7,G9,F9]) 7,
 i 13 (mv F2) 15,
 i 18 (.extract z9 0) 31,
 i 19 (.extract z9 1) 31,
 i 10 (.alloc [.emp 7,I 0,.pv (.bool false),I 0,.pv (.str []),I 0,I 0,I 0]) 0,
 iz (.store 8 u0 I6) 191,
 i 11 (mv M5) 511] false)
 (.seq (.seq (.b6 [i 20 (mv u7) 0,
 i 21 (.bin .eql O6 (.c (I 0))) 1] false)
 (.cond M6
 (.b6 [i 22 (.load true 8 u0) 0,
 i 23 (mv t2) 0,
 i 24 (mv t3) 0,
 i 25 (.J3 Y3) 4,
 i 26 (.call (.f O1) [S3,V7,Y1]) 15,
 i 11 (mv t26) 31] false)
 .skip))
 (.seq (.seq (.b6 [i 27 (mv u7) 0,
 i 28 (.bin .neq t27 (.c (I 0))) 1] false)
 (.cond t28
 (.seq (.b6 [i 29 (mv u7) 0,
 i 8 (.mv (.c (.emp 7))) 0,
 i 9 (mv t29) 3] false)
 .ret)
 .skip))
 (.seq (.b6 [i 30 (.load true 8 u0) 0,
 i 31 (.call (.f o8) [t30]) 1,
 i 12 (.alloc z2) 0,
 iz (.store 7 x5 t31) 7] false)
 (.seq (.b6 [i 32 (.b0 x5 1) 0,
 i 33 (.load false 1 t32) 1,
 i 34 (.s2b t33) 3,
 i 35 (.b0 t5 5) 0,
 i 36 (.load false 1 t35) 8,
 i 37 (mv t2) 0,
 i 38 (.bin .add t36 t37) 56,
 i 39 (mv t3) 0,
 i 40 (.s2b t39) 128,
 i 41 (.call (.f E1) [t34,t38,t40]) 511,
 i 42 (.b2s t41) 1023,
 i 43 (.b0 x5 1) 2047,
 iz (.store 1 t43 t42) 4095] false)
 (.seq (.b6 [i 44 (.load true 8 u0) 0,
 i 45 (.load true 7 x5) 0,
 i 46 (.call (.f y0) [t44,t45]) 3,
 i 8 (mv t46) 7,
 i 9 (.mv (.c (I 0))) 15] false)
 .ret))))))⟩
def a2N:m8:=⟨2,29,[.tmp 4,.tmp 5],
 .seq (.b6 [i 3 (.box 7 t1) 0,
 i 4 (.mv (.c (.pv (.str [])))) 0,
 i 5 (.mv (.c (I 0))) 2] false)
 (.seq (.b6 [i 9 (mv t0) 0,
 i 10 (.load true 7 t3) 0,
 i 11 (.O5 1 1 [I 0] [(0,.c (I 6))]) 0,
 i 12 (.call (.f z8) [t9,u0,u7]) 7,
 i 8 (mv x5) 15,
 i 13 (.extract t8 0) 31,
 i 14 (.extract t8 1) 31,
 i 6 (.alloc [.emp 7,I 0,.pv (.bool false),I 0,.pv (.str []),I 0,I 0,I 0]) 0,
 iz (.store 8 t6 z9) 191,
 i 7 (mv C7) 511] false)
 (.seq (.seq (.b6 [i 15 (mv t7) 0,
 i 16 (.bin .neq G9 (.c (I 0))) 1] false)
 (.cond F9
 (.seq (.b6 [i 17 (mv t7) 0,
 i 4 (.mv (.c (.pv (.str [])))) 0,
 i 5 (mv F2) 3] false)
 .ret)
 .skip))
 (.seq (.b6 [i 18 (.load true 8 t6) 0,
 i 19 (.call (.f o8) [I6]) 1,
 i 20 (.field false 1 1 M5) 3,
 i 21 (.b0 t3 5) 0,
 i 22 (.load false 1 M6) 8,
 i 23 (.b0 t3 5) 0,
 i 24 (.load false 1 V7) 32,
 i 25 (.b0 t3 6) 0,
 i 26 (.load false 1 Y1) 128,
 i 27 (.bin .add Y3 t26) 480,
 i 28 (.a2C O6 (some S3) (some t27)) 1023,
 i 4 (mv t28) 2047,
 i 5 (.mv (.c (I 0))) 4095] true)
 .ret)))⟩
def a5X:m8:=⟨2,34,[.tmp 4,.tmp 5],
 .seq (.b6 [i 3 (.box 7 t1) 0,
 i 4 (.mv (.c (.emp 7))) 0,
 i 5 (.mv (.c (I 0))) 2] false)
 (.seq (.b6 [i 9 (mv t0) 0,
 i 10 (.load true 7 t3) 0,
 i 11 (.O5 1 2 [I 0] [(0,.c (I 7)),(1,.c (I 8))]) 0,
 i 12 (.call (.f z8) [t9,u0,u7]) 7,
 i 8 (mv x5) 15,
 i 13 (.extract t8 0) 31,
 i 14 (.extract t8 1) 31,
 i 6 (.alloc [.emp 7,I 0,.pv (.bool false),I 0,.pv (.str []),I 0,I 0,I 0]) 0,
 iz (.store 8 t6 z9) 191,
 i 7 (mv C7) 511] false)
 (.seq (.seq (.b6 [i 15 (mv t7) 0,
 i 16 (.bin .neq G9 (.c (I 0))) 1] false)
 (.cond F9
 (.seq (.b6 [i 17 (mv t7) 0,
 i 4 (.mv (.c (.emp 7))) 0,
 i 5 (mv F2) 3] false)
 .ret)
 .skip))
 (.seq (.b6 [i 18 (.load true 8 t6) 0,
 i 19 (.call (.f o8) [I6]) 1,
 i 20 (.field false 2 1 M5) 3,
 i 21 (.b0 t3 5) 0,
 i 22 (.load false 1 M6) 8,
 i 23 (.b0 t3 5) 0,
 i 24 (.load false 1 V7) 32,
 i 25 (.b0 t3 6) 0,
 i 26 (.load false 1 Y1) 128,
 i 27 (.bin .add Y3 t26) 480,
 i 28 (.b0 t3 5) 0,
 i 29 (.load false 1 t28) 1024,
 i 30 (.b0 t3 6) 0,
 i 31 (.load false 1 t30) 4096,
 i 32 (.bin .add t29 t31) 15360,
 i 33 (.slice 7 O6 (some S3) (some t27) (some t32)) 32767,
 i 4 (mv t33) 65535,
 i 5 (.mv (.c (I 0))) 131071] true)
 .ret)))⟩
def a5Y:m8:=⟨2,34,[.cell 4 true 7,.tmp 5],
 .seq (.b6 [i 3 (.box 7 t1) 0,
 i 4 (.alloc z0) 0,
 i 5 (.mv (.c (I 0))) 0] false)
 (.seq (.seq (.b6 [i 8 (mv t0) 0,
 i 9 (.load true 7 t3) 0,
 i 10 (.call (.f B5) [t8,t9]) 3,
 i 11 (.not u0) 7] false)
 (.cond u7
 (.seq (.b6 [i 12 (.build z0 []) 0,
 iz (.store 7 t4 x5) 1,
 i 5 (.mv (.c (I 2))) 3] false)
 .ret)
 .skip))
 (.seq (.seq (.b6 [i 13 (.b0 t3 0) 0,
 i 14 (.load false 1 z9) 1,
 i 15 (.bin .neq C7 (.c (I 6))) 3] false)
 (.cond G9
 (.seq (.b6 [i 16 (.load true 7 t3) 0,
 i 17 (.call (.f Q4) [F9]) 1,
 i 18 (.extract F2 0) 3,
 i 19 (.extract F2 1) 3,
 iz (.store 7 t4 I6) 15,
 i 5 (mv M5) 31] false)
 .ret)
 .skip))
 (.seq (.b6 [i 21 (mv t0) 0,
 i 22 (.load true 7 t3) 0,
 i 23 (.call (.f Q2) [M6,S3]) 3,
 i 20 (mv V7) 7,
 i 24 (.extract O6 0) 15,
 i 25 (.extract O6 1) 15,
 i 6 (mv Y3) 31,
 i 7 (mv Y1) 127] false)
 (.seq (.seq (.b6 [i 26 (mv t6) 0,
 i 27 (.J3 t26) 1,
 i 28 (.bin .gtr t27 (.c (I 100))) 3] false)
 (.cond t28
 (.seq (.b6 [i 29 (.build z0 []) 0,
 iz (.store 7 t4 t29) 1,
 i 5 (.mv (.c (I 23))) 3] false)
 .ret)
 .skip))
 (.seq (.b6 [i 30 (mv t6) 0,
 i 31 (.call (.f Z3) [t30,.c (.pv (.bool false))]) 1,
 i 32 (.extract t31 0) 3,
 i 33 (.extract t31 1) 3,
 iz (.store 7 t4 t32) 15,
 i 5 (mv t33) 31] false)
 .ret)))))⟩
def a4f:m8:=⟨3,45,[.cell 6 true 7,.tmp 7,.tmp 8],
 .seq (.b6 [i 4 (.box 7 t1) 0,
 i 5 (.box 7 t2) 0,
 i 6 (.alloc z0) 0,
 i 7 (.mv (.c (.pv (.bool false)))) 0,
 i 8 (.mv (.c (I 0))) 8] false)
 (.seq (.b6 [i 14 (mv t0) 0,
 i 15 (.load true 7 t4) 0,
 i 16 (.O5 1 1 [I 0] [(0,.c (I 9))]) 0,
 i 17 (.call (.f z8) [C7,G9,F9]) 7,
 i 13 (mv F2) 15,
 i 18 (.extract z9 0) 31,
 i 19 (.extract z9 1) 31,
 i 9 (.alloc [.emp 7,I 0,.pv (.bool false),I 0,.pv (.str []),I 0,I 0,I 0]) 0,
 iz (.store 8 t9 I6) 191,
 i 10 (mv M5) 511] false)
 (.seq (.seq (.b6 [i 20 (mv u0) 0,
 i 21 (.bin .neq O6 (.c (I 0))) 1] false)
 (.cond M6
 (.seq (.b6 [i 22 (.build z0 []) 0,
 i 23 (mv u0) 0,
 iz (.store 7 t6 S3) 1,
 i 7 (.mv (.c (.pv (.bool false)))) 5,
 i 8 (mv V7) 15] false)
 .ret)
 .skip))
 (.seq (.b6 [i 24 (.load true 8 t9) 0,
 i 25 (.call (.f o8) [Y3]) 1,
 i 11 (.alloc z2) 0,
 iz (.store 7 u7 Y1) 7] false)
 (.seq (.b6 [i 26 (.b0 u7 3) 0,
 i 27 (.load false 1 t26) 1,
 i 28 (.load true 7 t5) 0,
 i 29 (.call (.f s9) [t27,t28]) 7,
 i 12 (mv t29) 15] false)
 (.seq (.seq (.b6 [i 30 (mv x5) 0,
 i 31 (.bin .lss t30 (.c (I 0))) 1,
 i 32 (mv t31) 3,
 ig 33 (mv x5) 32 false 7,
 ig 34 (.b0 u7 4) 32 false 7,
 ig 35 (.load false 1 t34) 32 false 23,
 ig 36 (.i9 t35) 32 false 55,
 ig 37 (.bin .geq t33 t36) 32 false 127,
 i 38 (.pick t32 (.c (.pv (.bool true))) t37) 255] false)
 (.cond t38
 (.seq (.b6 [i 39 (.build z0 []) 0,
 iz (.store 7 t6 t39) 1,
 i 7 (.mv (.c (.pv (.bool false)))) 3,
 i 8 (.mv (.c (I 0))) 7] false)
 .ret)
 .skip))
 (.seq (.b6 [i 40 (.b0 u7 4) 0,
 i 41 (.load false 1 t40) 1,
 i 42 (mv x5) 0,
 i 43 (.j3 7 t41 t42) 7,
 i 44 (.load true 7 t43) 15,
 iz (.store 7 t6 t44) 31,
 i 7 (.mv (.c (.pv (.bool true)))) 63,
 i 8 (.mv (.c (I 0))) 127] false)
 .ret))))))⟩
def a2O:m8:=⟨4,84,[.tmp 8,.tmp 9],
 .seq (.b6 [i 5 (.box 7 t1) 0,
 i 6 (.box 7 t2) 0,
 i 7 (.box 7 t3) 0,
 i 8 (.mv (.c (.emp 7))) 0,
 i 9 (.mv (.c (I 0))) 8] false)
 (.seq (.b6 [i 15 (mv t0) 0,
 i 16 (.load true 7 t5) 0,
 i 17 (.O5 1 1 [I 0] [(0,.c (I 9))]) 0,
 i 18 (.call (.f z8) [G9,F9,F2]) 7,
 i 14 (mv I6) 15,
 i 19 (.extract C7 0) 31,
 i 20 (.extract C7 1) 31,
 i 10 (.alloc [.emp 7,I 0,.pv (.bool false),I 0,.pv (.str []),I 0,I 0,I 0]) 0,
 iz (.store 8 u0 M5) 191,
 i 11 (mv O6) 511] false)
 (.seq (.seq (.b6 [i 21 (mv u7) 0,
 i 22 (.bin .neq M6 (.c (I 0))) 1] false)
 (.cond S3
 (.seq (.b6 [i 23 (mv u7) 0,
 i 8 (.mv (.c (.emp 7))) 0,
 i 9 (mv V7) 3] false)
 .ret)
 .skip))
 (.seq (.b6 [i 24 (.load true 8 u0) 0,
 i 25 (.call (.f o8) [Y3]) 1,
 i 12 (.alloc z2) 0,
 iz (.store 7 x5 Y1) 7] false)
 (.seq (.seq (.b6 [i 26 (.b0 x5 3) 0,
 i 27 (.load false 1 t26) 1,
 i 28 (.load true 7 t6) 0,
 i 29 (.call (.f s9) [t27,t28]) 7,
 i 13 (mv t29) 15] false)
 (.seq (.b6 [i 30 (mv z9) 0,
 i 31 (.bin .geq t30 (.c (I 0))) 1,
 i 32 (mv t31) 3,
 ig 33 (mv z9) 32 true 7,
 ig 34 (.b0 x5 4) 32 true 7,
 ig 35 (.load false 1 t34) 32 true 23,
 ig 36 (.i9 t35) 32 true 55,
 ig 37 (.bin .lss t33 t36) 32 true 127,
 i 38 (.pick t32 t37 (.c (.pv (.bool false)))) 255] false)
 (.cond t38
 (.seq (.b6 [i 39 (.b0 x5 4) 0,
 i 40 (.load false 1 t39) 1,
 i 41 (mv z9) 0,
 i 42 (.load true 7 t7) 0,
 i 43 (.O5 7 1 z0 [(0,t42)]) 8,
 i 44 (.call (.f F4) [t40,t41,t43]) 31,
 i 45 (.b0 x5 4) 63,
 iz (.store 1 t45 t44) 127] false)
 (.seq (.b6 [i 46 (.load true 8 u0) 0,
 i 47 (.load true 7 x5) 0,
 i 48 (.call (.f y0) [t46,t47]) 3,
 i 8 (mv t48) 7,
 i 9 (.mv (.c (I 0))) 15] false)
 .ret))
 .skip)))
 (.seq (.seq (.b6 [i 49 (.b0 x5 3) 0,
 i 50 (.load false 1 t49) 1,
 i 51 (.i9 t50) 3,
 i 52 (.b0 x5 5) 0,
 i 53 (.load false 1 t52) 8,
 i 54 (.bin .geq t51 t53) 31] false)
 (.cond t54
 (.seq (.b6 [i 8 (.mv (.c (.emp 7))) 0,
 i 9 (.mv (.c (I 30))) 1] false)
 .ret)
 .skip))
 (.seq (.b6 [i 55 (.b0 x5 3) 0,
 i 56 (.load false 1 t55) 1,
 i 57 (.b0 x5 3) 0,
 i 58 (.load false 1 t57) 4,
 i 59 (.i9 t58) 12,
 i 60 (.b0 x5 3) 0,
 i 61 (.load false 1 t60) 32,
 i 62 (.i9 t61) 96,
 i 63 (.slice 7 t56 none (some t59) (some t62)) 255,
 i 64 (.load true 7 t6) 0,
 i 65 (.O5 7 1 z0 [(0,t64)]) 512,
 i 66 (.append 7 64 t63 t65) 2047,
 i 67 (.b0 x5 3) 4095,
 iz (.store 1 t67 t66) 8191] true)
 (.seq (.b6 [i 68 (.b0 x5 4) 0,
 i 69 (.load false 1 t68) 1,
 i 70 (.b0 x5 4) 0,
 i 71 (.load false 1 t70) 4,
 i 72 (.i9 t71) 12,
 i 73 (.b0 x5 4) 0,
 i 74 (.load false 1 t73) 32,
 i 75 (.i9 t74) 96,
 i 76 (.slice 7 t69 none (some t72) (some t75)) 255,
 i 77 (.load true 7 t7) 0,
 i 78 (.O5 7 1 z0 [(0,t77)]) 512,
 i 79 (.append 7 64 t76 t78) 2047,
 i 80 (.b0 x5 4) 4095,
 iz (.store 1 t80 t79) 8191] true)
 (.seq (.b6 [i 81 (.load true 8 u0) 0,
 i 82 (.load true 7 x5) 0,
 i 83 (.call (.f y0) [t81,t82]) 3,
 i 8 (mv t83) 7,
 i 9 (.mv (.c (I 0))) 15] false)
 .ret))))))))⟩
def a4D:m8:=⟨3,57,[.tmp 6,.tmp 7],
 .seq (.b6 [i 4 (.box 7 t1) 0,
 i 5 (.box 7 t2) 0,
 i 6 (.mv (.c (.emp 7))) 0,
 i 7 (.mv (.c (I 0))) 4] false)
 (.seq (.b6 [i 13 (mv t0) 0,
 i 14 (.load true 7 t4) 0,
 i 15 (.O5 1 1 [I 0] [(0,.c (I 9))]) 0,
 i 16 (.call (.f z8) [z9,C7,G9]) 7,
 i 12 (mv F9) 15,
 i 17 (.extract x5 0) 31,
 i 18 (.extract x5 1) 31,
 i 8 (.alloc [.emp 7,I 0,.pv (.bool false),I 0,.pv (.str []),I 0,I 0,I 0]) 0,
 iz (.store 8 t8 F2) 191,
 i 9 (mv I6) 511] false)
 (.seq (.seq (.b6 [i 19 (mv t9) 0,
 i 20 (.bin .neq M5 (.c (I 0))) 1] false)
 (.cond O6
 (.seq (.b6 [i 21 (mv t9) 0,
 i 6 (.mv (.c (.emp 7))) 0,
 i 7 (mv M6) 3] false)
 .ret)
 .skip))
 (.seq (.b6 [i 22 (.load true 8 t8) 0,
 i 23 (.call (.f o8) [S3]) 1,
 i 10 (.alloc z2) 0,
 iz (.store 7 u0 V7) 7] false)
 (.seq (.b6 [i 24 (.b0 u0 3) 0,
 i 25 (.load false 1 Y3) 1,
 i 26 (.load true 7 t5) 0,
 i 27 (.call (.f s9) [Y1,t26]) 7,
 i 11 (mv t27) 15] false)
 (.seq (.seq (.b6 [i 28 (mv u7) 0,
 i 29 (.bin .lss t28 (.c (I 0))) 1,
 i 30 (mv t29) 3,
 ig 31 (mv u7) 30 false 7,
 ig 32 (.b0 u0 4) 30 false 7,
 ig 33 (.load false 1 t32) 30 false 23,
 ig 34 (.i9 t33) 30 false 55,
 ig 35 (.bin .geq t31 t34) 30 false 127,
 i 36 (.pick t30 (.c (.pv (.bool true))) t35) 255] false)
 (.cond t36
 (.seq (.b6 [i 37 (mv t0) 0,
 i 6 (mv t37) 1,
 i 7 (.mv (.c (I 0))) 3] false)
 .ret)
 .skip))
 (.seq (.b6 [i 38 (.b0 u0 3) 0,
 i 39 (.load false 1 t38) 1,
 i 40 (.call (.f s8) [t39]) 3,
 i 41 (mv u7) 0,
 i 42 (mv u7) 0,
 i 43 (.bin .add t42 (.c (I 1))) 16,
 i 44 (.call (.f F7) [t40,t41,t43]) 63,
 i 45 (.b0 u0 4) 0,
 i 46 (.load false 1 t45) 128,
 i 47 (.call (.f s8) [t46]) 511,
 i 48 (mv u7) 0,
 i 49 (mv u7) 0,
 i 50 (.bin .add t49 (.c (I 1))) 2048,
 i 51 (.call (.f F7) [t47,t48,t50]) 8191,
 i 52 (.b0 u0 3) 511,
 iz (.store 1 t52 t44) 32767,
 i 53 (.b0 u0 4) 65535,
 iz (.store 1 t53 t51) 131071] true)
 (.seq (.b6 [i 54 (.load true 8 t8) 0,
 i 55 (.load true 7 u0) 0,
 i 56 (.call (.f y0) [t54,t55]) 3,
 i 6 (mv t56) 7,
 i 7 (.mv (.c (I 0))) 15] false)
 .ret)))))))⟩
def a8n:m8:=⟨2,42,[.cell 4 true 67,.tmp 5],
 .seq (.b6 [i 2 (.box 67 t0) 0,
 i 4 (.alloc z1) 0,
 i 5 (.mv (.c (.pv (.bool false)))) 0] false)
 (.seq (.seq (.b6 [i 10 (mv t1) 0,
 i 11 (.call (.f a4t) [u0]) 1,
 i 12 (.i9 u7) 3,
 i 13 (.mv (.c (I 0))) 0] false)
 (.block 0
 (.loop [2,4,11,12,13]
 (.seq (.b6 [i 14 (.bin .lss z9 x5) 0] false)
 (.seq (.cond C7
 .skip
 (.exit 0))
 (.seq (.block 1
 (.seq (.b6 [i 15 (.j3 6 u7 z9) 0,
 i 16 (.load true 6 G9) 1,
 i 7 (.alloc [.pv (.int .u8 (0)),.pv (.int .u8 (0)),.pv (.int .u8 (0)),.pv (.int .u8 (0)),.pv (.int .i32 (0)),.pv (.str [])]) 0,
 iz (.store 6 t7 F9) 7] false)
 (.seq (.seq (.b6 [i 17 (.load true 6 t7) 0,
 i 18 (.call (.f p7) [F2]) 1,
 i 19 (.bin .eql I6 (.c (.pv (.str [])))) 3] false)
 (.cond M5
 (.seq (.b6 [i 20 (.load true 6 t7) 0,
 i 21 (.load true 67 t2) 0,
 i 22 (.call (.f i7) [O6,M6]) 3,
 iz (.store 67 t2 S3) 7] false)
 (.exit 1))
 .skip))
 (.seq (.b6 [i 24 (.load true 67 t2) 0,
 i 25 (.load true 6 t7) 0,
 i 26 (.call (.f p7) [Y1]) 2,
 i 27 (.call (.f A5) [Y3,t26]) 7,
 i 23 (mv t27) 15,
 i 28 (.extract V7 0) 31,
 i 29 (.extract V7 1) 31,
 i 8 (.alloc z1) 0,
 iz (.store 67 t8 t28) 191,
 i 9 (mv t29) 511] true)
 (.seq (.seq (.b6 [i 30 (mv t9) 0,
 i 31 (.bin .neq t30 (.c (I 0))) 1,
 i 32 (mv t31) 3,
 ig 33 (.load true 67 t8) 32 true 7,
 ig 34 (.load true 67 t2) 32 true 7,
 ig 35 (.call (.f n9) [t33,t34]) 32 true 31,
 ig 36 (.not t35) 32 true 63,
 i 37 (.pick t32 t36 (.c (.pv (.bool false)))) 127] false)
 (.cond t37
 (.seq (.b6 [i 38 (.load true 67 t2) 0,
 iz (.store 67 t4 t38) 1,
 i 5 (.mv (.c (.pv (.bool false)))) 3] false)
 .ret)
 .skip))
 (.b6 [i 39 (.load true 67 t8) 0,
 iz (.store 67 t2 t39) 1] false))))))
 (.b6 [i 40 (.bin .add z9 (.c (I 1))) 0,
 i 13 (mv t40) 1] false)))))))
 (.seq (.b6 [i 41 (.load true 67 t2) 0,
 iz (.store 67 t4 t41) 1,
 i 5 (.mv (.c (.pv (.bool true)))) 3] false)
 .ret))⟩
def U7:m8:=⟨2,9,[.tmp 4],
 .seq (.b6 [i 4 (.mv (.c (.pv (.bool false)))) 0] false)
 (.seq (.b6 [i 5 (mv t0) 0,
 i 6 (mv t1) 0,
 i 7 (.call (.f E9) [t5,t6]) 3,
 i 8 (.bin .geq t7 (.c (I 0))) 7,
 i 4 (mv t8) 15] false)
 .ret)⟩
def a3A:m8:=⟨2,9,[.tmp 3],
 .seq (.b6 [i 2 (.box 3 t0) 0,
 i 3 (.mv (.c (.pv (.bool false)))) 0] false)
 (.seq (.b6 [i 4 (.b0 t2 0) 0,
 i 5 (.load false 1 t4) 1,
 i 6 (.b0 t1 2) 0,
 i 7 (.load false 1 t6) 4,
 i 8 (.bin .eql t5 t7) 15,
 i 3 (mv t8) 31] false)
 .ret)⟩
def a1R:m8:=⟨2,90,[.tmp 4],
 .seq (.b6 [i 2 (.box 57 t0) 0,
 i 3 (.box 57 t1) 0,
 i 4 (.mv (.c (.pv (.bool false)))) 0] false)
 (.seq (.b6 [i 5 (.b0 t2 0) 0,
 i 6 (.load true 6 t5) 1,
 i 7 (.b0 t3 0) 0,
 i 8 (.load true 6 t7) 4,
 i 9 (.eqs false [0,0,0,0,0,0] t6 t8) 15,
 i 10 (mv t9) 31,
 ig 11 (.b0 t2 6) 10 true 63,
 ig 12 (.load false 1 u7) 10 true 127,
 ig 13 (.i9 x5) 10 true 255,
 ig 14 (.b0 t3 6) 10 true 63,
 ig 15 (.load false 1 C7) 10 true 575,
 ig 16 (.i9 G9) 10 true 1599,
 ig 17 (.bin .eql z9 F9) 10 true 4095,
 i 18 (.pick u0 F2 (.c (.pv (.bool false)))) 8191,
 i 19 (mv I6) 16383,
 ig 20 (.b0 t2 7) 19 true 32767,
 ig 21 (.b0 O6 0) 19 true 65535,
 ig 22 (.load false 1 M6) 19 true 131071,
 ig 23 (.b0 t3 7) 19 true 32767,
 ig 24 (.b0 V7 0) 19 true 294911,
 ig 25 (.load false 1 Y3) 19 true 819199,
 ig 26 (.bin .eql S3 Y1) 19 true 2097151,
 i 27 (.pick M5 t26 (.c (.pv (.bool false)))) 4194303,
 i 28 (mv t27) 8388607,
 ig 29 (.b0 t2 7) 28 true 16777215,
 ig 30 (.b0 t29 1) 28 true 33554431,
 ig 31 (.load true 4 t30) 28 true 67108863,
 ig 32 (.b0 t3 7) 28 true 16777215,
 ig 33 (.b0 t32 1) 28 true 150994943,
 ig 34 (.load true 4 t33) 28 true 419430399,
 ig 35 (.eqs false [0,0,0,0] t31 t34) 28 true 1073741823,
 i 36 (.pick t28 t35 (.c (.pv (.bool false)))) 2147483647,
 i 37 (mv t36) 4294967295,
 ig 38 (.b0 t2 34) 37 true 8589934591,
 ig 39 (.b0 t38 0) 37 true 17179869183,
 ig 40 (.load false 1 t39) 37 true 34359738367,
 ig 41 (.b0 t3 34) 37 true 8589934591,
 ig 42 (.b0 t41 0) 37 true 77309411327,
 ig 43 (.load false 1 t42) 37 true 214748364799,
 ig 44 (.bin .eql t40 t43) 37 true 549755813887,
 i 45 (.pick t37 t44 (.c (.pv (.bool false)))) 1099511627775,
 i 46 (mv t45) 2199023255551,
 ig 47 (.b0 t2 40) 46 true 4398046511103,
 ig 48 (.load false 1 t47) 46 true 8796093022207,
 ig 49 (.b0 t3 40) 46 true 4398046511103,
 ig 50 (.load false 1 t49) 46 true 21990232555519,
 ig 51 (.bin .eql t48 t50) 46 true 70368744177663,
 i 52 (.pick t46 t51 (.c (.pv (.bool false)))) 140737488355327,
 i 53 (mv t52) 281474976710655,
 ig 54 (.b0 t2 41) 53 true 562949953421311,
 ig 55 (.load false 1 t54) 53 true 1125899906842623,
 ig 56 (.i9 t55) 53 true 2251799813685247,
 ig 57 (.b0 t3 41) 53 true 562949953421311,
 ig 58 (.load false 1 t57) 53 true 5066549580791807,
 ig 59 (.i9 t58) 53 true 14073748835532799,
 ig 60 (.bin .eql t56 t59) 53 true 36028797018963967,
 i 61 (.pick t53 t60 (.c (.pv (.bool false)))) 72057594037927935,
 i 62 (mv t61) 144115188075855871,
 ig 63 (.b0 t2 42) 62 true 288230376151711743,
 ig 64 (.load true 7 t63) 62 true 576460752303423487,
 ig 65 (.b0 t3 42) 62 true 288230376151711743,
 ig 66 (.load true 7 t65) 62 true 1441151880758558719,
 ig 67 (.eqs false [0,1,0,2,0,0,0] t64 t66) 62 true 4611686018427387903,
 i 68 (.pick t62 t67 (.c (.pv (.bool false)))) 9223372036854775807,
 i 69 (mv t68) 18446744073709551615,
 ig 70 (.b0 t2 49) 69 true 36893488147419103231,
 ig 71 (.load true 6 t70) 69 true 73786976294838206463,
 ig 72 (.b0 t3 49) 69 true 36893488147419103231,
 ig 73 (.load true 6 t72) 69 true 184467440737095516159,
 ig 74 (.eqs false [0,0,0,0,0,0] t71 t73) 69 true 590295810358705651711,
 i 75 (.pick t69 t74 (.c (.pv (.bool false)))) 1180591620717411303423,
 i 76 (mv t75) 2361183241434822606847,
 ig 77 (.b0 t2 55) 76 true 4722366482869645213695,
 ig 78 (.load false 1 t77) 76 true 9444732965739290427391,
 ig 79 (.b0 t3 55) 76 true 4722366482869645213695,
 ig 80 (.load false 1 t79) 76 true 23611832414348226068479,
 ig 81 (.bin .eql t78 t80) 76 true 75557863725914323419135,
 i 82 (.pick t76 t81 (.c (.pv (.bool false)))) 151115727451828646838271,
 i 83 (mv t82) 302231454903657293676543,
 ig 84 (.b0 t2 56) 83 true 604462909807314587353087,
 ig 85 (.load false 1 t84) 83 true 1208925819614629174706175,
 ig 86 (.b0 t3 56) 83 true 604462909807314587353087,
 ig 87 (.load false 1 t86) 83 true 3022314549036572936765439,
 ig 88 (.bin .eql t85 t87) 83 true 9671406556917033397649407,
 i 89 (.pick t83 t88 (.c (.pv (.bool false)))) 19342813113834066795298815,
 i 4 (mv t89) 38685626227668133590597631] false)
 .ret)⟩
def H2:m8:=⟨1,8,[.tmp 2],
 .seq (.b6 [i 2 (.mv (.c (.emp 7))) 0] false)
 (.seq (.seq (.b6 [i 3 (mv t0) 0,
 i 4 (.a9T false t3) 1] false)
 (.cond t4
 (.seq (.b6 [i 2 (.mv (.c (.emp 7))) 0] false)
 .ret)
 .skip))
 (.seq (.b6 [i 5 (.O5 7 0 z0 []) 0,
 i 6 (mv t0) 0,
 i 7 (.append 7 64 t5 t6) 3,
 i 2 (mv t7) 7] false)
 .ret))⟩
def P4:m8:=⟨2,26,[.tmp 4],
 .seq (.b6 [i 4 (.mv (.c (.pv (.bool false)))) 0] false)
 (.seq (.seq (.b6 [i 6 (mv t0) 0,
 i 7 (.i9 t6) 1,
 i 8 (mv t1) 0,
 i 9 (.i9 t8) 4,
 i 10 (.bin .neq t7 t9) 15] false)
 (.cond u0
 (.seq (.b6 [i 4 (.mv (.c (.pv (.bool false)))) 0] false)
 .ret)
 .skip))
 (.seq (.seq (.b6 [i 11 (mv t0) 0,
 i 12 (.i9 u7) 1,
 i 13 (.mv (.c (I 0))) 0] false)
 (.block 0
 (.loop [0,1,12,13]
 (.seq (.b6 [i 14 (.bin .lss z9 x5) 0] false)
 (.seq (.cond C7
 .skip
 (.exit 0))
 (.seq (.block 1
 (.seq (.b6 [i 15 (mv z9) 0,
 i 5 (mv G9) 1] false)
 (.seq (.b6 [i 16 (mv t0) 0,
 i 17 (mv t5) 0,
 i 18 (.j3 7 F9 F2) 3,
 i 19 (.load true 7 I6) 7,
 i 20 (mv t1) 0,
 i 21 (mv t5) 0,
 i 22 (.j3 7 O6 M6) 48,
 i 23 (.load true 7 S3) 112,
 i 24 (.eqs true [0,1,0,2,0,0,0] M5 V7) 255] true)
 (.cond Y3
 (.seq (.b6 [i 4 (.mv (.c (.pv (.bool false)))) 0] false)
 .ret)
 .skip))))
 (.b6 [i 25 (.bin .add z9 (.c (I 1))) 0,
 i 13 (mv Y1) 1] false)))))))
 (.seq (.b6 [i 4 (.mv (.c (.pv (.bool true)))) 0] false)
 .ret)))⟩
def a8s:m8:=⟨0,2,[.tmp 0],
 .seq (.b6 [i 0 (.mv (.c (.emp 1))) 0] false)
 (.seq (.b6 [i 1 (.O5 1 3 [.pv (.str [])] [(0,.c (.pv (.str [115,97,118,101]))),(1,.c (.pv (.str [114,101,115,116,111,114,101]))),(2,.c (.pv (.str [118,109,115,116,97,116,117,115])))]) 0,
 i 0 (mv t1) 1] false)
 .ret)⟩
def X6:m8:=⟨1,63,[.cell 2 true 67],
 .seq (.b6 [i 1 (.box 3 t0) 0,
 i 2 (.alloc z1) 0] false)
 (.seq (.b6 [i 6 (.load true 3 t1) 0,
 i 7 (.call (.f H9) [t6]) 1,
 i 8 (.build z0 [(0,1,.c (I 9))]) 0,
 i 9 (.build z0 [(0,1,.c (I 9)),(4,1,.c (I 1))]) 0,
 i 10 (.O5 7 2 z0 [(0,t8),(1,t9)]) 12,
 i 11 (.build z1 [(2,1,t7),(1,1,u0),(66,1,.c (I 1))]) 31,
 i 3 (.alloc z1) 0,
 iz (.store 67 t3 u7) 127] false)
 (.seq (.seq (.b6 [i 4 (.mv (.c (I 0))) 0] false)
 (.block 0
 (.loop [1,2,3,4]
 (.seq (.seq (.b6 [i 12 (mv t4) 0,
 i 13 (.b0 t1 1) 0,
 i 14 (.load false 1 z9) 2,
 i 15 (.i9 C7) 6,
 i 16 (.bin .lss x5 G9) 15,
 i 17 (mv F9) 31,
 ig 18 (mv t4) 17 true 63,
 ig 19 (.bin .lss I6 (.c (I 20))) 17 true 127,
 i 20 (.pick F2 M5 (.c (.pv (.bool false)))) 255] false)
 (.cond O6
 .skip
 (.exit 0)))
 (.seq (.block 1
 (.b6 [i 23 (.b0 t3 0) 0,
 i 24 (.load false 1 V7) 1,
 i 25 (.b0 t1 1) 0,
 i 26 (.load false 1 Y1) 4,
 i 27 (mv t4) 0,
 i 28 (.j3 5 t26 t27) 28,
 i 29 (.load true 5 t28) 60,
 i 30 (.b0 t3 2) 0,
 i 31 (.load false 1 t30) 128,
 i 32 (.call (.f e8) [t29,t31]) 508,
 i 33 (.O5 7 1 z0 [(0,t32)]) 1020,
 i 34 (.append 7 64 Y3 t33) 2047,
 i 35 (.b0 t3 0) 4095,
 iz (.store 1 t35 t34) 8191] true))
 (.b6 [i 21 (mv t4) 0,
 i 22 (.bin .add M6 (.c (I 1))) 1,
 i 4 (mv S3) 3] false))))))
 (.seq (.seq (.b6 [i 5 (.mv (.c (I 0))) 0] false)
 (.block 2
 (.loop [1,2,3,5]
 (.seq (.seq (.b6 [i 36 (mv t5) 0,
 i 37 (.b0 t1 2) 0,
 i 38 (.load false 1 t37) 2,
 i 39 (.i9 t38) 6,
 i 40 (.bin .lss t36 t39) 15,
 i 41 (mv t40) 31,
 ig 42 (mv t5) 41 true 63,
 ig 43 (.bin .lss t42 (.c (I 4))) 41 true 127,
 i 44 (.pick t41 t43 (.c (.pv (.bool false)))) 255] false)
 (.cond t44
 .skip
 (.exit 2)))
 (.seq (.block 3
 (.b6 [i 47 (.b0 t3 1) 0,
 i 48 (.load false 1 t47) 1,
 i 49 (.b0 t3 2) 0,
 i 50 (.load false 1 t49) 4,
 i 51 (.b0 t1 2) 0,
 i 52 (.load false 1 t51) 16,
 i 53 (mv t5) 0,
 i 54 (.j3 1 t52 t53) 112,
 i 55 (.load false 1 t54) 240,
 i 56 (.conv .i64 t55) 496,
 i 57 (.call (.f L4) [t50,.c (I 3),t56]) 1020,
 i 58 (.build z0 [(0,1,.c (I 9)),(4,1,t57)]) 2044,
 i 59 (.O5 7 1 z0 [(0,t58)]) 4092,
 i 60 (.append 7 64 t48 t59) 8191,
 i 61 (.b0 t3 1) 16383,
 iz (.store 1 t61 t60) 32767] true))
 (.b6 [i 45 (mv t5) 0,
 i 46 (.bin .add t45 (.c (I 1))) 1,
 i 5 (mv t46) 3] false))))))
 (.seq (.b6 [i 62 (.load true 67 t3) 0,
 iz (.store 67 t2 t62) 1] false)
 .ret))))⟩
def H0:m8:=⟨0,2,[.tmp 0],
 .seq (.b6 [i 0 (.mv (.c (.emp 1))) 0] false)
 (.seq (.b6 [i 1 (.O5 1 5 [.pv (.str [])] [(0,.c (.pv (.str [70,111,110,116]))),(1,.c (.pv (.str [80,97,116,116,101,114,110]))),(2,.c (.pv (.str [69,110,99,111,100,105,110,103]))),(3,.c (.pv (.str [70,111,114,109]))),(4,.c (.pv (.str [71,101,110,101,114,105,99])))]) 0,
 i 0 (mv t1) 1] false)
 .ret)⟩
def a2Q:m8:=⟨2,8,[.cell 4 true 67],
 .seq (.b6 [i 2 (.box 67 t0) 0,
 i 4 (.alloc z1) 0] false)
 (.seq (.b6 [i 5 (mv t1) 0,
 i 6 (.b0 t2 0) 1,
 iz (.store 1 t6 t5) 3] false)
 (.seq (.b6 [i 7 (.load true 67 t2) 0,
 iz (.store 67 t4 t7) 1] false)
 .ret))⟩
def a6b:m8:=⟨1,5,[.cell 2 true 7],
 .seq (.b6 [i 2 (.alloc z0) 0] false)
 (.seq (.b6 [i 3 (mv t0) 0,
 i 4 (.build z0 [(0,1,.c (I 5)),(3,1,t3)]) 1,
 iz (.store 7 t2 t4) 3] false)
 .ret)⟩
def a2A:m8:=⟨3,30,[.cell 6 true 7,.tmp 7],
 .seq (.b6 [i 3 (.box 67 t0) 0,
 i 5 (.box 7 t2) 0,
 i 6 (.alloc z0) 0,
 i 7 (.mv (.c (I 0))) 0] false)
 (.seq (.b6 [i 11 (.load true 67 t3) 0,
 i 12 (.build z1 [(0,67,u7)]) 1,
 i 8 (.alloc z1) 0,
 iz (.store 67 t8 x5) 7] false)
 (.seq (.b6 [i 14 (.load true 67 t8) 0,
 i 15 (mv t1) 0,
 i 16 (.build z0 [(0,1,.c (I 5)),(3,1,G9)]) 2,
 i 17 (.call (.f q8) [C7,F9]) 7,
 i 13 (mv F2) 15,
 i 18 (.extract z9 0) 31,
 i 19 (.extract z9 1) 31,
 i 9 (.alloc z0) 0,
 iz (.store 7 t9 I6) 191,
 i 10 (mv M5) 511] false)
 (.seq (.seq (.b6 [i 20 (mv u0) 0,
 i 21 (.bin .neq O6 (.c (I 0))) 1] false)
 (.cond M6
 (.seq (.b6 [i 22 (.build z0 []) 0,
 i 23 (mv u0) 0,
 iz (.store 7 t6 S3) 1,
 i 7 (mv V7) 7] false)
 .ret)
 .skip))
 (.seq (.b6 [i 24 (.load true 67 t8) 0,
 i 25 (.load true 7 t9) 0,
 i 26 (.load true 7 t5) 0,
 i 27 (.call (.f w6) [Y3,Y1,t26]) 7,
 i 28 (.extract t27 0) 15,
 i 29 (.extract t27 1) 15,
 iz (.store 7 t6 t28) 63,
 i 7 (mv t29) 127] false)
 .ret))))⟩
def a8N:m8:=⟨3,23,[.tmp 6],
 .seq (.b6 [i 3 (.box 67 t0) 0,
 i 6 (.mv (.c (.pv (.bool false)))) 0] false)
 (.seq (.b6 [i 10 (.load true 67 t3) 0,
 i 11 (mv t1) 0,
 i 12 (.call (.f S0) [u0,u7]) 3,
 i 9 (mv x5) 7,
 i 13 (.extract t9 0) 15,
 i 14 (.extract t9 1) 15,
 i 7 (.alloc z1) 0,
 iz (.store 67 t7 z9) 95,
 i 8 (mv C7) 255] false)
 (.seq (.b6 [i 15 (mv t8) 0,
 i 16 (.bin .eql G9 (.c (I 0))) 1,
 i 17 (mv F9) 3,
 ig 18 (.b0 t7 0) 17 true 7,
 ig 19 (.load false 1 I6) 17 true 15,
 ig 20 (mv t2) 17 true 7,
 ig 21 (.call (.f A2) [M5,O6]) 17 true 63,
 i 22 (.pick F2 M6 (.c (.pv (.bool false)))) 127,
 i 6 (mv S3) 255] false)
 .ret))⟩
def a4H:m8:=⟨1,6,[.cell 2 true 7],
 .seq (.b6 [i 2 (.alloc z0) 0] false)
 (.seq (.seq (.b6 [i 3 (mv t0) 0] false)
 (.cond t3
 (.seq (.b6 [i 4 (.build z0 [(0,1,.c (I 2)),(2,1,.c (I 1))]) 0,
 iz (.store 7 t2 t4) 1] false)
 .ret)
 .skip))
 (.seq (.b6 [i 5 (.build z0 [(0,1,.c (I 2))]) 0,
 iz (.store 7 t2 t5) 1] false)
 .ret))⟩
def a1P:m8:=⟨0,10,[.cell 0 true 67],
 .seq (.b6 [i 0 (.alloc z1) 0] false)
 (.seq (.b6 [i 1 (.call (.f u4) [.c (.emp 1)]) 0,
 i 2 (.build z2 [(0,1,.c (I 1)),(1,1,.c (.pv (.str [97,98,99])))]) 0,
 i 3 (.O5 7 1 z2 [(0,t2)]) 2,
 i 4 (.append 7 112 t1 t3) 7,
 i 5 (.build z0 [(0,1,.c (I 9))]) 0,
 i 6 (.build z0 [(0,1,.c (I 9)),(4,1,.c (I 1))]) 0,
 i 7 (.O5 7 2 z0 [(0,t5),(1,t6)]) 48,
 i 8 (.build z4 [(40,1,.c (I 1))]) 0,
 i 9 (.build z1 [(2,1,t4),(1,1,t7),(5,57,t8)]) 255,
 iz (.store 67 t0 t9) 511] false)
 .ret)⟩
def a6e:m8:=⟨2,17,[.tmp 4],
 .seq (.b6 [i 2 (.box 7 t0) 0,
 i 4 (.mv (.c (.pv (.bool false)))) 0] false)
 (.seq (.seq (.b6 [i 5 (.b0 t2 0) 0,
 i 6 (.load false 1 t5) 1] false)
 (.block 0
 (.seq (.seq (.b6 [i 8 (.bin .eql t6 (.c (I 6))) 0,
 i 7 (mv t8) 1] false)
 (.cond t7
 .skip
 (.seq (.b6 [i 9 (.bin .eql t6 (.c (I 7))) 0,
 i 7 (mv t9) 1] false)
 (.cond t7
 .skip
 (.seq (.b6 [i 10 (.bin .eql t6 (.c (I 8))) 0,
 i 7 (mv u0) 1] false)
 (.cond t7
 .skip
 (.seq (.b6 [i 11 (.bin .eql t6 (.c (I 9))) 0,
 i 7 (mv u7) 1] false)
 (.cond t7
 .skip
 (.b6 [i 12 (.bin .eql t6 (.c (I 11))) 0,
 i 7 (mv x5) 1] false)))))))))
 (.cond t7
 (.seq (.b6 [i 13 (.b0 t2 4) 0,
 i 14 (.load false 1 z9) 1,
 i 15 (mv t1) 0,
 i 16 (.bin .geq C7 G9) 7,
 i 4 (mv F9) 15] false)
 .ret)
 .skip))))
 (.seq (.b6 [i 4 (.mv (.c (.pv (.bool false)))) 0] false)
 .ret))⟩
def a6F:m8:=⟨3,34,[.cell 6 true 67,.tmp 7],
 .seq (.b6 [i 3 (.box 67 t0) 0,
 i 6 (.alloc z1) 0,
 i 7 (.mv (.c (I 0))) 0] false)
 (.seq (.seq (.b6 [i 9 (.b0 t3 0) 0,
 i 10 (.load false 1 t9) 1,
 i 11 (.i9 u0) 3,
 i 12 (mv t1) 0,
 i 13 (.bin .sub u7 x5) 15,
 i 14 (mv t2) 0,
 i 15 (.i9 C7) 32,
 i 16 (.bin .add z9 G9) 127,
 i 17 (.bin .gtr F9 (.c (I 100))) 255] false)
 (.cond F2
 (.seq (.b6 [i 18 (.load true 67 t3) 0,
 iz (.store 67 t6 I6) 1,
 i 7 (.mv (.c (I 21))) 3] false)
 .ret)
 .skip))
 (.seq (.b6 [i 8 (.mv (.c (.emp 7))) 0] false)
 (.seq (.b6 [i 19 (mv t8) 0,
 i 20 (.b0 t3 0) 0,
 i 21 (.load false 1 O6) 2,
 i 22 (.b0 t3 0) 0,
 i 23 (.load false 1 S3) 8,
 i 24 (.i9 V7) 24,
 i 25 (mv t1) 0,
 i 26 (.bin .sub Y3 Y1) 120,
 i 27 (.slice 7 M6 none (some t26) none) 254,
 i 28 (.append 7 64 M5 t27) 511,
 i 8 (mv t28) 1023] false)
 (.seq (.b6 [i 29 (mv t8) 0,
 i 30 (mv t2) 0,
 i 31 (.append 7 64 t29 t30) 3,
 i 32 (.b0 t3 0) 7,
 iz (.store 1 t32 t31) 15] false)
 (.seq (.b6 [i 33 (.load true 67 t3) 0,
 iz (.store 67 t6 t33) 1,
 i 7 (.mv (.c (I 0))) 3] false)
 .ret)))))⟩
def a8v:m8:=⟨2,18,[.tmp 4],
 .seq (.b6 [i 4 (.mv (.c (.pv (.bool false)))) 0] false)
 (.seq (.seq (.b6 [i 5 (.mv (.c (I 0))) 0] false)
 (.block 0
 (.loop [0,1,5]
 (.seq (.seq (.b6 [i 6 (mv t5) 0,
 i 7 (mv t0) 0,
 i 8 (.i9 t7) 2,
 i 9 (.bin .lss t6 t8) 7] false)
 (.cond t9
 .skip
 (.exit 0)))
 (.seq (.block 1
 (.seq (.b6 [i 12 (mv t0) 0,
 i 13 (mv t5) 0,
 i 14 (.j3 7 x5 z9) 3,
 i 15 (.load true 7 C7) 7,
 i 16 (mv t1) 0,
 i 17 (.call (.f a2b) [G9,F9]) 31] false)
 (.cond F2
 (.seq (.b6 [i 4 (.mv (.c (.pv (.bool true)))) 0] false)
 .ret)
 .skip)))
 (.b6 [i 10 (mv t5) 0,
 i 11 (.bin .add u0 (.c (I 1))) 1,
 i 5 (mv u7) 3] false))))))
 (.seq (.b6 [i 4 (.mv (.c (.pv (.bool false)))) 0] false)
 .ret))⟩
def b1B:m8:=⟨1,5,[.cell 2 true 7],
 .seq (.b6 [i 2 (.alloc z0) 0] false)
 (.seq (.b6 [i 3 (mv t0) 0,
 i 4 (.build z0 [(0,1,.c (I 3)),(2,1,t3)]) 1,
 iz (.store 7 t2 t4) 3] false)
 .ret)⟩
def a5k:m8:=⟨4,40,[.tmp 8],
 .seq (.b6 [i 5 (.box 7 t1) 0,
 i 8 (.mv (.c (.emp 7))) 0] false)
 (.seq (.b6 [i 11 (mv t0) 0,
 i 12 (.b0 t5 4) 0,
 i 13 (.load false 1 x5) 2,
 i 14 (.j3 7 u7 z9) 7,
 i 15 (.load true 7 C7) 15,
 i 9 (.alloc z2) 0,
 iz (.store 7 t9 G9) 63] false)
 (.seq (.b6 [i 16 (.b0 t5 5) 0,
 i 17 (.load false 1 F9) 1,
 i 18 (mv t2) 0,
 i 19 (.bin .add F2 I6) 7,
 i 10 (mv M5) 15] false)
 (.seq (.b6 [i 20 (.b0 t9 1) 0,
 i 21 (.load false 1 O6) 1,
 i 22 (mv u0) 0,
 i 23 (.a2C M6 none (some S3)) 7,
 i 24 (mv t3) 0,
 i 25 (.bin .add V7 Y3) 31,
 i 26 (.b0 t9 1) 0,
 i 27 (.load false 1 t26) 64,
 i 28 (mv u0) 0,
 i 29 (mv t3) 0,
 i 30 (.J3 t29) 512,
 i 31 (.bin .add t28 t30) 1792,
 i 32 (.a2C t27 (some t31) none) 4032,
 i 33 (.bin .add Y1 t32) 8191,
 i 34 (.b0 t9 1) 16383,
 iz (.store 1 t34 t33) 32767] true)
 (.seq (.b6 [i 35 (mv t0) 0,
 i 36 (.b0 t5 4) 0,
 i 37 (.load false 1 t36) 2,
 i 38 (.load true 7 t9) 0,
 i 39 (.call (.f L2) [t35,t37,t38]) 15,
 i 8 (mv t39) 31] false)
 .ret))))⟩
def a5l:m8:=⟨4,61,[.tmp 8],
 .seq (.b6 [i 5 (.box 7 t1) 0,
 i 8 (.mv (.c (.emp 7))) 0] false)
 (.seq (.b6 [i 13 (mv t0) 0,
 i 14 (.b0 t5 4) 0,
 i 15 (.load false 1 C7) 2,
 i 16 (.j3 7 z9 G9) 7,
 i 17 (.load true 7 F9) 15,
 i 9 (.alloc z2) 0,
 iz (.store 7 t9 F2) 63] false)
 (.seq (.b6 [i 10 (.mv (.c (.emp 7))) 0] false)
 (.seq (.seq (.b6 [i 11 (.mv (.c (I 0))) 0] false)
 (.block 0
 (.loop [0,2,3,5,9,10,11]
 (.seq (.seq (.b6 [i 18 (mv u7) 0,
 i 19 (.b0 t9 2) 0,
 i 20 (.load false 1 M5) 2,
 i 21 (.i9 O6) 6,
 i 22 (.bin .lss I6 M6) 15] false)
 (.cond S3
 .skip
 (.exit 0)))
 (.seq (.block 1
 (.seq (.b6 [i 25 (mv u7) 0,
 i 26 (.b0 t5 5) 0,
 i 27 (.load false 1 t26) 2,
 i 28 (.bin .sub Y1 t27) 7,
 i 29 (mv t2) 0,
 i 30 (.bin .sub t28 t29) 31,
 i 12 (mv t30) 63] false)
 (.seq (.b6 [i 31 (mv x5) 0,
 i 32 (.bin .geq t31 (.c (I 0))) 1,
 i 33 (mv t32) 3,
 ig 34 (mv x5) 33 true 7,
 ig 35 (mv t3) 33 true 7,
 ig 36 (.i9 t35) 33 true 23,
 ig 37 (.bin .lss t34 t36) 33 true 63,
 i 38 (.pick t33 t37 (.c (.pv (.bool false)))) 127] false)
 (.cond t38
 (.b6 [i 39 (mv u0) 0,
 i 40 (mv t3) 0,
 i 41 (mv x5) 0,
 i 42 (.j3 7 t40 t41) 6,
 i 43 (.load true 7 t42) 14,
 i 44 (.O5 7 1 z0 [(0,t43)]) 30,
 i 45 (.append 7 64 t39 t44) 63,
 i 10 (mv t45) 127] false)
 (.b6 [i 46 (mv u0) 0,
 i 47 (.b0 t9 2) 0,
 i 48 (.load false 1 t47) 2,
 i 49 (mv u7) 0,
 i 50 (.j3 7 t48 t49) 14,
 i 51 (.load true 7 t50) 30,
 i 52 (.O5 7 1 z0 [(0,t51)]) 62,
 i 53 (.append 7 64 t46 t52) 127,
 i 10 (mv t53) 255] false)))))
 (.b6 [i 23 (mv u7) 0,
 i 24 (.bin .add V7 (.c (I 1))) 1,
 i 11 (mv Y3) 3] false))))))
 (.seq (.b6 [i 54 (mv u0) 0,
 i 55 (.b0 t9 2) 1,
 iz (.store 1 t55 t54) 3] false)
 (.seq (.b6 [i 56 (mv t0) 0,
 i 57 (.b0 t5 4) 0,
 i 58 (.load false 1 t57) 2,
 i 59 (.load true 7 t9) 0,
 i 60 (.call (.f L2) [t56,t58,t59]) 15,
 i 8 (mv t60) 31] false)
 .ret)))))⟩
def a8p:m8:=⟨4,75,[.tmp 8,.tmp 9],
 .seq (.b6 [i 5 (.box 7 t1) 0,
 i 6 (.box 7 t2) 0,
 i 7 (.box 7 t3) 0,
 i 8 (.mv (.c (.emp 7))) 0,
 i 9 (.mv (.c (.pv (.bool false)))) 8] false)
 (.seq (.b6 [i 15 (mv t0) 0,
 i 16 (.b0 t5 4) 0,
 i 17 (.load false 1 F9) 2,
 i 18 (.j3 7 G9 F2) 7,
 i 19 (.load true 7 I6) 15,
 i 10 (.alloc z2) 0,
 iz (.store 7 u0 M5) 63] false)
 (.seq (.b6 [i 20 (.b0 u0 3) 0,
 i 21 (.load false 1 O6) 1,
 i 22 (.load true 7 t6) 0,
 i 23 (.call (.f a1Z) [M6,S3]) 7,
 i 11 (mv V7) 15] false)
 (.seq (.seq (.b6 [i 24 (mv u7) 0,
 i 25 (.bin .lss Y3 (.c (I 0))) 1,
 i 26 (mv Y1) 3,
 ig 27 (mv u7) 26 false 7,
 ig 28 (.b0 u0 4) 26 false 7,
 ig 29 (.load false 1 t28) 26 false 23,
 ig 30 (.i9 t29) 26 false 55,
 ig 31 (.bin .geq t27 t30) 26 false 127,
 i 32 (.pick t26 (.c (.pv (.bool true))) t31) 255] false)
 (.cond t32
 (.seq (.seq (.b6 [i 33 (.b0 u0 3) 0,
 i 34 (.load false 1 t33) 1,
 i 35 (.i9 t34) 3,
 i 36 (.b0 u0 5) 0,
 i 37 (.load false 1 t36) 8,
 i 38 (.bin .geq t35 t37) 31] false)
 (.cond t38
 (.seq (.b6 [i 8 (.mv (.c (.emp 7))) 0,
 i 9 (.mv (.c (.pv (.bool false)))) 1] false)
 .ret)
 .skip))
 (.seq (.b6 [i 12 (.mv (.c (.emp 7))) 0,
 i 13 (.mv (.c (.emp 7))) 1] false)
 (.seq (.b6 [i 39 (mv x5) 0,
 i 40 (.b0 u0 3) 0,
 i 41 (.load false 1 t40) 2,
 i 42 (.append 7 64 t39 t41) 7,
 i 43 (.load true 7 t6) 0,
 i 44 (.O5 7 1 z0 [(0,t43)]) 16,
 i 45 (.append 7 64 t42 t44) 63,
 i 46 (.b0 u0 3) 127,
 iz (.store 1 t46 t45) 255] true)
 (.seq (.b6 [i 47 (mv z9) 0,
 i 48 (.b0 u0 4) 0,
 i 49 (.load false 1 t48) 2,
 i 50 (.append 7 64 t47 t49) 7,
 i 51 (.load true 7 t7) 0,
 i 52 (.O5 7 1 z0 [(0,t51)]) 16,
 i 53 (.append 7 64 t50 t52) 63,
 i 54 (.b0 u0 4) 127,
 iz (.store 1 t54 t53) 255] true)
 (.seq (.b6 [i 55 (mv t0) 0,
 i 56 (.b0 t5 4) 0,
 i 57 (.load false 1 t56) 2,
 i 58 (.load true 7 u0) 0,
 i 59 (.call (.f L2) [t55,t57,t58]) 15,
 i 8 (mv t59) 31,
 i 9 (.mv (.c (.pv (.bool true)))) 63] false)
 .ret)))))
 .skip))
 (.seq (.b6 [i 14 (.mv (.c (.emp 7))) 0] false)
 (.seq (.b6 [i 60 (mv C7) 0,
 i 61 (.b0 u0 4) 0,
 i 62 (.load false 1 t61) 2,
 i 63 (.append 7 64 t60 t62) 7,
 i 14 (mv t63) 15] false)
 (.seq (.b6 [i 64 (mv C7) 0,
 i 65 (mv u7) 0,
 i 66 (.load true 7 t7) 0,
 i 67 (.j3 7 t64 t65) 7,
 iz (.store 7 t67 t66) 15] false)
 (.seq (.b6 [i 68 (mv C7) 0,
 i 69 (.b0 u0 4) 1,
 iz (.store 1 t69 t68) 3] false)
 (.seq (.b6 [i 70 (mv t0) 0,
 i 71 (.b0 t5 4) 0,
 i 72 (.load false 1 t71) 2,
 i 73 (.load true 7 u0) 0,
 i 74 (.call (.f L2) [t70,t72,t73]) 15,
 i 8 (mv t74) 31,
 i 9 (.mv (.c (.pv (.bool true)))) 63] false)
 .ret))))))))⟩
def a9z:m8:=⟨4,76,[.cell 8 true 7],
 .seq (.b6 [i 7 (.box 5 t3) 0,
 i 8 (.alloc z0) 0] false)
 (.seq (.b6 [i 11 (mv t0) 0,
 i 12 (mv t2) 0,
 i 13 (.b0 t7 1) 0,
 i 14 (.load false 1 z9) 4,
 i 15 (.conv .i64 C7) 12,
 i 16 (.call (.f L4) [u7,x5,G9]) 31,
 i 9 (mv F9) 63] false)
 (.seq (.seq (.b6 [i 17 (mv t9) 0,
 i 18 (.bin .lss F2 (.c (I 0))) 1] false)
 (.cond I6
 (.seq (.b6 [i 19 (.b0 t7 1) 0,
 i 20 (.load false 1 M5) 1,
 i 21 (.conv .i64 O6) 3,
 i 22 (.build z0 [(0,1,.c (I 3)),(2,1,M6)]) 7,
 iz (.store 7 t8 S3) 15] false)
 .ret)
 .skip))
 (.seq (.b6 [i 23 (mv t1) 0,
 i 24 (.b0 t7 3) 0,
 i 25 (.load false 1 Y3) 2,
 i 26 (.bin .rem Y1 (.c (.pv (.int .i32 (5))))) 6,
 i 27 (.bin .eql t26 (.c (.pv (.int .i32 (3))))) 14,
 i 28 (mv t9) 0,
 i 29 (.build z0 [(0,1,V7),(1,1,t27),(4,1,t28)]) 63,
 i 10 (.alloc z0) 0,
 iz (.store 7 u0 t29) 255] false)
 (.seq (.seq (.b6 [i 30 (mv t2) 0,
 i 31 (.bin .eql t30 (.c (I 3))) 1,
 i 32 (mv t31) 3,
 ig 33 (mv t2) 32 false 7,
 ig 34 (.bin .eql t33 (.c (I 4))) 32 false 15,
 i 35 (.pick t32 (.c (.pv (.bool true))) t34) 31] false)
 (.cond t35
 (.seq (.b6 [i 36 (.load true 7 u0) 0,
 iz (.store 7 t8 t36) 1] false)
 .ret)
 .skip))
 (.seq (.b6 [i 37 (mv t0) 0,
 i 38 (mv t9) 0,
 i 39 (.j3 7 t37 t38) 3,
 i 40 (.b0 t39 1) 7,
 i 41 (.load false 1 t40) 15,
 i 42 (.J3 t41) 31,
 i 43 (mv t0) 0,
 i 44 (mv t9) 0,
 i 45 (.j3 7 t43 t44) 192,
 i 46 (.b0 t45 2) 448,
 i 47 (.load false 1 t46) 960,
 i 48 (.i9 t47) 1984,
 i 49 (.bin .add t42 t48) 4095,
 i 50 (.b0 u0 6) 8191,
 iz (.store 1 t50 t49) 16383] true)
 (.seq (.seq (.b6 [i 51 (.b0 t7 2) 0,
 i 52 (.load false 1 t51) 1,
 i 53 (.bin .rem t52 (.c (.pv (.int .u8 (3))))) 3,
 i 54 (.bin .eql t53 (.c (.pv (.int .u8 (2))))) 7] false)
 (.cond t54
 (.seq (.b6 [i 55 (.b0 t7 2) 0,
 i 56 (.load false 1 t55) 1,
 i 57 (.conv .i64 t56) 3,
 i 58 (.b0 u0 6) 0,
 i 59 (.load false 1 t58) 8,
 i 60 (.bin .add t59 (.c (I 1))) 24,
 i 61 (.bin .rem t57 t60) 63,
 i 62 (.b0 u0 5) 127,
 iz (.store 1 t62 t61) 255] false)
 (.b6 [i 63 (.b0 t7 2) 0,
 i 64 (.load false 1 t63) 1,
 i 65 (.conv .i64 t64) 3,
 i 66 (.bin .quo t65 (.c (I 3))) 7,
 i 67 (.b0 u0 6) 0,
 i 68 (.load false 1 t67) 16,
 i 69 (.b0 u0 5) 0,
 i 70 (.load false 1 t69) 64,
 i 71 (.bin .sub t68 t70) 240,
 i 72 (.bin .add t71 (.c (I 1))) 496,
 i 73 (.bin .rem t66 t72) 1023,
 i 74 (.b0 u0 6) 2047,
 iz (.store 1 t74 t73) 4095] false))
 .skip))
 (.seq (.b6 [i 75 (.load true 7 u0) 0,
 iz (.store 7 t8 t75) 1] false)
 .ret)))))))⟩
def a0n:m8:=⟨1,76,[.cell 2 true 67,.tmp 3],
 .seq (.b6 [i 1 (.box 67 t0) 0,
 i 2 (.alloc z1) 0,
 i 3 (.mv (.c (I 0))) 0] false)
 (.seq (.seq (.b6 [i 6 (.b0 t1 0) 0,
 i 7 (.b0 t6 3) 1,
 i 8 (.load false 1 t7) 3,
 i 9 (.i9 t8) 7,
 i 10 (.bin .geq t9 (.c (I 10))) 15,
 i 11 (mv u0) 31,
 ig 12 (.b0 t1 0) 11 false 63,
 ig 13 (.b0 x5 62) 11 false 127,
 ig 14 (.load false 1 z9) 11 false 255,
 ig 15 (.i9 C7) 11 false 511,
 ig 16 (.bin .geq G9 (.c (I 20))) 11 false 1023,
 i 17 (.pick u7 (.c (.pv (.bool true))) F9) 2047] false)
 (.cond F2
 (.seq (.b6 [i 18 (.b0 t1 0) 0,
 i 19 (.load true 67 I6) 1,
 iz (.store 67 t2 M5) 3,
 i 3 (.mv (.c (I 26))) 7] false)
 .ret)
 .skip))
 (.seq (.b6 [i 21 (.b0 t1 0) 0,
 i 22 (.load true 67 M6) 1,
 i 23 (.b0 t1 0) 0,
 i 24 (.b0 V7 4) 4,
 i 25 (.load false 1 Y3) 12,
 i 26 (.bin .add Y1 (.c (I 1))) 28,
 i 27 (.build z0 [(0,1,.c (I 12)),(2,1,t26)]) 60,
 i 28 (.O5 7 1 z0 [(0,t27)]) 124,
 i 29 (.call (.f D8) [S3,t28]) 255,
 i 20 (mv t29) 511,
 i 30 (.extract O6 0) 1023,
 i 31 (.extract O6 1) 1023,
 i 4 (.alloc z1) 0,
 iz (.store 67 t4 t30) 6143,
 i 5 (mv t31) 16383] false)
 (.seq (.seq (.b6 [i 32 (mv t5) 0,
 i 33 (.bin .neq t32 (.c (I 0))) 1] false)
 (.cond t33
 (.seq (.b6 [i 34 (.b0 t1 0) 0,
 i 35 (.load true 67 t34) 1,
 i 36 (mv t5) 0,
 iz (.store 67 t2 t35) 3,
 i 3 (mv t36) 15] false)
 .ret)
 .skip))
 (.seq (.b6 [i 37 (.b0 t4 4) 0,
 i 38 (.load false 1 t37) 1,
 i 39 (.bin .add t38 (.c (I 1))) 3,
 i 40 (.b0 t4 4) 7,
 iz (.store 1 t40 t39) 15] false)
 (.seq (.b6 [i 41 (.b0 t4 3) 0,
 i 42 (.load false 1 t41) 1,
 i 43 (.b0 t4 3) 0,
 i 44 (.load false 1 t43) 4,
 i 45 (.i9 t44) 12,
 i 46 (.b0 t4 3) 0,
 i 47 (.load false 1 t46) 32,
 i 48 (.i9 t47) 96,
 i 49 (.slice 3 t42 none (some t45) (some t48)) 255,
 i 50 (.b0 t4 4) 0,
 i 51 (.load false 1 t50) 512,
 i 52 (.b0 t4 2) 0,
 i 53 (.load false 1 t52) 2048,
 i 54 (.b0 t4 62) 0,
 i 55 (.load false 1 t54) 8192,
 i 56 (.i9 t55) 24576,
 i 57 (.build [I 0,.emp 7,I 0] [(0,1,t51),(1,1,t53),(2,1,t56)]) 65024,
 i 58 (.O5 3 1 [I 0,.emp 7,I 0] [(0,t57)]) 130560,
 i 59 (.append 3 40 t49 t58) 262143,
 i 60 (.b0 t4 3) 524287,
 iz (.store 1 t60 t59) 1048575] true)
 (.seq (.b6 [i 61 (.b0 t4 62) 0,
 i 62 (.load false 1 t61) 1,
 i 63 (.b0 t4 62) 0,
 i 64 (.load false 1 t63) 4,
 i 65 (.i9 t64) 12,
 i 66 (.b0 t4 62) 0,
 i 67 (.load false 1 t66) 32,
 i 68 (.i9 t67) 96,
 i 69 (.slice 57 t62 none (some t65) (some t68)) 255,
 i 70 (.b0 t4 5) 0,
 i 71 (.load true 57 t70) 512,
 i 72 (.O5 57 1 z4 [(0,t71)]) 1536,
 i 73 (.append 57 520 t69 t72) 4095,
 i 74 (.b0 t4 62) 8191,
 iz (.store 1 t74 t73) 16383] true)
 (.seq (.b6 [i 75 (.load true 67 t4) 0,
 iz (.store 67 t2 t75) 1,
 i 3 (.mv (.c (I 0))) 3] false)
 .ret)))))))⟩
def S4:m8:=⟨1,104,[.cell 2 true 67,.tmp 3],
 .seq (.b6 [i 1 (.box 67 t0) 0,
 i 2 (.alloc z1) 0,
 i 3 (.mv (.c (I 0))) 0] false)
 (.seq (.b6 [i 11 (.b0 t1 0) 0,
 i 12 (.load true 67 u7) 1,
 i 13 (.call (.f P1) [x5,.c (I 1)]) 3,
 i 10 (mv z9) 7,
 i 14 (.extract u0 0) 15,
 i 15 (.extract u0 1) 15,
 i 4 (mv C7) 31,
 i 5 (mv G9) 127] false)
 (.seq (.seq (.b6 [i 16 (mv t5) 0,
 i 17 (.bin .neq F9 (.c (I 0))) 1] false)
 (.cond F2
 (.seq (.b6 [i 18 (.b0 t1 0) 0,
 i 19 (.load true 67 I6) 1,
 i 20 (mv t5) 0,
 iz (.store 67 t2 M5) 3,
 i 3 (mv O6) 15] false)
 .ret)
 .skip))
 (.seq (.seq (.b6 [i 21 (mv t4) 0,
 i 22 (.j3 7 M6 (.c (I 0))) 1,
 i 23 (.b0 S3 0) 3,
 i 24 (.load false 1 V7) 7,
 i 25 (.bin .neq Y3 (.c (I 12))) 15] false)
 (.cond Y1
 (.seq (.b6 [i 26 (.b0 t1 0) 0,
 i 27 (.load true 67 t26) 1,
 iz (.store 67 t2 t27) 3,
 i 3 (.mv (.c (I 22))) 7] false)
 .ret)
 .skip))
 (.seq (.b6 [i 28 (.load true 67 t1) 0,
 i 29 (mv t4) 0,
 i 30 (.j3 7 t29 (.c (I 0))) 2,
 i 31 (.b0 t30 2) 6,
 i 32 (.load false 1 t31) 14,
 i 33 (.call (.f D2) [t28,t32]) 31,
 i 6 (mv t33) 63] true)
 (.seq (.seq (.b6 [i 34 (mv t6) 0,
 i 35 (.bin .lss t34 (.c (I 0))) 1] false)
 (.cond t35
 (.seq (.b6 [i 36 (.b0 t1 0) 0,
 i 37 (.load true 67 t36) 1,
 iz (.store 67 t2 t37) 3,
 i 3 (.mv (.c (I 34))) 7] false)
 .ret)
 .skip))
 (.seq (.b6 [i 38 (.b0 t1 0) 0,
 i 39 (.b0 t38 3) 1,
 i 40 (.load false 1 t39) 3,
 i 41 (mv t6) 0,
 i 42 (.j3 3 t40 t41) 15,
 i 43 (.load true 3 t42) 31,
 i 7 (.alloc [I 0,.emp 7,I 0]) 0,
 iz (.store 3 t7 t43) 127] false)
 (.seq (.b6 [i 44 (.mkf (.func n4) [] [t7]) 0,
 i 8 (mv t44) 1] false)
 (.seq (.b6 [i 46 (.b0 t1 0) 0,
 i 47 (.load true 67 t46) 1,
 i 48 (.call (.f Q6) [t47,.c (I 1)]) 3,
 i 45 (mv t48) 7,
 i 49 (.extract t45 0) 15,
 i 50 (.extract t45 1) 15,
 i 9 (.alloc z1) 0,
 iz (.store 67 t9 t49) 95,
 i 5 (mv t50) 255] false)
 (.seq (.seq (.b6 [i 51 (mv t5) 0,
 i 52 (.bin .neq t51 (.c (I 0))) 1] false)
 (.cond t52
 (.seq (.b6 [i 53 (.b0 t1 0) 0,
 i 54 (.load true 67 t53) 1,
 i 55 (mv t5) 0,
 iz (.store 67 t2 t54) 3,
 i 3 (mv t55) 15] false)
 .ret)
 .skip))
 (.seq (.seq (.b6 [i 56 (.b0 t9 0) 0,
 i 57 (.load false 1 t56) 1,
 i 58 (mv t8) 0,
 i 59 (.call (.f J7) [t57,t58]) 7,
 i 60 (mv t59) 15,
 ig 61 (.b0 t9 1) 60 false 31,
 ig 62 (.load false 1 t61) 60 false 63,
 ig 63 (mv t8) 60 false 31,
 ig 64 (.call (.f J7) [t62,t63]) 60 false 255,
 i 65 (.pick t60 (.c (.pv (.bool true))) t64) 511] false)
 (.cond t65
 (.seq (.b6 [i 66 (.b0 t1 0) 0,
 i 67 (.load true 67 t66) 1,
 iz (.store 67 t2 t67) 3,
 i 3 (.mv (.c (I 34))) 7] false)
 .ret)
 .skip))
 (.seq (.b6 [i 68 (.b0 t7 1) 0,
 i 69 (.load false 1 t68) 1,
 i 70 (.b0 t9 3) 0,
 i 71 (.load false 1 t70) 4,
 i 72 (mv t6) 0,
 i 73 (mv t6) 0,
 i 74 (.slice 3 t71 none (some t72) (some t73)) 60,
 i 75 (.b0 t9 2) 15,
 iz (.store 1 t75 t69) 143,
 i 76 (.b0 t9 3) 511,
 iz (.store 1 t76 t74) 1023] true)
 (.seq (.seq (.b6 [i 77 (.b0 t7 2) 0,
 i 78 (.load false 1 t77) 1,
 i 79 (.bin .geq t78 (.c (I 0))) 3,
 i 80 (mv t79) 7,
 ig 81 (.b0 t7 2) 80 true 15,
 ig 82 (.load false 1 t81) 80 true 31,
 ig 83 (.b0 t9 62) 80 true 15,
 ig 84 (.load false 1 t83) 80 true 79,
 ig 85 (.i9 t84) 80 true 207,
 ig 86 (.bin .lss t82 t85) 80 true 511,
 i 87 (.pick t80 t86 (.c (.pv (.bool false)))) 1023] false)
 (.cond t87
 (.b6 [i 88 (.b0 t9 62) 0,
 i 89 (.load false 1 t88) 1,
 i 90 (.b0 t7 2) 0,
 i 91 (.load false 1 t90) 4,
 i 92 (.j3 57 t89 t91) 15,
 i 93 (.load true 57 t92) 31,
 i 94 (.b0 t9 62) 0,
 i 95 (.load false 1 t94) 64,
 i 96 (.b0 t7 2) 0,
 i 97 (.load false 1 t96) 256,
 i 98 (.b0 t7 2) 0,
 i 99 (.load false 1 t98) 1024,
 i 100 (.slice 57 t95 none (some t97) (some t99)) 4032,
 i 101 (.b0 t9 5) 255,
 iz (.store 57 b8w t93) 8447,
 i 102 (.b0 t9 62) 32767,
 iz (.store 1 b8x b8v) 65535] true)
 .skip))
 (.seq (.b6 [i 103 (.load true 67 t9) 0,
 iz (.store 67 t2 b8y) 1,
 i 3 (.mv (.c (I 0))) 3] false)
 .ret)))))))))))))⟩
def P3:m8:=⟨1,31,[.cell 2 true 67,.tmp 3],
 .seq (.b6 [i 1 (.box 67 t0) 0,
 i 2 (.alloc z1) 0,
 i 3 (.mv (.c (I 0))) 0] false)
 (.seq (.b6 [i 4 (.mv (.c (.emp 7))) 0] false)
 (.seq (.seq (.b6 [i 7 (.b0 t1 0) 0,
 i 8 (.b0 t7 3) 1,
 i 9 (.load false 1 t8) 3,
 i 10 (.i9 t9) 7,
 i 11 (.b0 t1 0) 0,
 i 12 (.b0 u7 2) 16,
 i 13 (.load false 1 x5) 48,
 i 14 (.call (.f G1) [z9]) 112,
 i 15 (.build [I 0,I 0,I 0] [(0,1,u0),(1,1,C7),(2,1,.c (I 20000))]) 255,
 i 16 (.mv (.c (I 0))) 0] true)
 (.block 0
 (.loop [1,2,4,15,16]
 (.seq (.b6 [i 17 (.bin .lss F9 (.c (I 3))) 0] false)
 (.seq (.cond F2
 .skip
 (.exit 0))
 (.seq (.block 1
 (.seq (.b6 [i 18 (.index false 3 1 G9 F9) 0,
 i 6 (mv I6) 1] false)
 (.b6 [i 19 (mv t4) 0,
 i 20 (mv t6) 0,
 i 21 (.build z0 [(0,1,.c (I 3)),(2,1,O6)]) 2,
 i 22 (.O5 7 1 z0 [(0,M6)]) 6,
 i 23 (.append 7 64 M5 S3) 15,
 i 4 (mv V7) 31] false)))
 (.b6 [i 24 (.bin .add F9 (.c (I 1))) 0,
 i 16 (mv Y3) 1] false)))))))
 (.seq (.b6 [i 25 (.b0 t1 0) 0,
 i 26 (.load true 67 Y1) 1,
 i 27 (mv t4) 0,
 i 28 (.call (.f D8) [t26,t27]) 7,
 i 29 (.extract t28 0) 15,
 i 30 (.extract t28 1) 15,
 iz (.store 67 t2 t29) 63,
 i 3 (mv t30) 127] false)
 .ret)))⟩
def W0:m8:=⟨2,26,[.tmp 4],
 .seq (.b6 [i 4 (.mv (.c (.pv (.bool false)))) 0] false)
 (.seq (.seq (.b6 [i 6 (mv t0) 0,
 i 7 (.i9 t6) 1,
 i 8 (mv t1) 0,
 i 9 (.i9 t8) 4,
 i 10 (.bin .neq t7 t9) 15] false)
 (.cond u0
 (.seq (.b6 [i 4 (.mv (.c (.pv (.bool false)))) 0] false)
 .ret)
 .skip))
 (.seq (.seq (.b6 [i 5 (.mv (.c (I 0))) 0] false)
 (.block 0
 (.loop [0,1,5]
 (.seq (.seq (.b6 [i 11 (mv t5) 0,
 i 12 (mv t0) 0,
 i 13 (.i9 x5) 2,
 i 14 (.bin .lss u7 z9) 7] false)
 (.cond C7
 .skip
 (.exit 0)))
 (.seq (.block 1
 (.seq (.b6 [i 17 (mv t0) 0,
 i 18 (mv t5) 0,
 i 19 (.j3 7 F2 I6) 3,
 i 20 (.load true 7 M5) 7,
 i 21 (mv t1) 0,
 i 22 (mv t5) 0,
 i 23 (.j3 7 M6 S3) 48,
 i 24 (.load true 7 V7) 112,
 i 25 (.eqs true [0,1,0,2,0,0,0] O6 Y3) 255] true)
 (.cond Y1
 (.seq (.b6 [i 4 (.mv (.c (.pv (.bool false)))) 0] false)
 .ret)
 .skip)))
 (.b6 [i 15 (mv t5) 0,
 i 16 (.bin .add G9 (.c (I 1))) 1,
 i 5 (mv F9) 3] false))))))
 (.seq (.b6 [i 4 (.mv (.c (.pv (.bool true)))) 0] false)
 .ret)))⟩
def a0m:m8:=⟨2,18,[.tmp 4],
 .seq (.b6 [i 2 (.box 67 t0) 0,
 i 3 (.box 1 t1) 0,
 i 4 (.mv (.c (I 0))) 0] false)
 (.scope
 (.seq (.b6 [i 5 (.alloc [I 0]) 0,
 iz (.store 1 t5 (.c (I (-1)))) 1] false)
 (.seq .skip
 (.seq (.seq (.b6 [i 8 (.load true 67 t2) 0,
 i 9 (.call (.f F6) [t8]) 1] false)
 (.block 0
 (.rng t9 [10,11]
 (.seq (.b6 [i 6 (mv u0) 0] false)
 (.b6 [i 7 (.alloc [I 0,.emp 7,I 0]) 0,
 iz (.store 3 t7 u7) 1] false))
 (.block 1
 (.seq (.b6 [i 12 (.b0 t7 0) 0,
 i 13 (.load false 1 x5) 1,
 i 14 (.load false 1 t3) 0,
 i 15 (.bin .eql z9 C7) 7] false)
 (.cond G9
 (.seq (.b6 [i 16 (mv t6) 0,
 iz (.store 1 t5 F9) 1] false)
 (.exit 0))
 .skip))))))
 (.seq (.b6 [i 17 (.load false 1 t5) 0,
 i 4 (mv F2) 1] false)
 .ret)))))⟩
def a3z:m8:=⟨0,13,[.tmp 0],
 .seq (.b6 [i 0 (.mv (.c (.emp 7))) 0] false)
 (.seq (.b6 [i 1 (.build z2 [(0,1,.c (I 1)),(1,1,.c (.pv (.str [97,98,99,100,101,102])))]) 0,
 i 2 (.build z0 [(0,1,.c (I 3)),(2,1,.c (I 1))]) 0,
 i 3 (.build z0 [(0,1,.c (I 6)),(5,1,.c (I 2)),(6,1,.c (I 2))]) 0,
 i 4 (.build z0 []) 0,
 i 5 (.O5 7 3 z0 [(0,t2),(1,t3),(2,t4)]) 14,
 i 6 (.build z2 [(0,1,.c (I 2)),(2,1,t5)]) 30,
 i 7 (.build z0 [(0,1,.c (I 5)),(3,1,.c (.pv (.str [97])))]) 0,
 i 8 (.O5 7 1 z0 [(0,t7)]) 64,
 i 9 (.build z0 [(0,1,.c (I 3)),(2,1,.c (I 7))]) 0,
 i 10 (.O5 7 1 z0 [(0,t9)]) 256,
 i 11 (.build z2 [(0,1,.c (I 3)),(5,1,.c (I 2)),(3,1,t8),(4,1,u0)]) 960,
 i 12 (.O5 7 3 z2 [(0,t1),(1,t6),(2,u7)]) 2047,
 i 0 (mv x5) 4095] false)
 .ret)⟩
def a7b:m8:=⟨3,11,[.cell 6 true 7],
 .seq (.b6 [i 6 (.alloc z0) 0] false)
 (.seq (.b6 [i 7 (mv t0) 0,
 i 8 (mv t1) 0,
 i 9 (mv t2) 0,
 i 10 (.build z0 [(0,1,.c (I 6)),(4,1,t7),(5,1,t8),(6,1,t9)]) 7,
 iz (.store 7 t6 u0) 15] false)
 .ret)⟩
def a6a:m8:=⟨1,5,[.cell 2 true 7],
 .seq (.b6 [i 2 (.alloc z0) 0] false)
 (.seq (.b6 [i 3 (mv t0) 0,
 i 4 (.build z0 [(0,1,.c (I 5)),(3,1,t3)]) 1,
 iz (.store 7 t2 t4) 3] false)
 .ret)⟩
def a0M:m8:=⟨2,74,[.tmp 4],
 .seq (.b6 [i 2 (.box 1 t0) 0,
 i 3 (.box 7 t1) 0,
 i 4 (.mv (.c (.pv (.bool false)))) 0] false)
 (.seq (.b6 [i 7 (.b0 t3 2) 0,
 i 8 (.load false 1 t7) 1,
 i 9 (.i9 t8) 3,
 i 10 (.b0 t3 3) 0,
 i 11 (.load false 1 u0) 8,
 i 12 (.i9 u7) 24,
 i 13 (.b0 t3 4) 0,
 i 14 (.load false 1 z9) 64,
 i 15 (.i9 C7) 192,
 i 16 (.bin .add x5 G9) 504,
 i 5 (mv t9) 7,
 i 6 (mv F9) 2047] false)
 (.seq (.seq (.b6 [i 17 (.b0 t3 0) 0,
 i 18 (.load false 1 F2) 1] false)
 (.block 0
 (.seq (.b6 [i 20 (.bin .eql I6 (.c (I 1))) 0,
 i 19 (mv O6) 1] false)
 (.cond M5
 (.seq (.b6 [i 21 (mv t5) 0,
 i 22 (mv t6) 0,
 i 23 (.bin .add M6 S3) 3,
 i 24 (.bin .eql V7 (.c (I 0))) 7,
 i 25 (mv Y3) 15,
 ig 26 (.b0 t3 5) 25 true 31,
 ig 27 (.load false 1 t26) 25 true 63,
 ig 28 (.bin .eql t27 (.c (I 0))) 25 true 127,
 i 29 (.pick Y1 t28 (.c (.pv (.bool false)))) 255,
 i 30 (mv t29) 511,
 ig 31 (.b0 t3 6) 30 true 1023,
 ig 32 (.load false 1 t31) 30 true 2047,
 ig 33 (.bin .eql t32 (.c (I 0))) 30 true 4095,
 i 34 (.pick t30 t33 (.c (.pv (.bool false)))) 8191,
 i 4 (mv t34) 16383] false)
 .ret)
 (.seq (.b6 [i 36 (.bin .eql I6 (.c (I 2))) 0,
 i 35 (mv t36) 1] false)
 (.cond t35
 (.seq (.b6 [i 37 (.b0 t3 1) 0,
 i 38 (.load false 1 t37) 1,
 i 39 (.bin .eql t38 (.c (.pv (.str [])))) 3,
 i 40 (mv t39) 7,
 ig 41 (mv t6) 40 true 15,
 ig 42 (.bin .eql t41 (.c (I 0))) 40 true 31,
 i 43 (.pick t40 t42 (.c (.pv (.bool false)))) 63,
 i 44 (mv t43) 127,
 ig 45 (.b0 t3 5) 44 true 255,
 ig 46 (.load false 1 t45) 44 true 511,
 ig 47 (.bin .eql t46 (.c (I 0))) 44 true 1023,
 i 48 (.pick t44 t47 (.c (.pv (.bool false)))) 2047,
 i 49 (mv t48) 4095,
 ig 50 (.b0 t3 6) 49 true 8191,
 ig 51 (.load false 1 t50) 49 true 16383,
 ig 52 (.bin .eql t51 (.c (I 0))) 49 true 32767,
 i 53 (.pick t49 t52 (.c (.pv (.bool false)))) 65535,
 i 4 (mv t53) 131071] false)
 .ret)
 (.seq (.b6 [i 55 (.bin .eql I6 (.c (I 3))) 0,
 i 54 (mv t55) 1] false)
 (.cond t54
 (.seq (.b6 [i 56 (.b0 t3 1) 0,
 i 57 (.load false 1 t56) 1,
 i 58 (.bin .eql t57 (.c (.pv (.str [])))) 3,
 i 59 (mv t58) 7,
 ig 60 (mv t5) 59 true 15,
 ig 61 (.bin .eql t60 (.c (I 0))) 59 true 31,
 i 62 (.pick t59 t61 (.c (.pv (.bool false)))) 63,
 i 63 (mv t62) 127,
 ig 64 (.b0 t3 6) 63 true 255,
 ig 65 (.load false 1 t64) 63 true 511,
 ig 66 (.bin .eql t65 (.c (I 0))) 63 true 1023,
 i 67 (.pick t63 t66 (.c (.pv (.bool false)))) 2047,
 i 4 (mv t67) 4095] false)
 .ret)
 (.seq (.b6 [i 69 (.bin .eql I6 (.c (I 4))) 0,
 i 68 (mv t69) 1] false)
 (.cond t68
 (.seq (.b6 [i 70 (mv t5) 0,
 i 71 (mv t6) 0,
 i 72 (.bin .add t70 t71) 3,
 i 73 (.bin .eql t72 (.c (I 0))) 7,
 i 4 (mv t73) 15] false)
 .ret)
 .skip))))))))))
 (.seq (.b6 [i 4 (.mv (.c (.pv (.bool false)))) 0] false)
 .ret)))⟩
def U4:m8:=⟨2,73,[.tmp 4],
 .seq (.b6 [i 2 (.box 1 t0) 0,
 i 3 (.box 7 t1) 0,
 i 4 (.mv (.c (.pv (.bool false)))) 0] false)
 (.seq (.seq (.b6 [i 5 (.b0 t3 0) 0,
 i 6 (.load false 1 t5) 1] false)
 (.block 0
 (.seq (.b6 [i 8 (.bin .eql t6 (.c (I 1))) 0,
 i 7 (mv t8) 1] false)
 (.cond t7
 (.seq (.b6 [i 9 (.b0 t3 1) 0,
 i 10 (.load false 1 t9) 1,
 i 11 (.J3 u0) 3,
 i 12 (.bin .leq u7 (.c (I 1000))) 7,
 i 4 (mv x5) 15] false)
 .ret)
 (.seq (.b6 [i 14 (.bin .eql t6 (.c (I 2))) 0,
 i 13 (mv C7) 1] false)
 (.cond z9
 (.seq (.b6 [i 15 (.b0 t3 2) 0,
 i 16 (.load false 1 G9) 1,
 i 17 (.i9 F9) 3,
 i 18 (.bin .leq F2 (.c (I 1000))) 7,
 i 4 (mv I6) 15] false)
 .ret)
 (.seq (.b6 [i 20 (.bin .eql t6 (.c (I 3))) 0,
 i 19 (mv O6) 1] false)
 (.cond M5
 (.seq (.b6 [i 21 (.b0 t3 5) 0,
 i 22 (.load false 1 M6) 1,
 i 23 (.bin .geq S3 (.c (I 0))) 3,
 i 24 (mv V7) 7,
 ig 25 (.b0 t3 5) 24 true 15,
 ig 26 (.load false 1 Y1) 24 true 31,
 ig 27 (.bin .leq t26 (.c (I 200))) 24 true 63,
 i 28 (.pick Y3 t27 (.c (.pv (.bool false)))) 127,
 i 29 (mv t28) 255,
 ig 30 (.b0 t3 3) 29 true 511,
 ig 31 (.load false 1 t30) 29 true 1023,
 ig 32 (.i9 t31) 29 true 2047,
 ig 33 (.b0 t3 4) 29 true 511,
 ig 34 (.load false 1 t33) 29 true 4607,
 ig 35 (.i9 t34) 29 true 12799,
 ig 36 (.bin .eql t32 t35) 29 true 32767,
 i 37 (.pick t29 t36 (.c (.pv (.bool false)))) 65535,
 i 38 (mv t37) 131071,
 ig 39 (.b0 t3 3) 38 true 262143,
 ig 40 (.load false 1 t39) 38 true 524287,
 ig 41 (.i9 t40) 38 true 1048575,
 ig 42 (.b0 t3 5) 38 true 262143,
 ig 43 (.load false 1 t42) 38 true 2359295,
 ig 44 (.bin .leq t41 t43) 38 true 8388607,
 i 45 (.pick t38 t44 (.c (.pv (.bool false)))) 16777215,
 i 4 (mv t45) 33554431] false)
 .ret)
 .skip))))))))
 (.seq (.b6 [i 46 (.b0 t3 1) 0,
 i 47 (.load false 1 t46) 1,
 i 48 (.J3 t47) 3,
 i 49 (.bin .leq t48 (.c (I 4000))) 7,
 i 50 (mv t49) 15,
 ig 51 (.b0 t3 6) 50 true 31,
 ig 52 (.load false 1 t51) 50 true 63,
 ig 53 (.bin .geq t52 (.c (I 0))) 50 true 127,
 i 54 (.pick t50 t53 (.c (.pv (.bool false)))) 255,
 i 55 (mv t54) 511,
 ig 56 (.b0 t3 6) 55 true 1023,
 ig 57 (.load false 1 t56) 55 true 2047,
 ig 58 (.b0 t3 1) 55 true 1023,
 ig 59 (.load false 1 t58) 55 true 5119,
 ig 60 (.J3 t59) 55 true 13311,
 ig 61 (.bin .leq t57 t60) 55 true 32767,
 i 62 (.pick t55 t61 (.c (.pv (.bool false)))) 65535,
 i 63 (mv t62) 131071,
 ig 64 (.b0 t3 5) 63 true 262143,
 ig 65 (.load false 1 t64) 63 true 524287,
 ig 66 (.bin .eql t65 (.c (I 0))) 63 true 1048575,
 ig 67 (mv t66) 63 true 2097151,
 ig 68 (.b0 t3 5) 67 false 4194303,
 ig 69 (.load false 1 t68) 67 false 8388607,
 ig 70 (.bin .eql t69 (.c (I 1))) 67 false 16777215,
 ig 71 (.pick t67 (.c (.pv (.bool true))) t70) 63 true 33554431,
 i 72 (.pick t63 t71 (.c (.pv (.bool false)))) 67108863,
 i 4 (mv t72) 134217727] false)
 .ret))⟩
def a0j:m8:=⟨2,47,[.cell 4 false 1],
 .seq (.b6 [i 2 (.box 1 t0) 0,
 i 3 (.box 7 t1) 0,
 i 4 (.alloc [.pv (.bool false)]) 0] false)
 (.seq (.seq (.b6 [i 10 (.load true 7 t3) 0,
 i 11 (.call (.f O0) [u0]) 1] false)
 (.block 0
 (.rng u7 [12]
 (.b6 [i 5 (.alloc z0) 0,
 iz (.store 7 t5 x5) 1] false)
 (.block 1
 (.seq (.b6 [i 13 (.b0 t2 0) 0,
 i 14 (.load false 1 z9) 1,
 i 15 (.load true 7 t5) 0,
 i 16 (.call (.f B5) [C7,G9]) 7,
 i 17 (.not F9) 15] false)
 (.cond F2
 (.seq (.b6 [iz (.store 1 t4 (.c (.pv (.bool false)))) 0] false)
 .ret)
 .skip))))))
 (.seq (.seq (.b6 [i 18 (.b0 t3 3) 0,
 i 19 (.load false 1 I6) 1,
 i 20 (.i9 M5) 3,
 i 21 (.mv (.c (I 0))) 0] false)
 (.block 2
 (.loop [3,4,19,20,21]
 (.seq (.b6 [i 22 (.bin .lss M6 O6) 0] false)
 (.seq (.cond S3
 .skip
 (.exit 2))
 (.seq (.block 3
 (.seq (.b6 [i 23 (mv M6) 0,
 i 24 (.j3 7 M5 M6) 0,
 i 25 (.load true 7 Y3) 2,
 i 7 (.alloc z0) 0,
 i 6 (mv V7) 15,
 iz (.store 7 t7 Y1) 31] false)
 (.seq (.b6 [i 27 (.load true 7 t7) 0,
 i 28 (.call (.f Q4) [t27]) 1,
 i 26 (mv t28) 3,
 i 29 (.extract t26 0) 7,
 i 30 (.extract t26 1) 7,
 i 8 (.alloc z0) 0,
 iz (.store 7 t8 t29) 47,
 i 9 (mv t30) 127] false)
 (.seq (.b6 [i 31 (mv t9) 0,
 i 32 (.bin .neq t31 (.c (I 0))) 1,
 i 33 (mv t32) 3,
 ig 34 (.load true 7 t8) 33 false 7,
 ig 35 (.load true 7 t7) 33 false 7,
 ig 36 (.eqs true [0,1,0,2,0,0,0] t34 t35) 33 false 31,
 i 37 (.pick t33 (.c (.pv (.bool true))) t36) 63,
 i 38 (mv t37) 127,
 ig 39 (.b0 t3 3) 38 false 255,
 ig 40 (.load false 1 t39) 38 false 511,
 ig 41 (mv t6) 38 false 255,
 ig 42 (.slice 7 t40 none (some t41) none) 38 false 2047,
 ig 43 (.load true 7 t7) 38 false 255,
 ig 44 (.call (.f C6) [t42,t43]) 38 false 8191,
 i 45 (.pick t38 (.c (.pv (.bool true))) t44) 16383] true)
 (.cond t45
 (.seq (.b6 [iz (.store 1 t4 (.c (.pv (.bool false)))) 0] false)
 .ret)
 .skip)))))
 (.b6 [i 46 (.bin .add M6 (.c (I 1))) 0,
 i 21 (mv t46) 1] false)))))))
 (.seq (.b6 [iz (.store 1 t4 (.c (.pv (.bool true)))) 0] false)
 .ret)))⟩
def U5:m8:=⟨1,30,[.tmp 2],
 .seq (.b6 [i 1 (.box 7 t0) 0,
 i 2 (.mv (.c (I 0))) 0] false)
 (.scope
 (.seq (.seq (.b6 [i 7 (.b0 t1 0) 0,
 i 8 (.load false 1 t7) 1,
 i 9 (.bin .lss t8 (.c (I 0))) 3,
 i 10 (mv t9) 7,
 ig 11 (.b0 t1 0) 10 false 15,
 ig 12 (.load false 1 u7) 10 false 31,
 ig 13 (.bin .geq x5 (.c (I 13))) 10 false 63,
 i 14 (.pick u0 (.c (.pv (.bool true))) z9) 127] false)
 (.cond C7
 (.seq (.b6 [i 2 (.mv (.c (I 200))) 0] false)
 .ret)
 .skip))
 (.seq (.b6 [i 15 (.call (.f H8) []) 0,
 i 16 (.b0 t1 0) 0,
 i 17 (.load false 1 F9) 2,
 i 18 (.index true 13 6 G9 F2) 7,
 i 3 (.alloc [.pv (.str []),I 0,I 0,I 0,I 0,I 0]) 0,
 iz (.store 6 t3 I6) 31] true)
 (.seq (.b6 [i 4 (.mv (.c (I 0))) 0] false)
 (.seq .skip
 (.seq (.seq (.b6 [i 19 (.build [.pv .nilFunc,.pv .nilFunc,.pv .nilFunc] [(0,1,.f q0),(1,1,.f u6),(2,1,.f m9)]) 0,
 i 20 (.mv (.c (I 0))) 0] false)
 (.block 0
 (.loop [1,3,4,19,20]
 (.seq (.b6 [i 21 (.bin .lss O6 (.c (I 3))) 0] false)
 (.seq (.cond M6
 .skip
 (.exit 0))
 (.seq (.block 1
 (.seq (.b6 [i 22 (.index false 3 1 M5 O6) 0,
 i 6 (mv S3) 1] false)
 (.seq (.b6 [i 23 (mv t6) 0,
 i 24 (.load true 6 t3) 0,
 i 25 (.load true 7 t1) 0,
 i 26 (.call V7 [Y3,Y1]) 7,
 i 27 (.not t26) 15] false)
 (.cond t27
 (.seq (.b6 [i 4 (.mv (.c (I 200))) 0] false)
 (.exit 0))
 .skip))))
 (.b6 [i 28 (.bin .add O6 (.c (I 1))) 0,
 i 20 (mv t28) 1] false)))))))
 (.seq (.b6 [i 29 (mv t4) 0,
 i 2 (mv t29) 1] false)
 .ret)))))))⟩
def R0:m8:=⟨1,6,[.tmp 2],
 .seq (.b6 [i 2 (.mv (.c (I 0))) 0] false)
 (.seq (.b6 [i 3 (.build [I 0,I 0,I 0,I 0,I 0,I 0,I 0,I 0,I 0,I 0,I 0,I 0,I 0,I 0] [(6,1,.c (I 1)),(7,1,.c (I 2)),(8,1,.c (I 2)),(9,1,.c (I 3)),(11,1,.c (I 4)),(13,1,.c (I 0))]) 0,
 i 4 (mv t0) 0,
 i 5 (.index false 14 1 t3 t4) 3,
 i 2 (mv t5) 7] false)
 .ret)⟩
def Y5:m8:=⟨1,12,[.tmp 2],
 .seq (.b6 [i 1 (.box 7 t0) 0,
 i 2 (.mv (.c (I 0))) 0] false)
 (.seq (.seq (.b6 [i 3 (.b0 t1 0) 0,
 i 4 (.load false 1 t3) 1,
 i 5 (.bin .eql t4 (.c (I 1))) 3] false)
 (.cond t5
 (.seq (.b6 [i 6 (.b0 t1 1) 0,
 i 7 (.load false 1 t6) 1,
 i 8 (.J3 t7) 3,
 i 2 (mv t8) 7] false)
 .ret)
 .skip))
 (.seq (.b6 [i 9 (.b0 t1 2) 0,
 i 10 (.load false 1 t9) 1,
 i 11 (.i9 u0) 3,
 i 2 (mv u7) 7] false)
 .ret))⟩
def a4h:m8:=⟨1,26,[.tmp 2],
 .seq (.b6 [i 1 (.box 7 t0) 0,
 i 2 (.mv (.c (.pv (.bool false)))) 0] false)
 (.seq (.b6 [i 3 (.b0 t1 0) 0,
 i 4 (.load false 1 t3) 1,
 i 5 (.bin .eql t4 (.c (I 6))) 3,
 i 6 (mv t5) 7,
 ig 7 (.b0 t1 0) 6 false 15,
 ig 8 (.load false 1 t7) 6 false 31,
 ig 9 (.bin .eql t8 (.c (I 7))) 6 false 63,
 i 10 (.pick t6 (.c (.pv (.bool true))) t9) 127,
 i 11 (mv u0) 255,
 ig 12 (.b0 t1 0) 11 false 511,
 ig 13 (.load false 1 x5) 11 false 1023,
 ig 14 (.bin .eql z9 (.c (I 8))) 11 false 2047,
 i 15 (.pick u7 (.c (.pv (.bool true))) C7) 4095,
 i 16 (mv G9) 8191,
 ig 17 (.b0 t1 0) 16 false 16383,
 ig 18 (.load false 1 F2) 16 false 32767,
 ig 19 (.bin .eql I6 (.c (I 9))) 16 false 65535,
 i 20 (.pick F9 (.c (.pv (.bool true))) M5) 131071,
 i 21 (mv O6) 262143,
 ig 22 (.b0 t1 0) 21 false 524287,
 ig 23 (.load false 1 S3) 21 false 1048575,
 ig 24 (.bin .eql V7 (.c (I 11))) 21 false 2097151,
 i 25 (.pick M6 (.c (.pv (.bool true))) Y3) 4194303,
 i 2 (mv Y1) 8388607] false)
 .ret)⟩
def M0:m8:=⟨1,89,[.tmp 2],
 .seq (.b6 [i 2 (.mv (.c (.emp 7))) 0] false)
 (.seq (.b6 [i 7 (.call (.f l8) [.c (I 200)]) 0,
 i 8 (.call (.f l8) [.c (I 50)]) 1,
 i 9 (.call (.f l8) [.c (I 30)]) 3,
 i 10 (.call (.f l8) [.c (I 12)]) 7,
 i 11 (.call (.f l8) [.c (I 5)]) 15,
 i 12 (.O5 7 5 z2 [(0,t7),(1,t8),(2,t9),(3,u0),(4,u7)]) 31,
 i 3 (mv x5) 63] false)
 (.seq (.seq (.b6 [i 4 (.mv (.c (I 0))) 0] false)
 (.block 0
 (.loop [0,3,4]
 (.seq (.seq (.b6 [i 13 (mv t4) 0,
 i 14 (mv t0) 0,
 i 15 (.i9 C7) 2,
 i 16 (.bin .lss z9 G9) 7,
 i 17 (mv F9) 15,
 ig 18 (mv t4) 17 true 31,
 ig 19 (.bin .lss I6 (.c (I 200))) 17 true 63,
 i 20 (.pick F2 M5 (.c (.pv (.bool false)))) 127] false)
 (.cond O6
 .skip
 (.exit 0)))
 (.seq (.block 1
 (.seq (.b6 [i 23 (mv t3) 0,
 i 24 (mv t3) 0,
 i 25 (.j3 7 Y3 (.c (I 0))) 2,
 i 26 (.b0 Y1 3) 6,
 i 27 (.load false 1 t26) 14,
 i 28 (mv t0) 0,
 i 29 (mv t4) 0,
 i 30 (.j3 1 t28 t29) 96,
 i 31 (.load false 1 t30) 224,
 i 32 (.call (.f y1) [t31]) 480,
 i 33 (.O5 7 1 z0 [(0,t32)]) 992,
 i 34 (.append 7 64 t27 t33) 2046,
 i 35 (.j3 7 V7 (.c (I 0))) 4095,
 i 36 (.b0 t35 3) 8191,
 iz (.store 1 t36 t34) 16383] true)
 (.b6 [i 37 (mv t3) 0,
 i 38 (mv t3) 0,
 i 39 (.j3 7 t38 (.c (I 0))) 2,
 i 40 (.b0 t39 4) 6,
 i 41 (.load false 1 t40) 14,
 i 42 (mv t0) 0,
 i 43 (mv t4) 0,
 i 44 (.j3 1 t42 t43) 96,
 i 45 (.load false 1 t44) 224,
 i 46 (.build z0 [(0,1,.c (I 10)),(1,1,.c (.pv (.bool true))),(3,1,t45)]) 480,
 i 47 (.O5 7 1 z0 [(0,t46)]) 992,
 i 48 (.append 7 64 t41 t47) 2046,
 i 49 (.j3 7 t37 (.c (I 0))) 4095,
 i 50 (.b0 t49 4) 8191,
 iz (.store 1 t50 t48) 16383] true)))
 (.b6 [i 21 (mv t4) 0,
 i 22 (.bin .add M6 (.c (I 1))) 1,
 i 4 (mv S3) 3] false))))))
 (.seq (.b6 [i 51 (.call (.f D1) []) 0,
 i 5 (mv t51) 1] false)
 (.seq (.seq (.b6 [i 6 (.mv (.c (I 0))) 0] false)
 (.block 2
 (.loop [3,5,6]
 (.seq (.seq (.b6 [i 52 (mv t6) 0,
 i 53 (mv t5) 0,
 i 54 (.i9 t53) 2,
 i 55 (.bin .lss t52 t54) 7] false)
 (.cond t55
 .skip
 (.exit 2)))
 (.seq (.block 3
 (.seq (.b6 [i 58 (mv t3) 0,
 i 59 (mv t3) 0,
 i 60 (.j3 7 t59 (.c (I 4))) 2,
 i 61 (.b0 t60 3) 6,
 i 62 (.load false 1 t61) 14,
 i 63 (mv t5) 0,
 i 64 (mv t6) 0,
 i 65 (.j3 1 t63 t64) 96,
 i 66 (.load false 1 t65) 224,
 i 67 (.call (.f y1) [t66]) 480,
 i 68 (.O5 7 1 z0 [(0,t67)]) 992,
 i 69 (.append 7 64 t62 t68) 2046,
 i 70 (.j3 7 t58 (.c (I 4))) 4095,
 i 71 (.b0 t70 3) 8191,
 iz (.store 1 t71 t69) 16383] true)
 (.seq (.b6 [i 72 (mv t3) 0,
 i 73 (mv t3) 0,
 i 74 (.j3 7 t73 (.c (I 4))) 2,
 i 75 (.b0 t74 4) 6,
 i 76 (.load false 1 t75) 14,
 i 77 (mv t6) 0,
 i 78 (.bin .add (.c (I 5)) t77) 32,
 i 79 (.build z0 [(0,1,.c (I 9)),(4,1,t78)]) 96,
 i 80 (.O5 7 1 z0 [(0,t79)]) 224,
 i 81 (.append 7 64 t76 t80) 510,
 i 82 (.j3 7 t72 (.c (I 4))) 1023,
 i 83 (.b0 t82 4) 2047,
 iz (.store 1 t83 t81) 4095] false)
 (.b6 [i 84 (mv t3) 0,
 i 85 (.call (.f l8) [.c (I 10)]) 0,
 i 86 (.O5 7 1 z2 [(0,t85)]) 2,
 i 87 (.append 7 112 t84 t86) 7,
 i 3 (mv t87) 15] false))))
 (.b6 [i 56 (mv t6) 0,
 i 57 (.bin .add t56 (.c (I 1))) 1,
 i 6 (mv t57) 3] false))))))
 (.seq (.b6 [i 88 (mv t3) 0,
 i 2 (mv t88) 1] false)
 .ret)))))⟩
def a1u:m8:=⟨2,42,[.tmp 4,.tmp 5],
 .seq (.b6 [i 2 (.box 7 t0) 0,
 i 3 (.box 7 t1) 0,
 i 4 (.mv (.c (I 0))) 0,
 i 5 (.mv (.c (I 0))) 4] false)
 (.seq (.seq (.b6 [i 9 (.load true 7 t2) 0,
 i 10 (.call (.f n8) [t9]) 1,
 i 11 (.bin .neq u0 (.c (I 0))) 3,
 i 12 (mv u7) 7,
 ig 13 (.load true 7 t3) 12 false 15,
 ig 14 (.call (.f n8) [z9]) 12 false 31,
 ig 15 (.bin .neq C7 (.c (I 0))) 12 false 63,
 i 16 (.pick x5 (.c (.pv (.bool true))) G9) 127] false)
 (.cond F9
 (.seq (.b6 [i 4 (.mv (.c (I 0))) 0,
 i 5 (.mv (.c (I 200))) 1] false)
 .ret)
 .skip))
 (.seq (.b6 [i 18 (.load true 7 t2) 0,
 i 19 (.call (.f E3) [I6]) 1,
 i 17 (mv M5) 3,
 i 20 (.extract F2 0) 7,
 i 21 (.extract F2 1) 7,
 i 6 (mv O6) 15,
 i 7 (mv M6) 63] false)
 (.seq (.seq (.b6 [i 22 (mv t7) 0,
 i 23 (.bin .neq S3 (.c (I 0))) 1] false)
 (.cond V7
 (.seq (.b6 [i 24 (mv t7) 0,
 i 4 (.mv (.c (I 0))) 0,
 i 5 (mv Y3) 3] false)
 .ret)
 .skip))
 (.seq (.b6 [i 26 (.load true 7 t3) 0,
 i 27 (.call (.f E3) [t26]) 1,
 i 25 (mv t27) 3,
 i 28 (.extract Y1 0) 7,
 i 29 (.extract Y1 1) 7,
 i 8 (mv t28) 15,
 i 7 (mv t29) 63] false)
 (.seq (.block 0
 (.seq (.b6 [i 31 (mv t7) 0,
 i 32 (.bin .neq t31 (.c (I 0))) 1,
 i 30 (mv t32) 3] false)
 (.cond t30
 (.seq (.b6 [i 33 (mv t7) 0,
 i 4 (.mv (.c (I 0))) 0,
 i 5 (mv t33) 3] false)
 .ret)
 (.seq (.b6 [i 35 (mv t6) 0,
 i 36 (mv t8) 0,
 i 37 (.bin .lss t35 t36) 3,
 i 34 (mv t37) 7] false)
 (.cond t34
 (.seq (.b6 [i 4 (.mv (.c (I (-1)))) 0,
 i 5 (.mv (.c (I 0))) 1] false)
 .ret)
 (.seq (.b6 [i 39 (mv t6) 0,
 i 40 (mv t8) 0,
 i 41 (.bin .gtr t39 t40) 3,
 i 38 (mv t41) 7] false)
 (.cond t38
 (.seq (.b6 [i 4 (.mv (.c (I 1))) 0,
 i 5 (.mv (.c (I 0))) 1] false)
 .ret)
 .skip)))))))
 (.seq (.b6 [i 4 (.mv (.c (I 0))) 0,
 i 5 (.mv (.c (I 0))) 1] false)
 .ret))))))⟩
def a4E:m8:=⟨2,22,[.tmp 4,.tmp 5],
 .seq (.b6 [i 3 (.box 7 t1) 0,
 i 4 (.mv (.c (.pv (.str [])))) 0,
 i 5 (.mv (.c (.pv (.bool false)))) 2] false)
 (.seq (.seq (.b6 [i 8 (.b0 t3 0) 0,
 i 9 (.load false 1 t8) 1,
 i 10 (.bin .eql t9 (.c (I 5))) 3] false)
 (.cond u0
 (.seq (.b6 [i 11 (.b0 t3 3) 0,
 i 12 (.load false 1 u7) 1,
 i 4 (mv x5) 3,
 i 5 (.mv (.c (.pv (.bool true)))) 7] false)
 .ret)
 .skip))
 (.seq (.b6 [i 14 (mv t0) 0,
 i 15 (.load true 7 t3) 0,
 i 16 (.call (.f Q2) [C7,G9]) 3,
 i 13 (mv F9) 7,
 i 17 (.extract z9 0) 15,
 i 18 (.extract z9 1) 15,
 i 6 (mv F2) 31,
 i 7 (mv I6) 127] false)
 (.seq (.b6 [i 19 (mv t6) 0,
 i 20 (mv t7) 0,
 i 21 (.bin .eql O6 (.c (I 0))) 2,
 i 4 (mv M5) 1,
 i 5 (mv M6) 15] false)
 .ret)))⟩
def a0L:m8:=⟨4,37,[],
 .seq (.b6 [i 4 (.box 7 t0) 0] false)
 (.seq (.seq (.b6 [i 6 (.load false 1 t1) 0,
 i 7 (.load true 7 t4) 0,
 i 8 (.call (.f B5) [t6,t7]) 3,
 i 9 (.not t8) 7,
 i 10 (mv t9) 15,
 ig 11 (.b0 t4 0) 10 false 31,
 ig 12 (.load false 1 u7) 10 false 63,
 ig 13 (.call (.f B6) [x5]) 10 false 127,
 ig 14 (.bin .eql z9 (.c (I 0))) 10 false 255,
 i 15 (.pick u0 (.c (.pv (.bool true))) C7) 511,
 i 16 (mv G9) 1023,
 ig 17 (.load false 1 t2) 16 false 2047,
 ig 18 (.b0 t4 4) 16 false 2047,
 ig 19 (.load false 1 I6) 16 false 6143,
 ig 20 (.j3 1 F2 M5) 16 false 16383,
 ig 21 (.load false 1 O6) 16 false 32767,
 i 22 (.pick F9 (.c (.pv (.bool true))) M6) 65535] false)
 (.cond S3
 .ret
 .skip))
 (.seq (.b6 [i 23 (.load false 1 t2) 0,
 i 24 (.b0 t4 4) 0,
 i 25 (.load false 1 Y3) 2,
 i 26 (.j3 1 V7 Y1) 7,
 iz (.store 1 t26 (.c (.pv (.bool true)))) 15] false)
 (.seq (.b6 [i 27 (.load false 1 t1) 0,
 i 28 (.b0 t4 4) 0,
 i 29 (.load false 1 t28) 2,
 i 30 (.j3 7 t27 t29) 7,
 i 31 (.load true 7 t30) 15,
 i 32 (.call (.f O0) [t31]) 31] false)
 (.block 0
 (.rng t32 [33]
 (.b6 [i 5 (.alloc z0) 0,
 iz (.store 7 t5 t33) 1] false)
 (.block 1
 (.b6 [i 34 (.load false 1 t3) 0,
 i 35 (.load true 7 t5) 0,
 i 36 (.call t34 [t35]) 3] false)))))))⟩
def a3y:m8:=⟨1,4,[.tmp 2],
 .seq (.b6 [i 1 (.box 7 t0) 0,
 i 2 (.mv (.c (.pv .nilFunc))) 0] false)
 (.seq (.b6 [i 3 (.mkf (.func x9) [] [t1]) 0,
 i 2 (mv t3) 1] false)
 .ret)⟩
def a1O:m8:=⟨1,15,[.cell 2 true 67],
 .seq (.b6 [i 2 (.alloc z1) 0] false)
 (.seq (.b6 [i 4 (.call (.f u4) [.c (.emp 1)]) 0,
 i 5 (.build z2 [(0,1,.c (I 3)),(5,1,.c (I 3))]) 0,
 i 6 (.build z2 [(0,1,.c (I 1)),(1,1,.c (.pv (.str [70,70,111,110,116])))]) 0,
 i 7 (.O5 7 2 z2 [(0,t5),(1,t6)]) 6,
 i 8 (.append 7 112 t4 t7) 15,
 i 3 (mv t8) 31] false)
 (.seq (.b6 [i 9 (mv t3) 0,
 i 10 (.call (.f W4) [.c (I 0)]) 0,
 i 11 (.call (.f W4) [.c (I 1)]) 2,
 i 12 (.O5 7 2 z0 [(0,u0),(1,u7)]) 6,
 i 13 (mv t0) 0,
 i 14 (.build z1 [(2,1,t9),(1,1,x5),(0,1,z9)]) 31,
 iz (.store 67 t2 C7) 63] false)
 .ret))⟩
def b0H:m8:=⟨1,5,[.cell 2 true 7],
 .seq (.b6 [i 2 (.alloc z0) 0] false)
 (.seq (.b6 [i 3 (mv t0) 0,
 i 4 (.build z0 [(0,1,.c (I 9)),(4,1,t3)]) 1,
 iz (.store 7 t2 t4) 3] false)
 .ret)⟩
def a4G:m8:=⟨3,23,[.tmp 6],
 .seq (.b6 [i 3 (.box 67 t0) 0,
 i 6 (.mv (.c (.pv (.bool false)))) 0] false)
 (.seq (.b6 [i 10 (.load true 67 t3) 0,
 i 11 (mv t1) 0,
 i 12 (.call (.f S0) [u0,u7]) 3,
 i 9 (mv x5) 7,
 i 13 (.extract t9 0) 15,
 i 14 (.extract t9 1) 15,
 i 7 (.alloc z1) 0,
 iz (.store 67 t7 z9) 95,
 i 8 (mv C7) 255] false)
 (.seq (.b6 [i 15 (mv t8) 0,
 i 16 (mv t2) 0,
 i 17 (.bin .eql G9 F9) 3,
 i 18 (mv F2) 7,
 ig 19 (.load true 67 t7) 18 true 15,
 ig 20 (.load true 67 t3) 18 true 15,
 ig 21 (.call (.f n9) [M5,O6]) 18 true 63,
 i 22 (.pick I6 M6 (.c (.pv (.bool false)))) 127,
 i 6 (mv S3) 255] false)
 .ret))⟩
def b0I:m8:=⟨1,5,[.cell 2 true 7],
 .seq (.b6 [i 2 (.alloc z0) 0] false)
 (.seq (.b6 [i 3 (mv t0) 0,
 i 4 (.build z0 [(0,1,.c (I 3)),(2,1,t3)]) 1,
 iz (.store 7 t2 t4) 3] false)
 .ret)⟩
def M1:m8:=⟨2,88,[.cell 4 true 29,.tmp 5],
 .seq (.b6 [i 2 (.box 67 t0) 0,
 i 4 (.alloc z3) 0,
 i 5 (.mv (.c (I 0))) 0] false)
 (.seq (.b6 [i 11 (.b0 t2 0) 0,
 i 12 (.load true 67 u7) 1,
 i 13 (mv t1) 0,
 i 14 (.call (.f P1) [x5,z9]) 7,
 i 10 (mv C7) 15,
 i 15 (.extract u0 0) 31,
 i 16 (.extract u0 1) 31,
 i 6 (mv G9) 63,
 i 7 (mv F9) 255] false)
 (.seq (.seq (.b6 [i 17 (mv t7) 0,
 i 18 (.bin .neq F2 (.c (I 0))) 1] false)
 (.cond I6
 (.seq (.b6 [i 19 (.build z3 []) 0,
 i 20 (mv t7) 0,
 iz (.store 29 t4 M5) 1,
 i 5 (mv O6) 7] false)
 .ret)
 .skip))
 (.seq (.b6 [i 21 (mv t6) 0,
 i 22 (mv t1) 0,
 i 23 (.bin .sub S3 (.c (I 1))) 2,
 i 24 (.j3 7 M6 V7) 7,
 i 25 (.load true 7 Y3) 15,
 i 8 (.alloc z0) 0,
 iz (.store 7 t8 Y1) 63] false)
 (.seq (.seq (.b6 [i 26 (mv t6) 0,
 i 27 (.j3 7 t26 (.c (I 0))) 1,
 i 28 (.b0 t27 0) 3,
 i 29 (.load false 1 t28) 7,
 i 30 (.bin .eql t29 (.c (I 0))) 15,
 i 31 (mv t30) 31,
 ig 32 (.b0 t8 0) 31 false 63,
 ig 33 (.load false 1 t32) 31 false 127,
 ig 34 (.bin .neq t33 (.c (I 5))) 31 false 255,
 ig 35 (mv t34) 31 false 511,
 ig 36 (.b0 t8 0) 35 true 1023,
 ig 37 (.load false 1 t36) 35 true 2047,
 ig 38 (.bin .neq t37 (.c (I 6))) 35 true 4095,
 ig 39 (.pick t35 t38 (.c (.pv (.bool false)))) 31 false 8191,
 i 40 (.pick t31 (.c (.pv (.bool true))) t39) 16383] false)
 (.cond t40
 (.seq (.b6 [i 41 (.build z3 []) 0,
 iz (.store 29 t4 t41) 1,
 i 5 (.mv (.c (I 22))) 3] false)
 .ret)
 .skip))
 (.seq (.b6 [i 42 (mv t6) 0,
 i 43 (.j3 7 t42 (.c (I 1))) 1,
 i 44 (.load true 7 t43) 3,
 i 45 (mv t1) 0,
 i 46 (.build z3 [(7,7,t44),(28,1,t45)]) 15,
 i 9 (.alloc z3) 0,
 iz (.store 29 t9 t46) 63] false)
 (.seq (.seq (.b6 [i 48 (.b0 t2 0) 0,
 i 49 (.b0 t48 2) 1,
 i 50 (.load false 1 t49) 3,
 i 51 (mv t6) 0,
 i 52 (.j3 7 t51 (.c (I 0))) 8,
 i 53 (.load true 7 t52) 24,
 i 54 (.call (.f a0v) [t50,t53]) 63,
 i 47 (mv t54) 127,
 i 55 (.extract t47 0) 255,
 i 56 (.extract t47 1) 255,
 i 57 (.b0 t9 0) 511,
 iz (.store 7 t57 t55) 1535,
 i 7 (mv t56) 4095] true)
 (.seq (.b6 [i 58 (mv t7) 0,
 i 59 (.bin .neq t58 (.c (I 0))) 1] false)
 (.cond t59
 (.seq (.b6 [i 60 (.build z3 []) 0,
 i 61 (mv t7) 0,
 iz (.store 29 t4 t60) 1,
 i 5 (mv t61) 7] false)
 .ret)
 .skip)))
 (.seq (.seq (.b6 [i 63 (.b0 t2 0) 0,
 i 64 (.b0 t63 2) 1,
 i 65 (.load false 1 t64) 3,
 i 66 (.load true 7 t8) 0,
 i 67 (.call (.f a0v) [t65,t66]) 15,
 i 62 (mv t67) 31,
 i 68 (.extract t62 0) 63,
 i 69 (.extract t62 1) 63,
 i 70 (.b0 t9 14) 127,
 iz (.store 7 t70 t68) 383,
 i 7 (mv t69) 1023] false)
 (.seq (.b6 [i 71 (mv t7) 0,
 i 72 (.bin .neq t71 (.c (I 0))) 1] false)
 (.cond t72
 (.seq (.b6 [i 73 (.build z3 []) 0,
 i 74 (mv t7) 0,
 iz (.store 29 t4 t73) 1,
 i 5 (mv t74) 7] false)
 .ret)
 .skip)))
 (.seq (.seq (.b6 [i 76 (.load true 67 t2) 0,
 i 77 (.b0 t9 14) 0,
 i 78 (.load true 7 t77) 2,
 i 79 (.call (.f q8) [t76,t78]) 7,
 i 75 (mv t79) 15,
 i 80 (.extract t75 0) 31,
 i 81 (.extract t75 1) 31,
 i 82 (.b0 t9 21) 63,
 iz (.store 7 t82 t80) 191,
 i 7 (mv t81) 511] false)
 (.seq (.b6 [i 83 (mv t7) 0,
 i 84 (.bin .neq t83 (.c (I 0))) 1] false)
 (.cond t84
 (.seq (.b6 [i 85 (.build z3 []) 0,
 i 86 (mv t7) 0,
 iz (.store 29 t4 t85) 1,
 i 5 (mv t86) 7] false)
 .ret)
 .skip)))
 (.seq (.b6 [i 87 (.load true 29 t9) 0,
 iz (.store 29 t4 t87) 1,
 i 5 (.mv (.c (I 0))) 3] false)
 .ret)))))))))⟩
def a0b:m8:=⟨4,8,[.tmp 6],
 .seq (.b6 [i 4 (.box 1 t0) 0,
 i 5 (.box 1 t1) 0,
 i 6 (.mv (.c (.pv .nilFunc))) 0] false)
 (.seq (.b6 [i 7 (.mkf (.func L5) [] [t2,t4,t3,t5]) 0,
 i 6 (mv t7) 1] false)
 .ret)⟩
def T6:m8:=⟨4,23,[.cell 4 true 67,.tmp 5],
 .seq (.b6 [i 4 (.alloc z1) 0,
 i 5 (.mv (.c (I 0))) 0] false)
 (.seq (.b6 [i 9 (.load false 1 t0) 0,
 i 10 (.load false 1 t1) 0,
 i 11 (.call t9 [u0]) 3,
 i 8 (mv u7) 7,
 i 12 (.extract t8 0) 15,
 i 13 (.extract t8 1) 15,
 i 6 (.alloc z3) 0,
 iz (.store 29 t6 x5) 95,
 i 7 (mv z9) 255] false)
 (.seq (.seq (.b6 [i 14 (mv t7) 0,
 i 15 (.bin .neq C7 (.c (I 0))) 1] false)
 (.cond G9
 (.seq (.b6 [i 16 (.load true 67 t2) 0,
 i 17 (mv t7) 0,
 iz (.store 67 t4 F9) 1,
 i 5 (mv F2) 7] false)
 .ret)
 .skip))
 (.seq (.b6 [i 18 (.load false 1 t3) 0,
 i 19 (.load true 29 t6) 0,
 i 20 (.call I6 [M5]) 3,
 i 21 (.extract O6 0) 7,
 i 22 (.extract O6 1) 7,
 iz (.store 67 t4 M6) 31,
 i 5 (mv S3) 63] false)
 .ret)))⟩
def I8:m8:=⟨2,44,[.cell 4 true 67,.tmp 5],
 .seq (.b6 [i 2 (.box 67 t0) 0,
 i 3 (.box 29 t1) 0,
 i 4 (.alloc z1) 0,
 i 5 (.mv (.c (I 0))) 0] false)
 (.seq (.seq (.b6 [i 8 (.b0 t3 14) 0,
 i 9 (.b0 t8 3) 1,
 i 10 (.load false 1 t9) 3,
 i 11 (.b0 t3 7) 0,
 i 12 (.load true 7 u7) 8,
 i 13 (.call (.f X0) [u0,x5]) 31,
 i 14 (.not z9) 63] false)
 (.cond C7
 (.seq (.b6 [i 15 (.b0 t2 0) 0,
 i 16 (.load true 67 G9) 1,
 iz (.store 67 t4 F9) 3,
 i 5 (.mv (.c (I 22))) 7] false)
 .ret)
 .skip))
 (.seq (.b6 [i 18 (.b0 t2 0) 0,
 i 19 (.b0 I6 2) 1,
 i 20 (.load false 1 M5) 3,
 i 21 (.b0 t3 21) 0,
 i 22 (.load true 7 M6) 8,
 i 23 (.b0 t3 0) 0,
 i 24 (.load true 7 V7) 32,
 i 25 (.b0 t3 7) 0,
 i 26 (.load true 7 Y1) 128,
 i 27 (.call (.f Q3) [O6,S3,Y3,t26]) 511,
 i 17 (mv t27) 1023,
 i 28 (.extract F2 0) 2047,
 i 29 (.extract F2 1) 2047,
 i 6 (mv t28) 4095,
 i 7 (mv t29) 16383] false)
 (.seq (.seq (.b6 [i 30 (mv t7) 0,
 i 31 (.bin .neq t30 (.c (I 0))) 1] false)
 (.cond t31
 (.seq (.b6 [i 32 (.b0 t2 0) 0,
 i 33 (.load true 67 t32) 1,
 i 34 (mv t7) 0,
 iz (.store 67 t4 t33) 3,
 i 5 (mv t34) 15] false)
 .ret)
 .skip))
 (.seq (.b6 [i 35 (.load true 67 t2) 0,
 i 36 (.load true 29 t3) 0,
 i 37 (mv t6) 0,
 i 38 (.b0 t3 7) 0,
 i 39 (.load true 7 t38) 8,
 i 40 (.O5 7 1 z0 [(0,t39)]) 24,
 i 41 (.call (.f o9) [t35,t36,t37,t40]) 63,
 i 42 (.extract t41 0) 127,
 i 43 (.extract t41 1) 127,
 iz (.store 67 t4 t42) 511,
 i 5 (mv t43) 1023] false)
 .ret))))⟩
def I9:m8:=⟨2,32,[.cell 4 true 67,.tmp 5],
 .seq (.b6 [i 2 (.box 67 t0) 0,
 i 3 (.box 29 t1) 0,
 i 4 (.alloc z1) 0,
 i 5 (.mv (.c (I 0))) 0] false)
 (.seq (.b6 [i 9 (.load true 67 t2) 0,
 i 10 (.b0 t3 21) 0,
 i 11 (.load true 7 u0) 2,
 i 12 (.b0 t3 0) 0,
 i 13 (.load true 7 x5) 8,
 i 14 (.call (.f w6) [t9,u7,z9]) 31,
 i 8 (mv C7) 63,
 i 15 (.extract t8 0) 127,
 i 16 (.extract t8 1) 127,
 i 6 (.alloc z0) 0,
 iz (.store 7 t6 G9) 767,
 i 7 (mv F9) 2047] false)
 (.seq (.seq (.b6 [i 17 (mv t7) 0,
 i 18 (.bin .neq F2 (.c (I 0))) 1] false)
 (.cond I6
 (.seq (.b6 [i 19 (.b0 t2 0) 0,
 i 20 (.load true 67 M5) 1,
 i 21 (mv t7) 0,
 iz (.store 67 t4 O6) 3,
 i 5 (mv M6) 15] false)
 .ret)
 .skip))
 (.seq (.b6 [i 22 (.load true 67 t2) 0,
 i 23 (.load true 29 t3) 0,
 i 24 (.b0 t2 0) 0,
 i 25 (.b0 Y3 2) 4,
 i 26 (.load false 1 Y1) 12,
 i 27 (.load true 7 t6) 0,
 i 28 (.O5 7 1 z0 [(0,t27)]) 32,
 i 29 (.call (.f o9) [S3,V7,t26,t28]) 127,
 i 30 (.extract t29 0) 255,
 i 31 (.extract t29 1) 255,
 iz (.store 67 t4 t30) 1023,
 i 5 (mv t31) 2047] false)
 .ret)))⟩
def J0:m8:=⟨2,30,[.cell 4 true 67,.tmp 5],
 .seq (.b6 [i 2 (.box 67 t0) 0,
 i 3 (.box 29 t1) 0,
 i 4 (.alloc z1) 0,
 i 5 (.mv (.c (I 0))) 0] false)
 (.seq (.b6 [i 9 (.b0 t2 0) 0,
 i 10 (.b0 t9 2) 1,
 i 11 (.load false 1 u0) 3,
 i 12 (.b0 t3 21) 0,
 i 13 (.load true 7 x5) 8,
 i 14 (.b0 t3 0) 0,
 i 15 (.load true 7 C7) 32,
 i 16 (.call (.f a1V) [u7,z9,G9]) 127,
 i 8 (mv F9) 255,
 i 17 (.extract t8 0) 511,
 i 18 (.extract t8 1) 511,
 i 6 (mv F2) 1023,
 i 7 (mv I6) 4095] false)
 (.seq (.seq (.b6 [i 19 (mv t7) 0,
 i 20 (.bin .neq M5 (.c (I 0))) 1] false)
 (.cond O6
 (.seq (.b6 [i 21 (.b0 t2 0) 0,
 i 22 (.load true 67 M6) 1,
 i 23 (mv t7) 0,
 iz (.store 67 t4 S3) 3,
 i 5 (mv V7) 15] false)
 .ret)
 .skip))
 (.seq (.b6 [i 24 (.load true 67 t2) 0,
 i 25 (.load true 29 t3) 0,
 i 26 (mv t6) 0,
 i 27 (.call (.f o9) [Y3,Y1,t26,.c (.emp 7)]) 7,
 i 28 (.extract t27 0) 15,
 i 29 (.extract t27 1) 15,
 iz (.store 67 t4 t28) 63,
 i 5 (mv t29) 127] false)
 .ret)))⟩
def J1:m8:=⟨2,32,[.cell 4 true 67,.tmp 5],
 .seq (.b6 [i 2 (.box 67 t0) 0,
 i 3 (.box 29 t1) 0,
 i 4 (.alloc z1) 0,
 i 5 (.mv (.c (I 0))) 0] false)
 (.seq (.b6 [i 9 (.build z0 [(0,1,.c (I 2))]) 0,
 i 6 (.alloc z0) 0,
 iz (.store 7 t6 t9) 3] false)
 (.seq (.seq (.b6 [i 11 (.load true 67 t2) 0,
 i 12 (.b0 t3 21) 0,
 i 13 (.load true 7 x5) 2,
 i 14 (.b0 t3 0) 0,
 i 15 (.load true 7 C7) 8,
 i 16 (.call (.f w6) [u7,z9,G9]) 31,
 i 10 (mv F9) 63,
 i 17 (.extract u0 0) 127,
 i 18 (.extract u0 1) 127,
 i 7 (.alloc z0) 0,
 iz (.store 7 t7 F2) 767,
 i 8 (mv I6) 2047] false)
 (.seq (.b6 [i 19 (mv t8) 0,
 i 20 (.bin .eql M5 (.c (I 0))) 1] false)
 (.cond O6
 (.b6 [i 21 (.b0 t6 2) 0,
 iz (.store 1 M6 (.c (I 1))) 1] false)
 .skip)))
 (.seq (.b6 [i 22 (.load true 67 t2) 0,
 i 23 (.load true 29 t3) 0,
 i 24 (.b0 t2 0) 0,
 i 25 (.b0 Y3 2) 4,
 i 26 (.load false 1 Y1) 12,
 i 27 (.load true 7 t6) 0,
 i 28 (.O5 7 1 z0 [(0,t27)]) 32,
 i 29 (.call (.f o9) [S3,V7,t26,t28]) 127,
 i 30 (.extract t29 0) 255,
 i 31 (.extract t29 1) 255,
 iz (.store 67 t4 t30) 1023,
 i 5 (mv t31) 2047] false)
 .ret)))⟩
def P2:m8:=⟨1,5,[.cell 2 true 7],
 .seq (.b6 [i 2 (.alloc z2) 0] false)
 (.seq (.b6 [i 3 (mv t0) 0,
 i 4 (.build z2 [(0,1,.c (I 3)),(5,1,t3)]) 1,
 iz (.store 7 t2 t4) 3] false)
 .ret)⟩
def a0Q:m8:=⟨1,5,[.cell 2 true 7],
 .seq (.b6 [i 2 (.alloc z0) 0] false)
 (.seq (.b6 [i 3 (mv t0) 0,
 i 4 (.build z0 [(0,1,.c (I 5)),(3,1,t3)]) 1,
 iz (.store 7 t2 t4) 3] false)
 .ret)⟩
def Y6:m8:=⟨3,23,[.cell 6 true 8,.tmp 7],
 .seq (.b6 [i 4 (.box 7 t1) 0,
 i 6 (.alloc [.emp 7,I 0,.pv (.bool false),I 0,.pv (.str []),I 0,I 0,I 0]) 0,
 i 7 (.mv (.c (I 0))) 0] false)
 (.seq (.seq (.b6 [i 8 (mv t0) 0,
 i 9 (.load true 7 t4) 0,
 i 10 (.call (.f B5) [t8,t9]) 3,
 i 11 (.not u0) 7] false)
 (.cond u7
 (.seq (.b6 [i 12 (.build [.emp 7,I 0,.pv (.bool false),I 0,.pv (.str []),I 0,I 0,I 0] []) 0,
 iz (.store 8 t6 x5) 1,
 i 7 (.mv (.c (I 2))) 3] false)
 .ret)
 .skip))
 (.seq (.seq (.b6 [i 13 (mv t2) 0,
 i 14 (.b0 t4 0) 0,
 i 15 (.load false 1 C7) 2,
 i 16 (.call (.f z7) [z9,G9]) 7,
 i 17 (.not F9) 15] false)
 (.cond F2
 (.seq (.b6 [i 18 (.build [.emp 7,I 0,.pv (.bool false),I 0,.pv (.str []),I 0,I 0,I 0] []) 0,
 iz (.store 8 t6 I6) 1,
 i 7 (.mv (.c (I 22))) 3] false)
 .ret)
 .skip))
 (.seq (.b6 [i 19 (mv t0) 0,
 i 20 (.build [.emp 7] [(0,1,M5)]) 1,
 i 21 (.load true 7 t4) 0,
 i 22 (.build [.emp 7,I 0,.pv (.bool false),I 0,.pv (.str []),I 0,I 0,I 0] [(0,1,O6),(1,7,M6)]) 7,
 iz (.store 8 t6 S3) 15,
 i 7 (.mv (.c (I 0))) 31] false)
 .ret)))⟩
def V8:m8:=⟨3,25,[.tmp 6],
 .seq (.b6 [i 3 (.box 8 t0) 0,
 i 6 (.mv (.c (I 0))) 0] false)
 (.seq (.seq (.b6 [i 7 (mv t1) 0,
 i 8 (.bin .lss t7 (.c (I 0))) 1,
 i 9 (mv t8) 3,
 ig 10 (mv t1) 9 false 7,
 ig 11 (.b0 t3 1) 9 false 7,
 ig 12 (.b0 u7 6) 9 false 23,
 ig 13 (.load false 1 x5) 9 false 55,
 ig 14 (.bin .gtr u0 z9) 9 false 127,
 i 15 (.pick t9 (.c (.pv (.bool true))) C7) 255,
 i 16 (mv G9) 511,
 ig 17 (mv t2) 16 false 1023,
 ig 18 (.b0 t3 1) 16 false 1023,
 ig 19 (.b0 I6 6) 16 false 3071,
 ig 20 (.load false 1 M5) 16 false 7167,
 ig 21 (mv t1) 16 false 1023,
 ig 22 (.bin .sub O6 M6) 16 false 31743,
 ig 23 (.bin .gtr F2 S3) 16 false 65535,
 i 24 (.pick F9 (.c (.pv (.bool true))) V7) 131071] false)
 (.cond Y3
 (.seq (.b6 [i 6 (.mv (.c (I 23))) 0] false)
 .ret)
 .skip))
 (.seq (.b6 [i 6 (.mv (.c (I 0))) 0] false)
 .ret))⟩
def N3:m8:=⟨1,11,[.cell 2 true 7],
 .seq (.b6 [i 1 (.box 8 t0) 0,
 i 2 (.alloc z2) 0] false)
 (.seq (.b6 [i 3 (.b0 t1 0) 0,
 i 4 (.b0 t3 0) 1,
 i 5 (.load false 1 t4) 3,
 i 6 (.b0 t1 1) 0,
 i 7 (.b0 t6 4) 8,
 i 8 (.load false 1 t7) 24,
 i 9 (.j3 7 t5 t8) 63,
 i 10 (.load true 7 t9) 127,
 iz (.store 7 t2 u0) 255] false)
 .ret)⟩
def K3:m8:=⟨3,20,[.tmp 6],
 .seq (.b6 [i 6 (.mv (.c (.emp 1))) 0] false)
 (.seq (.b6 [i 8 (mv t0) 0,
 i 9 (.i9 t8) 1,
 i 10 (.b4H 1 1 [.int .u8 (0)] t9) 3,
 i 7 (mv u0) 7] false)
 (.seq (.b6 [i 11 (mv t7) 0,
 i 12 (mv t0) 0,
 i 13 (.copy 1 u7 x5) 3] false)
 (.seq (.b6 [i 14 (mv t7) 0,
 i 15 (mv t1) 0,
 i 16 (.slice 1 C7 (some G9) none none) 3,
 i 17 (mv t2) 0,
 i 18 (.copy 1 F9 F2) 15] false)
 (.seq (.b6 [i 19 (mv t7) 0,
 i 6 (mv M5) 1] false)
 .ret))))⟩
def N4:m8:=⟨2,23,[.tmp 4],
 .seq (.b6 [i 2 (.box 8 t0) 0,
 i 3 (.box 7 t1) 0,
 i 4 (.mv (.c (.emp 7))) 0] false)
 (.seq (.b6 [i 6 (.b0 t2 0) 0,
 i 7 (.b0 t6 0) 1,
 i 8 (.load false 1 t7) 3,
 i 9 (.i9 t8) 7,
 i 10 (.b4H 7 112 [.int .i64 (0),.str [],.sl 7 [],.sl 7 [],.sl 7 [],.int .i64 (0),.int .i64 (0)] t9) 15,
 i 5 (mv u0) 31] false)
 (.seq (.b6 [i 11 (mv t5) 0,
 i 12 (.b0 t2 0) 0,
 i 13 (.b0 x5 0) 2,
 i 14 (.load false 1 z9) 6,
 i 15 (.copy 7 u7 C7) 15] false)
 (.seq (.b6 [i 16 (mv t5) 0,
 i 17 (.b0 t2 1) 0,
 i 18 (.b0 F2 4) 2,
 i 19 (.load false 1 I6) 6,
 i 20 (.load true 7 t3) 0,
 i 21 (.j3 7 F9 M5) 31,
 iz (.store 7 M6 O6) 63] false)
 (.seq (.b6 [i 22 (mv t5) 0,
 i 4 (mv S3) 1] false)
 .ret))))⟩
def M7:m8:=⟨3,20,[.tmp 6],
 .seq (.b6 [i 6 (.mv (.c (.emp 7))) 0] false)
 (.seq (.b6 [i 8 (mv t0) 0,
 i 9 (.i9 t8) 1,
 i 10 (.b4H 7 64 [.int .i64 (0),.bool false,.int .i64 (0),.str [],.int .i64 (0),.int .i64 (0),.int .i64 (0)] t9) 3,
 i 7 (mv u0) 7] false)
 (.seq (.b6 [i 11 (mv t7) 0,
 i 12 (mv t0) 0,
 i 13 (.copy 7 u7 x5) 3] false)
 (.seq (.b6 [i 14 (mv t7) 0,
 i 15 (mv t1) 0,
 i 16 (.slice 7 C7 (some G9) none none) 3,
 i 17 (mv t2) 0,
 i 18 (.copy 7 F9 F2) 15] false)
 (.seq (.b6 [i 19 (mv t7) 0,
 i 6 (mv M5) 1] false)
 .ret))))⟩
def a2T:m8:=⟨1,37,[.cell 2 true 7,.tmp 3],
 .seq (.b6 [i 1 (.box 7 t0) 0,
 i 2 (.alloc z0) 0,
 i 3 (.mv (.c (I 0))) 0] false)
 (.seq (.seq (.b6 [i 5 (.load true 7 t1) 0,
 i 6 (.call (.f n8) [t5]) 1,
 i 4 (mv t6) 3] false)
 (.seq (.b6 [i 7 (mv t4) 0,
 i 8 (.bin .neq t7 (.c (I 0))) 1] false)
 (.cond t8
 (.seq (.b6 [i 9 (.build z0 []) 0,
 i 10 (mv t4) 0,
 iz (.store 7 t2 t9) 1,
 i 3 (mv u0) 7] false)
 .ret)
 .skip)))
 (.seq (.seq (.b6 [i 11 (.load true 7 t1) 0,
 i 12 (.b0 t1 1) 0,
 i 13 (.load false 1 x5) 2,
 i 14 (.build z0 [(0,1,.c (I 0)),(1,1,z9)]) 6,
 i 15 (.eqs false [0,1,0,2,0,0,0] u7 C7) 15,
 i 16 (mv G9) 31,
 ig 17 (.b0 t1 0) 16 false 63,
 ig 18 (.load false 1 F2) 16 false 127,
 ig 19 (.bin .eql I6 (.c (I 6))) 16 false 255,
 i 20 (.pick F9 (.c (.pv (.bool true))) M5) 511] false)
 (.cond O6
 (.seq (.b6 [i 21 (.build z0 []) 0,
 iz (.store 7 t2 M6) 1,
 i 3 (.mv (.c (I 22))) 3] false)
 .ret)
 .skip))
 (.seq (.seq (.b6 [i 22 (.b0 t1 0) 0,
 i 23 (.load false 1 S3) 1,
 i 24 (.bin .eql V7 (.c (I 4))) 3,
 i 25 (mv Y3) 7,
 ig 26 (.b0 t1 2) 25 true 15,
 ig 27 (.load false 1 t26) 25 true 31,
 ig 28 (.bin .rem t27 (.c (I 65536))) 25 true 63,
 ig 29 (.bin .eql t28 (.c (I 0))) 25 true 127,
 i 30 (.pick Y1 t29 (.c (.pv (.bool false)))) 255] false)
 (.cond t30
 (.seq (.b6 [i 31 (.load true 7 t1) 0,
 i 32 (.call (.f O2) [t31]) 1,
 i 33 (.extract t32 0) 3,
 i 34 (.extract t32 1) 3,
 iz (.store 7 t2 t33) 15,
 i 3 (mv t34) 31] false)
 .ret)
 .skip))
 (.seq (.b6 [i 35 (.b0 t1 1) 0,
 iz (.store 1 t35 (.c (.pv (.bool false)))) 1] false)
 (.seq (.b6 [i 36 (.load true 7 t1) 0,
 iz (.store 7 t2 t36) 1,
 i 3 (.mv (.c (I 0))) 3] false)
 .ret)))))⟩
def a1Q:m8:=⟨2,11,[.cell 4 true 7,.tmp 5],
 .seq (.b6 [i 3 (.box 1 t1) 0,
 i 4 (.alloc z0) 0,
 i 5 (.mv (.c (I 0))) 0] false)
 (.seq (.b6 [i 6 (mv t0) 0,
 i 7 (.mkf (.func R2) [] [t3]) 0,
 i 8 (.call (.f E4) [t6,t7]) 3,
 i 9 (.extract t8 0) 7,
 i 10 (.extract t8 1) 7,
 iz (.store 7 t4 t9) 31,
 i 5 (mv u0) 63] false)
 .ret)⟩
def P6:m8:=⟨2,19,[.tmp 4],
 .seq (.b6 [i 3 (.box 7 t1) 0,
 i 4 (.mv (.c (I 0))) 0] false)
 (.seq (.seq (.b6 [i 6 (mv t0) 0,
 i 7 (.i9 t6) 1,
 i 8 (.mv (.c (I 0))) 0] false)
 (.block 0
 (.loop [0,3,7,8]
 (.seq (.b6 [i 9 (.bin .lss t8 t7) 0] false)
 (.seq (.cond t9
 .skip
 (.exit 0))
 (.seq (.block 1
 (.seq (.b6 [i 10 (mv t8) 0,
 i 5 (mv u0) 1] false)
 (.seq (.b6 [i 11 (.load true 7 t3) 0,
 i 12 (mv t0) 0,
 i 13 (mv t5) 0,
 i 14 (.j3 7 x5 z9) 6,
 i 15 (.load true 7 C7) 14,
 i 16 (.eqs false [0,1,0,2,0,0,0] u7 G9) 31] true)
 (.cond F9
 (.seq (.b6 [i 17 (mv t5) 0,
 i 4 (mv F2) 1] false)
 .ret)
 .skip))))
 (.b6 [i 18 (.bin .add t8 (.c (I 1))) 0,
 i 8 (mv I6) 1] false)))))))
 (.seq (.b6 [i 4 (.mv (.c (I (-1)))) 0] false)
 .ret))⟩
def X8:m8:=⟨3,33,[.tmp 6],
 .seq (.b6 [i 6 (.mv (.c (.emp 7))) 0] false)
 (.seq (.b6 [i 8 (mv t0) 0,
 i 9 (mv t1) 0,
 i 10 (mv t2) 0,
 i 11 (mv t0) 0,
 i 12 (.i9 u7) 8,
 i 13 (.slice 7 t8 (some t9) (some u0) (some x5)) 31] false)
 (.seq (.seq (.b6 [i 14 (mv t1) 0,
 i 15 (mv t2) 0,
 i 16 (.bin .eql C7 G9) 3] false)
 (.cond F9
 (.seq (.b6 [i 17 (mv t0) 0,
 i 6 (mv F2) 1] false)
 .ret)
 .skip))
 (.seq (.b6 [i 18 (mv t0) 0,
 i 19 (.i9 I6) 1,
 i 7 (mv M5) 3] false)
 (.seq (.b6 [i 20 (mv t0) 0,
 i 21 (mv t1) 0,
 i 22 (.slice 7 O6 none (some M6) none) 3,
 i 23 (mv t0) 0,
 i 24 (mv t2) 0,
 i 25 (.slice 7 V7 (some Y3) none none) 24,
 i 26 (.append 7 64 S3 Y1) 63,
 i 0 (mv t26) 127] true)
 (.seq (.b6 [i 27 (mv t0) 0,
 i 28 (mv t0) 0,
 i 29 (.i9 t28) 2,
 i 30 (mv t7) 0,
 i 31 (.slice 7 t27 (some t29) (some t30) none) 15,
 iz (.clear 7 [.int .i64 (0),.bool false,.int .i64 (0),.str [],.int .i64 (0),.int .i64 (0),.int .i64 (0)] t31) 31] false)
 (.seq (.b6 [i 32 (mv t0) 0,
 i 6 (mv t32) 1] false)
 .ret))))))⟩
def a0x:m8:=⟨2,19,[.tmp 4],
 .seq (.b6 [i 4 (.mv (.c (I 0))) 0] false)
 (.seq (.seq (.b6 [i 6 (mv t0) 0,
 i 7 (.i9 t6) 1,
 i 8 (.mv (.c (I 0))) 0] false)
 (.block 0
 (.loop [0,1,7,8]
 (.seq (.b6 [i 9 (.bin .lss t8 t7) 0] false)
 (.seq (.cond t9
 .skip
 (.exit 0))
 (.seq (.block 1
 (.seq (.b6 [i 10 (mv t8) 0,
 i 5 (mv u0) 1] false)
 (.seq (.b6 [i 11 (mv t1) 0,
 i 12 (mv t0) 0,
 i 13 (mv t5) 0,
 i 14 (.j3 3 x5 z9) 6,
 i 15 (.load true 3 C7) 14,
 i 16 (.call u7 [G9]) 31] false)
 (.cond F9
 (.seq (.b6 [i 17 (mv t5) 0,
 i 4 (mv F2) 1] false)
 .ret)
 .skip))))
 (.b6 [i 18 (.bin .add t8 (.c (I 1))) 0,
 i 8 (mv I6) 1] false)))))))
 (.seq (.b6 [i 4 (.mv (.c (I (-1)))) 0] false)
 .ret))⟩
def a6c:m8:=⟨3,36,[.tmp 6],
 .seq (.b6 [i 6 (.mv (.c (I 0))) 0] false)
 (.seq (.b6 [i 7 (.mv (.c (.emp 1))) 0] false)
 (.seq (.seq (.b6 [i 8 (.mv (.c (I 0))) 0] false)
 (.block 0
 (.loop [0,1,2,7,8]
 (.seq (.seq (.b6 [i 9 (mv t8) 0,
 i 10 (mv t0) 0,
 i 11 (.i9 u0) 2,
 i 12 (.bin .lss t9 u7) 7] false)
 (.cond x5
 .skip
 (.exit 0)))
 (.seq (.block 1
 (.seq (.b6 [i 15 (mv t0) 0,
 i 16 (mv t8) 0,
 i 17 (.j3 7 G9 F9) 3,
 i 18 (.b0 F2 0) 7,
 i 19 (.load false 1 I6) 15,
 i 20 (mv t1) 0,
 i 21 (.bin .eql M5 O6) 63] false)
 (.cond M6
 (.b6 [i 22 (mv t7) 0,
 i 23 (mv t8) 0,
 i 24 (.O5 1 1 [I 0] [(0,V7)]) 2,
 i 25 (.append 1 8 S3 Y3) 7,
 i 7 (mv Y1) 15] false)
 .skip)))
 (.b6 [i 13 (mv t8) 0,
 i 14 (.bin .add z9 (.c (I 1))) 1,
 i 8 (mv C7) 3] false))))))
 (.seq (.seq (.b6 [i 26 (mv t7) 0,
 i 27 (.i9 t26) 1,
 i 28 (.bin .eql t27 (.c (I 0))) 3] false)
 (.cond t28
 (.seq (.b6 [i 6 (.mv (.c (I (-1)))) 0] false)
 .ret)
 .skip))
 (.seq (.b6 [i 29 (mv t7) 0,
 i 30 (mv t2) 0,
 i 31 (mv t7) 0,
 i 32 (.i9 t31) 4,
 i 33 (.bin .rem t30 t32) 14,
 i 34 (.j3 1 t29 t33) 31,
 i 35 (.load false 1 t34) 63,
 i 6 (mv t35) 127] false)
 .ret))))⟩
def E0:m8:=⟨2,32,[.cell 4 true 7,.tmp 5],
 .seq (.b6 [i 2 (.box 67 t0) 0,
 i 3 (.box 7 t1) 0,
 i 4 (.alloc z0) 0,
 i 5 (.mv (.c (I 0))) 0] false)
 (.seq (.b6 [i 10 (.b0 t2 0) 0,
 i 11 (.b0 u0 2) 1,
 i 12 (.load false 1 u7) 3,
 i 13 (.build z0 [(0,1,.c (I 9)),(4,1,.c (I 4))]) 0,
 i 14 (.load true 7 t3) 0,
 i 15 (.call (.f V1) [x5,z9,C7]) 31,
 i 9 (mv G9) 63,
 i 16 (.extract t9 0) 127,
 i 17 (.extract t9 1) 127,
 i 18 (.extract t9 2) 127,
 i 6 (.alloc z0) 0,
 iz (.store 7 t6 F9) 1279,
 i 7 (mv F2) 3583,
 i 8 (mv I6) 8191] false)
 (.seq (.seq (.b6 [i 19 (mv t8) 0,
 i 20 (.bin .neq M5 (.c (I 0))) 1,
 i 21 (mv O6) 3,
 ig 22 (mv t7) 21 false 7,
 ig 23 (.not S3) 21 false 15,
 i 24 (.pick M6 (.c (.pv (.bool true))) V7) 31,
 i 25 (mv Y3) 63,
 ig 26 (.b0 t6 0) 25 false 127,
 ig 27 (.load false 1 t26) 25 false 255,
 ig 28 (.bin .neq t27 (.c (I 9))) 25 false 511,
 i 29 (.pick Y1 (.c (.pv (.bool true))) t28) 1023] false)
 (.cond t29
 (.seq (.b6 [i 30 (.build z0 []) 0,
 iz (.store 7 t4 t30) 1,
 i 5 (.mv (.c (I 24))) 3] false)
 .ret)
 .skip))
 (.seq (.b6 [i 31 (.load true 7 t6) 0,
 iz (.store 7 t4 t31) 1,
 i 5 (.mv (.c (I 0))) 3] false)
 .ret)))⟩
def N6:m8:=⟨3,29,[.cell 6 true 7,.tmp 7],
 .seq (.b6 [i 3 (.box 67 t0) 0,
 i 4 (.box 7 t1) 0,
 i 5 (.box 7 t2) 0,
 i 6 (.alloc z0) 0,
 i 7 (.mv (.c (I 0))) 0] false)
 (.seq (.b6 [i 12 (.b0 t3 0) 0,
 i 13 (.b0 x5 2) 1,
 i 14 (.load false 1 z9) 3,
 i 15 (.load true 7 t4) 0,
 i 16 (.load true 7 t5) 0,
 i 17 (.call (.f V1) [C7,G9,F9]) 31,
 i 11 (mv F2) 63,
 i 18 (.extract u7 0) 127,
 i 19 (.extract u7 1) 127,
 i 20 (.extract u7 2) 127,
 i 8 (.alloc z0) 0,
 iz (.store 7 t8 I6) 1279,
 i 9 (mv M5) 3583,
 i 10 (mv O6) 8191] false)
 (.seq (.seq (.b6 [i 21 (mv u0) 0,
 i 22 (.bin .eql M6 (.c (I 0))) 1,
 i 23 (mv S3) 3,
 ig 24 (mv t9) 23 true 7,
 ig 25 (.not Y3) 23 true 15,
 i 26 (.pick V7 Y1 (.c (.pv (.bool false)))) 31] false)
 (.cond t26
 (.b6 [i 10 (.mv (.c (I 40))) 0] false)
 .skip))
 (.seq (.b6 [i 27 (.load true 7 t8) 0,
 i 28 (mv u0) 0,
 iz (.store 7 t6 t27) 1,
 i 7 (mv t28) 7] false)
 .ret)))⟩
def a8t:m8:=⟨2,13,[.tmp 4],
 .seq (.b6 [i 2 (.box 7 t0) 0,
 i 4 (.mv (.c (.pv (.bool false)))) 0] false)
 (.seq (.b6 [i 5 (.load true 7 t2) 0,
 i 6 (.call (.f L1) [t5]) 1,
 i 7 (mv t6) 3,
 ig 8 (.b0 t2 4) 7 true 7,
 ig 9 (.load false 1 t8) 7 true 15,
 ig 10 (mv t1) 7 true 7,
 ig 11 (.bin .geq t9 u0) 7 true 63,
 i 12 (.pick t7 u7 (.c (.pv (.bool false)))) 127,
 i 4 (mv x5) 255] false)
 .ret)⟩
def a9y:m8:=⟨3,16,[.tmp 6],
 .seq (.b6 [i 5 (.box 7 t2) 0,
 i 6 (.mv (.c (.emp 7))) 0] false)
 (.seq (.b6 [i 7 (.mv (.c (.emp 7))) 0] false)
 (.seq (.b6 [i 8 (mv t7) 0,
 i 9 (mv t0) 0,
 i 10 (.append 7 112 t8 t9) 3,
 i 7 (mv u0) 7] false)
 (.seq (.b6 [i 11 (mv t7) 0,
 i 12 (mv t1) 0,
 i 13 (.load true 7 t5) 0,
 i 14 (.j3 7 u7 x5) 7,
 iz (.store 7 C7 z9) 15] false)
 (.seq (.b6 [i 15 (mv t7) 0,
 i 6 (mv G9) 1] false)
 .ret))))⟩
def a8r:m8:=⟨2,19,[.tmp 4],
 .seq (.b6 [i 3 (.box 7 t1) 0,
 i 4 (.mv (.c (I 0))) 0] false)
 (.seq (.seq (.b6 [i 5 (.mv (.c (I 0))) 0] false)
 (.block 0
 (.loop [0,3,5]
 (.seq (.seq (.b6 [i 6 (mv t5) 0,
 i 7 (mv t0) 0,
 i 8 (.i9 t7) 2,
 i 9 (.bin .lss t6 t8) 7] false)
 (.cond t9
 .skip
 (.exit 0)))
 (.seq (.block 1
 (.seq (.b6 [i 12 (mv t0) 0,
 i 13 (mv t5) 0,
 i 14 (.j3 7 x5 z9) 3,
 i 15 (.load true 7 C7) 7,
 i 16 (.load true 7 t3) 0,
 i 17 (.eqs false [0,1,0,2,0,0,0] G9 F9) 31] true)
 (.cond F2
 (.seq (.b6 [i 18 (mv t5) 0,
 i 4 (mv I6) 1] false)
 .ret)
 .skip)))
 (.b6 [i 10 (mv t5) 0,
 i 11 (.bin .add u0 (.c (I 1))) 1,
 i 5 (mv u7) 3] false))))))
 (.seq (.b6 [i 4 (.mv (.c (I (-1)))) 0] false)
 .ret))⟩
def a2W:m8:=⟨2,27,[.cell 4 true 67,.tmp 5],
 .seq (.b6 [i 2 (.box 67 t0) 0,
 i 4 (.alloc z1) 0,
 i 5 (.mv (.c (I 0))) 0] false)
 (.seq (.seq (.b6 [i 6 (.b0 t2 0) 0,
 i 7 (.load false 1 t6) 1,
 i 8 (.i9 t7) 3,
 i 9 (mv t1) 0,
 i 10 (.i9 t9) 8,
 i 11 (.bin .add t8 u0) 31,
 i 12 (.bin .gtr u7 (.c (I 100))) 63] false)
 (.cond x5
 (.seq (.b6 [i 13 (.load true 67 t2) 0,
 iz (.store 67 t4 z9) 1,
 i 5 (.mv (.c (I 21))) 3] false)
 .ret)
 .skip))
 (.seq (.b6 [i 14 (.b0 t2 0) 0,
 i 15 (.load false 1 C7) 1,
 i 16 (.b0 t2 0) 0,
 i 17 (.load false 1 F9) 4,
 i 18 (.i9 F2) 12,
 i 19 (.b0 t2 0) 0,
 i 20 (.load false 1 M5) 32,
 i 21 (.i9 O6) 96,
 i 22 (.slice 7 G9 none (some I6) (some M6)) 255,
 i 23 (mv t1) 0,
 i 24 (.append 7 64 S3 V7) 1023,
 i 25 (.b0 t2 0) 2047,
 iz (.store 1 Y1 Y3) 4095] false)
 (.seq (.b6 [i 26 (.load true 67 t2) 0,
 iz (.store 67 t4 t26) 1,
 i 5 (.mv (.c (I 0))) 3] false)
 .ret)))⟩
def a4j:m8:=⟨2,27,[.tmp 4,.tmp 5],
 .seq (.b6 [i 2 (.box 67 t0) 0,
 i 4 (.mv (.c (.emp 7))) 0,
 i 5 (.mv (.c (I 0))) 2] false)
 (.seq (.seq (.b6 [i 6 (mv t1) 0,
 i 7 (.bin .lss t6 (.c (I 0))) 1] false)
 (.cond t7
 (.seq (.b6 [i 4 (.mv (.c (.emp 7))) 0,
 i 5 (.mv (.c (I 2))) 1] false)
 .ret)
 .skip))
 (.seq (.seq (.b6 [i 8 (mv t1) 0,
 i 9 (.b0 t2 0) 0,
 i 10 (.load false 1 t9) 2,
 i 11 (.i9 u0) 6,
 i 12 (.bin .gtr t8 u7) 15] false)
 (.cond x5
 (.seq (.b6 [i 4 (.mv (.c (.emp 7))) 0,
 i 5 (.mv (.c (I 20))) 1] false)
 .ret)
 .skip))
 (.seq (.b6 [i 13 (.b0 t2 0) 0,
 i 14 (.load false 1 z9) 1,
 i 15 (.b0 t2 0) 0,
 i 16 (.load false 1 G9) 4,
 i 17 (.i9 F9) 12,
 i 18 (mv t1) 0,
 i 19 (.bin .sub F2 I6) 60,
 i 20 (.b0 t2 0) 0,
 i 21 (.load false 1 O6) 128,
 i 22 (.i9 M6) 384,
 i 23 (.b0 t2 0) 0,
 i 24 (.load false 1 V7) 1024,
 i 25 (.i9 Y3) 3072,
 i 26 (.slice 7 C7 (some M5) (some S3) (some Y1)) 8191,
 i 4 (mv t26) 16383,
 i 5 (.mv (.c (I 0))) 32767] false)
 .ret)))⟩
def N7:m8:=⟨2,9,[.tmp 3],
 .seq (.b6 [i 2 (.box 7 t0) 0,
 i 3 (.mv (.c (.pv (.bool false)))) 0] false)
 (.seq (.b6 [i 4 (.load true 7 t2) 0,
 i 5 (.b0 t1 1) 0,
 i 6 (.load false 1 t5) 2,
 i 7 (.i9 t6) 6,
 i 8 (.call (.f L6) [t4,t7]) 15,
 i 3 (mv t8) 31] false)
 .ret)⟩
def a2V:m8:=⟨2,30,[.cell 4 true 67,.tmp 5],
 .seq (.b6 [i 2 (.box 67 t0) 0,
 i 4 (.alloc z1) 0,
 i 5 (.mv (.c (I 0))) 0] false)
 (.seq (.seq (.b6 [i 6 (mv t1) 0,
 i 7 (.bin .lss t6 (.c (I 0))) 1] false)
 (.cond t7
 (.seq (.b6 [i 8 (.load true 67 t2) 0,
 iz (.store 67 t4 t8) 1,
 i 5 (.mv (.c (I 2))) 3] false)
 .ret)
 .skip))
 (.seq (.seq (.b6 [i 9 (mv t1) 0,
 i 10 (.b0 t2 0) 0,
 i 11 (.load false 1 u0) 2,
 i 12 (.i9 u7) 6,
 i 13 (.bin .gtr t9 x5) 15] false)
 (.cond z9
 (.seq (.b6 [i 14 (.load true 67 t2) 0,
 iz (.store 67 t4 C7) 1,
 i 5 (.mv (.c (I 20))) 3] false)
 .ret)
 .skip))
 (.seq (.b6 [i 15 (.b0 t2 0) 0,
 i 16 (.load false 1 G9) 1,
 i 17 (.b0 t2 0) 0,
 i 18 (.load false 1 F2) 4,
 i 19 (.i9 I6) 12,
 i 20 (mv t1) 0,
 i 21 (.bin .sub M5 O6) 60,
 i 22 (.b0 t2 0) 0,
 i 23 (.load false 1 S3) 128,
 i 24 (.i9 V7) 384,
 i 25 (mv t1) 0,
 i 26 (.bin .sub Y3 Y1) 1920,
 i 27 (.slice 7 F9 none (some M6) (some t26)) 4095,
 i 28 (.b0 t2 0) 8191,
 iz (.store 1 t28 t27) 16383] false)
 (.seq (.b6 [i 29 (.load true 67 t2) 0,
 iz (.store 67 t4 t29) 1,
 i 5 (.mv (.c (I 0))) 3] false)
 .ret))))⟩
def a2B:m8:=⟨2,8,[.tmp 4],
 .seq (.b6 [i 4 (.mv (.c (.pv (.bool false)))) 0] false)
 (.seq (.b6 [i 5 (mv t0) 0,
 i 6 (mv t1) 0,
 i 7 (.call (.f y5) [t5,t6]) 3,
 i 4 (mv t7) 7] false)
 .ret)⟩
def X7:m8:=⟨1,4,[.tmp 2],
 .seq (.b6 [i 1 (.box 67 t0) 0,
 i 2 (.mv (.c (.pv .nilFunc))) 0] false)
 (.seq (.b6 [i 3 (.mkf (.func m7) [] [t1]) 0,
 i 2 (mv t3) 1] false)
 .ret)⟩
def S5:m8:=⟨2,9,[.tmp 4],
 .seq (.b6 [i 3 (.box 7 t1) 0,
 i 4 (.mv (.c (.pv (.bool false)))) 0] false)
 (.seq (.b6 [i 5 (mv t0) 0,
 i 6 (.load true 7 t3) 0,
 i 7 (.call (.f s9) [t5,t6]) 3,
 i 8 (.bin .geq t7 (.c (I 0))) 7,
 i 4 (mv t8) 15] false)
 .ret)⟩
def U6:m8:=⟨0,15,[.cell 0 true 78],
 .seq (.b6 [i 0 (.alloc z5) 0] false)
 (.seq (.b6 [i 1 (.build [.pv (.str []),I 0,I 0,I 0,I 0,I 0] [(0,1,.c (.pv (.str [110,117,108,108,116,121,112,101])))]) 0,
 i 2 (.build [.pv (.str []),I 0,I 0,I 0,I 0,I 0] [(0,1,.c (.pv (.str [109,97,114,107,116,121,112,101])))]) 0,
 i 3 (.build [.pv (.str []),I 0,I 0,I 0,I 0,I 0] [(0,1,.c (.pv (.str [98,111,111,108,101,97,110,116,121,112,101]))),(2,1,.c (I 1))]) 0,
 i 4 (.build [.pv (.str []),I 0,I 0,I 0,I 0,I 0] [(0,1,.c (.pv (.str [105,110,116,101,103,101,114,116,121,112,101]))),(1,1,.c (I (-2147483648))),(2,1,.c (I 2147483647))]) 0,
 i 5 (.build [.pv (.str []),I 0,I 0,I 0,I 0,I 0] [(0,1,.c (.pv (.str [114,101,97,108,116,121,112,101]))),(1,1,.c (I (-2147483648))),(2,1,.c (I 2147483648))]) 0,
 i 6 (.build [.pv (.str []),I 0,I 0,I 0,I 0,I 0] [(0,1,.c (.pv (.str [110,97,109,101,116,121,112,101]))),(4,1,.c (I 100))]) 0,
 i 7 (.build [.pv (.str []),I 0,I 0,I 0,I 0,I 0] [(0,1,.c (.pv (.str [115,116,114,105,110,103,116,121,112,101]))),(5,1,.c (I 1))]) 0,
 i 8 (.build [.pv (.str []),I 0,I 0,I 0,I 0,I 0] [(0,1,.c (.pv (.str [97,114,114,97,121,116,121,112,101]))),(5,1,.c (I 2))]) 0,
 i 9 (.build [.pv (.str []),I 0,I 0,I 0,I 0,I 0] [(0,1,.c (.pv (.str [112,97,99,107,101,100,97,114,114,97,121,116,121,112,101]))),(5,1,.c (I 2))]) 0,
 i 10 (.build [.pv (.str []),I 0,I 0,I 0,I 0,I 0] [(0,1,.c (.pv (.str [100,105,99,116,116,121,112,101]))),(5,1,.c (I 3))]) 0,
 i 11 (.build [.pv (.str []),I 0,I 0,I 0,I 0,I 0] [(0,1,.c (.pv (.str [111,112,101,114,97,116,111,114,116,121,112,101]))),(3,1,.c (I 1)),(4,1,.c (I 100))]) 0,
 i 12 (.build [.pv (.str []),I 0,I 0,I 0,I 0,I 0] [(0,1,.c (.pv (.str [102,105,108,101,116,121,112,101]))),(5,1,.c (I 3))]) 0,
 i 13 (.build [.pv (.str []),I 0,I 0,I 0,I 0,I 0] [(0,1,.c (.pv (.str [115,97,118,101,116,121,112,101]))),(1,1,.c (I 1)),(2,1,.c (I 9223372036854775807))]) 0,
 i 14 (.build z5 [(0,6,t1),(6,6,t2),(12,6,t3),(18,6,t4),(24,6,t5),(30,6,t6),(36,6,t7),(42,6,t8),(48,6,t9),(54,6,u0),(60,6,u7),(66,6,x5),(72,6,z9)]) 8191,
 iz (.store 78 t0 C7) 16383] false)
 .ret)⟩
def D9:m8:=⟨2,17,[.tmp 4],
 .seq (.b6 [i 2 (.box 6 t0) 0,
 i 3 (.box 7 t1) 0,
 i 4 (.mv (.c (.pv (.bool false)))) 0] false)
 (.seq (.b6 [i 5 (.b0 t3 2) 0,
 i 6 (.load false 1 t5) 1,
 i 7 (.b0 t2 1) 0,
 i 8 (.load false 1 t7) 4,
 i 9 (.bin .geq t6 t8) 15,
 i 10 (mv t9) 31,
 ig 11 (.b0 t3 2) 10 true 63,
 ig 12 (.load false 1 u7) 10 true 127,
 ig 13 (.b0 t2 2) 10 true 63,
 ig 14 (.load false 1 z9) 10 true 319,
 ig 15 (.bin .leq x5 C7) 10 true 1023,
 i 16 (.pick u0 G9 (.c (.pv (.bool false)))) 2047,
 i 4 (mv F9) 4095] false)
 .ret)⟩
def F3:m8:=⟨2,19,[.tmp 4],
 .seq (.b6 [i 2 (.box 6 t0) 0,
 i 3 (.box 7 t1) 0,
 i 4 (.mv (.c (.pv (.bool false)))) 0] false)
 (.seq (.b6 [i 5 (.b0 t3 3) 0,
 i 6 (.load false 1 t5) 1,
 i 7 (.J3 t6) 3,
 i 8 (.b0 t2 3) 0,
 i 9 (.load false 1 t8) 8,
 i 10 (.bin .geq t7 t9) 31,
 i 11 (mv u0) 63,
 ig 12 (.b0 t3 3) 11 true 127,
 ig 13 (.load false 1 x5) 11 true 255,
 ig 14 (.J3 z9) 11 true 511,
 ig 15 (.b0 t2 4) 11 true 127,
 ig 16 (.load false 1 G9) 11 true 1151,
 ig 17 (.bin .leq C7 F9) 11 true 4095,
 i 18 (.pick u7 F2 (.c (.pv (.bool false)))) 8191,
 i 4 (mv I6) 16383] false)
 .ret)⟩
def A4:m8:=⟨2,57,[.tmp 4],
 .seq (.b6 [i 2 (.box 6 t0) 0,
 i 3 (.box 7 t1) 0,
 i 4 (.mv (.c (.pv (.bool false)))) 0] false)
 (.seq (.seq (.b6 [i 6 (.b0 t2 5) 0,
 i 7 (.load false 1 t6) 1,
 i 8 (.bin .eql t7 (.c (I 0))) 3] false)
 (.cond t8
 (.seq (.b6 [i 9 (.b0 t3 4) 0,
 i 10 (.load false 1 t9) 1,
 i 11 (.bin .eql u0 (.c (I 0))) 3,
 i 12 (mv u7) 7,
 ig 13 (.b0 t3 5) 12 true 15,
 ig 14 (.load false 1 z9) 12 true 31,
 ig 15 (.bin .eql C7 (.c (I 0))) 12 true 63,
 i 16 (.pick x5 G9 (.c (.pv (.bool false)))) 127,
 i 17 (mv F9) 255,
 ig 18 (.b0 t3 6) 17 true 511,
 ig 19 (.load false 1 I6) 17 true 1023,
 ig 20 (.bin .eql M5 (.c (I 0))) 17 true 2047,
 i 21 (.pick F2 O6 (.c (.pv (.bool false)))) 4095,
 i 4 (mv M6) 8191] false)
 .ret)
 .skip))
 (.seq (.b6 [i 22 (.load true 6 t2) 0,
 i 23 (.call (.f v7) [S3]) 1,
 i 5 (mv V7) 3] false)
 (.seq (.b6 [i 24 (.b0 t3 4) 0,
 i 25 (.load false 1 Y3) 1,
 i 26 (.bin .geq Y1 (.c (I 0))) 3,
 i 27 (mv t26) 7,
 ig 28 (.b0 t3 4) 27 true 15,
 ig 29 (.load false 1 t28) 27 true 31,
 ig 30 (.bin .leq t29 (.c (I 20000))) 27 true 63,
 i 31 (.pick t27 t30 (.c (.pv (.bool false)))) 127,
 i 32 (mv t31) 255,
 ig 33 (.b0 t3 5) 32 true 511,
 ig 34 (.load false 1 t33) 32 true 1023,
 ig 35 (.bin .geq t34 (.c (I 0))) 32 true 2047,
 i 36 (.pick t32 t35 (.c (.pv (.bool false)))) 4095,
 i 37 (mv t36) 8191,
 ig 38 (.b0 t3 6) 37 true 16383,
 ig 39 (.load false 1 t38) 37 true 32767,
 ig 40 (.bin .geq t39 (.c (I 0))) 37 true 65535,
 i 41 (.pick t37 t40 (.c (.pv (.bool false)))) 131071,
 i 42 (mv t41) 262143,
 ig 43 (.b0 t3 5) 42 true 524287,
 ig 44 (.load false 1 t43) 42 true 1048575,
 ig 45 (mv t5) 42 true 524287,
 ig 46 (.bin .leq t44 t45) 42 true 4194303,
 i 47 (.pick t42 t46 (.c (.pv (.bool false)))) 8388607,
 i 48 (mv t47) 16777215,
 ig 49 (.b0 t3 6) 48 true 33554431,
 ig 50 (.load false 1 t49) 48 true 67108863,
 ig 51 (mv t5) 48 true 33554431,
 ig 52 (.b0 t3 5) 48 true 33554431,
 ig 53 (.load false 1 t52) 48 true 301989887,
 ig 54 (.bin .sub t51 t53) 48 true 973078527,
 ig 55 (.bin .leq t50 t54) 48 true 2147483647,
 i 56 (.pick t48 t55 (.c (.pv (.bool false)))) 4294967295,
 i 4 (mv t56) 8589934591] false)
 .ret)))⟩
def a0P:m8:=⟨1,16,[.tmp 2,.tmp 3],
 .seq (.b6 [i 1 (.box 7 t0) 0,
 i 2 (.mv (.c (I 0))) 0,
 i 3 (.mv (.c (I 0))) 2] false)
 (.seq (.b6 [i 7 (.load true 7 t1) 0,
 i 8 (.call (.f B0) [t7]) 1,
 i 6 (mv t8) 3,
 i 9 (.extract t6 0) 7,
 i 10 (.extract t6 1) 7,
 i 4 (.alloc z0) 0,
 iz (.store 7 t4 t9) 47,
 i 5 (mv u0) 127] false)
 (.seq (.seq (.b6 [i 11 (mv t5) 0,
 i 12 (.bin .neq u7 (.c (I 0))) 1] false)
 (.cond x5
 (.seq (.b6 [i 13 (mv t5) 0,
 i 2 (.mv (.c (I 0))) 0,
 i 3 (mv z9) 3] false)
 .ret)
 .skip))
 (.seq (.b6 [i 14 (.load true 7 t4) 0,
 i 15 (.call (.f v8) [C7]) 1,
 i 2 (mv G9) 3,
 i 3 (.mv (.c (I 0))) 7] false)
 .ret)))⟩
def C8:m8:=⟨2,29,[],
 .seq (.b6 [i 7 (.b0 t1 2) 0,
 i 8 (.load false 1 t7) 1,
 i 9 (.b0 t1 3) 0,
 i 10 (.load false 1 t9) 4,
 i 11 (.b0 t1 4) 0,
 i 12 (.load false 1 u7) 16,
 i 13 (.build [.emp 7,.emp 7,.emp 7] [(0,1,t8),(1,1,u0),(2,1,x5)]) 63,
 i 14 (.mv (.c (I 0))) 0] false)
 (.block 0
 (.loop [0,13,14]
 (.seq (.b6 [i 15 (.bin .lss C7 (.c (I 3))) 0] false)
 (.seq (.cond G9
 .skip
 (.exit 0))
 (.seq (.block 1
 (.seq (.b6 [i 16 (.index false 3 1 z9 C7) 0,
 i 4 (mv F9) 1] false)
 (.seq (.b6 [i 17 (mv t4) 0,
 i 18 (.i9 F2) 1,
 i 19 (.mv (.c (I 0))) 0] false)
 (.block 2
 (.loop [0,13,14,17,18,19]
 (.seq (.b6 [i 20 (.bin .lss M5 I6) 0] false)
 (.seq (.cond O6
 .skip
 (.exit 2))
 (.seq (.block 3
 (.seq (.b6 [i 21 (.j3 7 F2 M5) 0,
 i 22 (.load true 7 M6) 1,
 i 6 (.alloc z0) 0,
 iz (.store 7 t6 S3) 7] false)
 (.seq (.b6 [i 23 (mv t0) 0,
 i 24 (.load true 7 t6) 0,
 i 25 (.call V7 [Y3]) 3,
 i 26 (.not Y1) 7] false)
 (.cond t26
 .ret
 .skip))))
 (.b6 [i 27 (.bin .add M5 (.c (I 1))) 0,
 i 19 (mv t27) 1] false)))))))))
 (.b6 [i 28 (.bin .add C7 (.c (I 1))) 0,
 i 14 (mv t28) 1] false))))))⟩
def a1v:m8:=⟨2,26,[.tmp 4],
 .seq (.b6 [i 3 (.box 7 t1) 0,
 i 4 (.mv (.c (.pv (.bool false)))) 0] false)
 (.scope
 (.seq (.b6 [i 5 (.mv (.c (.pv (.bool true)))) 0] false)
 (.seq .skip
 (.seq (.seq (.b6 [i 8 (.build [.pv (.str []),.pv .nilFunc] [(0,1,.c (.pv (.str [70,111,110,116]))),(1,1,.f E8)]) 0,
 i 9 (.build [.pv (.str []),.pv .nilFunc] [(0,1,.c (.pv (.str [80,97,116,116,101,114,110]))),(1,1,.f E8)]) 0,
 i 10 (.build [.pv (.str []),.pv .nilFunc] [(0,1,.c (.pv (.str [70,111,114,109]))),(1,1,.f E8)]) 0,
 i 11 (.build [.pv (.str []),.pv .nilFunc] [(0,1,.c (.pv (.str [69,110,99,111,100,105,110,103]))),(1,1,.f Q5)]) 0,
 i 12 (.build [.pv (.str []),.pv .nilFunc,.pv (.str []),.pv .nilFunc,.pv (.str []),.pv .nilFunc,.pv (.str []),.pv .nilFunc] [(0,2,t8),(2,2,t9),(4,2,u0),(6,2,u7)]) 15,
 i 13 (.mv (.c (I 0))) 0] false)
 (.block 0
 (.loop [0,3,5,12,13]
 (.seq (.b6 [i 14 (.bin .lss z9 (.c (I 4))) 0] false)
 (.seq (.cond C7
 .skip
 (.exit 0))
 (.seq (.block 1
 (.seq (.b6 [i 15 (.index true 4 2 x5 z9) 0,
 i 7 (.alloc [.pv (.str []),.pv .nilFunc]) 0,
 iz (.store 2 t7 G9) 3] false)
 (.seq (.b6 [i 16 (.b0 t7 0) 0,
 i 17 (.load false 1 F9) 1,
 i 18 (mv t0) 0,
 i 19 (.bin .eql F2 I6) 7] false)
 (.cond M5
 (.seq (.b6 [i 20 (.b0 t7 1) 0,
 i 21 (.load false 1 O6) 1,
 i 22 (.load true 7 t3) 0,
 i 23 (.call M6 [S3]) 7,
 i 5 (mv V7) 15] false)
 (.exit 0))
 .skip))))
 (.b6 [i 24 (.bin .add z9 (.c (I 1))) 0,
 i 13 (mv Y3) 1] false)))))))
 (.seq (.b6 [i 25 (mv t5) 0,
 i 4 (mv Y1) 1] false)
 .ret)))))⟩
def N5:m8:=⟨4,40,[.cell 8 true 67,.tmp 9],
 .seq (.b6 [i 4 (.box 67 t0) 0,
 i 5 (.box 29 t1) 0,
 i 8 (.alloc z1) 0,
 i 9 (.mv (.c (I 0))) 0] false)
 (.seq (.b6 [i 14 (.b0 t4 0) 0,
 i 15 (.load true 67 C7) 1,
 i 16 (.b0 t5 28) 0,
 i 17 (.load false 1 F9) 4,
 i 18 (.call (.f Q6) [G9,F2]) 15,
 i 13 (mv I6) 31,
 i 19 (.extract z9 0) 63,
 i 20 (.extract z9 1) 63,
 i 10 (.alloc z1) 0,
 iz (.store 67 u0 M5) 383,
 i 11 (mv O6) 1023] false)
 (.seq (.seq (.b6 [i 21 (mv u7) 0,
 i 22 (.bin .neq M6 (.c (I 0))) 1] false)
 (.cond S3
 (.seq (.b6 [i 23 (.b0 t4 0) 0,
 i 24 (.load true 67 V7) 1,
 i 25 (mv u7) 0,
 iz (.store 67 t8 Y3) 3,
 i 9 (mv Y1) 15] false)
 .ret)
 .skip))
 (.seq (.b6 [i 27 (.load true 67 u0) 0,
 i 28 (mv t3) 0,
 i 29 (.call (.f D8) [t27,t28]) 3,
 i 26 (mv t29) 7,
 i 30 (.extract t26 0) 15,
 i 31 (.extract t26 1) 15,
 i 12 (.alloc z1) 0,
 iz (.store 67 x5 t30) 95,
 i 11 (mv t31) 255] false)
 (.seq (.seq (.b6 [i 32 (mv u7) 0,
 i 33 (.bin .neq t32 (.c (I 0))) 1] false)
 (.cond t33
 (.seq (.b6 [i 34 (.b0 t4 0) 0,
 i 35 (.load true 67 t34) 1,
 i 36 (mv u7) 0,
 iz (.store 67 t8 t35) 3,
 i 9 (mv t36) 15] false)
 .ret)
 .skip))
 (.seq (.b6 [i 37 (mv t2) 0,
 i 38 (.b0 x5 2) 1,
 iz (.store 1 t38 t37) 3] false)
 (.seq (.b6 [i 39 (.load true 67 x5) 0,
 iz (.store 67 t8 t39) 1,
 i 9 (.mv (.c (I 0))) 3] false)
 .ret))))))⟩
def C5:m8:=⟨2,9,[.tmp 4],
 .seq (.b6 [i 4 (.mv (.c (.pv (.bool false)))) 0] false)
 (.seq (.b6 [i 5 (mv t0) 0,
 i 6 (mv t1) 0,
 i 7 (.call (.f D3) [t5,t6]) 3,
 i 8 (.bin .geq t7 (.c (I 0))) 7,
 i 4 (mv t8) 15] false)
 .ret)⟩
def a0O:m8:=⟨1,20,[.cell 2 true 7,.tmp 3],
 .seq (.b6 [i 1 (.box 7 t0) 0,
 i 2 (.alloc z0) 0,
 i 3 (.mv (.c (I 0))) 0] false)
 (.seq (.b6 [i 7 (.load true 7 t1) 0,
 i 8 (.call (.f E3) [t7]) 1,
 i 6 (mv t8) 3,
 i 9 (.extract t6 0) 7,
 i 10 (.extract t6 1) 7,
 i 4 (mv t9) 15,
 i 5 (mv u0) 63] false)
 (.seq (.seq (.b6 [i 11 (mv t5) 0,
 i 12 (.bin .neq u7 (.c (I 0))) 1] false)
 (.cond x5
 (.seq (.b6 [i 13 (.build z0 []) 0,
 i 14 (mv t5) 0,
 iz (.store 7 t2 z9) 1,
 i 3 (mv C7) 7] false)
 .ret)
 .skip))
 (.seq (.b6 [i 15 (mv t4) 0,
 i 16 (.bin .quo G9 (.c (I 65536))) 1,
 i 17 (.call (.f W7) [F9]) 3,
 i 18 (.extract F2 0) 7,
 i 19 (.extract F2 1) 7,
 iz (.store 7 t2 I6) 31,
 i 3 (mv M5) 63] false)
 .ret)))⟩
def K4:m8:=⟨2,15,[.cell 4 true 7,.tmp 5],
 .seq (.b6 [i 4 (.alloc z0) 0,
 i 5 (.mv (.c (I 0))) 0] false)
 (.seq (.b6 [i 7 (mv t1) 0,
 i 8 (mv t0) 0,
 i 9 (.call t7 [t8]) 3,
 i 6 (.alloc z0) 0,
 iz (.store 7 t6 t9) 15] false)
 (.seq (.seq (.b6 [i 10 (.load true 7 t6) 0,
 i 11 (.call (.f n8) [u0]) 1,
 i 12 (.bin .neq u7 (.c (I 0))) 3] false)
 (.cond x5
 (.seq (.b6 [i 13 (.build z0 []) 0,
 iz (.store 7 t4 z9) 1,
 i 5 (.mv (.c (I 2))) 3] false)
 .ret)
 .skip))
 (.seq (.b6 [i 14 (.load true 7 t6) 0,
 iz (.store 7 t4 C7) 1,
 i 5 (.mv (.c (I 0))) 3] false)
 .ret)))⟩
def a0a:m8:=⟨2,7,[.cell 3 true 7],
 .seq (.b6 [i 3 (.alloc z0) 0] false)
 (.seq (.b6 [i 4 (mv t0) 0,
 i 5 (.load false 1 t1) 0,
 i 6 (.build z0 [(0,1,.c (I 5)),(3,1,t4),(1,1,t5)]) 3,
 iz (.store 7 t3 t6) 7] false)
 .ret)⟩
def J2:m8:=⟨2,9,[.tmp 4],
 .seq (.b6 [i 4 (.mv (.c (.pv (.bool false)))) 0] false)
 (.seq (.b6 [i 5 (mv t0) 0,
 i 6 (mv t1) 0,
 i 7 (.call (.f B3) [t5,t6]) 3,
 i 8 (.bin .geq t7 (.c (I 0))) 7,
 i 4 (mv t8) 15] false)
 .ret)⟩
def u9:m8:=⟨2,20,[],
 .seq (.b6 [i 5 (.b0 t1 0) 0,
 i 6 (.b0 t5 3) 1,
 i 7 (.load false 1 t6) 3,
 i 8 (.i9 t7) 7,
 i 9 (.mv (.c (I 0))) 0] false)
 (.block 0
 (.loop [0,7,8,9]
 (.seq (.b6 [i 10 (.bin .lss t9 t8) 0] false)
 (.seq (.cond u0
 .skip
 (.exit 0))
 (.seq (.block 1
 (.seq (.b6 [i 11 (mv t9) 0,
 i 12 (.j3 3 t7 t9) 0,
 i 13 (.load true 3 x5) 2,
 i 4 (.alloc [I 0,.emp 7,I 0]) 0,
 i 3 (mv u7) 15,
 iz (.store 3 t4 z9) 31] false)
 (.seq (.b6 [i 14 (mv t0) 0,
 i 15 (mv t3) 0,
 i 16 (.load true 3 t4) 0,
 i 17 (.call C7 [G9,F9]) 7,
 i 18 (.not F2) 15] false)
 (.cond I6
 .ret
 .skip))))
 (.b6 [i 19 (.bin .add t9 (.c (I 1))) 0,
 i 9 (mv M5) 1] false))))))⟩
def C4:m8:=⟨1,7,[.tmp 2],
 .seq (.b6 [i 1 (.box 6 t0) 0,
 i 2 (.mv (.c (I 0))) 0] false)
 (.seq (.b6 [i 3 (.build [I 0,I 0,I 0,I 0] [(0,1,.c (I 0)),(1,1,.c (I 1000)),(2,1,.c (I 1000)),(3,1,.c (I 0))]) 0,
 i 4 (.b0 t1 5) 0,
 i 5 (.load false 1 t4) 2,
 i 6 (.index false 4 1 t3 t5) 7,
 i 2 (mv t6) 15] false)
 .ret)⟩
def T4:m8:=⟨1,22,[.cell 2 true 7,.tmp 3],
 .seq (.b6 [i 1 (.box 7 t0) 0,
 i 2 (.alloc z0) 0,
 i 3 (.mv (.c (I 0))) 0] false)
 (.seq (.seq (.b6 [i 5 (.load true 7 t1) 0,
 i 6 (.call (.f n8) [t5]) 1,
 i 4 (mv t6) 3] false)
 (.seq (.b6 [i 7 (mv t4) 0,
 i 8 (.bin .neq t7 (.c (I 0))) 1] false)
 (.cond t8
 (.seq (.b6 [i 9 (.build z0 []) 0,
 i 10 (mv t4) 0,
 iz (.store 7 t2 t9) 1,
 i 3 (mv u0) 7] false)
 .ret)
 .skip)))
 (.seq (.seq (.b6 [i 11 (.b0 t1 0) 0,
 i 12 (.load false 1 u7) 1,
 i 13 (.bin .neq x5 (.c (I 3))) 3,
 i 14 (mv z9) 7,
 ig 15 (.b0 t1 0) 14 true 15,
 ig 16 (.load false 1 G9) 14 true 31,
 ig 17 (.bin .neq F9 (.c (I 4))) 14 true 63,
 i 18 (.pick C7 F2 (.c (.pv (.bool false)))) 127] false)
 (.cond I6
 (.seq (.b6 [i 19 (.build z0 []) 0,
 iz (.store 7 t2 M5) 1,
 i 3 (.mv (.c (I 22))) 3] false)
 .ret)
 .skip))
 (.seq (.b6 [i 20 (.load true 7 t1) 0,
 i 21 (.build z0 [(0,7,O6)]) 1,
 iz (.store 7 t2 M6) 3,
 i 3 (.mv (.c (I 0))) 7] false)
 .ret)))⟩
def I4:m8:=⟨1,14,[.tmp 2],
 .seq (.b6 [i 1 (.box 7 t0) 0,
 i 2 (.mv (.c (I 0))) 0] false)
 (.seq (.seq (.b6 [i 3 (.b0 t1 0) 0,
 i 4 (.b0 t3 0) 1,
 i 5 (.load false 1 t4) 3,
 i 6 (.bin .eql t5 (.c (I 3))) 7] false)
 (.cond t6
 (.seq (.b6 [i 7 (.b0 t1 0) 0,
 i 8 (.b0 t7 2) 1,
 i 9 (.load false 1 t8) 3,
 i 10 (.bin .mul t9 (.c (I 65536))) 7,
 i 2 (mv u0) 15] false)
 .ret)
 .skip))
 (.seq (.b6 [i 11 (.b0 t1 0) 0,
 i 12 (.b0 u7 2) 1,
 i 13 (.load false 1 x5) 3,
 i 2 (mv z9) 7] false)
 .ret))⟩
def a0R:m8:=⟨1,6,[.tmp 2],
 .seq (.b6 [i 1 (.box 7 t0) 0,
 i 2 (.mv (.c (.pv (.bool false)))) 0] false)
 (.seq (.b6 [i 3 (.b0 t1 0) 0,
 i 4 (.load false 1 t3) 1,
 i 5 (.bin .eql t4 (.c (I 9))) 3,
 i 2 (mv t5) 7] false)
 .ret)⟩
def a0l:m8:=⟨1,11,[.tmp 2],
 .seq (.b6 [i 1 (.box 7 t0) 0,
 i 2 (.mv (.c (.pv (.bool false)))) 0] false)
 (.seq (.b6 [i 3 (.b0 t1 0) 0,
 i 4 (.load false 1 t3) 1,
 i 5 (.bin .eql t4 (.c (I 7))) 3,
 i 6 (mv t5) 7,
 ig 7 (.b0 t1 0) 6 false 15,
 ig 8 (.load false 1 t7) 6 false 31,
 ig 9 (.bin .eql t8 (.c (I 8))) 6 false 63,
 i 10 (.pick t6 (.c (.pv (.bool true))) t9) 127,
 i 2 (mv u0) 255] false)
 .ret)⟩
def H3:m8:=⟨2,19,[.tmp 4],
 .seq (.b6 [i 4 (.mv (.c (I 0))) 0] false)
 (.seq (.seq (.b6 [i 6 (mv t0) 0,
 i 7 (.i9 t6) 1,
 i 8 (.mv (.c (I 0))) 0] false)
 (.block 0
 (.loop [0,1,7,8]
 (.seq (.b6 [i 9 (.bin .lss t8 t7) 0] false)
 (.seq (.cond t9
 .skip
 (.exit 0))
 (.seq (.block 1
 (.seq (.b6 [i 10 (mv t8) 0,
 i 5 (mv u0) 1] false)
 (.seq (.b6 [i 11 (mv t1) 0,
 i 12 (mv t0) 0,
 i 13 (mv t5) 0,
 i 14 (.j3 1 x5 z9) 6,
 i 15 (.load false 1 C7) 14,
 i 16 (.bin .eql u7 G9) 31] false)
 (.cond F9
 (.seq (.b6 [i 17 (mv t5) 0,
 i 4 (mv F2) 1] false)
 .ret)
 .skip))))
 (.b6 [i 18 (.bin .add t8 (.c (I 1))) 0,
 i 8 (mv I6) 1] false)))))))
 (.seq (.b6 [i 4 (.mv (.c (I (-1)))) 0] false)
 .ret))⟩
def a2S:m8:=⟨1,8,[.cell 2 true 7,.tmp 3],
 .seq (.b6 [i 2 (.alloc z0) 0,
 i 3 (.mv (.c (I 0))) 0] false)
 (.seq (.b6 [i 4 (mv t0) 0,
 i 5 (.call (.f E7) [t4,.f H7]) 1,
 i 6 (.extract t5 0) 3,
 i 7 (.extract t5 1) 3,
 iz (.store 7 t2 t6) 15,
 i 3 (mv t7) 31] false)
 .ret)⟩
end Go.Ab.Td
