/- A part of the proof: the texts TdNm, TdCd0, TdTb. Under: nothing. -/
import Derived.Test.YtngmifmcohmfmaaDoorG05
set_option linter.unusedVariables false
namespace Go.Ab.Td
abbrev S7:Nat:=3
abbrev P5:Nat:=15
abbrev a1w:Nat:=16
abbrev a3M:Nat:=17
abbrev w8:Nat:=18
abbrev q8:Nat:=19
abbrev i3:Nat:=20
abbrev B7:Nat:=21
abbrev c9:Nat:=22
abbrev I6:Nat:=23
abbrev B0:Nat:=24
abbrev n8:Nat:=25
abbrev O2:Nat:=26
abbrev X3:Nat:=27
abbrev W6:Nat:=28
abbrev a0E:Nat:=32
abbrev E4:Nat:=33
abbrev a1x:Nat:=34
abbrev M4:Nat:=35
abbrev a0H:Nat:=36
abbrev C3:Nat:=38
abbrev a5v:Nat:=40
abbrev O0:Nat:=42
abbrev F8:Nat:=43
abbrev a2D:Nat:=44
abbrev K5:Nat:=46
abbrev a2F:Nat:=47
abbrev W8:Nat:=49
abbrev P6:Nat:=51
abbrev E9:Nat:=52
abbrev m8:Nat:=57
abbrev H3:Nat:=58
abbrev N7:Nat:=60
abbrev a2E:Nat:=62
abbrev a0a:Nat:=63
abbrev S4:Nat:=64
abbrev N8:Nat:=65
abbrev a1u:Nat:=67
abbrev K1:Nat:=71
abbrev k8:Nat:=72
abbrev y1:Nat:=73
abbrev a1z:Nat:=75
abbrev D8:Nat:=76
abbrev A9:Nat:=77
abbrev U5:Nat:=78
abbrev o3:Nat:=79
abbrev P0:Nat:=80
abbrev a3g:Nat:=81
abbrev a1v:Nat:=82
abbrev P4:Nat:=83
abbrev J4:Nat:=84
abbrev o7:Nat:=85
abbrev X4:Nat:=86
abbrev a0f:Nat:=87
abbrev U8:Nat:=88
abbrev U9:Nat:=89
abbrev X0:Nat:=90
abbrev J1:Nat:=91
abbrev u4:Nat:=92
abbrev j4:Nat:=93
abbrev o4:Nat:=94
abbrev p8:Nat:=95
abbrev B1:Nat:=96
abbrev a0F:Nat:=97
abbrev M5:Nat:=98
abbrev E5:Nat:=99
abbrev R3:Nat:=101
abbrev I5:Nat:=102
abbrev N9:Nat:=103
abbrev o6:Nat:=104
abbrev D4:Nat:=105
abbrev P3:Nat:=106
abbrev I9:Nat:=108
abbrev p7:Nat:=109
abbrev U6:Nat:=110
abbrev W5:Nat:=111
abbrev S5:Nat:=115
abbrev S6:Nat:=116
abbrev K0:Nat:=118
abbrev U4:Nat:=119
abbrev W7:Nat:=120
abbrev a6S:Nat:=121
abbrev B8:Nat:=122
abbrev O9:Nat:=123
abbrev J3:Nat:=124
abbrev z9:Nat:=125
abbrev A0:Nat:=126
abbrev A1:Nat:=127
abbrev A2:Nat:=128
abbrev l0:Nat:=136
abbrev v3:Nat:=137
abbrev x7:Nat:=138
abbrev L6:Nat:=139
abbrev n5:Nat:=140
abbrev C4:Nat:=141
abbrev u9:Nat:=142
abbrev D7:Nat:=143
abbrev U7:Nat:=144
abbrev W9:Nat:=145
abbrev u5:Nat:=146
abbrev E0:Nat:=147
abbrev J2:Nat:=149
abbrev o0:Nat:=150
abbrev u0:Nat:=151
abbrev a1A:Nat:=152
abbrev J0:Nat:=153
abbrev a1y:Nat:=154
abbrev B9:Nat:=155
abbrev M6:Nat:=156
abbrev l6:Nat:=157
abbrev O3:Nat:=158
abbrev H5:Nat:=159
abbrev D9:Nat:=160
abbrev G1:Nat:=163
abbrev L7:Nat:=164
abbrev y3:Nat:=165
abbrev y8:Nat:=166
abbrev s9:Nat:=167
abbrev F7:Nat:=170
abbrev A8:Nat:=172
abbrev V0:Nat:=173
abbrev n6:Nat:=174
abbrev x5:Nat:=176
abbrev S9:Nat:=177
abbrev C5:Nat:=178
abbrev O8:Nat:=179
abbrev v8:Nat:=180
abbrev l5:Nat:=181
abbrev x4:Nat:=182
abbrev I8:Nat:=183
abbrev A6:Nat:=184
abbrev C8:Nat:=185
abbrev O1:Nat:=186
abbrev B2:Nat:=188
abbrev a0G:Nat:=189
abbrev y7:Nat:=190
abbrev I7:Nat:=191
abbrev S8:Nat:=192
open Go Go.Ab
abbrev I (n:Int):AV:=.pv (.int .i64 n)
abbrev z0:List AV:=[I 0,.pv (.bool false),I 0,.pv (.str []),I 0,I 0,I 0]
abbrev z1:List AV:=[.emp 7,.emp 7,.emp 7,.emp 3,I 0,I 0,I 0,I 0,I 0,I 0,I 0,.emp 7,I 0,I 0,I 0,I 0,I 0,I 0,I 0,I 0,I 0,I 0,I 0,I 0,I 0,I 0,I 0,I 0,I 0,I 0,I 0,I 0,.pv (.bool false),.pv (.bool false),.emp 47,I 0,I 0,I 0,I 0,I 0,I 0,I 0,I 0,.emp 1,I 0,I 0,.emp 2,I 0,.pv (.bool false),I 0,.pv (.str []),I 0,I 0,I 0,I 0,I 0,I 0,I 0,I 0,I 0,I 0,I 0,.emp 57,.emp 47,.emp 3,.pv (.str []),I 0]
abbrev z2:List AV:=[I 0,.pv (.str []),.emp 7,.emp 7,.emp 7,I 0,I 0]
abbrev z3:List AV:=[I 0,.pv (.bool false),I 0,.pv (.str []),I 0,I 0,I 0,I 0,.pv (.bool false),I 0,.pv (.str []),I 0,I 0,I 0,I 0,.pv (.bool false),I 0,.pv (.str []),I 0,I 0,I 0,I 0,.pv (.bool false),I 0,.pv (.str []),I 0,I 0,I 0,I 0]
abbrev z4:List AV:=[I 0,I 0,I 0,I 0,I 0,I 0,.emp 7,I 0,I 0,I 0,I 0,I 0,I 0,I 0,I 0,I 0,I 0,I 0,I 0,I 0,I 0,I 0,I 0,I 0,I 0,I 0,I 0,.pv (.bool false),.pv (.bool false),.emp 47,I 0,I 0,I 0,I 0,I 0,I 0,I 0,I 0,.emp 1,I 0,I 0,.emp 2,I 0,.pv (.bool false),I 0,.pv (.str []),I 0,I 0,I 0,I 0,I 0,I 0,I 0,I 0,I 0,I 0,I 0]
abbrev z5:List AV:=[.pv (.str []),I 0,I 0,I 0,I 0,I 0,.pv (.str []),I 0,I 0,I 0,I 0,I 0,.pv (.str []),I 0,I 0,I 0,I 0,I 0,.pv (.str []),I 0,I 0,I 0,I 0,I 0,.pv (.str []),I 0,I 0,I 0,I 0,I 0,.pv (.str []),I 0,I 0,I 0,I 0,I 0,.pv (.str []),I 0,I 0,I 0,I 0,I 0,.pv (.str []),I 0,I 0,I 0,I 0,I 0,.pv (.str []),I 0,I 0,I 0,I 0,I 0,.pv (.str []),I 0,I 0,I 0,I 0,I 0,.pv (.str []),I 0,I 0,I 0,I 0,I 0,.pv (.str []),I 0,I 0,I 0,I 0,I 0,.pv (.str []),I 0,I 0,I 0,I 0,I 0]
abbrev i (d:Nat) (o:ROp) (p:Nat):l7:=⟨some d,o,none,p⟩
abbrev ig (d:Nat) (o:ROp) (g:Nat) (b:Bool) (p:Nat):l7:=⟨some d,o,some (g,b),p⟩
abbrev iz (o:ROp) (p:Nat):l7:=⟨none,o,none,p⟩
abbrev mv (a:RA):ROp:=.mv a
abbrev t0:RA:=.t 0
abbrev t1:RA:=.t 1
abbrev t2:RA:=.t 2
abbrev t3:RA:=.t 3
abbrev t4:RA:=.t 4
abbrev t5:RA:=.t 5
abbrev t6:RA:=.t 6
abbrev t7:RA:=.t 7
abbrev t8:RA:=.t 8
abbrev t9:RA:=.t 9
abbrev o8:RA:=.t 10
abbrev s8:RA:=.t 11
abbrev y0:RA:=.t 12
abbrev y6:RA:=.t 13
abbrev B3:RA:=.t 14
abbrev G2:RA:=.t 15
abbrev F2:RA:=.t 16
abbrev D5:RA:=.t 17
abbrev G4:RA:=.t 18
abbrev K2:RA:=.t 19
abbrev M1:RA:=.t 20
abbrev K6:RA:=.t 21
abbrev P1:RA:=.t 22
abbrev T7:RA:=.t 23
abbrev X7:RA:=.t 24
abbrev W0:RA:=.t 25
abbrev t26:RA:=.t 26
abbrev t27:RA:=.t 27
abbrev t28:RA:=.t 28
abbrev t29:RA:=.t 29
abbrev t30:RA:=.t 30
abbrev t31:RA:=.t 31
abbrev t32:RA:=.t 32
abbrev t33:RA:=.t 33
abbrev t34:RA:=.t 34
abbrev t35:RA:=.t 35
abbrev t36:RA:=.t 36
abbrev t37:RA:=.t 37
abbrev t38:RA:=.t 38
abbrev t39:RA:=.t 39
abbrev t40:RA:=.t 40
abbrev t41:RA:=.t 41
abbrev t42:RA:=.t 42
abbrev t43:RA:=.t 43
abbrev t44:RA:=.t 44
abbrev t45:RA:=.t 45
abbrev t46:RA:=.t 46
abbrev t47:RA:=.t 47
abbrev t48:RA:=.t 48
abbrev t49:RA:=.t 49
abbrev t50:RA:=.t 50
abbrev t51:RA:=.t 51
abbrev t52:RA:=.t 52
abbrev t53:RA:=.t 53
abbrev t54:RA:=.t 54
abbrev t55:RA:=.t 55
abbrev t56:RA:=.t 56
abbrev t57:RA:=.t 57
abbrev t58:RA:=.t 58
abbrev t59:RA:=.t 59
abbrev t60:RA:=.t 60
abbrev t61:RA:=.t 61
abbrev t62:RA:=.t 62
abbrev t63:RA:=.t 63
abbrev t64:RA:=.t 64
abbrev t65:RA:=.t 65
abbrev t66:RA:=.t 66
abbrev t67:RA:=.t 67
abbrev t68:RA:=.t 68
abbrev t69:RA:=.t 69
abbrev t70:RA:=.t 70
abbrev t71:RA:=.t 71
abbrev t72:RA:=.t 72
abbrev t73:RA:=.t 73
abbrev t74:RA:=.t 74
abbrev t75:RA:=.t 75
abbrev t76:RA:=.t 76
abbrev t77:RA:=.t 77
abbrev t78:RA:=.t 78
abbrev t79:RA:=.t 79
abbrev t80:RA:=.t 80
abbrev t81:RA:=.t 81
abbrev t82:RA:=.t 82
abbrev t83:RA:=.t 83
abbrev t84:RA:=.t 84
abbrev t85:RA:=.t 85
abbrev t86:RA:=.t 86
abbrev t87:RA:=.t 87
abbrev t88:RA:=.t 88
abbrev t89:RA:=.t 89
abbrev t90:RA:=.t 90
abbrev t91:RA:=.t 91
abbrev t92:RA:=.t 92
abbrev t93:RA:=.t 93
abbrev t94:RA:=.t 94
abbrev t95:RA:=.t 95
abbrev t96:RA:=.t 96
abbrev t97:RA:=.t 97
abbrev t98:RA:=.t 98
abbrev t99:RA:=.t 99
abbrev b6U:RA:=.t 100
abbrev b6V:RA:=.t 101
abbrev b6W:RA:=.t 102
abbrev b6X:RA:=.t 103
abbrev b7W:RA:=.t 104
abbrev b7X:RA:=.t 105
abbrev b7Y:RA:=.t 106
abbrev b7Z:RA:=.t 107
abbrev b6Y:RA:=.t 108
abbrev b8a:RA:=.t 109
abbrev b8b:RA:=.t 110
abbrev b8c:RA:=.t 111
abbrev b8d:RA:=.t 112
abbrev b8e:RA:=.t 113
abbrev b8f:RA:=.t 114
abbrev b8g:RA:=.t 115
abbrev b8h:RA:=.t 116
abbrev b8i:RA:=.t 117
abbrev b8j:RA:=.t 118
abbrev b8k:RA:=.t 119
abbrev b8l:RA:=.t 120
abbrev b6Z:RA:=.t 121
abbrev b8m:RA:=.t 122
abbrev b8n:RA:=.t 123
abbrev b8o:RA:=.t 124
abbrev b8p:RA:=.t 125
abbrev b8q:RA:=.t 126
abbrev b7a:RA:=.t 127
abbrev b8r:RA:=.t 128
abbrev b8s:RA:=.t 129
abbrev b8t:RA:=.t 130
abbrev b8u:RA:=.t 131
abbrev b8v:RA:=.t 132
abbrev b8w:RA:=.t 133
abbrev b8x:RA:=.t 134
abbrev b8y:RA:=.t 135
abbrev b8z:RA:=.t 136
abbrev b8A:RA:=.t 137
abbrev b8B:RA:=.t 138
abbrev c0I:RA:=.t 139
abbrev c0J:RA:=.t 140
abbrev c0K:RA:=.t 141
abbrev c0L:RA:=.t 142
abbrev c0M:RA:=.t 143
abbrev c0N:RA:=.t 144
abbrev c0O:RA:=.t 145
abbrev c2L:RA:=.t 146
abbrev c2M:RA:=.t 147
abbrev c2N:RA:=.t 148
abbrev c3X:RA:=.t 149
abbrev c3Y:RA:=.t 150
abbrev c3Z:RA:=.t 151
abbrev c4a:RA:=.t 152
abbrev c4b:RA:=.t 153
abbrev c4c:RA:=.t 154
abbrev c4d:RA:=.t 155
abbrev c4e:RA:=.t 156
abbrev c5I:RA:=.t 157
abbrev c5J:RA:=.t 158
abbrev c5K:RA:=.t 159
abbrev c5L:RA:=.t 160
abbrev c5M:RA:=.t 161
abbrev c4f:RA:=.t 162
abbrev c5N:RA:=.t 163
abbrev c5O:RA:=.t 164
abbrev c5P:RA:=.t 165
abbrev c8a:RA:=.t 166
abbrev c8b:RA:=.t 167
abbrev c8c:RA:=.t 168
abbrev c8d:RA:=.t 169
abbrev c8e:RA:=.t 170
abbrev c8f:RA:=.t 171
abbrev c8g:RA:=.t 172
abbrev c8h:RA:=.t 173
abbrev c8i:RA:=.t 174
abbrev c8j:RA:=.t 175
abbrev c8k:RA:=.t 176
abbrev c8l:RA:=.t 177
abbrev c8m:RA:=.t 178
abbrev c8n:RA:=.t 179
abbrev c8o:RA:=.t 180
abbrev c8p:RA:=.t 181
abbrev c8q:RA:=.t 182
abbrev c8r:RA:=.t 183
abbrev c8s:RA:=.t 184
abbrev c8U:RA:=.t 185
abbrev c8V:RA:=.t 186
abbrev c8W:RA:=.t 187
abbrev c8X:RA:=.t 188
abbrev c8Y:RA:=.t 189
abbrev c8Z:RA:=.t 190
abbrev c9a:RA:=.t 191
abbrev c9b:RA:=.t 192
abbrev c9c:RA:=.t 193
abbrev c9d:RA:=.t 194
abbrev c9e:RA:=.t 195
abbrev c9f:RA:=.t 196
abbrev c9g:RA:=.t 197
abbrev c9h:RA:=.t 198
abbrev c9i:RA:=.t 199
abbrev c9j:RA:=.t 200
abbrev c9k:RA:=.t 201
abbrev c9l:RA:=.t 202
abbrev c9m:RA:=.t 203
abbrev c9n:RA:=.t 204
abbrev c9o:RA:=.t 205
abbrev c9p:RA:=.t 206
abbrev c9q:RA:=.t 207
abbrev c9r:RA:=.t 208
abbrev c9s:RA:=.t 209
abbrev c9t:RA:=.t 210
abbrev c9u:RA:=.t 211
abbrev c9v:RA:=.t 212
abbrev c9w:RA:=.t 213
abbrev c9x:RA:=.t 214
abbrev c9y:RA:=.t 215
abbrev c9z:RA:=.t 216
abbrev c9A:RA:=.t 217
abbrev c9B:RA:=.t 218
abbrev c9C:RA:=.t 219
abbrev c9D:RA:=.t 220
abbrev c9E:RA:=.t 221
abbrev c9F:RA:=.t 222
abbrev c9G:RA:=.t 223
abbrev c9H:RA:=.t 224
abbrev c9I:RA:=.t 225
abbrev c9J:RA:=.t 226
abbrev c9K:RA:=.t 227
abbrev c9L:RA:=.t 228
abbrev c9M:RA:=.t 229
abbrev c9N:RA:=.t 230
abbrev c9O:RA:=.t 231
abbrev c9P:RA:=.t 232
abbrev c9Q:RA:=.t 233
abbrev c9R:RA:=.t 234
abbrev c9S:RA:=.t 235
abbrev c9T:RA:=.t 236
abbrev c9U:RA:=.t 237
abbrev c9V:RA:=.t 238
abbrev c9W:RA:=.t 239
abbrev c9X:RA:=.t 240
abbrev c9Y:RA:=.t 241
abbrev c9Z:RA:=.t 242
abbrev d0a:RA:=.t 243
abbrev d0b:RA:=.t 246
abbrev d0c:RA:=.t 247
abbrev d0d:RA:=.t 248
abbrev d0e:RA:=.t 249
abbrev d0f:RA:=.t 251
abbrev d0g:RA:=.t 252
abbrev d0h:RA:=.t 253
end Go.Ab.Td
namespace Go.Ab.Td
open Go.Ab
def a1I:m0:=⟨4,146,[.tmp 8],
 .seq (.b6 [i 4 (.box 3 t0) 0,
 i 7 (.box 5 t3) 0,
 i 8 (.mv (.c (.pv (.bool false)))) 0] false)
 (.seq (.seq (.b6 [i 24 (.call (.f P5) []) 0,
 i 25 (.not X7) 1] false)
 (.cond W0
 (.seq (.b6 [i 8 (.mv (.c (.pv (.bool false)))) 0] false)
 .ret)
 .skip))
 (.seq (.b6 [i 26 (.load true 3 t4) 0,
 i 27 (.call (.f a1w) [t26]) 1,
 i 9 (.alloc z1) 0,
 iz (.store 67 t9 t27) 7] false)
 (.seq (.seq (.b6 [i 28 (mv t1) 0,
 i 29 (.call (.f a3M) [t28]) 1,
 i 30 (.i5 t29) 3,
 i 31 (.mv (.c (I 0))) 0] false)
 (.block 0
 (.loop [2,7,9,29,30,31]
 (.seq (.b6 [i 32 (.bin .lss t31 t30) 0] false)
 (.seq (.cond t32
 .skip
 (.exit 0))
 (.seq (.block 1
 (.seq (.b6 [i 33 (.i6 6 t29 t31) 0,
 i 34 (.load true 6 t33) 1,
 i 11 (.alloc [.pv (.int .u8 (0)),.pv (.int .u8 (0)),.pv (.int .u8 (0)),.pv (.int .u8 (0)),.pv (.int .i32 (0)),.pv (.str [])]) 0,
 iz (.store 6 s8 t34) 7] false)
 (.seq (.b6 [i 35 (.load true 6 s8) 0,
 i 36 (.call (.f w8) [t35]) 1,
 i 37 (.bin .neq t36 (.c (.pv (.str [])))) 3] false)
 (.cond t37
 (.b6 [i 39 (.load true 67 t9) 0,
 i 40 (.load true 6 s8) 0,
 i 41 (.call (.f w8) [t40]) 2,
 i 42 (.call (.f q8) [t39,t41]) 7,
 i 38 (mv t42) 15,
 i 43 (.extract t38 0) 31,
 i 44 (.extract t38 1) 31,
 iz (.store 67 t9 t43) 63] true)
 (.b6 [i 45 (.load true 6 s8) 0,
 i 46 (.load true 67 t9) 0,
 i 47 (.call (.f i3) [t45,t46]) 3,
 iz (.store 67 t9 t47) 7] false)))))
 (.b6 [i 48 (.bin .add t31 (.c (I 1))) 0,
 i 31 (mv t48) 1] false)))))))
 (.seq (.b6 [i 49 (.b0 t9 0) 0,
 i 50 (.load false 1 t49) 1,
 i 51 (.b0 t9 0) 0,
 i 52 (.load false 1 t51) 4,
 i 53 (.i5 t52) 12,
 i 54 (.mm false [t53,.c (I 99)]) 28,
 i 55 (.slice 7 t50 none (some t54) none) 63,
 i 56 (.b0 t9 0) 127,
 iz (.store 1 t56 t55) 255] false)
 (.seq (.seq (.b6 [i 57 (mv t2) 0,
 i 58 (.conv .u64 t57) 1,
 i 59 (.bin .rem t58 (.c (.pv (.int .u64 (9))))) 3,
 i 60 (.conv .i64 t59) 7,
 i 61 (.bin .add (.c (I 1)) t60) 15,
 i 62 (.call (.f B7) [t61]) 31,
 i 63 (mv t2) 0,
 i 64 (.mm true [t63,.c (I 1)]) 64,
 i 65 (.call (.f B7) [t64]) 255,
 i 66 (.load true 5 t7) 0,
 i 67 (.b0 t9 2) 0,
 i 68 (.load false 1 t67) 1024,
 i 69 (.call (.f c9) [t66,t68]) 4095,
 i 70 (.b0 t9 4) 0,
 i 71 (.load false 1 t70) 8192,
 i 72 (.mm true [t71,.c (I 1)]) 24576,
 i 73 (.call (.f B7) [t72]) 65535,
 i 74 (.build [I 0,.pv (.bool false),I 0,.pv (.str []),I 0,I 0,I 0,I 0,.pv (.bool false),I 0,.pv (.str []),I 0,I 0,I 0,I 0,.pv (.bool false),I 0,.pv (.str []),I 0,I 0,I 0,I 0,.pv (.bool false),I 0,.pv (.str []),I 0,I 0,I 0] [(0,7,t62),(7,7,t65),(14,7,t69),(21,7,t73)]) 131071,
 i 75 (.mv (.c (I 0))) 0] true)
 (.block 2
 (.loop [9,74,75]
 (.seq (.b6 [i 76 (.bin .lss t75 (.c (I 4))) 0] false)
 (.seq (.cond t76
 .skip
 (.exit 2))
 (.seq (.block 3
 (.seq (.b6 [i 77 (.index true 4 7 t74 t75) 0,
 i 13 (.alloc z0) 0,
 iz (.store 7 y6 t77) 3] false)
 (.seq (.b6 [i 78 (.load true 67 t9) 0,
 i 79 (.load true 7 y6) 0,
 i 80 (.M0 7 1 z0 [(0,t79)]) 2,
 i 81 (.call (.f I6) [t78,t80]) 7,
 i 14 (.alloc z1) 0,
 iz (.store 67 B3 t81) 31] false)
 (.seq (.seq (.b6 [i 82 (.build [.pv (.str []),.pv (.str []),.pv (.str []),.pv (.str [])] [(0,1,.c (.pv (.str [114,101,115,116,111,114,101]))),(1,1,.c (.pv (.str [115,97,118,101]))),(2,1,.c (.pv (.str [118,109,115,116,97,116,117,115]))),(3,1,.c (.pv (.str [102,114,101,101])))]) 0,
 i 83 (.mv (.c (I 0))) 0] false)
 (.block 4
 (.loop [9,13,14,74,75,82,83]
 (.seq (.b6 [i 84 (.bin .lss t83 (.c (I 4))) 0] false)
 (.seq (.cond t84
 .skip
 (.exit 4))
 (.seq (.block 5
 (.seq (.b6 [i 85 (.index false 4 1 t82 t83) 0,
 i 16 (mv t85) 1] false)
 (.seq (.b6 [i 87 (.load true 67 B3) 0,
 i 88 (mv F2) 0,
 i 89 (.call (.f B0) [t87,t88]) 3,
 i 86 (mv t89) 7,
 i 90 (.extract t86 0) 15,
 i 91 (.extract t86 1) 15,
 i 17 (.alloc z1) 0,
 iz (.store 67 D5 t90) 95,
 i 18 (mv t91) 255] false)
 (.seq (.b6 [i 93 (.load true 67 B3) 0,
 i 94 (mv F2) 0,
 i 95 (.call (.f q8) [t93,t94]) 3,
 i 92 (mv t95) 7,
 i 96 (.extract t92 0) 15,
 i 97 (.extract t92 1) 15,
 i 19 (.alloc z1) 0,
 iz (.store 67 K2 t96) 95,
 i 20 (mv t97) 255] false)
 (.seq (.b6 [i 98 (mv G4) 0,
 i 99 (mv M1) 0,
 i 100 (.bin .neq t98 t99) 3,
 i 101 (mv b6U) 7,
 ig 102 (.load true 67 D5) 101 false 15,
 ig 103 (.load true 67 K2) 101 false 15,
 ig 104 (.call (.f n8) [b6W,b6X]) 101 false 63,
 ig 105 (.not b7W) 101 false 127,
 i 106 (.pick b6V (.c (.pv (.bool true))) b7X) 255] false)
 (.cond b7Y
 (.seq (.b6 [i 8 (.mv (.c (.pv (.bool false)))) 0] false)
 .ret)
 .skip))))))
 (.b6 [i 107 (.bin .add t83 (.c (I 1))) 0,
 i 83 (mv b7Z) 1] false)))))))
 (.seq (.b6 [i 109 (.load true 67 t9) 0,
 i 110 (.b0 y6 2) 0,
 i 111 (.load false 1 b8b) 2,
 i 112 (.call (.f O2) [b8a,b8c]) 7,
 i 108 (mv b8d) 15,
 i 113 (.extract b6Y 0) 31,
 i 114 (.extract b6Y 1) 31,
 i 21 (mv b8e) 63,
 i 22 (mv b8f) 255] false)
 (.seq (.b6 [i 115 (.load true 67 t9) 0,
 i 116 (.b0 y6 2) 0,
 i 117 (.load false 1 b8h) 2,
 i 118 (.call (.f X3) [b8g,b8i]) 7,
 i 23 (mv b8j) 15] false)
 (.seq (.b6 [i 119 (mv P1) 0,
 i 120 (mv T7) 0,
 i 121 (.bin .geq b8l (.c (I 0))) 2,
 i 122 (.eqb true b8k b6Z) 7,
 i 123 (mv b8m) 15,
 ig 124 (mv P1) 123 false 31,
 ig 125 (mv b8o) 123 false 63,
 ig 126 (mv K6) 125 true 127,
 ig 127 (.b0 t9 3) 125 true 127,
 ig 128 (.load false 1 b7a) 125 true 383,
 ig 129 (mv T7) 125 true 127,
 ig 130 (.i6 3 b8r b8s) 125 true 1919,
 ig 131 (.b0 b8t 1) 125 true 3967,
 ig 132 (.load false 1 b8u) 125 true 8063,
 ig 133 (.i5 b8v) 125 true 16255,
 ig 134 (.bin .neq b8q b8w) 125 true 32767,
 ig 135 (.pick b8p b8x (.c (.pv (.bool false)))) 123 false 65535,
 i 136 (.pick b8n (.c (.pv (.bool true))) b8y) 131071,
 i 137 (mv b8z) 262143,
 ig 138 (mv P1) 137 false 524287,
 ig 139 (.not b8B) 137 false 1048575,
 ig 140 (mv c0I) 137 false 2097151,
 ig 141 (mv K6) 140 true 4194303,
 ig 142 (.bin .neq c0K (.c (I 0))) 140 true 8388607,
 ig 143 (.pick c0J c0L (.c (.pv (.bool false)))) 137 false 16777215,
 i 144 (.pick b8A (.c (.pv (.bool true))) c0M) 33554431] false)
 (.cond c0N
 (.seq (.b6 [i 8 (.mv (.c (.pv (.bool false)))) 0] false)
 .ret)
 .skip))))))))
 (.b6 [i 145 (.bin .add t75 (.c (I 1))) 0,
 i 75 (mv c0O) 1] false)))))))
 (.seq (.b6 [i 8 (.mv (.c (.pv (.bool true)))) 0] false)
 .ret))))))⟩
def a4d:m0:=⟨0,157,[.tmp 0],
 .seq (.b6 [i 0 (.mv (.c (.pv (.bool false)))) 0] false)
 (.seq (.b6 [i 19 (.call (.f P4) []) 0,
 i 20 (.call (.f B0) [K2,.c (.pv (.str [115,97,118,101]))]) 1,
 i 18 (mv M1) 3,
 i 21 (.extract G4 0) 7,
 i 22 (.extract G4 1) 7,
 i 1 (.alloc z1) 0,
 iz (.store 67 t1 K6) 47,
 i 2 (mv P1) 127] false)
 (.seq (.seq (.b6 [i 23 (mv t2) 0,
 i 24 (.bin .neq T7 (.c (I 0))) 1,
 i 25 (mv X7) 3,
 ig 26 (.b0 t1 0) 25 false 7,
 ig 27 (.load false 1 t26) 25 false 15,
 ig 28 (.call (.f B7) [.c (I 1)]) 25 false 7,
 ig 29 (.M0 7 1 z0 [(0,t28)]) 25 false 39,
 ig 30 (.call (.f y1) [t27,t29]) 25 false 127,
 ig 31 (.not t30) 25 false 255,
 i 32 (.pick W0 (.c (.pv (.bool true))) t31) 511,
 i 33 (mv t32) 1023,
 ig 34 (.b0 t1 3) 33 false 2047,
 ig 35 (.load false 1 t34) 33 false 4095,
 ig 36 (.i5 t35) 33 false 8191,
 ig 37 (.bin .neq t36 (.c (I 1))) 33 false 16383,
 i 38 (.pick t33 (.c (.pv (.bool true))) t37) 32767,
 i 39 (mv t38) 65535,
 ig 40 (.b0 t1 62) 39 false 131071,
 ig 41 (.load false 1 t40) 39 false 262143,
 ig 42 (.i5 t41) 39 false 524287,
 ig 43 (.bin .neq t42 (.c (I 1))) 39 false 1048575,
 i 44 (.pick t39 (.c (.pv (.bool true))) t43) 2097151,
 i 45 (mv t44) 4194303,
 ig 46 (.b0 t1 4) 45 false 8388607,
 ig 47 (.load false 1 t46) 45 false 16777215,
 ig 48 (.bin .neq t47 (.c (I 1))) 45 false 33554431,
 i 49 (.pick t45 (.c (.pv (.bool true))) t48) 67108863] true)
 (.cond t49
 (.seq (.b6 [i 0 (.mv (.c (.pv (.bool false)))) 0] false)
 .ret)
 .skip))
 (.seq (.b6 [i 50 (.build z0 [(0,1,.c (I 6)),(4,1,.c (I 10)),(6,1,.c (I 3))]) 0,
 i 3 (.alloc z0) 0,
 iz (.store 7 t3 t50) 3] false)
 (.seq (.b6 [i 52 (.b0 t1 2) 0,
 i 53 (.load false 1 t52) 1,
 i 54 (.load true 7 t3) 0,
 i 55 (.call (.f H3) [t53,t54,.c (I 0),.c (.pv (.str [65]))]) 7,
 i 51 (mv t55) 15,
 i 56 (.extract t51 0) 31,
 i 57 (.extract t51 1) 31,
 i 4 (mv t56) 63,
 i 5 (mv t57) 255] false)
 (.seq (.b6 [i 58 (.load true 67 t1) 0,
 i 6 (.alloc z1) 0,
 iz (.store 67 t6 t58) 3] false)
 (.seq (.b6 [i 59 (mv t4) 0,
 i 60 (.b0 t6 2) 1,
 iz (.store 1 t60 t59) 3,
 i 61 (.b0 t6 5) 7,
 i 62 (.b0 t61 40) 15,
 iz (.store 1 t62 (.c (I 9))) 31] false)
 (.seq (.b6 [i 64 (.load true 67 t6) 0,
 i 65 (.call (.f B0) [t64,.c (.pv (.str [114,101,115,116,111,114,101]))]) 1,
 i 63 (mv t65) 3,
 i 66 (.extract t63 0) 7,
 i 67 (.extract t63 1) 7,
 i 7 (.alloc z1) 0,
 iz (.store 67 t7 t66) 47,
 i 8 (mv t67) 127] false)
 (.seq (.b6 [i 69 (.load true 67 t7) 0,
 i 70 (.call (.f B7) [.c (I 1)]) 0,
 i 71 (.M0 7 1 z0 [(0,t70)]) 2,
 i 72 (.call (.f I6) [t69,t71]) 7,
 i 73 (.call (.f B0) [t72,.c (.pv (.str [114,101,115,116,111,114,101]))]) 15,
 i 68 (mv t73) 31,
 i 74 (.extract t68 0) 63,
 i 75 (.extract t68 1) 63,
 i 9 (.alloc z1) 0,
 iz (.store 67 t9 t74) 383,
 i 10 (mv t75) 1023] true)
 (.seq (.b6 [i 77 (.load true 67 t1) 0,
 i 78 (.call (.f O2) [t77,.c (I 1)]) 1,
 i 76 (mv t78) 3,
 i 79 (.extract t76 0) 7,
 i 80 (.extract t76 1) 7,
 i 11 (mv t79) 15,
 i 12 (mv t80) 63] false)
 (.seq (.b6 [i 82 (.load true 67 t1) 0,
 i 83 (.call (.f B0) [t82,.c (.pv (.str [118,109,115,116,97,116,117,115]))]) 1,
 i 81 (mv t83) 3,
 i 84 (.extract t81 0) 7,
 i 85 (.extract t81 1) 7,
 i 13 (.alloc z1) 0,
 iz (.store 67 y6 t84) 47,
 i 14 (mv t85) 127] false)
 (.seq (.b6 [i 87 (.load true 67 t1) 0,
 i 88 (.load true 7 t3) 0,
 i 89 (.M0 7 1 z0 [(0,t88)]) 2,
 i 90 (.call (.f I6) [t87,t89]) 7,
 i 91 (.call (.f B0) [t90,.c (.pv (.str [114,101,115,116,111,114,101]))]) 15,
 i 86 (mv t91) 31,
 i 92 (.extract t86 0) 63,
 i 93 (.extract t86 1) 63,
 i 15 (.alloc z1) 0,
 iz (.store 67 G2 t92) 383,
 i 16 (mv t93) 1023] false)
 (.seq (.b6 [i 94 (.call (.f P4) []) 0,
 i 17 (.alloc z1) 0,
 iz (.store 67 D5 t94) 3] false)
 (.seq (.b6 [i 95 (.b0 D5 4) 0,
 iz (.store 1 t95 (.c (I 1))) 1] false)
 (.seq (.b6 [i 96 (mv t5) 0,
 i 97 (.bin .eql t96 (.c (I 0))) 1,
 i 98 (mv t97) 3,
 ig 99 (mv t8) 98 true 7,
 ig 100 (.bin .eql t99 (.c (I 0))) 98 true 15,
 i 101 (.pick t98 b6U (.c (.pv (.bool false)))) 31,
 i 102 (mv b6V) 63,
 ig 103 (.load true 67 t7) 102 true 127,
 ig 104 (.load true 67 D5) 102 true 127,
 ig 105 (.call (.f n8) [b6X,b7W]) 102 true 511,
 i 106 (.pick b6W b7X (.c (.pv (.bool false)))) 1023,
 i 107 (mv b7Y) 2047,
 ig 108 (mv o8) 107 true 4095,
 ig 109 (.bin .eql b6Y (.c (I 34))) 107 true 8191,
 i 110 (.pick b7Z b8a (.c (.pv (.bool false)))) 16383,
 i 111 (mv b8b) 32767,
 ig 112 (mv s8) 111 true 65535,
 ig 113 (.bin .eql b8d (.c (I 11))) 111 true 131071,
 i 114 (.pick b8c b8e (.c (.pv (.bool false)))) 262143,
 i 115 (mv b8f) 524287,
 ig 116 (mv y0) 115 true 1048575,
 i 117 (.pick b8g b8h (.c (.pv (.bool false)))) 2097151,
 i 118 (mv b8i) 4194303,
 ig 119 (mv B3) 118 true 8388607,
 ig 120 (.bin .eql b8k (.c (I 0))) 118 true 16777215,
 i 121 (.pick b8j b8l (.c (.pv (.bool false)))) 33554431,
 i 122 (mv b6Z) 67108863,
 ig 123 (.b0 y6 0) 122 true 134217727,
 ig 124 (.load false 1 b8n) 122 true 268435455,
 ig 125 (.i5 b8o) 122 true 536870911,
 ig 126 (.bin .eql b8p (.c (I 4))) 122 true 1073741823,
 i 127 (.pick b8m b8q (.c (.pv (.bool false)))) 2147483647,
 i 128 (mv b7a) 4294967295,
 ig 129 (.b0 y6 0) 128 true 8589934591,
 ig 130 (.load false 1 b8s) 128 true 17179869183,
 ig 131 (.i6 7 b8t (.c (I 1))) 128 true 34359738367,
 ig 132 (.b0 b8u 2) 128 true 68719476735,
 ig 133 (.load false 1 b8v) 128 true 137438953471,
 ig 134 (.bin .eql b8w (.c (I 1))) 128 true 274877906943,
 i 135 (.pick b8r b8x (.c (.pv (.bool false)))) 549755813887,
 i 136 (mv b8y) 1099511627775,
 ig 137 (.b0 y6 0) 136 true 2199023255551,
 ig 138 (.load false 1 b8A) 136 true 4398046511103,
 ig 139 (.i6 7 b8B (.c (I 3))) 136 true 8796093022207,
 ig 140 (.b0 c0I 2) 136 true 17592186044415,
 ig 141 (.load false 1 c0J) 136 true 35184372088831,
 ig 142 (.bin .eql c0K (.c (I 20000))) 136 true 70368744177663,
 i 143 (.pick b8z c0L (.c (.pv (.bool false)))) 140737488355327,
 i 144 (mv c0M) 281474976710655,
 ig 145 (mv F2) 144 true 562949953421311,
 ig 146 (.bin .eql c0O (.c (I 22))) 144 true 1125899906842623,
 i 147 (.pick c0N c2L (.c (.pv (.bool false)))) 2251799813685247,
 i 148 (mv c2M) 4503599627370495,
 ig 149 (.load true 7 t3) 148 true 9007199254740991,
 ig 150 (.call (.f J4) [c3X,.c (I 10)]) 148 true 18014398509481983,
 i 151 (.pick c2N c3Y (.c (.pv (.bool false)))) 36028797018963967,
 i 152 (mv c3Z) 72057594037927935,
 ig 153 (.load true 7 t3) 152 true 144115188075855871,
 ig 154 (.call (.f J4) [c4b,.c (I 11)]) 152 true 288230376151711743,
 ig 155 (.not c4c) 152 true 576460752303423487,
 i 156 (.pick c4a c4d (.c (.pv (.bool false)))) 1152921504606846975,
 i 0 (mv c4e) 2305843009213693951] false)
 .ret))))))))))))))⟩
def a7o:m0:=⟨1,9,[.cell 2 true 67],
 .seq (.b6 [i 1 (.box 3 t0) 0,
 i 2 (.alloc z1) 0] false)
 (.seq (.b6 [i 4 (.load true 3 t1) 0,
 i 5 (.call (.f D8) [t4]) 1,
 i 3 (.alloc z1) 0,
 iz (.store 67 t3 t5) 7] false)
 (.seq (.b6 [i 6 (.b0 t3 5) 0,
 i 7 (.b0 t6 40) 1,
 iz (.store 1 t7 (.c (I 1))) 3] false)
 (.seq (.b6 [i 8 (.load true 67 t3) 0,
 iz (.store 67 t2 t8) 1] false)
 .ret)))⟩
def b0w:m0:=⟨1,8,[.tmp 2],
 .seq (.b6 [i 2 (.mv (.c (.emp 6))) 0] false)
 (.seq (.b6 [i 3 (mv t0) 0,
 i 4 (mv t0) 0,
 i 5 (.i5 t4) 2,
 i 6 (.mm false [t5,.c (I 60)]) 6,
 i 7 (.slice 6 t3 none (some t6) none) 15,
 i 2 (mv t7) 31] false)
 .ret)⟩
def a3A:m0:=⟨1,13,[.tmp 2],
 .seq (.b6 [i 1 (.box 6 t0) 0,
 i 2 (.mv (.c (.pv (.str [])))) 0] false)
 (.seq (.seq (.b6 [i 3 (.b0 t1 0) 0,
 i 4 (.load false 1 t3) 1,
 i 5 (.bin .rem t4 (.c (.pv (.int .u8 (8))))) 3,
 i 6 (.bin .lss t5 (.c (.pv (.int .u8 (3))))) 7] false)
 (.cond t6
 (.seq (.b6 [i 7 (.call (.f a1z) []) 0,
 i 8 (.b0 t1 0) 0,
 i 9 (.load false 1 t8) 2,
 i 10 (.bin .rem t9 (.c (.pv (.int .u8 (8))))) 6,
 i 11 (.i6 1 t7 o8) 15,
 i 12 (.load false 1 s8) 31,
 i 2 (mv y0) 63] true)
 .ret)
 .skip))
 (.seq (.b6 [i 2 (.mv (.c (.pv (.str [])))) 0] false)
 .ret))⟩
def b1H:m0:=⟨2,166,[.cell 4 true 67,.tmp 5],
 .seq (.b6 [i 2 (.box 67 t0) 0,
 i 4 (.alloc z1) 0,
 i 5 (.mv (.c (I 0))) 0] false)
 (.seq (.b6 [i 16 (.b0 t2 0) 0,
 i 17 (.load false 1 F2) 1,
 i 18 (.i5 D5) 3,
 i 6 (mv G4) 7] false)
 (.seq (.seq (.b6 [i 19 (mv t1) 0] false)
 (.block 0
 (.seq (.b6 [i 21 (.bin .eql K2 (.c (.pv (.str [115,97,118,101])))) 0,
 i 20 (mv K6) 1] false)
 (.cond M1
 (.seq (.seq (.b6 [i 22 (.b0 t2 3) 0,
 i 23 (.load false 1 P1) 1,
 i 24 (.i5 T7) 3,
 i 25 (.bin .geq X7 (.c (I 10))) 7,
 i 26 (mv W0) 15,
 ig 27 (.b0 t2 62) 26 false 31,
 ig 28 (.load false 1 t27) 26 false 63,
 ig 29 (.i5 t28) 26 false 127,
 ig 30 (.bin .geq t29 (.c (I 20))) 26 false 255,
 i 31 (.pick t26 (.c (.pv (.bool true))) t30) 511] false)
 (.cond t31
 (.seq (.b6 [i 32 (.load true 67 t2) 0,
 iz (.store 67 t4 t32) 1,
 i 5 (.mv (.c (I 26))) 3] false)
 .ret)
 .skip))
 (.seq (.b6 [i 34 (.load true 67 t2) 0,
 i 35 (.b0 t2 4) 0,
 i 36 (.load false 1 t35) 2,
 i 37 (.bin .add t36 (.c (I 1))) 6,
 i 38 (.build z0 [(0,1,.c (I 12)),(2,1,t37)]) 14,
 i 39 (.M0 7 1 z0 [(0,t38)]) 30,
 i 40 (.call (.f o7) [t34,.c (I 0),t39]) 63,
 i 33 (mv t40) 127,
 i 41 (.extract t33 0) 255,
 i 42 (.extract t33 1) 255,
 i 7 (.alloc z1) 0,
 iz (.store 67 t7 t41) 1535,
 i 8 (mv t42) 4095] false)
 (.seq (.seq (.b6 [i 43 (mv t8) 0,
 i 44 (.bin .neq t43 (.c (I 0))) 1] false)
 (.cond t44
 (.seq (.b6 [i 45 (.load true 67 t2) 0,
 i 46 (mv t8) 0,
 iz (.store 67 t4 t45) 1,
 i 5 (mv t46) 7] false)
 .ret)
 .skip))
 (.seq (.b6 [i 47 (.b0 t2 4) 0,
 i 48 (.load false 1 t47) 1,
 i 49 (.bin .add t48 (.c (I 1))) 3,
 i 50 (.b0 t7 4) 7,
 iz (.store 1 t50 t49) 15] false)
 (.seq (.b6 [i 9 (.mv (.c (.emp 3))) 0] false)
 (.seq (.b6 [i 51 (mv t9) 0,
 i 52 (.b0 t2 3) 0,
 i 53 (.load false 1 t52) 2,
 i 54 (.append 3 40 t51 t53) 7,
 i 55 (.b0 t7 4) 0,
 i 56 (.load false 1 t55) 16,
 i 57 (.b0 t2 2) 0,
 i 58 (.load false 1 t57) 64,
 i 59 (.b0 t2 62) 0,
 i 60 (.load false 1 t59) 256,
 i 61 (.i5 t60) 768,
 i 62 (.build [I 0,.emp 7,I 0] [(0,1,t56),(1,1,t58),(2,1,t61)]) 2032,
 i 63 (.M0 3 1 [I 0,.emp 7,I 0] [(0,t62)]) 4080,
 i 64 (.append 3 40 t54 t63) 8191,
 i 65 (.b0 t7 3) 16383,
 iz (.store 1 t65 t64) 32767] true)
 (.seq (.b6 [i 10 (.mv (.c (.emp 57))) 0] false)
 (.seq (.b6 [i 66 (mv o8) 0,
 i 67 (.b0 t2 62) 0,
 i 68 (.load false 1 t67) 2,
 i 69 (.append 57 520 t66 t68) 7,
 i 70 (.b0 t2 5) 0,
 i 71 (.load true 57 t70) 16,
 i 72 (.M0 57 1 z4 [(0,t71)]) 48,
 i 73 (.append 57 520 t69 t72) 127,
 i 74 (.b0 t7 62) 255,
 iz (.store 1 t74 t73) 511] true)
 (.seq (.b6 [i 75 (.load true 67 t7) 0,
 iz (.store 67 t4 t75) 1,
 i 5 (.mv (.c (I 0))) 3] false)
 .ret)))))))))
 (.seq (.b6 [i 77 (.bin .eql K2 (.c (.pv (.str [114,101,115,116,111,114,101])))) 0,
 i 76 (mv t77) 1] false)
 (.cond t76
 (.seq (.seq (.b6 [i 78 (mv t6) 0,
 i 79 (.bin .lss t78 (.c (I 1))) 1] false)
 (.cond t79
 (.seq (.b6 [i 80 (.load true 67 t2) 0,
 iz (.store 67 t4 t80) 1,
 i 5 (.mv (.c (I 20))) 3] false)
 .ret)
 .skip))
 (.seq (.b6 [i 81 (.b0 t2 0) 0,
 i 82 (.load false 1 t81) 1,
 i 83 (mv t6) 0,
 i 84 (.bin .sub t83 (.c (I 1))) 4,
 i 85 (.i6 7 t82 t84) 15,
 i 86 (.load true 7 t85) 31,
 i 11 (.alloc z0) 0,
 iz (.store 7 s8 t86) 127] false)
 (.seq (.seq (.b6 [i 87 (.b0 s8 0) 0,
 i 88 (.load false 1 t87) 1,
 i 89 (.bin .neq t88 (.c (I 12))) 3] false)
 (.cond t89
 (.seq (.b6 [i 90 (.load true 67 t2) 0,
 iz (.store 67 t4 t90) 1,
 i 5 (.mv (.c (I 22))) 3] false)
 .ret)
 .skip))
 (.seq (.b6 [i 91 (.load true 67 t2) 0,
 i 92 (.b0 s8 2) 0,
 i 93 (.load false 1 t92) 2,
 i 94 (.call (.f X3) [t91,t93]) 7,
 i 12 (mv t94) 15] false)
 (.seq (.seq (.b6 [i 95 (mv y0) 0,
 i 96 (.bin .lss t95 (.c (I 0))) 1] false)
 (.cond t96
 (.seq (.b6 [i 97 (.load true 67 t2) 0,
 iz (.store 67 t4 t97) 1,
 i 5 (.mv (.c (I 34))) 3] false)
 .ret)
 .skip))
 (.seq (.b6 [i 98 (.b0 t2 3) 0,
 i 99 (.load false 1 t98) 1,
 i 100 (mv y0) 0,
 i 101 (.i6 3 t99 b6U) 7,
 i 102 (.load true 3 b6V) 15,
 i 13 (.alloc [I 0,.emp 7,I 0]) 0,
 iz (.store 3 y6 b6W) 63] false)
 (.seq (.seq (.b6 [i 103 (.b0 t2 0) 0,
 i 104 (.load false 1 b6X) 1,
 i 105 (mv t6) 0,
 i 106 (.bin .sub b7X (.c (I 1))) 4,
 i 107 (.slice 7 b7W none (some b7Y) none) 15,
 i 108 (.b0 y6 1) 0,
 i 109 (.load false 1 b6Y) 32,
 i 110 (.i5 b8a) 96,
 i 111 (.call (.f X4) [b7Z,b8b]) 255,
 i 112 (mv b8c) 511,
 ig 113 (.b0 t2 1) 112 false 1023,
 ig 114 (.load false 1 b8e) 112 false 2047,
 ig 115 (.b0 y6 1) 112 false 1023,
 ig 116 (.load false 1 b8g) 112 false 5119,
 ig 117 (.i5 b8h) 112 false 13311,
 ig 118 (.call (.f X4) [b8f,b8i]) 112 false 32767,
 i 119 (.pick b8d (.c (.pv (.bool true))) b8j) 65535] true)
 (.cond b8k
 (.seq (.b6 [i 120 (.load true 67 t2) 0,
 iz (.store 67 t4 b8l) 1,
 i 5 (.mv (.c (I 34))) 3] false)
 .ret)
 .skip))
 (.seq (.b6 [i 122 (.load true 67 t2) 0,
 i 123 (.call (.f o7) [b8m,.c (I 1),.c (.emp 7)]) 1,
 i 121 (mv b8n) 3,
 i 124 (.extract b6Z 0) 7,
 i 125 (.extract b6Z 1) 7,
 i 14 (.alloc z1) 0,
 iz (.store 67 B3 b8o) 47,
 i 15 (mv b8p) 127] false)
 (.seq (.b6 [i 126 (.b0 y6 1) 0,
 i 127 (.load false 1 b8q) 1,
 i 128 (.b0 B3 2) 3,
 iz (.store 1 b8r b7a) 7] false)
 (.seq (.b6 [i 129 (.b0 t2 62) 0,
 i 130 (.load false 1 b8s) 1,
 i 131 (.b0 y6 2) 0,
 i 132 (.load false 1 b8u) 4,
 i 133 (.i6 57 b8t b8v) 15,
 i 134 (.load true 57 b8w) 31,
 i 135 (.b0 B3 5) 63,
 iz (.store 57 b8y b8x) 127] false)
 (.seq (.b6 [i 136 (.b0 t2 62) 0,
 i 137 (.load false 1 b8z) 1,
 i 138 (.b0 y6 2) 0,
 i 139 (.load false 1 b8B) 4,
 i 140 (.slice 57 b8A none (some c0I) none) 15,
 i 141 (.b0 B3 62) 31,
 iz (.store 1 c0K c0J) 63] false)
 (.seq (.b6 [i 142 (.b0 t2 3) 0,
 i 143 (.load false 1 c0L) 1,
 i 144 (mv y0) 0,
 i 145 (.slice 3 c0M none (some c0N) none) 7,
 i 146 (.b0 B3 3) 15,
 iz (.store 1 c2L c0O) 31] false)
 (.seq (.b6 [i 147 (.load true 67 B3) 0,
 i 148 (mv G2) 0,
 iz (.store 67 t4 c2M) 1,
 i 5 (mv c2N) 7] false)
 .ret)))))))))))))
 (.seq (.b6 [i 150 (.bin .eql K2 (.c (.pv (.str [118,109,115,116,97,116,117,115])))) 0,
 i 149 (mv c3Y) 1] false)
 (.cond c3X
 (.seq (.b6 [i 151 (.load true 67 t2) 0,
 i 152 (.b0 t2 3) 0,
 i 153 (.load false 1 c4a) 2,
 i 154 (.i5 c4b) 6,
 i 155 (.call (.f a0f) [c4c]) 14,
 i 156 (.b0 t2 2) 0,
 i 157 (.load false 1 c4e) 32,
 i 158 (.call (.f a1x) [c5I]) 126,
 i 159 (.call (.f a0f) [c5J]) 254,
 i 160 (.call (.f a0f) [.c (I 20000)]) 510,
 i 161 (.M0 7 3 z0 [(0,c4d),(1,c5K),(2,c5L)]) 1022,
 i 162 (.call (.f o7) [c3Z,.c (I 0),c5M]) 2047,
 i 163 (.extract c4f 0) 4095,
 i 164 (.extract c4f 1) 4095,
 iz (.store 67 t4 c5N) 16383,
 i 5 (mv c5O) 32767] true)
 .ret)
 .skip))))))))
 (.seq (.b6 [i 165 (.load true 67 t2) 0,
 iz (.store 67 t4 c5P) 1,
 i 5 (.mv (.c (I 24))) 3] false)
 .ret)))⟩
def a2X:m0:=⟨2,166,[.cell 4 true 67],
 .seq (.b6 [i 2 (.box 6 t0) 0,
 i 3 (.box 67 t1) 0,
 i 4 (.alloc z1) 0] false)
 (.seq (.b6 [i 11 (.b0 t2 1) 0,
 i 12 (.load true 5 s8) 1,
 i 13 (.b0 t3 2) 0,
 i 14 (.load false 1 y6) 4,
 i 15 (.call (.f c9) [y0,B3]) 15,
 i 5 (.alloc z0) 0,
 iz (.store 7 t5 G2) 63] false)
 (.seq (.seq (.b6 [i 16 (.b0 t2 0) 0,
 i 17 (.load false 1 F2) 1,
 i 18 (.bin .rem D5 (.c (.pv (.int .u8 (8))))) 3] false)
 (.block 0
 (.seq (.b6 [i 20 (.bin .eql G4 (.c (.pv (.int .u8 (3))))) 0,
 i 19 (mv M1) 1] false)
 (.cond K2
 (.seq (.b6 [i 21 (.b0 t3 0) 0,
 i 22 (.load false 1 K6) 1,
 i 23 (.i5 P1) 3,
 i 24 (.bin .lss T7 (.c (I 100))) 7] false)
 (.cond X7
 (.b6 [i 26 (.load true 67 t3) 0,
 i 27 (.load true 7 t5) 0,
 i 28 (.M0 7 1 z0 [(0,t27)]) 2,
 i 29 (.call (.f o7) [t26,.c (I 0),t28]) 7,
 i 25 (mv t29) 15,
 i 30 (.extract W0 0) 31,
 i 31 (.extract W0 1) 31,
 iz (.store 67 t3 t30) 63] false)
 .skip))
 (.seq (.b6 [i 33 (.bin .eql G4 (.c (.pv (.int .u8 (4))))) 0,
 i 32 (mv t33) 1] false)
 (.cond t32
 (.b6 [i 35 (.load true 67 t3) 0,
 i 36 (.b0 t3 0) 0,
 i 37 (.load false 1 t36) 2,
 i 38 (.i5 t37) 6,
 i 39 (.b0 t2 1) 0,
 i 40 (.b0 t39 1) 16,
 i 41 (.load false 1 t40) 48,
 i 42 (.bin .rem t41 (.c (.pv (.int .u8 (2))))) 112,
 i 43 (.conv .i64 t42) 240,
 i 44 (.bin .add (.c (I 1)) t43) 496,
 i 45 (.mm false [t38,t44]) 1022,
 i 46 (.call (.f o7) [t35,t45,.c (.emp 7)]) 2047,
 i 34 (mv t46) 4095,
 i 47 (.extract t34 0) 8191,
 i 48 (.extract t34 1) 8191,
 iz (.store 67 t3 t47) 16383] false)
 (.seq (.b6 [i 50 (.bin .eql G4 (.c (.pv (.int .u8 (5))))) 0,
 i 49 (mv t50) 1] false)
 (.cond t49
 (.seq (.b6 [i 51 (.b0 t2 1) 0,
 i 52 (.load true 5 t51) 1,
 i 53 (.b0 t3 2) 0,
 i 54 (.load false 1 t53) 4,
 i 55 (.call (.f m8) [t52,t54]) 15,
 i 6 (.alloc z2) 0,
 iz (.store 7 t6 t55) 63] false)
 (.seq (.b6 [i 56 (.b0 t3 2) 0,
 i 57 (.load false 1 t56) 1,
 i 58 (.i5 t57) 3,
 i 59 (.bin .lss t58 (.c (I 60))) 7,
 i 60 (mv t59) 15,
 ig 61 (.b0 t3 0) 60 true 31,
 ig 62 (.load false 1 t61) 60 true 63,
 ig 63 (.i5 t62) 60 true 127,
 ig 64 (.bin .lss t63 (.c (I 100))) 60 true 255,
 i 65 (.pick t60 t64 (.c (.pv (.bool false)))) 511] false)
 (.cond t65
 (.seq (.b6 [i 7 (.mv (.c (.emp 7))) 0] false)
 (.seq (.b6 [i 66 (mv t7) 0,
 i 67 (.b0 t3 2) 0,
 i 68 (.load false 1 t67) 2,
 i 69 (.append 7 112 t66 t68) 7,
 i 70 (.load true 7 t6) 0,
 i 71 (.M0 7 1 z2 [(0,t70)]) 16,
 i 72 (.append 7 112 t69 t71) 63,
 i 73 (.b0 t3 2) 127,
 iz (.store 1 t73 t72) 255] true)
 (.seq (.b6 [i 74 (.b0 t6 0) 0,
 i 75 (.load false 1 t74) 1,
 i 76 (.bin .eql t75 (.c (I 1))) 3] false)
 (.cond t76
 (.b6 [i 78 (.load true 67 t3) 0,
 i 79 (mv t7) 0,
 i 80 (.i5 t79) 2,
 i 81 (.b0 t3 2) 0,
 i 82 (.load false 1 t81) 8,
 i 83 (.i5 t82) 24,
 i 84 (.bin .add t80 t83) 62,
 i 85 (.bin .sub t84 (.c (I 1))) 126,
 i 86 (.b0 t6 1) 0,
 i 87 (.load false 1 t86) 256,
 i 88 (.H0 t87) 768,
 i 89 (.build z0 [(0,1,.c (I 6)),(4,1,t85),(6,1,t88)]) 2046,
 i 90 (.M0 7 1 z0 [(0,t89)]) 4094,
 i 91 (.call (.f o7) [t78,.c (I 0),t90]) 8191,
 i 77 (mv t91) 16383,
 i 92 (.extract t77 0) 32767,
 i 93 (.extract t77 1) 32767,
 iz (.store 67 t3 t92) 65535] false)
 .skip))))
 .skip)))
 (.seq (.b6 [i 95 (.bin .eql G4 (.c (.pv (.int .u8 (6))))) 0,
 i 94 (mv t95) 1] false)
 (.cond t94
 (.seq (.seq (.b6 [i 96 (.b0 t5 0) 0,
 i 97 (.load false 1 t96) 1,
 i 98 (.bin .eql t97 (.c (I 6))) 3,
 i 99 (mv t98) 7,
 ig 100 (.b0 t5 6) 99 true 15,
 ig 101 (.load false 1 b6U) 99 true 31,
 ig 102 (.bin .gtr b6V (.c (I 0))) 99 true 63,
 i 103 (.pick t99 b6W (.c (.pv (.bool false)))) 127] false)
 (.cond b6X
 (.b6 [i 104 (.b0 t3 2) 0,
 i 105 (.load false 1 b7W) 1,
 i 106 (.load true 7 t5) 0,
 i 107 (.call (.f U8) [b7X,b7Y,.c (I 0),.c (.pv (.str [122]))]) 7,
 i 108 (.b0 t3 2) 15,
 iz (.store 1 b6Y b7Z) 31] false)
 .skip))
 (.seq (.seq (.b6 [i 109 (.b0 t5 0) 0,
 i 110 (.load false 1 b8a) 1,
 i 111 (.bin .eql b8b (.c (I 7))) 3,
 i 112 (mv b8c) 7,
 ig 113 (.b0 t5 6) 112 true 15,
 ig 114 (.load false 1 b8e) 112 true 31,
 ig 115 (.bin .gtr b8f (.c (I 0))) 112 true 63,
 i 116 (.pick b8d b8g (.c (.pv (.bool false)))) 127] false)
 (.cond b8h
 (.b6 [i 117 (.b0 t3 2) 0,
 i 118 (.load false 1 b8i) 1,
 i 119 (.load true 7 t5) 0,
 i 120 (.load true 7 t5) 0,
 i 121 (.M0 7 1 z0 [(0,b8l)]) 8,
 i 122 (.call (.f U9) [b8j,b8k,.c (I 0),b6Z]) 31,
 i 123 (.b0 t3 2) 63,
 iz (.store 1 b8n b8m) 127] false)
 .skip))
 (.seq (.b6 [i 124 (.b0 t5 0) 0,
 i 125 (.load false 1 b8o) 1,
 i 126 (.bin .eql b8p (.c (I 9))) 3] false)
 (.cond b8q
 (.seq (.b6 [i 128 (.b0 t3 2) 0,
 i 129 (.load false 1 b8r) 1,
 i 130 (.load true 7 t5) 0,
 i 131 (.build z0 [(0,1,.c (I 5)),(3,1,.c (.pv (.str [110,101,119])))]) 0,
 i 132 (.load true 7 t5) 0,
 i 133 (.call (.f X0) [b8s,b8t,b8u,b8v]) 31,
 i 127 (mv b8w) 63,
 i 134 (.extract b7a 0) 127,
 i 135 (.extract b7a 1) 127,
 i 8 (mv b8x) 255,
 i 9 (mv b8y) 1023] false)
 (.seq (.b6 [i 136 (mv t9) 0] false)
 (.cond b8z
 (.b6 [i 137 (mv t8) 0,
 i 138 (.b0 t3 2) 1,
 iz (.store 1 b8B b8A) 3] false)
 .skip)))
 .skip))))
 (.seq (.b6 [i 140 (.bin .eql G4 (.c (.pv (.int .u8 (7))))) 0,
 i 139 (mv c0J) 1] false)
 (.cond c0I
 (.seq (.b6 [i 141 (.b0 t2 1) 0,
 i 142 (.b0 c0K 1) 1,
 i 143 (.load false 1 c0L) 3,
 i 144 (.conv .i64 c0M) 7,
 i 145 (.bin .add (.c (I 1)) c0N) 15,
 i 146 (.b0 t3 5) 31,
 i 147 (.b0 c2L 40) 63,
 iz (.store 1 c2M c0O) 127] false)
 (.seq (.b6 [i 148 (.b0 t5 0) 0,
 i 149 (.load false 1 c2N) 1,
 i 150 (.bin .eql c3X (.c (I 9))) 3,
 i 151 (mv c3Y) 7,
 ig 152 (.b0 t3 1) 151 true 15,
 ig 153 (.load false 1 c4a) 151 true 31,
 ig 154 (.i5 c4b) 151 true 63,
 ig 155 (.bin .lss c4c (.c (I 20))) 151 true 127,
 i 156 (.pick c3Z c4d (.c (.pv (.bool false)))) 255] false)
 (.cond c4e
 (.seq (.b6 [i 10 (.mv (.c (.emp 7))) 0] false)
 (.b6 [i 157 (mv o8) 0,
 i 158 (.b0 t3 1) 0,
 i 159 (.load false 1 c5J) 2,
 i 160 (.append 7 64 c5I c5K) 7,
 i 161 (.load true 7 t5) 0,
 i 162 (.M0 7 1 z0 [(0,c5M)]) 16,
 i 163 (.append 7 64 c5L c4f) 63,
 i 164 (.b0 t3 1) 127,
 iz (.store 1 c5O c5N) 255] true))
 .skip)))
 .skip))))))))))))
 (.seq (.b6 [i 165 (.load true 67 t3) 0,
 iz (.store 67 t4 c5P) 1] false)
 .ret)))⟩
def a4c:m0:=⟨1,5,[.cell 2 true 7],
 .seq (.b6 [i 2 (.alloc z0) 0] false)
 (.seq (.b6 [i 3 (mv t0) 0,
 i 4 (.build z0 [(0,1,.c (I 12)),(2,1,t3)]) 1,
 iz (.store 7 t2 t4) 3] false)
 .ret)⟩
def a4x:m0:=⟨2,84,[.cell 4 true 7],
 .seq (.b6 [i 2 (.box 5 t0) 0,
 i 4 (.alloc z0) 0] false)
 (.seq (.b6 [i 6 (.b0 t2 3) 0,
 i 7 (.load false 1 t6) 1,
 i 8 (.conv .i64 t7) 3,
 i 5 (mv t8) 7] false)
 (.seq (.seq (.b6 [i 9 (.b0 t2 0) 0,
 i 10 (.load false 1 t9) 1,
 i 11 (.bin .rem o8 (.c (.pv (.int .u8 (16))))) 3] false)
 (.block 0
 (.seq (.b6 [i 13 (.bin .eql s8 (.c (.pv (.int .u8 (0))))) 0,
 i 12 (mv y6) 1] false)
 (.cond y0
 (.seq (.b6 [i 14 (.build z0 [(0,1,.c (I 0))]) 0,
 iz (.store 7 t4 B3) 1] false)
 .ret)
 (.seq (.b6 [i 16 (.bin .eql s8 (.c (.pv (.int .u8 (1))))) 0,
 i 15 (mv F2) 1] false)
 (.cond G2
 (.seq (.b6 [i 17 (.build z0 [(0,1,.c (I 1))]) 0,
 iz (.store 7 t4 D5) 1] false)
 .ret)
 (.seq (.b6 [i 19 (.bin .eql s8 (.c (.pv (.int .u8 (2))))) 0,
 i 18 (mv K2) 1] false)
 (.cond G4
 (.seq (.b6 [i 20 (.b0 t2 1) 0,
 i 21 (.load false 1 M1) 1,
 i 22 (.bin .rem K6 (.c (.pv (.int .u8 (2))))) 3,
 i 23 (.conv .i64 P1) 7,
 i 24 (.build z0 [(0,1,.c (I 2)),(2,1,T7)]) 15,
 iz (.store 7 t4 X7) 31] false)
 .ret)
 (.seq (.seq (.b6 [i 26 (.bin .eql s8 (.c (.pv (.int .u8 (3))))) 0,
 i 25 (mv t26) 1] false)
 (.cond W0
 .skip
 (.b6 [i 27 (.bin .eql s8 (.c (.pv (.int .u8 (4))))) 0,
 i 25 (mv t27) 1] false)))
 (.cond W0
 (.seq (.b6 [i 28 (mv t5) 0,
 i 29 (.bin .rem t28 (.c (I 10))) 1,
 i 30 (.build z0 [(0,1,.c (I 3)),(2,1,t29)]) 3,
 iz (.store 7 t4 t30) 7] false)
 .ret)
 (.seq (.b6 [i 32 (.bin .eql s8 (.c (.pv (.int .u8 (5))))) 0,
 i 31 (mv t32) 1] false)
 (.cond t31
 (.seq (.b6 [i 33 (mv t5) 0,
 i 34 (.build z0 [(0,1,.c (I 3)),(2,1,t33)]) 1,
 iz (.store 7 t4 t34) 3] false)
 .ret)
 (.seq (.b6 [i 36 (.bin .eql s8 (.c (.pv (.int .u8 (6))))) 0,
 i 35 (mv t36) 1] false)
 (.cond t35
 (.seq (.b6 [i 37 (mv t5) 0,
 i 38 (.bin .rem t37 (.c (I 1048576))) 1,
 i 39 (.build z0 [(0,1,.c (I 4)),(2,1,t38)]) 3,
 iz (.store 7 t4 t39) 7] false)
 .ret)
 (.seq (.b6 [i 41 (.bin .eql s8 (.c (.pv (.int .u8 (7))))) 0,
 i 40 (mv t41) 1] false)
 (.cond t40
 (.seq (.b6 [i 42 (mv t5) 0,
 i 43 (.build z0 [(0,1,.c (I 4)),(2,1,t42)]) 1,
 iz (.store 7 t4 t43) 3] false)
 .ret)
 (.seq (.seq (.b6 [i 45 (.bin .eql s8 (.c (.pv (.int .u8 (8))))) 0,
 i 44 (mv t45) 1] false)
 (.cond t44
 .skip
 (.b6 [i 46 (.bin .eql s8 (.c (.pv (.int .u8 (9))))) 0,
 i 44 (mv t46) 1] false)))
 (.cond t44
 (.seq (.b6 [i 47 (.b0 t2 0) 0,
 i 48 (.load false 1 t47) 1,
 i 49 (.bin .rem t48 (.c (.pv (.int .u8 (16))))) 3,
 i 50 (.bin .eql t49 (.c (.pv (.int .u8 (9))))) 7,
 i 51 (.b0 t2 1) 0,
 i 52 (.load false 1 t51) 16,
 i 53 (.conv .i64 t52) 48,
 i 54 (.bin .rem t53 (.c (I 8))) 112,
 i 55 (.a7G 8 1 (.g 0) t54) 240,
 i 56 (.load false 1 t55) 496,
 i 57 (.build z0 [(0,1,.c (I 5)),(1,1,t50),(3,1,t56)]) 1023,
 iz (.store 7 t4 t57) 2047] true)
 .ret)
 (.seq (.b6 [i 59 (.bin .eql s8 (.c (.pv (.int .u8 (10))))) 0,
 i 58 (mv t59) 1] false)
 (.cond t58
 (.seq (.b6 [i 60 (mv t1) 0,
 i 61 (.load true 5 t2) 0,
 i 62 (.call (.f J1) [t60,.c (I 6),.c (I 1),t61]) 3,
 iz (.store 7 t4 t62) 7] false)
 .ret)
 (.seq (.b6 [i 64 (.bin .eql s8 (.c (.pv (.int .u8 (11))))) 0,
 i 63 (mv t64) 1] false)
 (.cond t63
 (.seq (.b6 [i 65 (mv t1) 0,
 i 66 (.load true 5 t2) 0,
 i 67 (.call (.f J1) [t65,.c (I 7),.c (I 2),t66]) 3,
 iz (.store 7 t4 t67) 7] false)
 .ret)
 (.seq (.b6 [i 69 (.bin .eql s8 (.c (.pv (.int .u8 (12))))) 0,
 i 68 (mv t69) 1] false)
 (.cond t68
 (.seq (.b6 [i 70 (mv t1) 0,
 i 71 (.load true 5 t2) 0,
 i 72 (.call (.f J1) [t70,.c (I 8),.c (I 2),t71]) 3,
 iz (.store 7 t4 t72) 7] false)
 .ret)
 (.seq (.b6 [i 74 (.bin .eql s8 (.c (.pv (.int .u8 (13))))) 0,
 i 73 (mv t74) 1] false)
 (.cond t73
 (.seq (.b6 [i 75 (mv t1) 0,
 i 76 (.load true 5 t2) 0,
 i 77 (.call (.f J1) [t75,.c (I 9),.c (I 3),t76]) 3,
 iz (.store 7 t4 t77) 7] false)
 .ret)
 (.seq (.b6 [i 79 (.bin .eql s8 (.c (.pv (.int .u8 (14))))) 0,
 i 78 (mv t79) 1] false)
 (.cond t78
 (.seq (.b6 [i 80 (.build z0 [(0,1,.c (I 10)),(1,1,.c (.pv (.bool true))),(3,1,.c (.pv (.str [97,100,100])))]) 0,
 iz (.store 7 t4 t80) 1] false)
 .ret)
 .skip))))))))))))))))))))))))))))
 (.seq (.b6 [i 81 (mv t1) 0,
 i 82 (.load true 5 t2) 0,
 i 83 (.call (.f J1) [t81,.c (I 11),.c (I 4),t82]) 3,
 iz (.store 7 t4 t83) 7] false)
 .ret)))⟩
def a2r:m0:=⟨2,12,[.cell 4 true 67],
 .seq (.b6 [i 2 (.box 67 t0) 0,
 i 4 (.alloc z1) 0] false)
 (.seq (.b6 [i 5 (.b0 t2 0) 0,
 i 6 (.load false 1 t5) 1,
 i 7 (.call (.f k8) [t6]) 3,
 i 8 (mv t1) 0,
 i 9 (.append 7 64 t7 t8) 15,
 i 10 (.b0 t2 0) 31,
 iz (.store 1 o8 t9) 63] false)
 (.seq (.b6 [i 11 (.load true 67 t2) 0,
 iz (.store 67 t4 s8) 1] false)
 .ret))⟩
def a9D:m0:=⟨2,26,[.cell 4 true 67,.tmp 5],
 .seq (.b6 [i 2 (.box 67 t0) 0,
 i 4 (.alloc z1) 0,
 i 5 (.mv (.c (I 0))) 0] false)
 (.seq (.b6 [i 9 (.b0G) 0,
 iz (.insert t9 (.c (.pv (.str [115,97,118,101]))) (.f u4)) 1,
 iz (.insert t9 (.c (.pv (.str [114,101,115,116,111,114,101]))) (.f j4)) 1,
 iz (.insert t9 (.c (.pv (.str [118,109,115,116,97,116,117,115]))) (.f o4)) 1,
 i 10 (mv t9) 15,
 i 6 (mv o8) 31] false)
 (.seq (.b6 [i 12 (mv t6) 0,
 i 13 (mv t1) 0,
 i 14 (.lookup y0 y6 (.pv .nilFunc)) 3,
 i 11 (mv B3) 7,
 i 15 (.extract s8 0) 15,
 i 16 (.extract s8 1) 15,
 i 7 (mv G2) 31,
 i 8 (mv F2) 127] false)
 (.seq (.seq (.b6 [i 17 (mv t8) 0,
 i 18 (.not D5) 1] false)
 (.cond G4
 (.seq (.b6 [i 19 (.load true 67 t2) 0,
 iz (.store 67 t4 K2) 1,
 i 5 (.mv (.c (I 24))) 3] false)
 .ret)
 .skip))
 (.seq (.b6 [i 20 (mv t7) 0,
 i 21 (.load true 67 t2) 0,
 i 22 (.build z1 [(0,67,K6)]) 2,
 i 23 (.call M1 [P1]) 7,
 i 24 (.extract T7 0) 15,
 i 25 (.extract T7 1) 15,
 iz (.store 67 t4 X7) 63,
 i 5 (mv W0) 127] false)
 .ret))))⟩
def Q9:m0:=⟨2,149,[.tmp 4],
 .seq (.b6 [i 2 (.box 67 t0) 0,
 i 3 (.box 67 t1) 0,
 i 4 (.mv (.c (.pv (.bool false)))) 0] false)
 (.seq (.seq (.b6 [i 9 (.b0 t2 0) 0,
 i 10 (.load false 1 t9) 1,
 i 11 (.b0 t3 0) 0,
 i 12 (.load false 1 s8) 4,
 i 13 (.call (.f p8) [o8,y0]) 15,
 i 14 (.not y6) 31,
 i 15 (mv B3) 63,
 ig 16 (.b0 t2 1) 15 false 127,
 ig 17 (.load false 1 F2) 15 false 255,
 ig 18 (.b0 t3 1) 15 false 127,
 ig 19 (.load false 1 G4) 15 false 639,
 ig 20 (.call (.f p8) [D5,K2]) 15 false 2047,
 ig 21 (.not M1) 15 false 4095,
 i 22 (.pick G2 (.c (.pv (.bool true))) K6) 8191,
 i 23 (mv P1) 16383,
 ig 24 (.b0 t2 2) 23 false 32767,
 ig 25 (.load false 1 X7) 23 false 65535,
 ig 26 (.b0 t3 2) 23 false 32767,
 ig 27 (.load false 1 t26) 23 false 163839,
 ig 28 (.call (.f O0) [W0,t27]) 23 false 524287,
 ig 29 (.not t28) 23 false 1048575,
 i 30 (.pick T7 (.c (.pv (.bool true))) t29) 2097151,
 i 31 (mv t30) 4194303,
 ig 32 (.b0 t2 3) 31 false 8388607,
 ig 33 (.load false 1 t32) 31 false 16777215,
 ig 34 (.i5 t33) 31 false 33554431,
 ig 35 (.b0 t3 3) 31 false 8388607,
 ig 36 (.load false 1 t35) 31 false 75497471,
 ig 37 (.i5 t36) 31 false 209715199,
 ig 38 (.bin .neq t34 t37) 31 false 536870911,
 i 39 (.pick t31 (.c (.pv (.bool true))) t38) 1073741823,
 i 40 (mv t39) 2147483647,
 ig 41 (.b0 t2 4) 40 false 4294967295,
 ig 42 (.load false 1 t41) 40 false 8589934591,
 ig 43 (.b0 t3 4) 40 false 4294967295,
 ig 44 (.load false 1 t43) 40 false 21474836479,
 ig 45 (.bin .neq t42 t44) 40 false 68719476735,
 i 46 (.pick t40 (.c (.pv (.bool true))) t45) 137438953471,
 i 47 (mv t46) 274877906943,
 ig 48 (.b0 t2 62) 47 false 549755813887,
 ig 49 (.load false 1 t48) 47 false 1099511627775,
 ig 50 (.i5 t49) 47 false 2199023255551,
 ig 51 (.b0 t3 62) 47 false 549755813887,
 ig 52 (.load false 1 t51) 47 false 4947802324991,
 ig 53 (.i5 t52) 47 false 13743895347199,
 ig 54 (.bin .neq t50 t53) 47 false 35184372088831,
 i 55 (.pick t47 (.c (.pv (.bool true))) t54) 70368744177663,
 i 56 (mv t55) 140737488355327,
 ig 57 (.b0 t2 65) 56 false 281474976710655,
 ig 58 (.load false 1 t57) 56 false 562949953421311,
 ig 59 (.b0 t3 65) 56 false 281474976710655,
 ig 60 (.load false 1 t59) 56 false 1407374883553279,
 ig 61 (.bin .neq t58 t60) 56 false 4503599627370495,
 i 62 (.pick t56 (.c (.pv (.bool true))) t61) 9007199254740991,
 i 63 (mv t62) 18014398509481983,
 ig 64 (.b0 t2 66) 63 false 36028797018963967,
 ig 65 (.load false 1 t64) 63 false 72057594037927935,
 ig 66 (.b0 t3 66) 63 false 36028797018963967,
 ig 67 (.load false 1 t66) 63 false 180143985094819839,
 ig 68 (.bin .neq t65 t67) 63 false 576460752303423487,
 i 69 (.pick t63 (.c (.pv (.bool true))) t68) 1152921504606846975] false)
 (.cond t69
 (.seq (.b6 [i 4 (.mv (.c (.pv (.bool false)))) 0] false)
 .ret)
 .skip))
 (.seq (.seq (.b6 [i 5 (.mv (.c (I 0))) 0] false)
 (.block 0
 (.loop [2,3,5]
 (.seq (.seq (.b6 [i 70 (mv t5) 0,
 i 71 (.b0 t2 3) 0,
 i 72 (.load false 1 t71) 2,
 i 73 (.i5 t72) 6,
 i 74 (.bin .lss t70 t73) 15] false)
 (.cond t74
 .skip
 (.exit 0)))
 (.seq (.block 1
 (.seq (.b6 [i 77 (.b0 t2 3) 0,
 i 78 (.load false 1 t77) 1,
 i 79 (mv t5) 0,
 i 80 (.i6 3 t78 t79) 7,
 i 81 (.load true 3 t80) 15,
 i 82 (.b0 t3 3) 0,
 i 83 (.load false 1 t82) 32,
 i 84 (mv t5) 0,
 i 85 (.i6 3 t83 t84) 224,
 i 86 (.load true 3 t85) 480,
 i 6 (.alloc [I 0,.emp 7,I 0]) 0,
 i 7 (.alloc [I 0,.emp 7,I 0]) 0,
 iz (.store 3 t6 t81) 3103,
 iz (.store 3 t7 t86) 8191] true)
 (.seq (.b6 [i 87 (.b0 t6 0) 0,
 i 88 (.load false 1 t87) 1,
 i 89 (.b0 t7 0) 0,
 i 90 (.load false 1 t89) 4,
 i 91 (.bin .neq t88 t90) 15,
 i 92 (mv t91) 31,
 ig 93 (.b0 t6 2) 92 false 63,
 ig 94 (.load false 1 t93) 92 false 127,
 ig 95 (.b0 t7 2) 92 false 63,
 ig 96 (.load false 1 t95) 92 false 319,
 ig 97 (.bin .neq t94 t96) 92 false 1023,
 i 98 (.pick t92 (.c (.pv (.bool true))) t97) 2047,
 i 99 (mv t98) 4095,
 ig 100 (.b0 t6 1) 99 false 8191,
 ig 101 (.load false 1 b6U) 99 false 16383,
 ig 102 (.b0 t7 1) 99 false 8191,
 ig 103 (.load false 1 b6W) 99 false 40959,
 ig 104 (.call (.f O0) [b6V,b6X]) 99 false 131071,
 ig 105 (.not b7W) 99 false 262143,
 i 106 (.pick t99 (.c (.pv (.bool true))) b7X) 524287] false)
 (.cond b7Y
 (.seq (.b6 [i 4 (.mv (.c (.pv (.bool false)))) 0] false)
 .ret)
 .skip))))
 (.b6 [i 75 (mv t5) 0,
 i 76 (.bin .add t75 (.c (I 1))) 1,
 i 5 (mv t76) 3] false))))))
 (.seq (.seq (.b6 [i 8 (.mv (.c (I 0))) 0] false)
 (.block 2
 (.loop [2,3,8]
 (.seq (.seq (.b6 [i 107 (mv t8) 0,
 i 108 (.b0 t2 62) 0,
 i 109 (.load false 1 b6Y) 2,
 i 110 (.i5 b8a) 6,
 i 111 (.bin .lss b7Z b8b) 15] false)
 (.cond b8c
 .skip
 (.exit 2)))
 (.seq (.block 3
 (.seq (.b6 [i 114 (.b0 t2 62) 0,
 i 115 (.load false 1 b8f) 1,
 i 116 (mv t8) 0,
 i 117 (.i6 57 b8g b8h) 7,
 i 118 (.load true 57 b8i) 15,
 i 119 (.b0 t3 62) 0,
 i 120 (.load false 1 b8k) 32,
 i 121 (mv t8) 0,
 i 122 (.i6 57 b8l b6Z) 224,
 i 123 (.load true 57 b8m) 480,
 i 124 (.call (.f K1) [b8j,b8n]) 1023,
 i 125 (.not b8o) 2047] true)
 (.cond b8p
 (.seq (.b6 [i 4 (.mv (.c (.pv (.bool false)))) 0] false)
 .ret)
 .skip)))
 (.b6 [i 112 (mv t8) 0,
 i 113 (.bin .add b8d (.c (I 1))) 1,
 i 8 (mv b8e) 3] false))))))
 (.seq (.b6 [i 126 (.b0 t2 5) 0,
 i 127 (.load true 57 b8q) 1,
 i 128 (.b0 t3 5) 0,
 i 129 (.load true 57 b8r) 4,
 i 130 (.call (.f K1) [b7a,b8s]) 15,
 i 131 (mv b8t) 31,
 ig 132 (.b0 t2 63) 131 true 63,
 ig 133 (.load false 1 b8v) 131 true 127,
 ig 134 (.i5 b8w) 131 true 255,
 ig 135 (.b0 t3 63) 131 true 63,
 ig 136 (.load false 1 b8y) 131 true 575,
 ig 137 (.i5 b8z) 131 true 1599,
 ig 138 (.bin .eql b8x b8A) 131 true 4095,
 i 139 (.pick b8u b8B (.c (.pv (.bool false)))) 8191,
 i 140 (mv c0I) 16383,
 ig 141 (.b0 t2 64) 140 true 32767,
 ig 142 (.load false 1 c0K) 140 true 65535,
 ig 143 (.i5 c0L) 140 true 131071,
 ig 144 (.b0 t3 64) 140 true 32767,
 ig 145 (.load false 1 c0N) 140 true 294911,
 ig 146 (.i5 c0O) 140 true 819199,
 ig 147 (.bin .eql c0M c2L) 140 true 2097151,
 i 148 (.pick c0J c2M (.c (.pv (.bool false)))) 4194303,
 i 4 (mv c2N) 8388607] false)
 .ret))))⟩
def a5i:m0:=⟨2,23,[.tmp 4,.tmp 5],
 .seq (.b6 [i 2 (.box 67 t0) 0,
 i 4 (.mv (.c (I 0))) 0,
 i 5 (.mv (.c (.pv (.bool false)))) 2] false)
 (.seq (.b6 [i 8 (.load true 67 t2) 0,
 i 9 (.build z1 [(0,67,t8)]) 1,
 i 6 (.alloc z1) 0,
 iz (.store 67 t6 t9) 7] false)
 (.seq (.b6 [i 10 (.load true 67 t6) 0,
 i 11 (mv t1) 0,
 i 12 (.call (.f B1) [o8,s8]) 3,
 i 7 (mv y0) 7] false)
 (.seq (.seq (.b6 [i 13 (mv t7) 0,
 i 14 (.bin .lss y6 (.c (I 0))) 1] false)
 (.cond B3
 (.seq (.b6 [i 4 (.mv (.c (I 0))) 0,
 i 5 (.mv (.c (.pv (.bool false)))) 1] false)
 .ret)
 .skip))
 (.seq (.b6 [i 15 (.b0 t6 0) 0,
 i 16 (.b0 G2 3) 1,
 i 17 (.load false 1 F2) 3,
 i 18 (mv t7) 0,
 i 19 (.i6 3 D5 G4) 15,
 i 20 (.b0 K2 1) 31,
 i 21 (.load false 1 M1) 63,
 i 22 (.i5 K6) 127,
 i 4 (mv P1) 255,
 i 5 (.mv (.c (.pv (.bool true)))) 511] false)
 .ret))))⟩
def a7u:m0:=⟨2,22,[.tmp 4],
 .seq (.b6 [i 2 (.box 67 t0) 0,
 i 4 (.mv (.c (I 0))) 0] false)
 (.seq (.seq (.b6 [i 5 (.mv (.c (I 0))) 0] false)
 (.block 0
 (.loop [1,2,5]
 (.seq (.seq (.b6 [i 6 (mv t5) 0,
 i 7 (.b0 t2 3) 0,
 i 8 (.load false 1 t7) 2,
 i 9 (.i5 t8) 6,
 i 10 (.bin .lss t6 t9) 15] false)
 (.cond o8
 .skip
 (.exit 0)))
 (.seq (.block 1
 (.seq (.b6 [i 13 (.b0 t2 3) 0,
 i 14 (.load false 1 y6) 1,
 i 15 (mv t5) 0,
 i 16 (.i6 3 B3 G2) 7,
 i 17 (.b0 F2 0) 15,
 i 18 (.load false 1 D5) 31,
 i 19 (mv t1) 0,
 i 20 (.bin .eql G4 K2) 127] false)
 (.cond M1
 (.seq (.b6 [i 21 (mv t5) 0,
 i 4 (mv K6) 1] false)
 .ret)
 .skip)))
 (.b6 [i 11 (mv t5) 0,
 i 12 (.bin .add s8 (.c (I 1))) 1,
 i 5 (mv y0) 3] false))))))
 (.seq (.b6 [i 4 (.mv (.c (I (-1)))) 0] false)
 .ret))⟩
def a3Y:m0:=⟨0,185,[.tmp 0],
 .seq (.b6 [i 0 (.mv (.c (.pv (.bool false)))) 0] false)
 (.seq (.b6 [i 22 (.call (.f a0F) []) 0,
 i 1 (mv P1) 1] false)
 (.seq (.b6 [i 23 (.build z0 [(0,1,.c (I 9)),(4,1,.c (I 2))]) 0,
 i 2 (.alloc z0) 0,
 iz (.store 7 t2 T7) 3] false)
 (.seq (.b6 [i 25 (mv t1) 0,
 i 26 (.call (.f M5) [.c (I 0),.c (I 1),.c (I 2)]) 0,
 i 27 (.call (.f N7) [W0,t26]) 3,
 i 24 (mv t27) 7,
 i 28 (.extract X7 0) 15,
 i 29 (.extract X7 1) 15,
 i 3 (mv t28) 31,
 i 4 (mv t29) 127] false)
 (.seq (.b6 [i 31 (mv t1) 0,
 i 32 (.build z0 [(0,1,.c (I 7)),(4,1,.c (I 1)),(5,1,.c (I 1)),(6,1,.c (I 1))]) 0,
 i 33 (.call (.f a2E) [t31,t32]) 3,
 i 30 (mv t33) 7,
 i 34 (.extract t30 0) 15,
 i 35 (.extract t30 1) 15,
 i 5 (mv t34) 31,
 i 6 (mv t35) 127] false)
 (.seq (.b6 [i 37 (mv t1) 0,
 i 38 (.call (.f M5) [.c (I 0),.c (I 1),.c (I 4)]) 0,
 i 39 (.call (.f H3) [t37,t38,.c (I 3),.c (.pv (.str [88]))]) 3,
 i 36 (mv t39) 7,
 i 40 (.extract t36 0) 15,
 i 41 (.extract t36 1) 15,
 i 7 (mv t40) 31,
 i 8 (mv t41) 127] false)
 (.seq (.b6 [i 43 (mv t1) 0,
 i 44 (.call (.f M5) [.c (I 0),.c (I 0),.c (I 1)]) 0,
 i 45 (.call (.f a0a) [t43,t44]) 3,
 i 42 (mv t45) 7,
 i 46 (.extract t42 0) 15,
 i 47 (.extract t42 1) 15,
 i 9 (.alloc z0) 0,
 iz (.store 7 t9 t46) 95,
 i 10 (mv t47) 255] false)
 (.seq (.b6 [i 49 (mv t1) 0,
 i 50 (.load true 7 t2) 0,
 i 51 (.load true 7 t9) 0,
 i 52 (.call (.f S4) [t49,t50,t51]) 7,
 i 48 (mv t52) 15,
 i 53 (.extract t48 0) 31,
 i 54 (.extract t48 1) 31,
 i 55 (.extract t48 2) 31,
 i 11 (.alloc z0) 0,
 iz (.store 7 s8 t53) 319,
 i 12 (mv t54) 895,
 i 13 (mv t55) 2047] false)
 (.seq (.b6 [i 57 (mv t1) 0,
 i 58 (.load true 7 t2) 0,
 i 59 (.call (.f E5) [.c (.pv (.str [98]))]) 0,
 i 60 (.call (.f E5) [.c (.pv (.str [99]))]) 4,
 i 61 (.call (.f N8) [t57,t58,t59,t60]) 15,
 i 56 (mv t61) 31,
 i 62 (.extract t56 0) 63,
 i 63 (.extract t56 1) 63,
 i 14 (mv t62) 127,
 i 15 (mv t63) 511] true)
 (.seq (.b6 [i 65 (mv B3) 0,
 i 66 (.load true 7 t2) 0,
 i 67 (.call (.f E5) [.c (.pv (.str [99]))]) 0,
 i 68 (.call (.f E5) [.c (.pv (.str [99]))]) 4,
 i 69 (.call (.f N8) [t65,t66,t67,t68]) 15,
 i 64 (mv t69) 31,
 i 70 (.extract t64 0) 63,
 i 71 (.extract t64 1) 63,
 i 16 (mv t70) 127,
 i 17 (mv t71) 511] true)
 (.seq (.b6 [i 73 (mv t1) 0,
 i 74 (.build z2 [(0,1,.c (I 3)),(5,1,.c (I 10000))]) 0,
 i 75 (.call (.f a5v) [t73,t74]) 3,
 i 72 (mv t75) 7,
 i 76 (.extract t72 0) 15,
 i 77 (.extract t72 1) 15,
 i 78 (.extract t72 2) 15,
 i 18 (mv t76) 31,
 i 19 (mv t77) 191,
 i 20 (mv t78) 511] false)
 (.seq (.b6 [i 79 (mv t4) 0,
 i 80 (.bin .eql t79 (.c (I 0))) 1,
 i 81 (mv t80) 3,
 ig 82 (mv t6) 81 true 7,
 ig 83 (.bin .eql t82 (.c (I 0))) 81 true 15,
 i 84 (.pick t81 t83 (.c (.pv (.bool false)))) 31,
 i 85 (mv t84) 63,
 ig 86 (mv t8) 85 true 127,
 ig 87 (.bin .eql t86 (.c (I 0))) 85 true 255,
 i 88 (.pick t85 t87 (.c (.pv (.bool false)))) 511,
 i 89 (mv t88) 1023,
 ig 90 (mv o8) 89 true 2047,
 ig 91 (.bin .eql t90 (.c (I 0))) 89 true 4095,
 i 92 (.pick t89 t91 (.c (.pv (.bool false)))) 8191,
 i 93 (mv t92) 16383,
 ig 94 (mv y6) 93 true 32767,
 ig 95 (.bin .eql t94 (.c (I 0))) 93 true 65535,
 i 96 (.pick t93 t95 (.c (.pv (.bool false)))) 131071,
 i 97 (mv t96) 262143,
 ig 98 (mv G2) 97 true 524287,
 ig 99 (.bin .eql t98 (.c (I 0))) 97 true 1048575,
 i 100 (.pick t97 t99 (.c (.pv (.bool false)))) 2097151,
 i 101 (mv b6U) 4194303,
 ig 102 (mv M1) 101 true 8388607,
 ig 103 (.bin .eql b6W (.c (I 0))) 101 true 16777215,
 i 104 (.pick b6V b6X (.c (.pv (.bool false)))) 33554431,
 i 21 (mv b7W) 67108863] false)
 (.seq (.b6 [i 105 (mv K6) 0,
 i 106 (mv b7X) 1,
 ig 107 (mv t1) 106 true 3,
 ig 108 (.call (.f a0E) [b7Z]) 106 true 7,
 ig 109 (.bin .eql b6Y (.c (I 0))) 106 true 15,
 i 110 (.pick b7Y b8a (.c (.pv (.bool false)))) 31,
 i 111 (mv b8b) 63,
 ig 112 (mv t1) 111 true 127,
 ig 113 (.call (.f E4) [b8d]) 111 true 255,
 ig 114 (.bin .eql b8e (.c (I 16))) 111 true 511,
 i 115 (.pick b8c b8f (.c (.pv (.bool false)))) 1023,
 i 116 (mv b8g) 2047,
 ig 117 (mv t3) 116 true 4095,
 ig 118 (.bin .eql b8i (.c (.pv (.str [98,99])))) 116 true 8191,
 i 119 (.pick b8h b8j (.c (.pv (.bool false)))) 16383,
 i 120 (mv b8k) 32767,
 ig 121 (mv t5) 120 true 65535,
 ig 122 (.i5 b6Z) 120 true 131071,
 ig 123 (.bin .eql b8m (.c (I 1))) 120 true 262143,
 i 124 (.pick b8l b8n (.c (.pv (.bool false)))) 524287,
 i 125 (mv b8o) 1048575,
 ig 126 (mv t5) 125 true 2097151,
 ig 127 (.i6 7 b8q (.c (I 0))) 125 true 4194303,
 ig 128 (.load true 7 b7a) 125 true 8388607,
 ig 129 (.call (.f M5) [.c (I 0),.c (I 2),.c (I 2)]) 125 true 2097151,
 ig 130 (.eqs false [0,1,0,2,0,0,0] b8r b8s) 125 true 33554431,
 i 131 (.pick b8p b8t (.c (.pv (.bool false)))) 67108863,
 i 132 (mv b8u) 134217727,
 ig 133 (mv t7) 132 true 268435455,
 ig 134 (.i5 b8w) 132 true 536870911,
 ig 135 (.bin .eql b8x (.c (I 3))) 132 true 1073741823,
 i 136 (.pick b8v b8y (.c (.pv (.bool false)))) 2147483647,
 i 137 (mv b8z) 4294967295,
 ig 138 (mv t7) 137 true 8589934591,
 ig 139 (.i6 7 b8B (.c (I 0))) 137 true 17179869183,
 ig 140 (.b0 c0I 1) 137 true 34359738367,
 ig 141 (.load false 1 c0J) 137 true 68719476735,
 ig 142 (.bin .eql c0K (.c (.pv (.str [97,98,99,100,88,102])))) 137 true 137438953471,
 i 143 (.pick b8A c0L (.c (.pv (.bool false)))) 274877906943,
 i 144 (mv c0M) 549755813887,
 ig 145 (.load true 7 t9) 144 true 1099511627775,
 ig 146 (.call (.f E5) [.c (.pv (.str [97]))]) 144 true 1099511627775,
 ig 147 (.eqs false [0,1,0,2,0,0,0] c0O c2L) 144 true 4398046511103,
 i 148 (.pick c0N c2M (.c (.pv (.bool false)))) 8796093022207,
 i 149 (mv c2N) 17592186044415,
 ig 150 (mv y0) 149 true 35184372088831,
 i 151 (.pick c3X c3Y (.c (.pv (.bool false)))) 70368744177663,
 i 152 (mv c3Z) 140737488355327,
 ig 153 (.b0 s8 2) 152 true 281474976710655,
 ig 154 (.load false 1 c4b) 152 true 562949953421311,
 ig 155 (.bin .eql c4c (.c (I 7))) 152 true 1125899906842623,
 i 156 (.pick c4a c4d (.c (.pv (.bool false)))) 2251799813685247,
 i 157 (mv c4e) 4503599627370495,
 ig 158 (mv D5) 157 true 9007199254740991,
 ig 159 (.bin .eql c5J (.c (I 30))) 157 true 18014398509481983,
 i 160 (.pick c5I c5K (.c (.pv (.bool false)))) 36028797018963967,
 i 161 (mv c5L) 72057594037927935,
 ig 162 (mv K2) 161 true 144115188075855871,
 ig 163 (.bin .eql c4f (.c (I 3))) 161 true 288230376151711743,
 i 164 (.pick c5M c5N (.c (.pv (.bool false)))) 576460752303423487,
 i 165 (mv c5O) 1152921504606846975,
 ig 166 (mv t1) 165 true 2305843009213693951,
 ig 167 (.call (.f M5) [.c (I 0),.c (I 0),.c (I 1)]) 165 true 2305843009213693951,
 ig 168 (.call (.f E5) [.c (.pv (.str [97]))]) 165 true 6917529027641081855,
 ig 169 (.call (.f a2D) [c8a,c8b,c8c]) 165 true 18446744073709551615,
 i 170 (.pick c5P c8d (.c (.pv (.bool false)))) 36893488147419103231,
 i 171 (mv c8e) 73786976294838206463,
 ig 172 (mv t1) 171 true 147573952589676412927,
 ig 173 (.build z0 [(0,1,.c (I 7)),(4,1,.c (I 1)),(6,1,.c (I 1))]) 171 true 147573952589676412927,
 ig 174 (.M0 7 1 z0 [(0,c8h)]) 171 true 442721857769029238783,
 ig 175 (.call (.f a2F) [c8g,c8i]) 171 true 1180591620717411303423,
 ig 176 (.M0 1 3 [.pv (.bool false)] [(0,.c (.pv (.bool true))),(1,.c (.pv (.bool true))),(2,.c (.pv (.bool false)))]) 171 true 147573952589676412927,
 ig 177 (.call (.f K5) [c8j,c8k]) 171 true 4722366482869645213695,
 i 178 (.pick c8f c8l (.c (.pv (.bool false)))) 9444732965739290427391,
 i 179 (mv c8m) 18889465931478580854783,
 ig 180 (.build z2 []) 179 true 37778931862957161709567,
 ig 181 (.M0 7 1 z2 [(0,c8o)]) 179 true 75557863725914323419135,
 ig 182 (.call (.f a0E) [c8p]) 179 true 151115727451828646838271,
 ig 183 (.bin .eql c8q (.c (I 210))) 179 true 302231454903657293676543,
 i 184 (.pick c8n c8r (.c (.pv (.bool false)))) 604462909807314587353087,
 i 0 (mv c8s) 1208925819614629174706175] true)
 .ret))))))))))))⟩
def a5a:m0:=⟨1,32,[.tmp 2],
 .seq (.b6 [i 2 (.mv (.c (I 0))) 0] false)
 (.scope
 (.seq (.seq (.b6 [i 9 (mv t0) 0,
 i 10 (.call (.f E4) [t9]) 1,
 i 11 (.bin .gtr o8 (.c (I 20000))) 3] false)
 (.cond s8
 (.seq (.b6 [i 2 (.mv (.c (I 210))) 0] false)
 .ret)
 .skip))
 (.seq (.b6 [i 12 (mv t0) 0,
 i 13 (.build [.emp 7] [(0,1,y0)]) 1,
 i 3 (.alloc [.emp 7]) 0,
 iz (.store 1 t3 y6) 7,
 i 4 (.mv (.c (I 0))) 15] false)
 (.seq .skip
 (.seq (.seq (.b6 [i 14 (mv t0) 0,
 i 15 (.i5 B3) 1,
 i 16 (.mv (.c (I 0))) 0] false)
 (.block 0
 (.loop [3,4,14,15,16]
 (.seq (.b6 [i 17 (.bin .lss F2 G2) 0] false)
 (.seq (.cond D5
 .skip
 (.exit 0))
 (.seq (.block 1
 (.seq (.b6 [i 18 (.i6 7 B3 F2) 0,
 i 19 (.load true 7 G4) 1,
 i 6 (.alloc z2) 0,
 iz (.store 7 t6 K2) 7] false)
 (.seq (.b6 [i 20 (.build [.pv .nilFunc,.pv .nilFunc,.pv .nilFunc] [(0,1,.f R3),(1,1,.f I5),(2,1,.f N9)]) 0,
 i 21 (.mv (.c (I 0))) 0] false)
 (.block 2
 (.loop [3,4,6,14,15,16,20,21]
 (.seq (.b6 [i 22 (.bin .lss K6 (.c (I 3))) 0] false)
 (.seq (.cond P1
 .skip
 (.exit 2))
 (.seq (.block 3
 (.seq (.b6 [i 23 (.index false 3 1 M1 K6) 0,
 i 8 (mv T7) 1] false)
 (.seq (.b6 [i 24 (mv t8) 0,
 i 25 (.load true 1 t3) 0,
 i 26 (.load true 7 t6) 0,
 i 27 (.call X7 [W0,t26]) 7,
 i 28 (.not t27) 15] false)
 (.cond t28
 (.seq (.b6 [i 4 (.mv (.c (I 210))) 0] false)
 (.exit 0))
 .skip))))
 (.b6 [i 29 (.bin .add K6 (.c (I 1))) 0,
 i 21 (mv t29) 1] false)))))))))
 (.b6 [i 30 (.bin .add F2 (.c (I 1))) 0,
 i 16 (mv t30) 1] false)))))))
 (.seq (.b6 [i 31 (mv t4) 0,
 i 2 (mv t31) 1] false)
 .ret))))))⟩
def a2p:m0:=⟨1,18,[.tmp 2],
 .seq (.b6 [i 2 (.mv (.c (I 0))) 0] false)
 (.seq (.b6 [i 3 (.mv (.c (I 0))) 0] false)
 (.seq (.seq (.b6 [i 6 (mv t0) 0,
 i 7 (.i5 t6) 1,
 i 8 (.mv (.c (I 0))) 0] false)
 (.block 0
 (.loop [3,6,7,8]
 (.seq (.b6 [i 9 (.bin .lss t8 t7) 0] false)
 (.seq (.cond t9
 .skip
 (.exit 0))
 (.seq (.block 1
 (.seq (.b6 [i 10 (.i6 7 t6 t8) 0,
 i 11 (.load true 7 o8) 1,
 i 5 (.alloc z2) 0,
 iz (.store 7 t5 s8) 7] false)
 (.b6 [i 12 (mv t3) 0,
 i 13 (.load true 7 t5) 0,
 i 14 (.call (.f M4) [y6]) 2,
 i 15 (.bin .add y0 B3) 7,
 i 3 (mv G2) 15] false)))
 (.b6 [i 16 (.bin .add t8 (.c (I 1))) 0,
 i 8 (mv F2) 1] false)))))))
 (.seq (.b6 [i 17 (mv t3) 0,
 i 2 (mv D5) 1] false)
 .ret)))⟩
def a7q:m0:=⟨1,19,[.tmp 2],
 .seq (.b6 [i 2 (.mv (.c (I 0))) 0] false)
 (.seq (.b6 [i 3 (.mv (.c (I 0))) 0] false)
 (.seq (.seq (.b6 [i 4 (.mv (.c (I 0))) 0] false)
 (.block 0
 (.loop [0,3,4]
 (.seq (.seq (.b6 [i 5 (mv t4) 0,
 i 6 (mv t0) 0,
 i 7 (.i5 t6) 2,
 i 8 (.bin .lss t5 t7) 7] false)
 (.cond t8
 .skip
 (.exit 0)))
 (.seq (.block 1
 (.b6 [i 11 (mv t3) 0,
 i 12 (mv t0) 0,
 i 13 (mv t4) 0,
 i 14 (.i6 7 y0 y6) 6,
 i 15 (.load true 7 B3) 14,
 i 16 (.call (.f a0H) [G2]) 30,
 i 17 (.bin .add s8 F2) 63,
 i 3 (mv D5) 127] false))
 (.b6 [i 9 (mv t4) 0,
 i 10 (.bin .add t9 (.c (I 1))) 1,
 i 4 (mv o8) 3] false))))))
 (.seq (.b6 [i 18 (mv t3) 0,
 i 2 (mv G4) 1] false)
 .ret)))⟩
def a3y:m0:=⟨1,20,[.tmp 2],
 .seq (.b6 [i 1 (.box 7 t0) 0,
 i 2 (.mv (.c (I 0))) 0] false)
 (.seq (.seq (.b6 [i 3 (.b0 t1 0) 0,
 i 4 (.load false 1 t3) 1,
 i 5 (.bin .eql t4 (.c (I 3))) 3] false)
 (.cond t5
 (.seq (.b6 [i 6 (.b0 t1 5) 0,
 i 7 (.load false 1 t6) 1,
 i 8 (.mm false [t7,.c (I 200)]) 3,
 i 9 (.mm true [.c (I 0),t8]) 7,
 i 10 (.bin .mul (.c (I 2)) t9) 15,
 i 11 (.bin .add (.c (I 1)) o8) 31,
 i 2 (mv s8) 63] false)
 .ret)
 .skip))
 (.seq (.b6 [i 12 (.b0 t1 1) 0,
 i 13 (.load false 1 y0) 1,
 i 14 (.H0 y6) 3,
 i 15 (.bin .add (.c (I 1)) B3) 7,
 i 16 (.b0 t1 2) 0,
 i 17 (.load false 1 F2) 16,
 i 18 (.i5 D5) 48,
 i 19 (.bin .add G2 G4) 127,
 i 2 (mv K2) 255] false)
 .ret))⟩
def a8s:m0:=⟨1,24,[.tmp 2],
 .seq (.b6 [i 1 (.box 7 t0) 0,
 i 2 (.mv (.c (I 0))) 0] false)
 (.seq (.seq (.b6 [i 3 (.b0 t1 0) 0,
 i 4 (.load false 1 t3) 1,
 i 5 (.bin .neq t4 (.c (I 3))) 3] false)
 (.cond t5
 (.seq (.b6 [i 6 (.b0 t1 1) 0,
 i 7 (.load false 1 t6) 1,
 i 8 (.H0 t7) 3,
 i 9 (.bin .add (.c (I 1)) t8) 7,
 i 10 (.b0 t1 2) 0,
 i 11 (.load false 1 o8) 16,
 i 12 (.i5 s8) 48,
 i 13 (.bin .add t9 y0) 127,
 i 2 (mv y6) 255] false)
 .ret)
 .skip))
 (.seq (.seq (.b6 [i 14 (.b0 t1 5) 0,
 i 15 (.load false 1 B3) 1,
 i 16 (.bin .lss G2 (.c (I 0))) 3] false)
 (.cond F2
 (.seq (.b6 [i 2 (.mv (.c (I 1))) 0] false)
 .ret)
 .skip))
 (.seq (.seq (.b6 [i 17 (.b0 t1 5) 0,
 i 18 (.load false 1 D5) 1,
 i 19 (.bin .gtr G4 (.c (I 200))) 3] false)
 (.cond K2
 (.seq (.b6 [i 2 (.mv (.c (I 401))) 0] false)
 .ret)
 .skip))
 (.seq (.b6 [i 20 (.b0 t1 5) 0,
 i 21 (.load false 1 M1) 1,
 i 22 (.bin .mul (.c (I 2)) K6) 3,
 i 23 (.bin .add (.c (I 1)) P1) 7,
 i 2 (mv T7) 15] false)
 .ret))))⟩
def a1H:m0:=⟨2,51,[.tmp 4],
 .seq (.b6 [i 3 (.box 7 t1) 0,
 i 4 (.mv (.c (.pv (.bool false)))) 0] false)
 (.seq (.seq (.b6 [i 6 (.load true 7 t3) 0,
 i 7 (.call (.f o6) [t6]) 1,
 i 8 (.bin .neq t7 (.c (I 0))) 3] false)
 (.cond t8
 (.seq (.b6 [i 4 (.mv (.c (.pv (.bool false)))) 0] false)
 .ret)
 .skip))
 (.seq (.b6 [i 9 (.b0 t3 0) 0,
 i 10 (.load false 1 t9) 1,
 i 11 (.call (.f D4) [o8]) 3,
 i 5 (mv s8) 7] false)
 (.seq (.seq (.b6 [i 12 (mv t5) 0,
 i 13 (.bin .eql y0 (.c (I 0))) 1] false)
 (.cond y6
 (.seq (.b6 [i 4 (.mv (.c (.pv (.bool true)))) 0] false)
 .ret)
 .skip))
 (.seq (.seq (.b6 [i 14 (.b0 t3 4) 0,
 i 15 (.load false 1 B3) 1,
 i 16 (mv t0) 0,
 i 17 (.i5 F2) 4,
 i 18 (.bin .geq G2 D5) 15,
 i 19 (mv G4) 31,
 ig 20 (mv t0) 19 false 63,
 ig 21 (.b0 t3 4) 19 false 63,
 ig 22 (.load false 1 K6) 19 false 191,
 ig 23 (.i6 7 M1 P1) 19 false 511,
 ig 24 (.b0 T7 0) 19 false 1023,
 ig 25 (.load false 1 X7) 19 false 2047,
 ig 26 (mv t5) 19 false 63,
 ig 27 (.bin .neq W0 t26) 19 false 8191,
 i 28 (.pick K2 (.c (.pv (.bool true))) t27) 16383] false)
 (.cond t28
 (.seq (.b6 [i 4 (.mv (.c (.pv (.bool false)))) 0] false)
 .ret)
 .skip))
 (.seq (.b6 [i 29 (.b0 t3 0) 0,
 i 30 (.load false 1 t29) 1,
 i 31 (.bin .eql t30 (.c (I 9))) 3,
 i 32 (mv t31) 7,
 ig 33 (.b0 t3 0) 32 false 15,
 ig 34 (.load false 1 t33) 32 false 31,
 ig 35 (.bin .eql t34 (.c (I 11))) 32 false 63,
 i 36 (.pick t32 (.c (.pv (.bool true))) t35) 127,
 i 37 (mv t36) 255,
 ig 38 (.b0 t3 5) 37 false 511,
 ig 39 (.load false 1 t38) 37 false 1023,
 ig 40 (.b0 t3 6) 37 false 511,
 ig 41 (.load false 1 t40) 37 false 2559,
 ig 42 (.bin .add t39 t41) 37 false 8191,
 ig 43 (mv t0) 37 false 511,
 ig 44 (.b0 t3 4) 37 false 511,
 ig 45 (.load false 1 t44) 37 false 33279,
 ig 46 (.i6 7 t43 t45) 37 false 115199,
 ig 47 (.load true 7 t46) 37 false 246271,
 ig 48 (.call (.f P3) [t47]) 37 false 508415,
 ig 49 (.bin .leq t42 t48) 37 false 1048575,
 i 50 (.pick t37 (.c (.pv (.bool true))) t49) 2097151,
 i 4 (mv t50) 4194303] true)
 .ret)))))⟩
def a7N:m0:=⟨2,24,[.tmp 4,.tmp 5,.tmp 6],
 .seq (.b6 [i 3 (.box 7 t1) 0,
 i 4 (.mv (.c (.emp 7))) 0,
 i 5 (.mv (.c (I 0))) 2,
 i 6 (.mv (.c (I 0))) 6] false)
 (.seq (.seq (.b6 [i 7 (mv t0) 0,
 i 8 (.call (.f E4) [t7]) 1,
 i 9 (.load true 7 t3) 0,
 i 10 (.call (.f M4) [t9]) 7,
 i 11 (.bin .add t8 o8) 15,
 i 12 (.bin .gtr s8 (.c (I 20000))) 31] true)
 (.cond y0
 (.seq (.b6 [i 4 (.mv (.c (.emp 7))) 0,
 i 5 (.mv (.c (I 0))) 1,
 i 6 (.mv (.c (I 27))) 3] false)
 .ret)
 .skip))
 (.seq (.b6 [i 13 (mv t0) 0,
 i 14 (mv t0) 0,
 i 15 (.i5 B3) 2,
 i 16 (mv t0) 0,
 i 17 (.i5 F2) 8,
 i 18 (.slice 7 y6 none (some G2) (some D5)) 31,
 i 19 (.load true 7 t3) 0,
 i 20 (.M0 7 1 z2 [(0,K2)]) 64,
 i 21 (.append 7 112 G4 M1) 255,
 i 22 (mv t0) 0,
 i 23 (.i5 P1) 512,
 i 4 (mv K6) 511,
 i 5 (mv T7) 4095,
 i 6 (.mv (.c (I 0))) 8191] true)
 .ret))⟩
def a2u:m0:=⟨2,27,[.tmp 4],
 .seq (.b6 [i 4 (.mv (.c (.pv (.bool false)))) 0] false)
 (.seq (.seq (.b6 [i 6 (mv t0) 0,
 i 7 (.i5 t6) 1,
 i 8 (mv t1) 0,
 i 9 (.i5 t8) 4,
 i 10 (.bin .neq t7 t9) 15] false)
 (.cond o8
 (.seq (.b6 [i 4 (.mv (.c (.pv (.bool false)))) 0] false)
 .ret)
 .skip))
 (.seq (.seq (.b6 [i 5 (.mv (.c (I 0))) 0] false)
 (.block 0
 (.loop [0,1,5]
 (.seq (.seq (.b6 [i 11 (mv t5) 0,
 i 12 (mv t0) 0,
 i 13 (.i5 y0) 2,
 i 14 (.bin .lss s8 y6) 7] false)
 (.cond B3
 .skip
 (.exit 0)))
 (.seq (.block 1
 (.seq (.b6 [i 17 (mv t0) 0,
 i 18 (mv t5) 0,
 i 19 (.i6 7 D5 G4) 3,
 i 20 (.load true 7 K2) 7,
 i 21 (mv t1) 0,
 i 22 (mv t5) 0,
 i 23 (.i6 7 K6 P1) 48,
 i 24 (.load true 7 T7) 112,
 i 25 (.call (.f E9) [M1,X7]) 255,
 i 26 (.not W0) 511] true)
 (.cond t26
 (.seq (.b6 [i 4 (.mv (.c (.pv (.bool false)))) 0] false)
 .ret)
 .skip)))
 (.b6 [i 15 (mv t5) 0,
 i 16 (.bin .add G2 (.c (I 1))) 1,
 i 5 (mv F2) 3] false))))))
 (.seq (.b6 [i 4 (.mv (.c (.pv (.bool true)))) 0] false)
 .ret)))⟩
def Z0:m0:=⟨1,29,[.tmp 2],
 .seq (.b6 [i 1 (.box 3 t0) 0,
 i 2 (.mv (.c (.emp 7))) 0] false)
 (.seq (.b6 [i 5 (.M0 1 2 [.pv (.str [])] [(0,.c (.pv (.str [97,100,100]))),(1,.c (.pv (.str [112,111,112])))]) 0,
 i 6 (.call (.f p7) [t5]) 1,
 i 3 (mv t6) 3] false)
 (.seq (.seq (.b6 [i 4 (.mv (.c (I 0))) 0] false)
 (.block 0
 (.loop [1,3,4]
 (.seq (.seq (.b6 [i 7 (mv t4) 0,
 i 8 (.b0 t1 0) 0,
 i 9 (.load false 1 t8) 2,
 i 10 (.i5 t9) 6,
 i 11 (.bin .lss t7 o8) 15,
 i 12 (mv s8) 31,
 ig 13 (mv t4) 12 true 63,
 ig 14 (.bin .lss y6 (.c (I 10))) 12 true 127,
 i 15 (.pick y0 B3 (.c (.pv (.bool false)))) 255] false)
 (.cond G2
 .skip
 (.exit 0)))
 (.seq (.block 1
 (.b6 [i 18 (mv t3) 0,
 i 19 (.b0 t1 0) 0,
 i 20 (.load false 1 K2) 2,
 i 21 (mv t4) 0,
 i 22 (.i6 5 M1 K6) 14,
 i 23 (.load true 5 P1) 30,
 i 24 (mv t3) 0,
 i 25 (.call (.f m8) [T7,X7]) 126,
 i 26 (.M0 7 1 z2 [(0,W0)]) 254,
 i 27 (.append 7 112 G4 t26) 511,
 i 3 (mv t27) 1023] false))
 (.b6 [i 16 (mv t4) 0,
 i 17 (.bin .add F2 (.c (I 1))) 1,
 i 4 (mv D5) 3] false))))))
 (.seq (.b6 [i 28 (mv t3) 0,
 i 2 (mv t28) 1] false)
 .ret)))⟩
def a5b:m0:=⟨3,58,[.tmp 6],
 .seq (.b6 [i 4 (.box 7 t1) 0,
 i 5 (.box 7 t2) 0,
 i 6 (.mv (.c (.pv (.bool false)))) 0] false)
 (.seq (.seq (.b6 [i 13 (mv t0) 0,
 i 14 (.load true 7 t4) 0,
 i 15 (.call (.f C3) [y6,B3]) 3,
 i 16 (.not G2) 7,
 i 17 (mv F2) 15,
 ig 18 (mv t0) 17 false 31,
 ig 19 (.load true 7 t5) 17 false 31,
 ig 20 (.call (.f C3) [G4,K2]) 17 false 127,
 ig 21 (.not M1) 17 false 255,
 i 22 (.pick D5 (.c (.pv (.bool true))) K6) 511] false)
 (.cond P1
 (.seq (.b6 [i 6 (.mv (.c (.pv (.bool false)))) 0] false)
 .ret)
 .skip))
 (.seq (.seq (.b6 [i 24 (.load true 7 t4) 0,
 i 25 (.load true 7 t5) 0,
 i 26 (.call (.f U6) [X7,W0]) 3,
 i 23 (mv t26) 7,
 i 27 (.extract T7 0) 15,
 i 28 (.extract T7 1) 15,
 i 7 (mv t27) 31,
 i 8 (mv t28) 127] false)
 (.seq (.b6 [i 29 (mv t8) 0,
 i 30 (.bin .eql t29 (.c (I 0))) 1] false)
 (.cond t30
 (.seq (.b6 [i 31 (mv t7) 0,
 i 32 (.bin .eql t31 (.c (I 0))) 1,
 i 6 (mv t32) 3] false)
 .ret)
 .skip)))
 (.seq (.b6 [i 34 (mv t0) 0,
 i 35 (.load true 7 t4) 0,
 i 36 (.call (.f W5) [t34,t35]) 3,
 i 33 (mv t36) 7,
 i 37 (.extract t33 0) 15,
 i 38 (.extract t33 1) 15,
 i 9 (mv t37) 31,
 i 10 (mv t38) 127] false)
 (.seq (.b6 [i 40 (mv t0) 0,
 i 41 (.load true 7 t5) 0,
 i 42 (.call (.f W5) [t40,t41]) 3,
 i 39 (mv t42) 7,
 i 43 (.extract t39 0) 15,
 i 44 (.extract t39 1) 15,
 i 11 (mv t43) 31,
 i 12 (mv t44) 127] false)
 (.seq (.seq (.b6 [i 45 (mv o8) 0,
 i 46 (mv t45) 1,
 ig 47 (mv y0) 46 true 3,
 i 48 (.pick t46 t47 (.c (.pv (.bool false)))) 7] false)
 (.cond t48
 (.seq (.b6 [i 49 (mv t9) 0,
 i 50 (mv s8) 0,
 i 51 (.bin .eql t49 t50) 3,
 i 6 (mv t51) 7] false)
 .ret)
 .skip))
 (.seq (.b6 [i 52 (.b0 t5 1) 0,
 i 53 (.load false 1 t52) 1,
 i 54 (.b0 t4 1) 3,
 iz (.store 1 t54 t53) 7] false)
 (.seq (.b6 [i 55 (.load true 7 t4) 0,
 i 56 (.load true 7 t5) 0,
 i 57 (.eqs false [0,1,0,2,0,0,0] t55 t56) 3,
 i 6 (mv t57) 7] false)
 .ret)))))))⟩
def V7:m0:=⟨2,26,[.tmp 4],
 .seq (.b6 [i 4 (.mv (.c (.pv (.bool false)))) 0] false)
 (.seq (.seq (.b6 [i 6 (mv t0) 0,
 i 7 (.i5 t6) 1,
 i 8 (mv t1) 0,
 i 9 (.i5 t8) 4,
 i 10 (.bin .neq t7 t9) 15] false)
 (.cond o8
 (.seq (.b6 [i 4 (.mv (.c (.pv (.bool false)))) 0] false)
 .ret)
 .skip))
 (.seq (.seq (.b6 [i 11 (mv t0) 0,
 i 12 (.i5 s8) 1,
 i 13 (.mv (.c (I 0))) 0] false)
 (.block 0
 (.loop [0,1,12,13]
 (.seq (.b6 [i 14 (.bin .lss y6 y0) 0] false)
 (.seq (.cond B3
 .skip
 (.exit 0))
 (.seq (.block 1
 (.seq (.b6 [i 15 (mv y6) 0,
 i 5 (mv G2) 1] false)
 (.seq (.b6 [i 16 (mv t0) 0,
 i 17 (mv t5) 0,
 i 18 (.i6 1 F2 D5) 3,
 i 19 (.load false 1 G4) 7,
 i 20 (mv t1) 0,
 i 21 (mv t5) 0,
 i 22 (.i6 1 M1 K6) 48,
 i 23 (.load false 1 P1) 112,
 i 24 (.eqb true K2 T7) 255] true)
 (.cond X7
 (.seq (.b6 [i 4 (.mv (.c (.pv (.bool false)))) 0] false)
 .ret)
 .skip))))
 (.b6 [i 25 (.bin .add y6 (.c (I 1))) 0,
 i 13 (mv W0) 1] false)))))))
 (.seq (.b6 [i 4 (.mv (.c (.pv (.bool true)))) 0] false)
 .ret)))⟩
def a5e:m0:=⟨2,24,[.tmp 4],
 .seq (.b6 [i 2 (.box 1 t0) 0,
 i 4 (.mv (.c (.emp 1))) 0] false)
 (.seq (.b6 [i 9 (.load false 1 t2) 0,
 i 10 (.i5 t9) 1,
 i 11 (.b3u 1 1 [.bool false] o8) 3,
 i 5 (.alloc [.emp 1]) 0,
 iz (.store 1 t5 s8) 15] false)
 (.seq (.b6 [i 6 (.alloc [.pv .nilFunc]) 0] false)
 (.seq (.b6 [i 12 (.mkf (.func S5) [] [t2,t5,t6]) 0,
 iz (.store 1 t6 y0) 1] false)
 (.seq (.seq (.b6 [i 13 (mv t1) 0,
 i 14 (.i5 y6) 1,
 i 15 (.mv (.c (I 0))) 0] false)
 (.block 0
 (.loop [5,6,13,14,15]
 (.seq (.b6 [i 16 (.bin .lss G2 B3) 0] false)
 (.seq (.cond F2
 .skip
 (.exit 0))
 (.seq (.block 1
 (.seq (.b6 [i 17 (.i6 7 y6 G2) 0,
 i 18 (.load true 7 D5) 1,
 i 8 (.alloc z0) 0,
 iz (.store 7 t8 G4) 7] false)
 (.b6 [i 19 (.load false 1 t6) 0,
 i 20 (.load true 7 t8) 0,
 i 21 (.call K2 [M1]) 3] false)))
 (.b6 [i 22 (.bin .add G2 (.c (I 1))) 0,
 i 15 (mv P1) 1] false)))))))
 (.seq (.b6 [i 23 (.load false 1 t5) 0,
 i 4 (mv T7) 1] false)
 .ret)))))⟩
def a4b:m0:=⟨0,85,[.tmp 0],
 .seq (.b6 [i 0 (.mv (.c (.pv (.bool false)))) 0] false)
 (.seq (.b6 [i 8 (.call (.f o3) [.c (.pv (.str [70]))]) 0,
 i 9 (.call (.f U4) [.c (I 10)]) 1,
 i 10 (.call (.f o3) [.c (.pv (.str [70,111,110,116]))]) 3,
 i 11 (.M0 7 3 z0 [(0,t8),(1,t9),(2,o8)]) 7,
 i 12 (.call (.f K0) [s8]) 15,
 i 13 (.call (.f P6) [y0,.c (.pv (.str [100,101,102,105,110,101,114,101,115,111,117,114,99,101]))]) 31,
 i 7 (mv y6) 63,
 i 14 (.extract t7 0) 127,
 i 15 (.extract t7 1) 127,
 i 1 (.alloc z1) 0,
 iz (.store 67 t1 B3) 767,
 i 2 (mv G2) 2047] false)
 (.seq (.b6 [i 17 (.load true 67 t1) 0,
 i 18 (.call (.f o3) [.c (.pv (.str [70]))]) 0,
 i 19 (.call (.f P0) [D5,.c (.pv (.str [70,111,110,116])),G4]) 3,
 i 16 (mv K2) 7,
 i 20 (.extract F2 0) 15,
 i 21 (.extract F2 1) 15,
 i 3 (.alloc z0) 0,
 iz (.store 7 t3 M1) 95,
 i 4 (mv K6) 255] true)
 (.seq (.b6 [i 23 (.load true 67 t1) 0,
 i 24 (.call (.f o3) [.c (.pv (.str [70]))]) 0,
 i 25 (.call (.f P0) [T7,.c (.pv (.str [70,111,114,109])),X7]) 3,
 i 22 (mv W0) 7,
 i 26 (.extract P1 0) 15,
 i 27 (.extract P1 1) 15,
 i 5 (.alloc z0) 0,
 iz (.store 7 t5 t26) 95,
 i 6 (mv t27) 255] true)
 (.seq (.b6 [i 28 (mv t2) 0,
 i 29 (.bin .eql t28 (.c (I 0))) 1,
 i 30 (mv t29) 3,
 ig 31 (.b0 t1 0) 30 true 7,
 ig 32 (.load false 1 t31) 30 true 15,
 ig 33 (.call (.f U4) [.c (I 10)]) 30 true 7,
 ig 34 (.M0 7 1 z0 [(0,t33)]) 30 true 39,
 ig 35 (.call (.f y1) [t32,t34]) 30 true 127,
 i 36 (.pick t30 t35 (.c (.pv (.bool false)))) 255,
 i 37 (mv t36) 511,
 ig 38 (mv t4) 37 true 1023,
 ig 39 (.bin .eql t38 (.c (I 0))) 37 true 2047,
 i 40 (.pick t37 t39 (.c (.pv (.bool false)))) 4095,
 i 41 (mv t40) 8191,
 ig 42 (.load true 7 t3) 41 true 16383,
 ig 43 (.call (.f U4) [.c (I 10)]) 41 true 16383,
 ig 44 (.eqs false [0,1,0,2,0,0,0] t42 t43) 41 true 65535,
 i 45 (.pick t41 t44 (.c (.pv (.bool false)))) 131071,
 i 46 (mv t45) 262143,
 ig 47 (mv t6) 46 true 524287,
 ig 48 (.bin .eql t47 (.c (I 40))) 46 true 1048575,
 i 49 (.pick t46 t48 (.c (.pv (.bool false)))) 2097151,
 i 50 (mv t49) 4194303,
 ig 51 (.load true 67 t1) 50 true 8388607,
 ig 52 (.call (.f o3) [.c (.pv (.str [70]))]) 50 true 8388607,
 ig 53 (.call (.f o3) [.c (.pv (.str [70,111,110,116]))]) 50 true 25165823,
 ig 54 (.M0 7 2 z0 [(0,t52),(1,t53)]) 50 true 58720255,
 ig 55 (.call (.f U5) [t51,t54]) 50 true 134217727,
 ig 56 (.call (.f U4) [.c (I 10)]) 50 true 268435455,
 ig 57 (.M0 7 1 z0 [(0,t56)]) 50 true 536870911,
 ig 58 (.call (.f a3g) [t55,.c (.pv (.str [102,105,110,100,114,101,115,111,117,114,99,101])),t57]) 50 true 1073741823,
 i 59 (.pick t50 t58 (.c (.pv (.bool false)))) 2147483647,
 i 60 (mv t59) 4294967295,
 ig 61 (.load true 67 t1) 60 true 8589934591,
 ig 62 (.call (.f o3) [.c (.pv (.str [70]))]) 60 true 8589934591,
 ig 63 (.call (.f o3) [.c (.pv (.str [70,111,114,109]))]) 60 true 25769803775,
 ig 64 (.M0 7 2 z0 [(0,t62),(1,t63)]) 60 true 60129542143,
 ig 65 (.call (.f U5) [t61,t64]) 60 true 137438953471,
 ig 66 (.call (.f a1v) [.c (.pv (.bool false))]) 60 true 274877906943,
 ig 67 (.M0 7 1 z0 [(0,t66)]) 60 true 549755813887,
 ig 68 (.call (.f a3g) [t65,.c (.pv (.str [114,101,115,111,117,114,99,101,115,116,97,116,117,115])),t67]) 60 true 1099511627775,
 i 69 (.pick t60 t68 (.c (.pv (.bool false)))) 2199023255551,
 i 70 (mv t69) 4398046511103,
 ig 71 (.call (.f o3) [.c (.pv (.str [70]))]) 70 true 8796093022207,
 ig 72 (.call (.f a6S) [.c (I 1)]) 70 true 17592186044415,
 ig 73 (.call (.f o3) [.c (.pv (.str [70,111,110,116]))]) 70 true 35184372088831,
 ig 74 (.M0 7 3 z0 [(0,t71),(1,t72),(2,t73)]) 70 true 70368744177663,
 ig 75 (.call (.f K0) [t74]) 70 true 140737488355327,
 ig 76 (.call (.f W7) [t75,.c (.pv (.str [100,101,102,105,110,101,114,101,115,111,117,114,99,101])),.c (I 22)]) 70 true 281474976710655,
 i 77 (.pick t70 t76 (.c (.pv (.bool false)))) 562949953421311,
 i 78 (mv t77) 1125899906842623,
 ig 79 (.call (.f o3) [.c (.pv (.str [70]))]) 78 true 2251799813685247,
 ig 80 (.call (.f o3) [.c (.pv (.str [70,111,110,116,115]))]) 78 true 4503599627370495,
 ig 81 (.M0 7 2 z0 [(0,t79),(1,t80)]) 78 true 9007199254740991,
 ig 82 (.call (.f K0) [t81]) 78 true 18014398509481983,
 ig 83 (.call (.f W7) [t82,.c (.pv (.str [102,105,110,100,114,101,115,111,117,114,99,101])),.c (I 24)]) 78 true 36028797018963967,
 i 84 (.pick t78 t83 (.c (.pv (.bool false)))) 72057594037927935,
 i 0 (mv t84) 144115188075855871] true)
 .ret))))⟩
def a4e:m0:=⟨2,48,[.cell 4 true 67,.tmp 5],
 .seq (.b6 [i 2 (.box 67 t0) 0,
 i 4 (.alloc z1) 0,
 i 5 (.mv (.c (I 0))) 0] false)
 (.seq (.b6 [i 12 (.load true 67 t2) 0,
 i 13 (.build z1 [(0,67,y0)]) 1,
 i 6 (.alloc z1) 0,
 iz (.store 67 t6 y6) 7] false)
 (.seq (.b6 [i 14 (.load true 67 t6) 0,
 i 15 (.mkf (.func B8) [B3] []) 1,
 i 7 (.alloc [.pv .nilFunc]) 0,
 iz (.store 1 t7 G2) 7] false)
 (.seq (.b6 [i 16 (.mkf (.func O9) [] [t7,t2]) 0,
 i 8 (mv F2) 1] false)
 (.seq (.b6 [i 17 (.b0G) 0,
 i 18 (mv t8) 0,
 i 19 (.load true 67 t6) 0,
 i 20 (.mkf (.func z9) [K2] []) 4,
 i 21 (.call G4 [.c (I 3),M1]) 14,
 iz (.insert D5 (.c (.pv (.str [100,101,102,105,110,101,114,101,115,111,117,114,99,101]))) K6) 31,
 i 22 (mv t8) 0,
 i 23 (.load true 67 t6) 0,
 i 24 (.mkf (.func A0) [T7] []) 128,
 i 25 (.call P1 [.c (I 2),X7]) 478,
 iz (.insert D5 (.c (.pv (.str [102,105,110,100,114,101,115,111,117,114,99,101]))) W0) 991,
 i 26 (mv t8) 0,
 i 27 (.load true 67 t6) 0,
 i 28 (.mkf (.func A1) [t27] []) 4096,
 i 29 (.call t26 [.c (I 2),t28]) 15326,
 iz (.insert D5 (.c (.pv (.str [117,110,100,101,102,105,110,101,114,101,115,111,117,114,99,101]))) t29) 31711,
 i 30 (mv t8) 0,
 i 31 (.load true 67 t6) 0,
 i 32 (.mkf (.func A2) [t31] []) 131072,
 i 33 (.call t30 [.c (I 2),t32]) 490462,
 iz (.insert D5 (.c (.pv (.str [114,101,115,111,117,114,99,101,115,116,97,116,117,115]))) t33) 1014751,
 i 34 (mv D5) 2097151,
 i 9 (mv t34) 4194303] true)
 (.seq (.b6 [i 36 (mv t9) 0,
 i 37 (mv t1) 0,
 i 38 (.lookup t36 t37 (.pv .nilFunc)) 3,
 i 35 (mv t38) 7,
 i 39 (.extract t35 0) 15,
 i 40 (.extract t35 1) 15,
 i 10 (mv t39) 31,
 i 11 (mv t40) 127] false)
 (.seq (.seq (.b6 [i 41 (mv s8) 0,
 i 42 (.not t41) 1] false)
 (.cond t42
 (.seq (.b6 [i 43 (.load true 67 t2) 0,
 iz (.store 67 t4 t43) 1,
 i 5 (.mv (.c (I 24))) 3] false)
 .ret)
 .skip))
 (.seq (.b6 [i 44 (mv o8) 0,
 i 45 (.call t44 []) 1,
 i 46 (.extract t45 0) 3,
 i 47 (.extract t45 1) 3,
 iz (.store 67 t4 t46) 15,
 i 5 (mv t47) 31] false)
 .ret)))))))⟩
def U0:m0:=⟨2,52,[.tmp 4],
 .seq (.b6 [i 2 (.box 7 t0) 0,
 i 3 (.box 7 t1) 0,
 i 4 (.mv (.c (.pv (.bool false)))) 0] false)
 (.seq (.b6 [i 5 (.b0 t2 0) 0,
 i 6 (.load false 1 t5) 1,
 i 7 (.b0 t3 0) 0,
 i 8 (.load false 1 t7) 4,
 i 9 (.bin .eql t6 t8) 15,
 i 10 (mv t9) 31,
 ig 11 (.b0 t2 1) 10 true 63,
 ig 12 (.load false 1 s8) 10 true 127,
 ig 13 (.b0 t3 1) 10 true 63,
 ig 14 (.load false 1 y6) 10 true 319,
 ig 15 (.bin .eql y0 B3) 10 true 1023,
 i 16 (.pick o8 G2 (.c (.pv (.bool false)))) 2047,
 i 17 (mv F2) 4095,
 ig 18 (.b0 t2 2) 17 true 8191,
 ig 19 (.load false 1 G4) 17 true 16383,
 ig 20 (.b0 t3 2) 17 true 8191,
 ig 21 (.load false 1 M1) 17 true 40959,
 ig 22 (.call (.f p8) [K2,K6]) 17 true 131071,
 i 23 (.pick D5 P1 (.c (.pv (.bool false)))) 262143,
 i 24 (mv T7) 524287,
 ig 25 (.b0 t2 3) 24 true 1048575,
 ig 26 (.load false 1 W0) 24 true 2097151,
 ig 27 (.b0 t3 3) 24 true 1048575,
 ig 28 (.load false 1 t27) 24 true 5242879,
 ig 29 (.call (.f p8) [t26,t28]) 24 true 16777215,
 i 30 (.pick X7 t29 (.c (.pv (.bool false)))) 33554431,
 i 31 (mv t30) 67108863,
 ig 32 (.b0 t2 4) 31 true 134217727,
 ig 33 (.load false 1 t32) 31 true 268435455,
 ig 34 (.b0 t3 4) 31 true 134217727,
 ig 35 (.load false 1 t34) 31 true 671088639,
 ig 36 (.call (.f p8) [t33,t35]) 31 true 2147483647,
 i 37 (.pick t31 t36 (.c (.pv (.bool false)))) 4294967295,
 i 38 (mv t37) 8589934591,
 ig 39 (.b0 t2 5) 38 true 17179869183,
 ig 40 (.load false 1 t39) 38 true 34359738367,
 ig 41 (.b0 t3 5) 38 true 17179869183,
 ig 42 (.load false 1 t41) 38 true 85899345919,
 ig 43 (.bin .eql t40 t42) 38 true 274877906943,
 i 44 (.pick t38 t43 (.c (.pv (.bool false)))) 549755813887,
 i 45 (mv t44) 1099511627775,
 ig 46 (.b0 t2 6) 45 true 2199023255551,
 ig 47 (.load false 1 t46) 45 true 4398046511103,
 ig 48 (.b0 t3 6) 45 true 2199023255551,
 ig 49 (.load false 1 t48) 45 true 10995116277759,
 ig 50 (.bin .eql t47 t49) 45 true 35184372088831,
 i 51 (.pick t45 t50 (.c (.pv (.bool false)))) 70368744177663,
 i 4 (mv t51) 140737488355327] false)
 .ret)⟩
def w7:m0:=⟨2,139,[.cell 4 true 7],
 .seq (.b6 [i 2 (.box 5 t0) 0,
 i 4 (.alloc z2) 0] false)
 (.seq (.b6 [i 12 (.b0 t2 4) 0,
 i 13 (.load false 1 y0) 1,
 i 14 (.b0 t2 4) 0,
 i 15 (.load false 1 B3) 4,
 i 16 (.H0 G2) 12,
 i 17 (.mm false [F2,.c (I 40)]) 28,
 i 18 (.a2a y6 none (some D5)) 63,
 i 5 (mv G4) 127] false)
 (.seq (.seq (.b6 [i 19 (.b0 t2 0) 0,
 i 20 (.load false 1 K2) 1,
 i 21 (.bin .rem M1 (.c (.pv (.int .u8 (5))))) 3] false)
 (.block 0
 (.seq (.seq (.b6 [i 23 (.bin .eql K6 (.c (.pv (.int .u8 (0))))) 0,
 i 22 (mv T7) 1] false)
 (.cond P1
 .skip
 (.b6 [i 24 (.bin .eql K6 (.c (.pv (.int .u8 (1))))) 0,
 i 22 (mv X7) 1] false)))
 (.cond P1
 (.seq (.b6 [i 25 (mv t5) 0,
 i 26 (.build z2 [(0,1,.c (I 1)),(1,1,W0)]) 1,
 iz (.store 7 t4 t26) 3] false)
 .ret)
 (.seq (.b6 [i 28 (.bin .eql K6 (.c (.pv (.int .u8 (2))))) 0,
 i 27 (mv t28) 1] false)
 (.cond t27
 (.seq (.b6 [i 29 (.build z2 [(0,1,.c (I 2))]) 0,
 i 6 (.alloc z2) 0,
 iz (.store 7 t6 t29) 3] false)
 (.seq (.seq (.b6 [i 7 (.mv (.c (I 0))) 0] false)
 (.block 1
 (.loop [1,2,4,6,7]
 (.seq (.seq (.b6 [i 30 (mv t7) 0,
 i 31 (.b0 t2 1) 0,
 i 32 (.load false 1 t31) 2,
 i 33 (.bin .rem t32 (.c (.pv (.int .u8 (6))))) 6,
 i 34 (.conv .i64 t33) 14,
 i 35 (.bin .lss t30 t34) 31] false)
 (.cond t35
 .skip
 (.exit 1)))
 (.seq (.block 2
 (.seq (.b6 [i 38 (.b0 t2 2) 0,
 i 39 (.load false 1 t38) 1,
 i 40 (mv t7) 0,
 i 41 (.bin .mul (.c (I 5)) t40) 4,
 i 42 (.conv .u8 t41) 12,
 i 43 (.bin .add t39 t42) 31,
 i 44 (.b0 t2 1) 0,
 i 45 (.load false 1 t44) 64,
 i 46 (mv t7) 0,
 i 47 (.conv .u8 t46) 256,
 i 48 (.bin .add t45 t47) 960,
 i 49 (.b0 t2 2) 0,
 i 50 (.load false 1 t49) 2048,
 i 51 (mv t7) 0,
 i 52 (.bin .add t51 (.c (I 1))) 8192,
 i 53 (.conv .u8 t52) 24576,
 i 54 (.bin .mul t50 t53) 63488,
 i 55 (.b0 t2 3) 0,
 i 56 (.load false 1 t55) 131072,
 i 57 (mv t7) 0,
 i 58 (.bin .add t57 (.c (I 1))) 524288,
 i 59 (.conv .i32 t58) 1572864,
 i 60 (.bin .quo t56 t59) 4063232,
 i 61 (.build [.pv (.int .u8 (0)),.pv (.int .u8 (0)),.pv (.int .u8 (0)),.pv (.int .i32 (0)),.pv (.str [])] [(0,1,t43),(1,1,t48),(2,1,t54),(3,1,t60)]) 8388607,
 i 8 (.alloc [.pv (.int .u8 (0)),.pv (.int .u8 (0)),.pv (.int .u8 (0)),.pv (.int .i32 (0)),.pv (.str [])]) 0,
 iz (.store 5 t8 t61) 33554431] true)
 (.b6 [i 62 (.b0 t6 2) 0,
 i 63 (.load false 1 t62) 1,
 i 64 (.load true 5 t8) 0,
 i 65 (mv t1) 0,
 i 66 (.call (.f c9) [t64,t65]) 12,
 i 67 (.M0 7 1 z0 [(0,t66)]) 28,
 i 68 (.append 7 64 t63 t67) 63,
 i 69 (.b0 t6 2) 127,
 iz (.store 1 t69 t68) 255] true)))
 (.b6 [i 36 (mv t7) 0,
 i 37 (.bin .add t36 (.c (I 1))) 1,
 i 7 (mv t37) 3] false))))))
 (.seq (.b6 [i 70 (.load true 7 t6) 0,
 iz (.store 7 t4 t70) 1] false)
 .ret)))
 (.seq (.b6 [i 72 (.bin .eql K6 (.c (.pv (.int .u8 (3))))) 0,
 i 71 (mv t72) 1] false)
 (.cond t71
 (.seq (.b6 [i 73 (.b0 t2 1) 0,
 i 74 (.load false 1 t73) 1,
 i 75 (.bin .rem t74 (.c (.pv (.int .u8 (6))))) 3,
 i 76 (.conv .i64 t75) 7,
 i 77 (.call (.f l0) [t76]) 15,
 i 9 (.alloc z2) 0,
 iz (.store 7 t9 t77) 63] false)
 (.seq (.seq (.b6 [i 10 (.mv (.c (I 0))) 0] false)
 (.block 3
 (.loop [1,2,4,9,10]
 (.seq (.seq (.b6 [i 78 (mv o8) 0,
 i 79 (.b0 t2 2) 0,
 i 80 (.load false 1 t79) 2,
 i 81 (.bin .rem t80 (.c (.pv (.int .u8 (4))))) 6,
 i 82 (.conv .i64 t81) 14,
 i 83 (.bin .lss t78 t82) 31,
 i 84 (mv t83) 63,
 ig 85 (mv o8) 84 true 127,
 ig 86 (.b0 t9 5) 84 true 127,
 ig 87 (.load false 1 t86) 84 true 383,
 ig 88 (.bin .lss t85 t87) 84 true 1023,
 i 89 (.pick t84 t88 (.c (.pv (.bool false)))) 2047] false)
 (.cond t89
 .skip
 (.exit 3)))
 (.seq (.block 4
 (.seq (.b6 [i 92 (.b0 t2 2) 0,
 i 93 (.load false 1 t92) 1,
 i 94 (mv o8) 0,
 i 95 (.bin .mul (.c (I 3)) t94) 4,
 i 96 (.conv .u8 t95) 12,
 i 97 (.bin .add t93 t96) 31,
 i 98 (.b0 t2 1) 0,
 i 99 (.load false 1 t98) 64,
 i 100 (mv o8) 0,
 i 101 (.conv .u8 b6U) 256,
 i 102 (.bin .add t99 b6V) 960,
 i 103 (.b0 t2 2) 0,
 i 104 (.load false 1 b6X) 2048,
 i 105 (.b0 t2 3) 0,
 i 106 (.load false 1 b7X) 8192,
 i 107 (.build [.pv (.int .u8 (0)),.pv (.int .u8 (0)),.pv (.int .u8 (0)),.pv (.int .i32 (0)),.pv (.str [])] [(0,1,t97),(1,1,b6W),(2,1,b7W),(3,1,b7Y)]) 32767,
 i 11 (.alloc [.pv (.int .u8 (0)),.pv (.int .u8 (0)),.pv (.int .u8 (0)),.pv (.int .i32 (0)),.pv (.str [])]) 0,
 iz (.store 5 s8 b7Z) 131071] false)
 (.seq (.b6 [i 108 (.b0 t9 3) 0,
 i 109 (.load false 1 b6Y) 1,
 i 110 (mv o8) 0,
 i 111 (.a7G 8 1 (.g 0) b8b) 4,
 i 112 (.load false 1 b8c) 12,
 i 113 (.call (.f v3) [b8d]) 28,
 i 114 (.M0 7 1 z0 [(0,b8e)]) 60,
 i 115 (.append 7 64 b8a b8f) 127,
 i 116 (.b0 t9 3) 255,
 iz (.store 1 b8h b8g) 511] true)
 (.b6 [i 117 (.b0 t9 4) 0,
 i 118 (.load false 1 b8i) 1,
 i 119 (.load true 5 s8) 0,
 i 120 (mv t1) 0,
 i 121 (.call (.f c9) [b8k,b8l]) 12,
 i 122 (.M0 7 1 z0 [(0,b6Z)]) 28,
 i 123 (.append 7 64 b8j b8m) 63,
 i 124 (.b0 t9 4) 127,
 iz (.store 1 b8o b8n) 255] true))))
 (.b6 [i 90 (mv o8) 0,
 i 91 (.bin .add t90 (.c (I 1))) 1,
 i 10 (mv t91) 3] false))))))
 (.seq (.b6 [i 125 (.load true 7 t9) 0,
 iz (.store 7 t4 b8p) 1] false)
 .ret)))
 .skip))))))))
 (.seq (.b6 [i 126 (mv t5) 0,
 i 127 (.b0 t2 1) 0,
 i 128 (.load false 1 b7a) 2,
 i 129 (.conv .i64 b8r) 6,
 i 130 (mv t5) 0,
 i 131 (.H0 b8t) 16,
 i 132 (.bin .add b8u (.c (I 1))) 48,
 i 133 (.bin .rem b8s b8v) 126,
 i 134 (.b0 t2 2) 0,
 i 135 (.load false 1 b8x) 256,
 i 136 (.bin .rem b8y (.c (.pv (.int .u8 (2))))) 768,
 i 137 (.conv .i64 b8z) 1792,
 i 138 (.build z2 [(0,1,.c (I 4)),(1,1,b8q),(6,1,b8w),(5,1,b8A)]) 4095,
 iz (.store 7 t4 b8B) 8191] true)
 .ret)))⟩
def X9:m0:=⟨4,47,[.tmp 8,.tmp 9],
 .seq (.b6 [i 5 (.box 7 t1) 0,
 i 8 (.mv (.c (.emp 7))) 0,
 i 9 (.mv (.c (I 0))) 2] false)
 (.seq (.b6 [i 14 (mv t0) 0,
 i 15 (.load true 7 t5) 0,
 i 16 (.M0 1 1 [I 0] [(0,.c (I 6))]) 0,
 i 17 (.call (.f x7) [B3,G2,F2]) 7,
 i 13 (mv D5) 15,
 i 18 (.extract y6 0) 31,
 i 19 (.extract y6 1) 31,
 i 10 (.alloc [.emp 7,I 0,.pv (.bool false),I 0,.pv (.str []),I 0,I 0,I 0]) 0,
 iz (.store 8 o8 G4) 191,
 i 11 (mv K2) 511] false)
 (.seq (.seq (.b6 [i 20 (mv s8) 0,
 i 21 (.bin .eql M1 (.c (I 0))) 1] false)
 (.cond K6
 (.b6 [i 22 (.load true 8 o8) 0,
 i 23 (mv t2) 0,
 i 24 (mv t3) 0,
 i 25 (.H0 X7) 4,
 i 26 (.call (.f L6) [P1,T7,W0]) 15,
 i 11 (mv t26) 31] false)
 .skip))
 (.seq (.seq (.b6 [i 27 (mv s8) 0,
 i 28 (.bin .neq t27 (.c (I 0))) 1] false)
 (.cond t28
 (.seq (.b6 [i 29 (mv s8) 0,
 i 8 (.mv (.c (.emp 7))) 0,
 i 9 (mv t29) 3] false)
 .ret)
 .skip))
 (.seq (.b6 [i 30 (.load true 8 o8) 0,
 i 31 (.call (.f n5) [t30]) 1,
 i 12 (.alloc z2) 0,
 iz (.store 7 y0 t31) 7] false)
 (.seq (.b6 [i 32 (.b0 y0 1) 0,
 i 33 (.load false 1 t32) 1,
 i 34 (.s2b t33) 3,
 i 35 (.b0 t5 5) 0,
 i 36 (.load false 1 t35) 8,
 i 37 (mv t2) 0,
 i 38 (.bin .add t36 t37) 56,
 i 39 (mv t3) 0,
 i 40 (.s2b t39) 128,
 i 41 (.call (.f C4) [t34,t38,t40]) 511,
 i 42 (.b2s t41) 1023,
 i 43 (.b0 y0 1) 2047,
 iz (.store 1 t43 t42) 4095] false)
 (.seq (.b6 [i 44 (.load true 8 o8) 0,
 i 45 (.load true 7 y0) 0,
 i 46 (.call (.f u9) [t44,t45]) 3,
 i 8 (mv t46) 7,
 i 9 (.mv (.c (I 0))) 15] false)
 .ret))))))⟩
def a2n:m0:=⟨2,29,[.tmp 4,.tmp 5],
 .seq (.b6 [i 3 (.box 7 t1) 0,
 i 4 (.mv (.c (.pv (.str [])))) 0,
 i 5 (.mv (.c (I 0))) 2] false)
 (.seq (.b6 [i 9 (mv t0) 0,
 i 10 (.load true 7 t3) 0,
 i 11 (.M0 1 1 [I 0] [(0,.c (I 6))]) 0,
 i 12 (.call (.f x7) [t9,o8,s8]) 7,
 i 8 (mv y0) 15,
 i 13 (.extract t8 0) 31,
 i 14 (.extract t8 1) 31,
 i 6 (.alloc [.emp 7,I 0,.pv (.bool false),I 0,.pv (.str []),I 0,I 0,I 0]) 0,
 iz (.store 8 t6 y6) 191,
 i 7 (mv B3) 511] false)
 (.seq (.seq (.b6 [i 15 (mv t7) 0,
 i 16 (.bin .neq G2 (.c (I 0))) 1] false)
 (.cond F2
 (.seq (.b6 [i 17 (mv t7) 0,
 i 4 (.mv (.c (.pv (.str [])))) 0,
 i 5 (mv D5) 3] false)
 .ret)
 .skip))
 (.seq (.b6 [i 18 (.load true 8 t6) 0,
 i 19 (.call (.f n5) [G4]) 1,
 i 20 (.field false 1 1 K2) 3,
 i 21 (.b0 t3 5) 0,
 i 22 (.load false 1 K6) 8,
 i 23 (.b0 t3 5) 0,
 i 24 (.load false 1 T7) 32,
 i 25 (.b0 t3 6) 0,
 i 26 (.load false 1 W0) 128,
 i 27 (.bin .add X7 t26) 480,
 i 28 (.a2a M1 (some P1) (some t27)) 1023,
 i 4 (mv t28) 2047,
 i 5 (.mv (.c (I 0))) 4095] true)
 .ret)))⟩
def a5c:m0:=⟨2,34,[.tmp 4,.tmp 5],
 .seq (.b6 [i 3 (.box 7 t1) 0,
 i 4 (.mv (.c (.emp 7))) 0,
 i 5 (.mv (.c (I 0))) 2] false)
 (.seq (.b6 [i 9 (mv t0) 0,
 i 10 (.load true 7 t3) 0,
 i 11 (.M0 1 2 [I 0] [(0,.c (I 7)),(1,.c (I 8))]) 0,
 i 12 (.call (.f x7) [t9,o8,s8]) 7,
 i 8 (mv y0) 15,
 i 13 (.extract t8 0) 31,
 i 14 (.extract t8 1) 31,
 i 6 (.alloc [.emp 7,I 0,.pv (.bool false),I 0,.pv (.str []),I 0,I 0,I 0]) 0,
 iz (.store 8 t6 y6) 191,
 i 7 (mv B3) 511] false)
 (.seq (.seq (.b6 [i 15 (mv t7) 0,
 i 16 (.bin .neq G2 (.c (I 0))) 1] false)
 (.cond F2
 (.seq (.b6 [i 17 (mv t7) 0,
 i 4 (.mv (.c (.emp 7))) 0,
 i 5 (mv D5) 3] false)
 .ret)
 .skip))
 (.seq (.b6 [i 18 (.load true 8 t6) 0,
 i 19 (.call (.f n5) [G4]) 1,
 i 20 (.field false 2 1 K2) 3,
 i 21 (.b0 t3 5) 0,
 i 22 (.load false 1 K6) 8,
 i 23 (.b0 t3 5) 0,
 i 24 (.load false 1 T7) 32,
 i 25 (.b0 t3 6) 0,
 i 26 (.load false 1 W0) 128,
 i 27 (.bin .add X7 t26) 480,
 i 28 (.b0 t3 5) 0,
 i 29 (.load false 1 t28) 1024,
 i 30 (.b0 t3 6) 0,
 i 31 (.load false 1 t30) 4096,
 i 32 (.bin .add t29 t31) 15360,
 i 33 (.slice 7 M1 (some P1) (some t27) (some t32)) 32767,
 i 4 (mv t33) 65535,
 i 5 (.mv (.c (I 0))) 131071] true)
 .ret)))⟩
def a5d:m0:=⟨2,34,[.cell 4 true 7,.tmp 5],
 .seq (.b6 [i 3 (.box 7 t1) 0,
 i 4 (.alloc z0) 0,
 i 5 (.mv (.c (I 0))) 0] false)
 (.seq (.seq (.b6 [i 8 (mv t0) 0,
 i 9 (.load true 7 t3) 0,
 i 10 (.call (.f C3) [t8,t9]) 3,
 i 11 (.not o8) 7] false)
 (.cond s8
 (.seq (.b6 [i 12 (.build z0 []) 0,
 iz (.store 7 t4 y0) 1,
 i 5 (.mv (.c (I 2))) 3] false)
 .ret)
 .skip))
 (.seq (.seq (.b6 [i 13 (.b0 t3 0) 0,
 i 14 (.load false 1 y6) 1,
 i 15 (.bin .neq B3 (.c (I 6))) 3] false)
 (.cond G2
 (.seq (.b6 [i 16 (.load true 7 t3) 0,
 i 17 (.call (.f U7) [F2]) 1,
 i 18 (.extract D5 0) 3,
 i 19 (.extract D5 1) 3,
 iz (.store 7 t4 G4) 15,
 i 5 (mv K2) 31] false)
 .ret)
 .skip))
 (.seq (.b6 [i 21 (mv t0) 0,
 i 22 (.load true 7 t3) 0,
 i 23 (.call (.f N7) [K6,P1]) 3,
 i 20 (mv T7) 7,
 i 24 (.extract M1 0) 15,
 i 25 (.extract M1 1) 15,
 i 6 (mv X7) 31,
 i 7 (mv W0) 127] false)
 (.seq (.seq (.b6 [i 26 (mv t6) 0,
 i 27 (.H0 t26) 1,
 i 28 (.bin .gtr t27 (.c (I 100))) 3] false)
 (.cond t28
 (.seq (.b6 [i 29 (.build z0 []) 0,
 iz (.store 7 t4 t29) 1,
 i 5 (.mv (.c (I 23))) 3] false)
 .ret)
 .skip))
 (.seq (.b6 [i 30 (mv t6) 0,
 i 31 (.call (.f W9) [t30,.c (.pv (.bool false))]) 1,
 i 32 (.extract t31 0) 3,
 i 33 (.extract t31 1) 3,
 iz (.store 7 t4 t32) 15,
 i 5 (mv t33) 31] false)
 .ret)))))⟩
def a3x:m0:=⟨3,45,[.cell 6 true 7,.tmp 7,.tmp 8],
 .seq (.b6 [i 4 (.box 7 t1) 0,
 i 5 (.box 7 t2) 0,
 i 6 (.alloc z0) 0,
 i 7 (.mv (.c (.pv (.bool false)))) 0,
 i 8 (.mv (.c (I 0))) 8] false)
 (.seq (.b6 [i 14 (mv t0) 0,
 i 15 (.load true 7 t4) 0,
 i 16 (.M0 1 1 [I 0] [(0,.c (I 9))]) 0,
 i 17 (.call (.f x7) [B3,G2,F2]) 7,
 i 13 (mv D5) 15,
 i 18 (.extract y6 0) 31,
 i 19 (.extract y6 1) 31,
 i 9 (.alloc [.emp 7,I 0,.pv (.bool false),I 0,.pv (.str []),I 0,I 0,I 0]) 0,
 iz (.store 8 t9 G4) 191,
 i 10 (mv K2) 511] false)
 (.seq (.seq (.b6 [i 20 (mv o8) 0,
 i 21 (.bin .neq M1 (.c (I 0))) 1] false)
 (.cond K6
 (.seq (.b6 [i 22 (.build z0 []) 0,
 i 23 (mv o8) 0,
 iz (.store 7 t6 P1) 1,
 i 7 (.mv (.c (.pv (.bool false)))) 5,
 i 8 (mv T7) 15] false)
 .ret)
 .skip))
 (.seq (.b6 [i 24 (.load true 8 t9) 0,
 i 25 (.call (.f n5) [X7]) 1,
 i 11 (.alloc z2) 0,
 iz (.store 7 s8 W0) 7] false)
 (.seq (.b6 [i 26 (.b0 s8 3) 0,
 i 27 (.load false 1 t26) 1,
 i 28 (.load true 7 t5) 0,
 i 29 (.call (.f u5) [t27,t28]) 7,
 i 12 (mv t29) 15] false)
 (.seq (.seq (.b6 [i 30 (mv y0) 0,
 i 31 (.bin .lss t30 (.c (I 0))) 1,
 i 32 (mv t31) 3,
 ig 33 (mv y0) 32 false 7,
 ig 34 (.b0 s8 4) 32 false 7,
 ig 35 (.load false 1 t34) 32 false 23,
 ig 36 (.i5 t35) 32 false 55,
 ig 37 (.bin .geq t33 t36) 32 false 127,
 i 38 (.pick t32 (.c (.pv (.bool true))) t37) 255] false)
 (.cond t38
 (.seq (.b6 [i 39 (.build z0 []) 0,
 iz (.store 7 t6 t39) 1,
 i 7 (.mv (.c (.pv (.bool false)))) 3,
 i 8 (.mv (.c (I 0))) 7] false)
 .ret)
 .skip))
 (.seq (.b6 [i 40 (.b0 s8 4) 0,
 i 41 (.load false 1 t40) 1,
 i 42 (mv y0) 0,
 i 43 (.i6 7 t41 t42) 7,
 i 44 (.load true 7 t43) 15,
 iz (.store 7 t6 t44) 31,
 i 7 (.mv (.c (.pv (.bool true)))) 63,
 i 8 (.mv (.c (I 0))) 127] false)
 .ret))))))⟩
def a2o:m0:=⟨4,84,[.tmp 8,.tmp 9],
 .seq (.b6 [i 5 (.box 7 t1) 0,
 i 6 (.box 7 t2) 0,
 i 7 (.box 7 t3) 0,
 i 8 (.mv (.c (.emp 7))) 0,
 i 9 (.mv (.c (I 0))) 8] false)
 (.seq (.b6 [i 15 (mv t0) 0,
 i 16 (.load true 7 t5) 0,
 i 17 (.M0 1 1 [I 0] [(0,.c (I 9))]) 0,
 i 18 (.call (.f x7) [G2,F2,D5]) 7,
 i 14 (mv G4) 15,
 i 19 (.extract B3 0) 31,
 i 20 (.extract B3 1) 31,
 i 10 (.alloc [.emp 7,I 0,.pv (.bool false),I 0,.pv (.str []),I 0,I 0,I 0]) 0,
 iz (.store 8 o8 K2) 191,
 i 11 (mv M1) 511] false)
 (.seq (.seq (.b6 [i 21 (mv s8) 0,
 i 22 (.bin .neq K6 (.c (I 0))) 1] false)
 (.cond P1
 (.seq (.b6 [i 23 (mv s8) 0,
 i 8 (.mv (.c (.emp 7))) 0,
 i 9 (mv T7) 3] false)
 .ret)
 .skip))
 (.seq (.b6 [i 24 (.load true 8 o8) 0,
 i 25 (.call (.f n5) [X7]) 1,
 i 12 (.alloc z2) 0,
 iz (.store 7 y0 W0) 7] false)
 (.seq (.seq (.b6 [i 26 (.b0 y0 3) 0,
 i 27 (.load false 1 t26) 1,
 i 28 (.load true 7 t6) 0,
 i 29 (.call (.f u5) [t27,t28]) 7,
 i 13 (mv t29) 15] false)
 (.seq (.b6 [i 30 (mv y6) 0,
 i 31 (.bin .geq t30 (.c (I 0))) 1,
 i 32 (mv t31) 3,
 ig 33 (mv y6) 32 true 7,
 ig 34 (.b0 y0 4) 32 true 7,
 ig 35 (.load false 1 t34) 32 true 23,
 ig 36 (.i5 t35) 32 true 55,
 ig 37 (.bin .lss t33 t36) 32 true 127,
 i 38 (.pick t32 t37 (.c (.pv (.bool false)))) 255] false)
 (.cond t38
 (.seq (.b6 [i 39 (.b0 y0 4) 0,
 i 40 (.load false 1 t39) 1,
 i 41 (mv y6) 0,
 i 42 (.load true 7 t7) 0,
 i 43 (.M0 7 1 z0 [(0,t42)]) 8,
 i 44 (.call (.f D7) [t40,t41,t43]) 31,
 i 45 (.b0 y0 4) 63,
 iz (.store 1 t45 t44) 127] false)
 (.seq (.b6 [i 46 (.load true 8 o8) 0,
 i 47 (.load true 7 y0) 0,
 i 48 (.call (.f u9) [t46,t47]) 3,
 i 8 (mv t48) 7,
 i 9 (.mv (.c (I 0))) 15] false)
 .ret))
 .skip)))
 (.seq (.seq (.b6 [i 49 (.b0 y0 3) 0,
 i 50 (.load false 1 t49) 1,
 i 51 (.i5 t50) 3,
 i 52 (.b0 y0 5) 0,
 i 53 (.load false 1 t52) 8,
 i 54 (.bin .geq t51 t53) 31] false)
 (.cond t54
 (.seq (.b6 [i 8 (.mv (.c (.emp 7))) 0,
 i 9 (.mv (.c (I 30))) 1] false)
 .ret)
 .skip))
 (.seq (.b6 [i 55 (.b0 y0 3) 0,
 i 56 (.load false 1 t55) 1,
 i 57 (.b0 y0 3) 0,
 i 58 (.load false 1 t57) 4,
 i 59 (.i5 t58) 12,
 i 60 (.b0 y0 3) 0,
 i 61 (.load false 1 t60) 32,
 i 62 (.i5 t61) 96,
 i 63 (.slice 7 t56 none (some t59) (some t62)) 255,
 i 64 (.load true 7 t6) 0,
 i 65 (.M0 7 1 z0 [(0,t64)]) 512,
 i 66 (.append 7 64 t63 t65) 2047,
 i 67 (.b0 y0 3) 4095,
 iz (.store 1 t67 t66) 8191] true)
 (.seq (.b6 [i 68 (.b0 y0 4) 0,
 i 69 (.load false 1 t68) 1,
 i 70 (.b0 y0 4) 0,
 i 71 (.load false 1 t70) 4,
 i 72 (.i5 t71) 12,
 i 73 (.b0 y0 4) 0,
 i 74 (.load false 1 t73) 32,
 i 75 (.i5 t74) 96,
 i 76 (.slice 7 t69 none (some t72) (some t75)) 255,
 i 77 (.load true 7 t7) 0,
 i 78 (.M0 7 1 z0 [(0,t77)]) 512,
 i 79 (.append 7 64 t76 t78) 2047,
 i 80 (.b0 y0 4) 4095,
 iz (.store 1 t80 t79) 8191] true)
 (.seq (.b6 [i 81 (.load true 8 o8) 0,
 i 82 (.load true 7 y0) 0,
 i 83 (.call (.f u9) [t81,t82]) 3,
 i 8 (mv t83) 7,
 i 9 (.mv (.c (I 0))) 15] false)
 .ret))))))))⟩
def a3W:m0:=⟨3,57,[.tmp 6,.tmp 7],
 .seq (.b6 [i 4 (.box 7 t1) 0,
 i 5 (.box 7 t2) 0,
 i 6 (.mv (.c (.emp 7))) 0,
 i 7 (.mv (.c (I 0))) 4] false)
 (.seq (.b6 [i 13 (mv t0) 0,
 i 14 (.load true 7 t4) 0,
 i 15 (.M0 1 1 [I 0] [(0,.c (I 9))]) 0,
 i 16 (.call (.f x7) [y6,B3,G2]) 7,
 i 12 (mv F2) 15,
 i 17 (.extract y0 0) 31,
 i 18 (.extract y0 1) 31,
 i 8 (.alloc [.emp 7,I 0,.pv (.bool false),I 0,.pv (.str []),I 0,I 0,I 0]) 0,
 iz (.store 8 t8 D5) 191,
 i 9 (mv G4) 511] false)
 (.seq (.seq (.b6 [i 19 (mv t9) 0,
 i 20 (.bin .neq K2 (.c (I 0))) 1] false)
 (.cond M1
 (.seq (.b6 [i 21 (mv t9) 0,
 i 6 (.mv (.c (.emp 7))) 0,
 i 7 (mv K6) 3] false)
 .ret)
 .skip))
 (.seq (.b6 [i 22 (.load true 8 t8) 0,
 i 23 (.call (.f n5) [P1]) 1,
 i 10 (.alloc z2) 0,
 iz (.store 7 o8 T7) 7] false)
 (.seq (.b6 [i 24 (.b0 o8 3) 0,
 i 25 (.load false 1 X7) 1,
 i 26 (.load true 7 t5) 0,
 i 27 (.call (.f u5) [W0,t26]) 7,
 i 11 (mv t27) 15] false)
 (.seq (.seq (.b6 [i 28 (mv s8) 0,
 i 29 (.bin .lss t28 (.c (I 0))) 1,
 i 30 (mv t29) 3,
 ig 31 (mv s8) 30 false 7,
 ig 32 (.b0 o8 4) 30 false 7,
 ig 33 (.load false 1 t32) 30 false 23,
 ig 34 (.i5 t33) 30 false 55,
 ig 35 (.bin .geq t31 t34) 30 false 127,
 i 36 (.pick t30 (.c (.pv (.bool true))) t35) 255] false)
 (.cond t36
 (.seq (.b6 [i 37 (mv t0) 0,
 i 6 (mv t37) 1,
 i 7 (.mv (.c (I 0))) 3] false)
 .ret)
 .skip))
 (.seq (.b6 [i 38 (.b0 o8 3) 0,
 i 39 (.load false 1 t38) 1,
 i 40 (.call (.f k8) [t39]) 3,
 i 41 (mv s8) 0,
 i 42 (mv s8) 0,
 i 43 (.bin .add t42 (.c (I 1))) 16,
 i 44 (.call (.f E0) [t40,t41,t43]) 63,
 i 45 (.b0 o8 4) 0,
 i 46 (.load false 1 t45) 128,
 i 47 (.call (.f k8) [t46]) 511,
 i 48 (mv s8) 0,
 i 49 (mv s8) 0,
 i 50 (.bin .add t49 (.c (I 1))) 2048,
 i 51 (.call (.f E0) [t47,t48,t50]) 8191,
 i 52 (.b0 o8 3) 511,
 iz (.store 1 t52 t44) 32767,
 i 53 (.b0 o8 4) 65535,
 iz (.store 1 t53 t51) 131071] true)
 (.seq (.b6 [i 54 (.load true 8 t8) 0,
 i 55 (.load true 7 o8) 0,
 i 56 (.call (.f u9) [t54,t55]) 3,
 i 6 (mv t56) 7,
 i 7 (.mv (.c (I 0))) 15] false)
 .ret)))))))⟩
def a1s:m0:=⟨2,90,[.tmp 4],
 .seq (.b6 [i 2 (.box 57 t0) 0,
 i 3 (.box 57 t1) 0,
 i 4 (.mv (.c (.pv (.bool false)))) 0] false)
 (.seq (.b6 [i 5 (.b0 t2 0) 0,
 i 6 (.load true 6 t5) 1,
 i 7 (.b0 t3 0) 0,
 i 8 (.load true 6 t7) 4,
 i 9 (.eqs false [0,0,0,0,0,0] t6 t8) 15,
 i 10 (mv t9) 31,
 ig 11 (.b0 t2 6) 10 true 63,
 ig 12 (.load false 1 s8) 10 true 127,
 ig 13 (.i5 y0) 10 true 255,
 ig 14 (.b0 t3 6) 10 true 63,
 ig 15 (.load false 1 B3) 10 true 575,
 ig 16 (.i5 G2) 10 true 1599,
 ig 17 (.bin .eql y6 F2) 10 true 4095,
 i 18 (.pick o8 D5 (.c (.pv (.bool false)))) 8191,
 i 19 (mv G4) 16383,
 ig 20 (.b0 t2 7) 19 true 32767,
 ig 21 (.b0 M1 0) 19 true 65535,
 ig 22 (.load false 1 K6) 19 true 131071,
 ig 23 (.b0 t3 7) 19 true 32767,
 ig 24 (.b0 T7 0) 19 true 294911,
 ig 25 (.load false 1 X7) 19 true 819199,
 ig 26 (.bin .eql P1 W0) 19 true 2097151,
 i 27 (.pick K2 t26 (.c (.pv (.bool false)))) 4194303,
 i 28 (mv t27) 8388607,
 ig 29 (.b0 t2 7) 28 true 16777215,
 ig 30 (.b0 t29 1) 28 true 33554431,
 ig 31 (.load true 4 t30) 28 true 67108863,
 ig 32 (.b0 t3 7) 28 true 16777215,
 ig 33 (.b0 t32 1) 28 true 150994943,
 ig 34 (.load true 4 t33) 28 true 419430399,
 ig 35 (.eqs false [0,0,0,0] t31 t34) 28 true 1073741823,
 i 36 (.pick t28 t35 (.c (.pv (.bool false)))) 2147483647,
 i 37 (mv t36) 4294967295,
 ig 38 (.b0 t2 34) 37 true 8589934591,
 ig 39 (.b0 t38 0) 37 true 17179869183,
 ig 40 (.load false 1 t39) 37 true 34359738367,
 ig 41 (.b0 t3 34) 37 true 8589934591,
 ig 42 (.b0 t41 0) 37 true 77309411327,
 ig 43 (.load false 1 t42) 37 true 214748364799,
 ig 44 (.bin .eql t40 t43) 37 true 549755813887,
 i 45 (.pick t37 t44 (.c (.pv (.bool false)))) 1099511627775,
 i 46 (mv t45) 2199023255551,
 ig 47 (.b0 t2 40) 46 true 4398046511103,
 ig 48 (.load false 1 t47) 46 true 8796093022207,
 ig 49 (.b0 t3 40) 46 true 4398046511103,
 ig 50 (.load false 1 t49) 46 true 21990232555519,
 ig 51 (.bin .eql t48 t50) 46 true 70368744177663,
 i 52 (.pick t46 t51 (.c (.pv (.bool false)))) 140737488355327,
 i 53 (mv t52) 281474976710655,
 ig 54 (.b0 t2 41) 53 true 562949953421311,
 ig 55 (.load false 1 t54) 53 true 1125899906842623,
 ig 56 (.i5 t55) 53 true 2251799813685247,
 ig 57 (.b0 t3 41) 53 true 562949953421311,
 ig 58 (.load false 1 t57) 53 true 5066549580791807,
 ig 59 (.i5 t58) 53 true 14073748835532799,
 ig 60 (.bin .eql t56 t59) 53 true 36028797018963967,
 i 61 (.pick t53 t60 (.c (.pv (.bool false)))) 72057594037927935,
 i 62 (mv t61) 144115188075855871,
 ig 63 (.b0 t2 42) 62 true 288230376151711743,
 ig 64 (.load true 7 t63) 62 true 576460752303423487,
 ig 65 (.b0 t3 42) 62 true 288230376151711743,
 ig 66 (.load true 7 t65) 62 true 1441151880758558719,
 ig 67 (.eqs false [0,1,0,2,0,0,0] t64 t66) 62 true 4611686018427387903,
 i 68 (.pick t62 t67 (.c (.pv (.bool false)))) 9223372036854775807,
 i 69 (mv t68) 18446744073709551615,
 ig 70 (.b0 t2 49) 69 true 36893488147419103231,
 ig 71 (.load true 6 t70) 69 true 73786976294838206463,
 ig 72 (.b0 t3 49) 69 true 36893488147419103231,
 ig 73 (.load true 6 t72) 69 true 184467440737095516159,
 ig 74 (.eqs false [0,0,0,0,0,0] t71 t73) 69 true 590295810358705651711,
 i 75 (.pick t69 t74 (.c (.pv (.bool false)))) 1180591620717411303423,
 i 76 (mv t75) 2361183241434822606847,
 ig 77 (.b0 t2 55) 76 true 4722366482869645213695,
 ig 78 (.load false 1 t77) 76 true 9444732965739290427391,
 ig 79 (.b0 t3 55) 76 true 4722366482869645213695,
 ig 80 (.load false 1 t79) 76 true 23611832414348226068479,
 ig 81 (.bin .eql t78 t80) 76 true 75557863725914323419135,
 i 82 (.pick t76 t81 (.c (.pv (.bool false)))) 151115727451828646838271,
 i 83 (mv t82) 302231454903657293676543,
 ig 84 (.b0 t2 56) 83 true 604462909807314587353087,
 ig 85 (.load false 1 t84) 83 true 1208925819614629174706175,
 ig 86 (.b0 t3 56) 83 true 604462909807314587353087,
 ig 87 (.load false 1 t86) 83 true 3022314549036572936765439,
 ig 88 (.bin .eql t85 t87) 83 true 9671406556917033397649407,
 i 89 (.pick t83 t88 (.c (.pv (.bool false)))) 19342813113834066795298815,
 i 4 (mv t89) 38685626227668133590597631] false)
 .ret)⟩
def F4:m0:=⟨1,8,[.tmp 2],
 .seq (.b6 [i 2 (.mv (.c (.emp 7))) 0] false)
 (.seq (.seq (.b6 [i 3 (mv t0) 0,
 i 4 (.a8O false t3) 1] false)
 (.cond t4
 (.seq (.b6 [i 2 (.mv (.c (.emp 7))) 0] false)
 .ret)
 .skip))
 (.seq (.b6 [i 5 (.M0 7 0 z0 []) 0,
 i 6 (mv t0) 0,
 i 7 (.append 7 64 t5 t6) 3,
 i 2 (mv t7) 7] false)
 .ret))⟩
def N0:m0:=⟨2,26,[.tmp 4],
 .seq (.b6 [i 4 (.mv (.c (.pv (.bool false)))) 0] false)
 (.seq (.seq (.b6 [i 6 (mv t0) 0,
 i 7 (.i5 t6) 1,
 i 8 (mv t1) 0,
 i 9 (.i5 t8) 4,
 i 10 (.bin .neq t7 t9) 15] false)
 (.cond o8
 (.seq (.b6 [i 4 (.mv (.c (.pv (.bool false)))) 0] false)
 .ret)
 .skip))
 (.seq (.seq (.b6 [i 11 (mv t0) 0,
 i 12 (.i5 s8) 1,
 i 13 (.mv (.c (I 0))) 0] false)
 (.block 0
 (.loop [0,1,12,13]
 (.seq (.b6 [i 14 (.bin .lss y6 y0) 0] false)
 (.seq (.cond B3
 .skip
 (.exit 0))
 (.seq (.block 1
 (.seq (.b6 [i 15 (mv y6) 0,
 i 5 (mv G2) 1] false)
 (.seq (.b6 [i 16 (mv t0) 0,
 i 17 (mv t5) 0,
 i 18 (.i6 7 F2 D5) 3,
 i 19 (.load true 7 G4) 7,
 i 20 (mv t1) 0,
 i 21 (mv t5) 0,
 i 22 (.i6 7 M1 K6) 48,
 i 23 (.load true 7 P1) 112,
 i 24 (.eqs true [0,1,0,2,0,0,0] K2 T7) 255] true)
 (.cond X7
 (.seq (.b6 [i 4 (.mv (.c (.pv (.bool false)))) 0] false)
 .ret)
 .skip))))
 (.b6 [i 25 (.bin .add y6 (.c (I 1))) 0,
 i 13 (mv W0) 1] false)))))))
 (.seq (.b6 [i 4 (.mv (.c (.pv (.bool true)))) 0] false)
 .ret)))⟩
def a7s:m0:=⟨0,2,[.tmp 0],
 .seq (.b6 [i 0 (.mv (.c (.emp 1))) 0] false)
 (.seq (.b6 [i 1 (.M0 1 3 [.pv (.str [])] [(0,.c (.pv (.str [115,97,118,101]))),(1,.c (.pv (.str [114,101,115,116,111,114,101]))),(2,.c (.pv (.str [118,109,115,116,97,116,117,115])))]) 0,
 i 0 (mv t1) 1] false)
 .ret)⟩
def V4:m0:=⟨1,63,[.cell 2 true 67],
 .seq (.b6 [i 1 (.box 3 t0) 0,
 i 2 (.alloc z1) 0] false)
 (.seq (.b6 [i 6 (.load true 3 t1) 0,
 i 7 (.call (.f F8) [t6]) 1,
 i 8 (.build z0 [(0,1,.c (I 9))]) 0,
 i 9 (.build z0 [(0,1,.c (I 9)),(4,1,.c (I 1))]) 0,
 i 10 (.M0 7 2 z0 [(0,t8),(1,t9)]) 12,
 i 11 (.build z1 [(2,1,t7),(1,1,o8),(66,1,.c (I 1))]) 31,
 i 3 (.alloc z1) 0,
 iz (.store 67 t3 s8) 127] false)
 (.seq (.seq (.b6 [i 4 (.mv (.c (I 0))) 0] false)
 (.block 0
 (.loop [1,2,3,4]
 (.seq (.seq (.b6 [i 12 (mv t4) 0,
 i 13 (.b0 t1 1) 0,
 i 14 (.load false 1 y6) 2,
 i 15 (.i5 B3) 6,
 i 16 (.bin .lss y0 G2) 15,
 i 17 (mv F2) 31,
 ig 18 (mv t4) 17 true 63,
 ig 19 (.bin .lss G4 (.c (I 20))) 17 true 127,
 i 20 (.pick D5 K2 (.c (.pv (.bool false)))) 255] false)
 (.cond M1
 .skip
 (.exit 0)))
 (.seq (.block 1
 (.b6 [i 23 (.b0 t3 0) 0,
 i 24 (.load false 1 T7) 1,
 i 25 (.b0 t1 1) 0,
 i 26 (.load false 1 W0) 4,
 i 27 (mv t4) 0,
 i 28 (.i6 5 t26 t27) 28,
 i 29 (.load true 5 t28) 60,
 i 30 (.b0 t3 2) 0,
 i 31 (.load false 1 t30) 128,
 i 32 (.call (.f c9) [t29,t31]) 508,
 i 33 (.M0 7 1 z0 [(0,t32)]) 1020,
 i 34 (.append 7 64 X7 t33) 2047,
 i 35 (.b0 t3 0) 4095,
 iz (.store 1 t35 t34) 8191] true))
 (.b6 [i 21 (mv t4) 0,
 i 22 (.bin .add K6 (.c (I 1))) 1,
 i 4 (mv P1) 3] false))))))
 (.seq (.seq (.b6 [i 5 (.mv (.c (I 0))) 0] false)
 (.block 2
 (.loop [1,2,3,5]
 (.seq (.seq (.b6 [i 36 (mv t5) 0,
 i 37 (.b0 t1 2) 0,
 i 38 (.load false 1 t37) 2,
 i 39 (.i5 t38) 6,
 i 40 (.bin .lss t36 t39) 15,
 i 41 (mv t40) 31,
 ig 42 (mv t5) 41 true 63,
 ig 43 (.bin .lss t42 (.c (I 4))) 41 true 127,
 i 44 (.pick t41 t43 (.c (.pv (.bool false)))) 255] false)
 (.cond t44
 .skip
 (.exit 2)))
 (.seq (.block 3
 (.b6 [i 47 (.b0 t3 1) 0,
 i 48 (.load false 1 t47) 1,
 i 49 (.b0 t3 2) 0,
 i 50 (.load false 1 t49) 4,
 i 51 (.b0 t1 2) 0,
 i 52 (.load false 1 t51) 16,
 i 53 (mv t5) 0,
 i 54 (.i6 1 t52 t53) 112,
 i 55 (.load false 1 t54) 240,
 i 56 (.conv .i64 t55) 496,
 i 57 (.call (.f J2) [t50,.c (I 3),t56]) 1020,
 i 58 (.build z0 [(0,1,.c (I 9)),(4,1,t57)]) 2044,
 i 59 (.M0 7 1 z0 [(0,t58)]) 4092,
 i 60 (.append 7 64 t48 t59) 8191,
 i 61 (.b0 t3 1) 16383,
 iz (.store 1 t61 t60) 32767] true))
 (.b6 [i 45 (mv t5) 0,
 i 46 (.bin .add t45 (.c (I 1))) 1,
 i 5 (mv t46) 3] false))))))
 (.seq (.b6 [i 62 (.load true 67 t3) 0,
 iz (.store 67 t2 t62) 1] false)
 .ret))))⟩
def F3:m0:=⟨0,2,[.tmp 0],
 .seq (.b6 [i 0 (.mv (.c (.emp 1))) 0] false)
 (.seq (.b6 [i 1 (.M0 1 5 [.pv (.str [])] [(0,.c (.pv (.str [70,111,110,116]))),(1,.c (.pv (.str [80,97,116,116,101,114,110]))),(2,.c (.pv (.str [69,110,99,111,100,105,110,103]))),(3,.c (.pv (.str [70,111,114,109]))),(4,.c (.pv (.str [71,101,110,101,114,105,99])))]) 0,
 i 0 (mv t1) 1] false)
 .ret)⟩
def a2q:m0:=⟨2,8,[.cell 4 true 67],
 .seq (.b6 [i 2 (.box 67 t0) 0,
 i 4 (.alloc z1) 0] false)
 (.seq (.b6 [i 5 (mv t1) 0,
 i 6 (.b0 t2 0) 1,
 iz (.store 1 t6 t5) 3] false)
 (.seq (.b6 [i 7 (.load true 67 t2) 0,
 iz (.store 67 t4 t7) 1] false)
 .ret))⟩
def a5g:m0:=⟨1,5,[.cell 2 true 7],
 .seq (.b6 [i 2 (.alloc z0) 0] false)
 (.seq (.b6 [i 3 (mv t0) 0,
 i 4 (.build z0 [(0,1,.c (I 5)),(3,1,t3)]) 1,
 iz (.store 7 t2 t4) 3] false)
 .ret)⟩
def a1X:m0:=⟨3,30,[.cell 6 true 7,.tmp 7],
 .seq (.b6 [i 3 (.box 67 t0) 0,
 i 5 (.box 7 t2) 0,
 i 6 (.alloc z0) 0,
 i 7 (.mv (.c (I 0))) 0] false)
 (.seq (.b6 [i 11 (.load true 67 t3) 0,
 i 12 (.build z1 [(0,67,s8)]) 1,
 i 8 (.alloc z1) 0,
 iz (.store 67 t8 y0) 7] false)
 (.seq (.b6 [i 14 (.load true 67 t8) 0,
 i 15 (mv t1) 0,
 i 16 (.build z0 [(0,1,.c (I 5)),(3,1,G2)]) 2,
 i 17 (.call (.f o0) [B3,F2]) 7,
 i 13 (mv D5) 15,
 i 18 (.extract y6 0) 31,
 i 19 (.extract y6 1) 31,
 i 9 (.alloc z0) 0,
 iz (.store 7 t9 G4) 191,
 i 10 (mv K2) 511] false)
 (.seq (.seq (.b6 [i 20 (mv o8) 0,
 i 21 (.bin .neq M1 (.c (I 0))) 1] false)
 (.cond K6
 (.seq (.b6 [i 22 (.build z0 []) 0,
 i 23 (mv o8) 0,
 iz (.store 7 t6 P1) 1,
 i 7 (mv T7) 7] false)
 .ret)
 .skip))
 (.seq (.b6 [i 24 (.load true 67 t8) 0,
 i 25 (.load true 7 t9) 0,
 i 26 (.load true 7 t5) 0,
 i 27 (.call (.f u0) [X7,W0,t26]) 7,
 i 28 (.extract t27 0) 15,
 i 29 (.extract t27 1) 15,
 iz (.store 7 t6 t28) 63,
 i 7 (mv t29) 127] false)
 .ret))))⟩
def a7O:m0:=⟨3,23,[.tmp 6],
 .seq (.b6 [i 3 (.box 67 t0) 0,
 i 6 (.mv (.c (.pv (.bool false)))) 0] false)
 (.seq (.b6 [i 10 (.load true 67 t3) 0,
 i 11 (mv t1) 0,
 i 12 (.call (.f P6) [o8,s8]) 3,
 i 9 (mv y0) 7,
 i 13 (.extract t9 0) 15,
 i 14 (.extract t9 1) 15,
 i 7 (.alloc z1) 0,
 iz (.store 67 t7 y6) 95,
 i 8 (mv B3) 255] false)
 (.seq (.b6 [i 15 (mv t8) 0,
 i 16 (.bin .eql G2 (.c (I 0))) 1,
 i 17 (mv F2) 3,
 ig 18 (.b0 t7 0) 17 true 7,
 ig 19 (.load false 1 G4) 17 true 15,
 ig 20 (mv t2) 17 true 7,
 ig 21 (.call (.f y1) [K2,M1]) 17 true 63,
 i 22 (.pick D5 K6 (.c (.pv (.bool false)))) 127,
 i 6 (mv P1) 255] false)
 .ret))⟩
def a4a:m0:=⟨1,6,[.cell 2 true 7],
 .seq (.b6 [i 2 (.alloc z0) 0] false)
 (.seq (.seq (.b6 [i 3 (mv t0) 0] false)
 (.cond t3
 (.seq (.b6 [i 4 (.build z0 [(0,1,.c (I 2)),(2,1,.c (I 1))]) 0,
 iz (.store 7 t2 t4) 1] false)
 .ret)
 .skip))
 (.seq (.b6 [i 5 (.build z0 [(0,1,.c (I 2))]) 0,
 iz (.store 7 t2 t5) 1] false)
 .ret))⟩
def a1q:m0:=⟨0,10,[.cell 0 true 67],
 .seq (.b6 [i 0 (.alloc z1) 0] false)
 (.seq (.b6 [i 1 (.call (.f p7) [.c (.emp 1)]) 0,
 i 2 (.build z2 [(0,1,.c (I 1)),(1,1,.c (.pv (.str [97,98,99])))]) 0,
 i 3 (.M0 7 1 z2 [(0,t2)]) 2,
 i 4 (.append 7 112 t1 t3) 7,
 i 5 (.build z0 [(0,1,.c (I 9))]) 0,
 i 6 (.build z0 [(0,1,.c (I 9)),(4,1,.c (I 1))]) 0,
 i 7 (.M0 7 2 z0 [(0,t5),(1,t6)]) 48,
 i 8 (.build z4 [(40,1,.c (I 1))]) 0,
 i 9 (.build z1 [(2,1,t4),(1,1,t7),(5,57,t8)]) 255,
 iz (.store 67 t0 t9) 511] false)
 .ret)⟩
def a5j:m0:=⟨2,17,[.tmp 4],
 .seq (.b6 [i 2 (.box 7 t0) 0,
 i 4 (.mv (.c (.pv (.bool false)))) 0] false)
 (.seq (.seq (.b6 [i 5 (.b0 t2 0) 0,
 i 6 (.load false 1 t5) 1] false)
 (.block 0
 (.seq (.seq (.b6 [i 8 (.bin .eql t6 (.c (I 6))) 0,
 i 7 (mv t8) 1] false)
 (.cond t7
 .skip
 (.seq (.b6 [i 9 (.bin .eql t6 (.c (I 7))) 0,
 i 7 (mv t9) 1] false)
 (.cond t7
 .skip
 (.seq (.b6 [i 10 (.bin .eql t6 (.c (I 8))) 0,
 i 7 (mv o8) 1] false)
 (.cond t7
 .skip
 (.seq (.b6 [i 11 (.bin .eql t6 (.c (I 9))) 0,
 i 7 (mv s8) 1] false)
 (.cond t7
 .skip
 (.b6 [i 12 (.bin .eql t6 (.c (I 11))) 0,
 i 7 (mv y0) 1] false)))))))))
 (.cond t7
 (.seq (.b6 [i 13 (.b0 t2 4) 0,
 i 14 (.load false 1 y6) 1,
 i 15 (mv t1) 0,
 i 16 (.bin .geq B3 G2) 7,
 i 4 (mv F2) 15] false)
 .ret)
 .skip))))
 (.seq (.b6 [i 4 (.mv (.c (.pv (.bool false)))) 0] false)
 .ret))⟩
def a5C:m0:=⟨3,34,[.cell 6 true 67,.tmp 7],
 .seq (.b6 [i 3 (.box 67 t0) 0,
 i 6 (.alloc z1) 0,
 i 7 (.mv (.c (I 0))) 0] false)
 (.seq (.seq (.b6 [i 9 (.b0 t3 0) 0,
 i 10 (.load false 1 t9) 1,
 i 11 (.i5 o8) 3,
 i 12 (mv t1) 0,
 i 13 (.bin .sub s8 y0) 15,
 i 14 (mv t2) 0,
 i 15 (.i5 B3) 32,
 i 16 (.bin .add y6 G2) 127,
 i 17 (.bin .gtr F2 (.c (I 100))) 255] false)
 (.cond D5
 (.seq (.b6 [i 18 (.load true 67 t3) 0,
 iz (.store 67 t6 G4) 1,
 i 7 (.mv (.c (I 21))) 3] false)
 .ret)
 .skip))
 (.seq (.b6 [i 8 (.mv (.c (.emp 7))) 0] false)
 (.seq (.b6 [i 19 (mv t8) 0,
 i 20 (.b0 t3 0) 0,
 i 21 (.load false 1 M1) 2,
 i 22 (.b0 t3 0) 0,
 i 23 (.load false 1 P1) 8,
 i 24 (.i5 T7) 24,
 i 25 (mv t1) 0,
 i 26 (.bin .sub X7 W0) 120,
 i 27 (.slice 7 K6 none (some t26) none) 254,
 i 28 (.append 7 64 K2 t27) 511,
 i 8 (mv t28) 1023] false)
 (.seq (.b6 [i 29 (mv t8) 0,
 i 30 (mv t2) 0,
 i 31 (.append 7 64 t29 t30) 3,
 i 32 (.b0 t3 0) 7,
 iz (.store 1 t32 t31) 15] false)
 (.seq (.b6 [i 33 (.load true 67 t3) 0,
 iz (.store 67 t6 t33) 1,
 i 7 (.mv (.c (I 0))) 3] false)
 .ret)))))⟩
def a7v:m0:=⟨2,18,[.tmp 4],
 .seq (.b6 [i 4 (.mv (.c (.pv (.bool false)))) 0] false)
 (.seq (.seq (.b6 [i 5 (.mv (.c (I 0))) 0] false)
 (.block 0
 (.loop [0,1,5]
 (.seq (.seq (.b6 [i 6 (mv t5) 0,
 i 7 (mv t0) 0,
 i 8 (.i5 t7) 2,
 i 9 (.bin .lss t6 t8) 7] false)
 (.cond t9
 .skip
 (.exit 0)))
 (.seq (.block 1
 (.seq (.b6 [i 12 (mv t0) 0,
 i 13 (mv t5) 0,
 i 14 (.i6 7 y0 y6) 3,
 i 15 (.load true 7 B3) 7,
 i 16 (mv t1) 0,
 i 17 (.call (.f a1A) [G2,F2]) 31] false)
 (.cond D5
 (.seq (.b6 [i 4 (.mv (.c (.pv (.bool true)))) 0] false)
 .ret)
 .skip)))
 (.b6 [i 10 (mv t5) 0,
 i 11 (.bin .add o8 (.c (I 1))) 1,
 i 5 (mv s8) 3] false))))))
 (.seq (.b6 [i 4 (.mv (.c (.pv (.bool false)))) 0] false)
 .ret))⟩
def b0x:m0:=⟨1,5,[.cell 2 true 7],
 .seq (.b6 [i 2 (.alloc z0) 0] false)
 (.seq (.b6 [i 3 (mv t0) 0,
 i 4 (.build z0 [(0,1,.c (I 3)),(2,1,t3)]) 1,
 iz (.store 7 t2 t4) 3] false)
 .ret)⟩
def a4v:m0:=⟨4,40,[.tmp 8],
 .seq (.b6 [i 5 (.box 7 t1) 0,
 i 8 (.mv (.c (.emp 7))) 0] false)
 (.seq (.b6 [i 11 (mv t0) 0,
 i 12 (.b0 t5 4) 0,
 i 13 (.load false 1 y0) 2,
 i 14 (.i6 7 s8 y6) 7,
 i 15 (.load true 7 B3) 15,
 i 9 (.alloc z2) 0,
 iz (.store 7 t9 G2) 63] false)
 (.seq (.b6 [i 16 (.b0 t5 5) 0,
 i 17 (.load false 1 F2) 1,
 i 18 (mv t2) 0,
 i 19 (.bin .add D5 G4) 7,
 i 10 (mv K2) 15] false)
 (.seq (.b6 [i 20 (.b0 t9 1) 0,
 i 21 (.load false 1 M1) 1,
 i 22 (mv o8) 0,
 i 23 (.a2a K6 none (some P1)) 7,
 i 24 (mv t3) 0,
 i 25 (.bin .add T7 X7) 31,
 i 26 (.b0 t9 1) 0,
 i 27 (.load false 1 t26) 64,
 i 28 (mv o8) 0,
 i 29 (mv t3) 0,
 i 30 (.H0 t29) 512,
 i 31 (.bin .add t28 t30) 1792,
 i 32 (.a2a t27 (some t31) none) 4032,
 i 33 (.bin .add W0 t32) 8191,
 i 34 (.b0 t9 1) 16383,
 iz (.store 1 t34 t33) 32767] true)
 (.seq (.b6 [i 35 (mv t0) 0,
 i 36 (.b0 t5 4) 0,
 i 37 (.load false 1 t36) 2,
 i 38 (.load true 7 t9) 0,
 i 39 (.call (.f J0) [t35,t37,t38]) 15,
 i 8 (mv t39) 31] false)
 .ret))))⟩
def a4w:m0:=⟨4,61,[.tmp 8],
 .seq (.b6 [i 5 (.box 7 t1) 0,
 i 8 (.mv (.c (.emp 7))) 0] false)
 (.seq (.b6 [i 13 (mv t0) 0,
 i 14 (.b0 t5 4) 0,
 i 15 (.load false 1 B3) 2,
 i 16 (.i6 7 y6 G2) 7,
 i 17 (.load true 7 F2) 15,
 i 9 (.alloc z2) 0,
 iz (.store 7 t9 D5) 63] false)
 (.seq (.b6 [i 10 (.mv (.c (.emp 7))) 0] false)
 (.seq (.seq (.b6 [i 11 (.mv (.c (I 0))) 0] false)
 (.block 0
 (.loop [0,2,3,5,9,10,11]
 (.seq (.seq (.b6 [i 18 (mv s8) 0,
 i 19 (.b0 t9 2) 0,
 i 20 (.load false 1 K2) 2,
 i 21 (.i5 M1) 6,
 i 22 (.bin .lss G4 K6) 15] false)
 (.cond P1
 .skip
 (.exit 0)))
 (.seq (.block 1
 (.seq (.b6 [i 25 (mv s8) 0,
 i 26 (.b0 t5 5) 0,
 i 27 (.load false 1 t26) 2,
 i 28 (.bin .sub W0 t27) 7,
 i 29 (mv t2) 0,
 i 30 (.bin .sub t28 t29) 31,
 i 12 (mv t30) 63] false)
 (.seq (.b6 [i 31 (mv y0) 0,
 i 32 (.bin .geq t31 (.c (I 0))) 1,
 i 33 (mv t32) 3,
 ig 34 (mv y0) 33 true 7,
 ig 35 (mv t3) 33 true 7,
 ig 36 (.i5 t35) 33 true 23,
 ig 37 (.bin .lss t34 t36) 33 true 63,
 i 38 (.pick t33 t37 (.c (.pv (.bool false)))) 127] false)
 (.cond t38
 (.b6 [i 39 (mv o8) 0,
 i 40 (mv t3) 0,
 i 41 (mv y0) 0,
 i 42 (.i6 7 t40 t41) 6,
 i 43 (.load true 7 t42) 14,
 i 44 (.M0 7 1 z0 [(0,t43)]) 30,
 i 45 (.append 7 64 t39 t44) 63,
 i 10 (mv t45) 127] false)
 (.b6 [i 46 (mv o8) 0,
 i 47 (.b0 t9 2) 0,
 i 48 (.load false 1 t47) 2,
 i 49 (mv s8) 0,
 i 50 (.i6 7 t48 t49) 14,
 i 51 (.load true 7 t50) 30,
 i 52 (.M0 7 1 z0 [(0,t51)]) 62,
 i 53 (.append 7 64 t46 t52) 127,
 i 10 (mv t53) 255] false)))))
 (.b6 [i 23 (mv s8) 0,
 i 24 (.bin .add T7 (.c (I 1))) 1,
 i 11 (mv X7) 3] false))))))
 (.seq (.b6 [i 54 (mv o8) 0,
 i 55 (.b0 t9 2) 1,
 iz (.store 1 t55 t54) 3] false)
 (.seq (.b6 [i 56 (mv t0) 0,
 i 57 (.b0 t5 4) 0,
 i 58 (.load false 1 t57) 2,
 i 59 (.load true 7 t9) 0,
 i 60 (.call (.f J0) [t56,t58,t59]) 15,
 i 8 (mv t60) 31] false)
 .ret)))))⟩
def a7p:m0:=⟨4,75,[.tmp 8,.tmp 9],
 .seq (.b6 [i 5 (.box 7 t1) 0,
 i 6 (.box 7 t2) 0,
 i 7 (.box 7 t3) 0,
 i 8 (.mv (.c (.emp 7))) 0,
 i 9 (.mv (.c (.pv (.bool false)))) 8] false)
 (.seq (.b6 [i 15 (mv t0) 0,
 i 16 (.b0 t5 4) 0,
 i 17 (.load false 1 F2) 2,
 i 18 (.i6 7 G2 D5) 7,
 i 19 (.load true 7 G4) 15,
 i 10 (.alloc z2) 0,
 iz (.store 7 o8 K2) 63] false)
 (.seq (.b6 [i 20 (.b0 o8 3) 0,
 i 21 (.load false 1 M1) 1,
 i 22 (.load true 7 t6) 0,
 i 23 (.call (.f a1y) [K6,P1]) 7,
 i 11 (mv T7) 15] false)
 (.seq (.seq (.b6 [i 24 (mv s8) 0,
 i 25 (.bin .lss X7 (.c (I 0))) 1,
 i 26 (mv W0) 3,
 ig 27 (mv s8) 26 false 7,
 ig 28 (.b0 o8 4) 26 false 7,
 ig 29 (.load false 1 t28) 26 false 23,
 ig 30 (.i5 t29) 26 false 55,
 ig 31 (.bin .geq t27 t30) 26 false 127,
 i 32 (.pick t26 (.c (.pv (.bool true))) t31) 255] false)
 (.cond t32
 (.seq (.seq (.b6 [i 33 (.b0 o8 3) 0,
 i 34 (.load false 1 t33) 1,
 i 35 (.i5 t34) 3,
 i 36 (.b0 o8 5) 0,
 i 37 (.load false 1 t36) 8,
 i 38 (.bin .geq t35 t37) 31] false)
 (.cond t38
 (.seq (.b6 [i 8 (.mv (.c (.emp 7))) 0,
 i 9 (.mv (.c (.pv (.bool false)))) 1] false)
 .ret)
 .skip))
 (.seq (.b6 [i 12 (.mv (.c (.emp 7))) 0,
 i 13 (.mv (.c (.emp 7))) 1] false)
 (.seq (.b6 [i 39 (mv y0) 0,
 i 40 (.b0 o8 3) 0,
 i 41 (.load false 1 t40) 2,
 i 42 (.append 7 64 t39 t41) 7,
 i 43 (.load true 7 t6) 0,
 i 44 (.M0 7 1 z0 [(0,t43)]) 16,
 i 45 (.append 7 64 t42 t44) 63,
 i 46 (.b0 o8 3) 127,
 iz (.store 1 t46 t45) 255] true)
 (.seq (.b6 [i 47 (mv y6) 0,
 i 48 (.b0 o8 4) 0,
 i 49 (.load false 1 t48) 2,
 i 50 (.append 7 64 t47 t49) 7,
 i 51 (.load true 7 t7) 0,
 i 52 (.M0 7 1 z0 [(0,t51)]) 16,
 i 53 (.append 7 64 t50 t52) 63,
 i 54 (.b0 o8 4) 127,
 iz (.store 1 t54 t53) 255] true)
 (.seq (.b6 [i 55 (mv t0) 0,
 i 56 (.b0 t5 4) 0,
 i 57 (.load false 1 t56) 2,
 i 58 (.load true 7 o8) 0,
 i 59 (.call (.f J0) [t55,t57,t58]) 15,
 i 8 (mv t59) 31,
 i 9 (.mv (.c (.pv (.bool true)))) 63] false)
 .ret)))))
 .skip))
 (.seq (.b6 [i 14 (.mv (.c (.emp 7))) 0] false)
 (.seq (.b6 [i 60 (mv B3) 0,
 i 61 (.b0 o8 4) 0,
 i 62 (.load false 1 t61) 2,
 i 63 (.append 7 64 t60 t62) 7,
 i 14 (mv t63) 15] false)
 (.seq (.b6 [i 64 (mv B3) 0,
 i 65 (mv s8) 0,
 i 66 (.load true 7 t7) 0,
 i 67 (.i6 7 t64 t65) 7,
 iz (.store 7 t67 t66) 15] false)
 (.seq (.b6 [i 68 (mv B3) 0,
 i 69 (.b0 o8 4) 1,
 iz (.store 1 t69 t68) 3] false)
 (.seq (.b6 [i 70 (mv t0) 0,
 i 71 (.b0 t5 4) 0,
 i 72 (.load false 1 t71) 2,
 i 73 (.load true 7 o8) 0,
 i 74 (.call (.f J0) [t70,t72,t73]) 15,
 i 8 (mv t74) 31,
 i 9 (.mv (.c (.pv (.bool true)))) 63] false)
 .ret))))))))⟩
def a8u:m0:=⟨4,76,[.cell 8 true 7],
 .seq (.b6 [i 7 (.box 5 t3) 0,
 i 8 (.alloc z0) 0] false)
 (.seq (.b6 [i 11 (mv t0) 0,
 i 12 (mv t2) 0,
 i 13 (.b0 t7 1) 0,
 i 14 (.load false 1 y6) 4,
 i 15 (.conv .i64 B3) 12,
 i 16 (.call (.f J2) [s8,y0,G2]) 31,
 i 9 (mv F2) 63] false)
 (.seq (.seq (.b6 [i 17 (mv t9) 0,
 i 18 (.bin .lss D5 (.c (I 0))) 1] false)
 (.cond G4
 (.seq (.b6 [i 19 (.b0 t7 1) 0,
 i 20 (.load false 1 K2) 1,
 i 21 (.conv .i64 M1) 3,
 i 22 (.build z0 [(0,1,.c (I 3)),(2,1,K6)]) 7,
 iz (.store 7 t8 P1) 15] false)
 .ret)
 .skip))
 (.seq (.b6 [i 23 (mv t1) 0,
 i 24 (.b0 t7 3) 0,
 i 25 (.load false 1 X7) 2,
 i 26 (.bin .rem W0 (.c (.pv (.int .i32 (5))))) 6,
 i 27 (.bin .eql t26 (.c (.pv (.int .i32 (3))))) 14,
 i 28 (mv t9) 0,
 i 29 (.build z0 [(0,1,T7),(1,1,t27),(4,1,t28)]) 63,
 i 10 (.alloc z0) 0,
 iz (.store 7 o8 t29) 255] false)
 (.seq (.seq (.b6 [i 30 (mv t2) 0,
 i 31 (.bin .eql t30 (.c (I 3))) 1,
 i 32 (mv t31) 3,
 ig 33 (mv t2) 32 false 7,
 ig 34 (.bin .eql t33 (.c (I 4))) 32 false 15,
 i 35 (.pick t32 (.c (.pv (.bool true))) t34) 31] false)
 (.cond t35
 (.seq (.b6 [i 36 (.load true 7 o8) 0,
 iz (.store 7 t8 t36) 1] false)
 .ret)
 .skip))
 (.seq (.b6 [i 37 (mv t0) 0,
 i 38 (mv t9) 0,
 i 39 (.i6 7 t37 t38) 3,
 i 40 (.b0 t39 1) 7,
 i 41 (.load false 1 t40) 15,
 i 42 (.H0 t41) 31,
 i 43 (mv t0) 0,
 i 44 (mv t9) 0,
 i 45 (.i6 7 t43 t44) 192,
 i 46 (.b0 t45 2) 448,
 i 47 (.load false 1 t46) 960,
 i 48 (.i5 t47) 1984,
 i 49 (.bin .add t42 t48) 4095,
 i 50 (.b0 o8 6) 8191,
 iz (.store 1 t50 t49) 16383] true)
 (.seq (.seq (.b6 [i 51 (.b0 t7 2) 0,
 i 52 (.load false 1 t51) 1,
 i 53 (.bin .rem t52 (.c (.pv (.int .u8 (3))))) 3,
 i 54 (.bin .eql t53 (.c (.pv (.int .u8 (2))))) 7] false)
 (.cond t54
 (.seq (.b6 [i 55 (.b0 t7 2) 0,
 i 56 (.load false 1 t55) 1,
 i 57 (.conv .i64 t56) 3,
 i 58 (.b0 o8 6) 0,
 i 59 (.load false 1 t58) 8,
 i 60 (.bin .add t59 (.c (I 1))) 24,
 i 61 (.bin .rem t57 t60) 63,
 i 62 (.b0 o8 5) 127,
 iz (.store 1 t62 t61) 255] false)
 (.b6 [i 63 (.b0 t7 2) 0,
 i 64 (.load false 1 t63) 1,
 i 65 (.conv .i64 t64) 3,
 i 66 (.bin .quo t65 (.c (I 3))) 7,
 i 67 (.b0 o8 6) 0,
 i 68 (.load false 1 t67) 16,
 i 69 (.b0 o8 5) 0,
 i 70 (.load false 1 t69) 64,
 i 71 (.bin .sub t68 t70) 240,
 i 72 (.bin .add t71 (.c (I 1))) 496,
 i 73 (.bin .rem t66 t72) 1023,
 i 74 (.b0 o8 6) 2047,
 iz (.store 1 t74 t73) 4095] false))
 .skip))
 (.seq (.b6 [i 75 (.load true 7 o8) 0,
 iz (.store 7 t8 t75) 1] false)
 .ret)))))))⟩
def Z3:m0:=⟨1,76,[.cell 2 true 67,.tmp 3],
 .seq (.b6 [i 1 (.box 67 t0) 0,
 i 2 (.alloc z1) 0,
 i 3 (.mv (.c (I 0))) 0] false)
 (.seq (.seq (.b6 [i 6 (.b0 t1 0) 0,
 i 7 (.b0 t6 3) 1,
 i 8 (.load false 1 t7) 3,
 i 9 (.i5 t8) 7,
 i 10 (.bin .geq t9 (.c (I 10))) 15,
 i 11 (mv o8) 31,
 ig 12 (.b0 t1 0) 11 false 63,
 ig 13 (.b0 y0 62) 11 false 127,
 ig 14 (.load false 1 y6) 11 false 255,
 ig 15 (.i5 B3) 11 false 511,
 ig 16 (.bin .geq G2 (.c (I 20))) 11 false 1023,
 i 17 (.pick s8 (.c (.pv (.bool true))) F2) 2047] false)
 (.cond D5
 (.seq (.b6 [i 18 (.b0 t1 0) 0,
 i 19 (.load true 67 G4) 1,
 iz (.store 67 t2 K2) 3,
 i 3 (.mv (.c (I 26))) 7] false)
 .ret)
 .skip))
 (.seq (.b6 [i 21 (.b0 t1 0) 0,
 i 22 (.load true 67 K6) 1,
 i 23 (.b0 t1 0) 0,
 i 24 (.b0 T7 4) 4,
 i 25 (.load false 1 X7) 12,
 i 26 (.bin .add W0 (.c (I 1))) 28,
 i 27 (.build z0 [(0,1,.c (I 12)),(2,1,t26)]) 60,
 i 28 (.M0 7 1 z0 [(0,t27)]) 124,
 i 29 (.call (.f B9) [P1,t28]) 255,
 i 20 (mv t29) 511,
 i 30 (.extract M1 0) 1023,
 i 31 (.extract M1 1) 1023,
 i 4 (.alloc z1) 0,
 iz (.store 67 t4 t30) 6143,
 i 5 (mv t31) 16383] false)
 (.seq (.seq (.b6 [i 32 (mv t5) 0,
 i 33 (.bin .neq t32 (.c (I 0))) 1] false)
 (.cond t33
 (.seq (.b6 [i 34 (.b0 t1 0) 0,
 i 35 (.load true 67 t34) 1,
 i 36 (mv t5) 0,
 iz (.store 67 t2 t35) 3,
 i 3 (mv t36) 15] false)
 .ret)
 .skip))
 (.seq (.b6 [i 37 (.b0 t4 4) 0,
 i 38 (.load false 1 t37) 1,
 i 39 (.bin .add t38 (.c (I 1))) 3,
 i 40 (.b0 t4 4) 7,
 iz (.store 1 t40 t39) 15] false)
 (.seq (.b6 [i 41 (.b0 t4 3) 0,
 i 42 (.load false 1 t41) 1,
 i 43 (.b0 t4 3) 0,
 i 44 (.load false 1 t43) 4,
 i 45 (.i5 t44) 12,
 i 46 (.b0 t4 3) 0,
 i 47 (.load false 1 t46) 32,
 i 48 (.i5 t47) 96,
 i 49 (.slice 3 t42 none (some t45) (some t48)) 255,
 i 50 (.b0 t4 4) 0,
 i 51 (.load false 1 t50) 512,
 i 52 (.b0 t4 2) 0,
 i 53 (.load false 1 t52) 2048,
 i 54 (.b0 t4 62) 0,
 i 55 (.load false 1 t54) 8192,
 i 56 (.i5 t55) 24576,
 i 57 (.build [I 0,.emp 7,I 0] [(0,1,t51),(1,1,t53),(2,1,t56)]) 65024,
 i 58 (.M0 3 1 [I 0,.emp 7,I 0] [(0,t57)]) 130560,
 i 59 (.append 3 40 t49 t58) 262143,
 i 60 (.b0 t4 3) 524287,
 iz (.store 1 t60 t59) 1048575] true)
 (.seq (.b6 [i 61 (.b0 t4 62) 0,
 i 62 (.load false 1 t61) 1,
 i 63 (.b0 t4 62) 0,
 i 64 (.load false 1 t63) 4,
 i 65 (.i5 t64) 12,
 i 66 (.b0 t4 62) 0,
 i 67 (.load false 1 t66) 32,
 i 68 (.i5 t67) 96,
 i 69 (.slice 57 t62 none (some t65) (some t68)) 255,
 i 70 (.b0 t4 5) 0,
 i 71 (.load true 57 t70) 512,
 i 72 (.M0 57 1 z4 [(0,t71)]) 1536,
 i 73 (.append 57 520 t69 t72) 4095,
 i 74 (.b0 t4 62) 8191,
 iz (.store 1 t74 t73) 16383] true)
 (.seq (.b6 [i 75 (.load true 67 t4) 0,
 iz (.store 67 t2 t75) 1,
 i 3 (.mv (.c (I 0))) 3] false)
 .ret)))))))⟩
def P9:m0:=⟨1,104,[.cell 2 true 67,.tmp 3],
 .seq (.b6 [i 1 (.box 67 t0) 0,
 i 2 (.alloc z1) 0,
 i 3 (.mv (.c (I 0))) 0] false)
 (.seq (.b6 [i 11 (.b0 t1 0) 0,
 i 12 (.load true 67 s8) 1,
 i 13 (.call (.f M6) [y0,.c (I 1)]) 3,
 i 10 (mv y6) 7,
 i 14 (.extract o8 0) 15,
 i 15 (.extract o8 1) 15,
 i 4 (mv B3) 31,
 i 5 (mv G2) 127] false)
 (.seq (.seq (.b6 [i 16 (mv t5) 0,
 i 17 (.bin .neq F2 (.c (I 0))) 1] false)
 (.cond D5
 (.seq (.b6 [i 18 (.b0 t1 0) 0,
 i 19 (.load true 67 G4) 1,
 i 20 (mv t5) 0,
 iz (.store 67 t2 K2) 3,
 i 3 (mv M1) 15] false)
 .ret)
 .skip))
 (.seq (.seq (.b6 [i 21 (mv t4) 0,
 i 22 (.i6 7 K6 (.c (I 0))) 1,
 i 23 (.b0 P1 0) 3,
 i 24 (.load false 1 T7) 7,
 i 25 (.bin .neq X7 (.c (I 12))) 15] false)
 (.cond W0
 (.seq (.b6 [i 26 (.b0 t1 0) 0,
 i 27 (.load true 67 t26) 1,
 iz (.store 67 t2 t27) 3,
 i 3 (.mv (.c (I 22))) 7] false)
 .ret)
 .skip))
 (.seq (.b6 [i 28 (.load true 67 t1) 0,
 i 29 (mv t4) 0,
 i 30 (.i6 7 t29 (.c (I 0))) 2,
 i 31 (.b0 t30 2) 6,
 i 32 (.load false 1 t31) 14,
 i 33 (.call (.f B1) [t28,t32]) 31,
 i 6 (mv t33) 63] true)
 (.seq (.seq (.b6 [i 34 (mv t6) 0,
 i 35 (.bin .lss t34 (.c (I 0))) 1] false)
 (.cond t35
 (.seq (.b6 [i 36 (.b0 t1 0) 0,
 i 37 (.load true 67 t36) 1,
 iz (.store 67 t2 t37) 3,
 i 3 (.mv (.c (I 34))) 7] false)
 .ret)
 .skip))
 (.seq (.b6 [i 38 (.b0 t1 0) 0,
 i 39 (.b0 t38 3) 1,
 i 40 (.load false 1 t39) 3,
 i 41 (mv t6) 0,
 i 42 (.i6 3 t40 t41) 15,
 i 43 (.load true 3 t42) 31,
 i 7 (.alloc [I 0,.emp 7,I 0]) 0,
 iz (.store 3 t7 t43) 127] false)
 (.seq (.b6 [i 44 (.mkf (.func l6) [] [t7]) 0,
 i 8 (mv t44) 1] false)
 (.seq (.b6 [i 46 (.b0 t1 0) 0,
 i 47 (.load true 67 t46) 1,
 i 48 (.call (.f O3) [t47,.c (I 1)]) 3,
 i 45 (mv t48) 7,
 i 49 (.extract t45 0) 15,
 i 50 (.extract t45 1) 15,
 i 9 (.alloc z1) 0,
 iz (.store 67 t9 t49) 95,
 i 5 (mv t50) 255] false)
 (.seq (.seq (.b6 [i 51 (mv t5) 0,
 i 52 (.bin .neq t51 (.c (I 0))) 1] false)
 (.cond t52
 (.seq (.b6 [i 53 (.b0 t1 0) 0,
 i 54 (.load true 67 t53) 1,
 i 55 (mv t5) 0,
 iz (.store 67 t2 t54) 3,
 i 3 (mv t55) 15] false)
 .ret)
 .skip))
 (.seq (.seq (.b6 [i 56 (.b0 t9 0) 0,
 i 57 (.load false 1 t56) 1,
 i 58 (mv t8) 0,
 i 59 (.call (.f H5) [t57,t58]) 7,
 i 60 (mv t59) 15,
 ig 61 (.b0 t9 1) 60 false 31,
 ig 62 (.load false 1 t61) 60 false 63,
 ig 63 (mv t8) 60 false 31,
 ig 64 (.call (.f H5) [t62,t63]) 60 false 255,
 i 65 (.pick t60 (.c (.pv (.bool true))) t64) 511] false)
 (.cond t65
 (.seq (.b6 [i 66 (.b0 t1 0) 0,
 i 67 (.load true 67 t66) 1,
 iz (.store 67 t2 t67) 3,
 i 3 (.mv (.c (I 34))) 7] false)
 .ret)
 .skip))
 (.seq (.b6 [i 68 (.b0 t7 1) 0,
 i 69 (.load false 1 t68) 1,
 i 70 (.b0 t9 3) 0,
 i 71 (.load false 1 t70) 4,
 i 72 (mv t6) 0,
 i 73 (mv t6) 0,
 i 74 (.slice 3 t71 none (some t72) (some t73)) 60,
 i 75 (.b0 t9 2) 15,
 iz (.store 1 t75 t69) 143,
 i 76 (.b0 t9 3) 511,
 iz (.store 1 t76 t74) 1023] true)
 (.seq (.seq (.b6 [i 77 (.b0 t7 2) 0,
 i 78 (.load false 1 t77) 1,
 i 79 (.bin .geq t78 (.c (I 0))) 3,
 i 80 (mv t79) 7,
 ig 81 (.b0 t7 2) 80 true 15,
 ig 82 (.load false 1 t81) 80 true 31,
 ig 83 (.b0 t9 62) 80 true 15,
 ig 84 (.load false 1 t83) 80 true 79,
 ig 85 (.i5 t84) 80 true 207,
 ig 86 (.bin .lss t82 t85) 80 true 511,
 i 87 (.pick t80 t86 (.c (.pv (.bool false)))) 1023] false)
 (.cond t87
 (.b6 [i 88 (.b0 t9 62) 0,
 i 89 (.load false 1 t88) 1,
 i 90 (.b0 t7 2) 0,
 i 91 (.load false 1 t90) 4,
 i 92 (.i6 57 t89 t91) 15,
 i 93 (.load true 57 t92) 31,
 i 94 (.b0 t9 62) 0,
 i 95 (.load false 1 t94) 64,
 i 96 (.b0 t7 2) 0,
 i 97 (.load false 1 t96) 256,
 i 98 (.b0 t7 2) 0,
 i 99 (.load false 1 t98) 1024,
 i 100 (.slice 57 t95 none (some t97) (some t99)) 4032,
 i 101 (.b0 t9 5) 255,
 iz (.store 57 b6V t93) 8447,
 i 102 (.b0 t9 62) 32767,
 iz (.store 1 b6W b6U) 65535] true)
 .skip))
 (.seq (.b6 [i 103 (.load true 67 t9) 0,
 iz (.store 67 t2 b6X) 1,
 i 3 (.mv (.c (I 0))) 3] false)
 .ret)))))))))))))⟩
def M9:m0:=⟨1,31,[.cell 2 true 67,.tmp 3],
 .seq (.b6 [i 1 (.box 67 t0) 0,
 i 2 (.alloc z1) 0,
 i 3 (.mv (.c (I 0))) 0] false)
 (.seq (.b6 [i 4 (.mv (.c (.emp 7))) 0] false)
 (.seq (.seq (.b6 [i 7 (.b0 t1 0) 0,
 i 8 (.b0 t7 3) 1,
 i 9 (.load false 1 t8) 3,
 i 10 (.i5 t9) 7,
 i 11 (.b0 t1 0) 0,
 i 12 (.b0 s8 2) 16,
 i 13 (.load false 1 y0) 48,
 i 14 (.call (.f E4) [y6]) 112,
 i 15 (.build [I 0,I 0,I 0] [(0,1,o8),(1,1,B3),(2,1,.c (I 20000))]) 255,
 i 16 (.mv (.c (I 0))) 0] true)
 (.block 0
 (.loop [1,2,4,15,16]
 (.seq (.b6 [i 17 (.bin .lss F2 (.c (I 3))) 0] false)
 (.seq (.cond D5
 .skip
 (.exit 0))
 (.seq (.block 1
 (.seq (.b6 [i 18 (.index false 3 1 G2 F2) 0,
 i 6 (mv G4) 1] false)
 (.b6 [i 19 (mv t4) 0,
 i 20 (mv t6) 0,
 i 21 (.build z0 [(0,1,.c (I 3)),(2,1,M1)]) 2,
 i 22 (.M0 7 1 z0 [(0,K6)]) 6,
 i 23 (.append 7 64 K2 P1) 15,
 i 4 (mv T7) 31] false)))
 (.b6 [i 24 (.bin .add F2 (.c (I 1))) 0,
 i 16 (mv X7) 1] false)))))))
 (.seq (.b6 [i 25 (.b0 t1 0) 0,
 i 26 (.load true 67 W0) 1,
 i 27 (mv t4) 0,
 i 28 (.call (.f B9) [t26,t27]) 7,
 i 29 (.extract t28 0) 15,
 i 30 (.extract t28 1) 15,
 iz (.store 67 t2 t29) 63,
 i 3 (mv t30) 127] false)
 .ret)))⟩
def U1:m0:=⟨2,26,[.tmp 4],
 .seq (.b6 [i 4 (.mv (.c (.pv (.bool false)))) 0] false)
 (.seq (.seq (.b6 [i 6 (mv t0) 0,
 i 7 (.i5 t6) 1,
 i 8 (mv t1) 0,
 i 9 (.i5 t8) 4,
 i 10 (.bin .neq t7 t9) 15] false)
 (.cond o8
 (.seq (.b6 [i 4 (.mv (.c (.pv (.bool false)))) 0] false)
 .ret)
 .skip))
 (.seq (.seq (.b6 [i 5 (.mv (.c (I 0))) 0] false)
 (.block 0
 (.loop [0,1,5]
 (.seq (.seq (.b6 [i 11 (mv t5) 0,
 i 12 (mv t0) 0,
 i 13 (.i5 y0) 2,
 i 14 (.bin .lss s8 y6) 7] false)
 (.cond B3
 .skip
 (.exit 0)))
 (.seq (.block 1
 (.seq (.b6 [i 17 (mv t0) 0,
 i 18 (mv t5) 0,
 i 19 (.i6 7 D5 G4) 3,
 i 20 (.load true 7 K2) 7,
 i 21 (mv t1) 0,
 i 22 (mv t5) 0,
 i 23 (.i6 7 K6 P1) 48,
 i 24 (.load true 7 T7) 112,
 i 25 (.eqs true [0,1,0,2,0,0,0] M1 X7) 255] true)
 (.cond W0
 (.seq (.b6 [i 4 (.mv (.c (.pv (.bool false)))) 0] false)
 .ret)
 .skip)))
 (.b6 [i 15 (mv t5) 0,
 i 16 (.bin .add G2 (.c (I 1))) 1,
 i 5 (mv F2) 3] false))))))
 (.seq (.b6 [i 4 (.mv (.c (.pv (.bool true)))) 0] false)
 .ret)))⟩
def Z2:m0:=⟨2,18,[.tmp 4],
 .seq (.b6 [i 2 (.box 67 t0) 0,
 i 3 (.box 1 t1) 0,
 i 4 (.mv (.c (I 0))) 0] false)
 (.scope
 (.seq (.b6 [i 5 (.alloc [I 0]) 0,
 iz (.store 1 t5 (.c (I (-1)))) 1] false)
 (.seq .skip
 (.seq (.seq (.b6 [i 8 (.load true 67 t2) 0,
 i 9 (.call (.f D9) [t8]) 1] false)
 (.block 0
 (.rng t9 [10,11]
 (.seq (.b6 [i 6 (mv o8) 0] false)
 (.b6 [i 7 (.alloc [I 0,.emp 7,I 0]) 0,
 iz (.store 3 t7 s8) 1] false))
 (.block 1
 (.seq (.b6 [i 12 (.b0 t7 0) 0,
 i 13 (.load false 1 y0) 1,
 i 14 (.load false 1 t3) 0,
 i 15 (.bin .eql y6 B3) 7] false)
 (.cond G2
 (.seq (.b6 [i 16 (mv t6) 0,
 iz (.store 1 t5 F2) 1] false)
 (.exit 0))
 .skip))))))
 (.seq (.b6 [i 17 (.load false 1 t5) 0,
 i 4 (mv D5) 1] false)
 .ret)))))⟩
def a2W:m0:=⟨0,13,[.tmp 0],
 .seq (.b6 [i 0 (.mv (.c (.emp 7))) 0] false)
 (.seq (.b6 [i 1 (.build z2 [(0,1,.c (I 1)),(1,1,.c (.pv (.str [97,98,99,100,101,102])))]) 0,
 i 2 (.build z0 [(0,1,.c (I 3)),(2,1,.c (I 1))]) 0,
 i 3 (.build z0 [(0,1,.c (I 6)),(5,1,.c (I 2)),(6,1,.c (I 2))]) 0,
 i 4 (.build z0 []) 0,
 i 5 (.M0 7 3 z0 [(0,t2),(1,t3),(2,t4)]) 14,
 i 6 (.build z2 [(0,1,.c (I 2)),(2,1,t5)]) 30,
 i 7 (.build z0 [(0,1,.c (I 5)),(3,1,.c (.pv (.str [97])))]) 0,
 i 8 (.M0 7 1 z0 [(0,t7)]) 64,
 i 9 (.build z0 [(0,1,.c (I 3)),(2,1,.c (I 7))]) 0,
 i 10 (.M0 7 1 z0 [(0,t9)]) 256,
 i 11 (.build z2 [(0,1,.c (I 3)),(5,1,.c (I 2)),(3,1,t8),(4,1,o8)]) 960,
 i 12 (.M0 7 3 z2 [(0,t1),(1,t6),(2,s8)]) 2047,
 i 0 (mv y0) 4095] false)
 .ret)⟩
def a5X:m0:=⟨3,11,[.cell 6 true 7],
 .seq (.b6 [i 6 (.alloc z0) 0] false)
 (.seq (.b6 [i 7 (mv t0) 0,
 i 8 (mv t1) 0,
 i 9 (mv t2) 0,
 i 10 (.build z0 [(0,1,.c (I 6)),(4,1,t7),(5,1,t8),(6,1,t9)]) 7,
 iz (.store 7 t6 o8) 15] false)
 .ret)⟩
def a5f:m0:=⟨1,5,[.cell 2 true 7],
 .seq (.b6 [i 2 (.alloc z0) 0] false)
 (.seq (.b6 [i 3 (mv t0) 0,
 i 4 (.build z0 [(0,1,.c (I 5)),(3,1,t3)]) 1,
 iz (.store 7 t2 t4) 3] false)
 .ret)⟩
def a0o:m0:=⟨2,74,[.tmp 4],
 .seq (.b6 [i 2 (.box 1 t0) 0,
 i 3 (.box 7 t1) 0,
 i 4 (.mv (.c (.pv (.bool false)))) 0] false)
 (.seq (.b6 [i 7 (.b0 t3 2) 0,
 i 8 (.load false 1 t7) 1,
 i 9 (.i5 t8) 3,
 i 10 (.b0 t3 3) 0,
 i 11 (.load false 1 o8) 8,
 i 12 (.i5 s8) 24,
 i 13 (.b0 t3 4) 0,
 i 14 (.load false 1 y6) 64,
 i 15 (.i5 B3) 192,
 i 16 (.bin .add y0 G2) 504,
 i 5 (mv t9) 7,
 i 6 (mv F2) 2047] false)
 (.seq (.seq (.b6 [i 17 (.b0 t3 0) 0,
 i 18 (.load false 1 D5) 1] false)
 (.block 0
 (.seq (.b6 [i 20 (.bin .eql G4 (.c (I 1))) 0,
 i 19 (mv M1) 1] false)
 (.cond K2
 (.seq (.b6 [i 21 (mv t5) 0,
 i 22 (mv t6) 0,
 i 23 (.bin .add K6 P1) 3,
 i 24 (.bin .eql T7 (.c (I 0))) 7,
 i 25 (mv X7) 15,
 ig 26 (.b0 t3 5) 25 true 31,
 ig 27 (.load false 1 t26) 25 true 63,
 ig 28 (.bin .eql t27 (.c (I 0))) 25 true 127,
 i 29 (.pick W0 t28 (.c (.pv (.bool false)))) 255,
 i 30 (mv t29) 511,
 ig 31 (.b0 t3 6) 30 true 1023,
 ig 32 (.load false 1 t31) 30 true 2047,
 ig 33 (.bin .eql t32 (.c (I 0))) 30 true 4095,
 i 34 (.pick t30 t33 (.c (.pv (.bool false)))) 8191,
 i 4 (mv t34) 16383] false)
 .ret)
 (.seq (.b6 [i 36 (.bin .eql G4 (.c (I 2))) 0,
 i 35 (mv t36) 1] false)
 (.cond t35
 (.seq (.b6 [i 37 (.b0 t3 1) 0,
 i 38 (.load false 1 t37) 1,
 i 39 (.bin .eql t38 (.c (.pv (.str [])))) 3,
 i 40 (mv t39) 7,
 ig 41 (mv t6) 40 true 15,
 ig 42 (.bin .eql t41 (.c (I 0))) 40 true 31,
 i 43 (.pick t40 t42 (.c (.pv (.bool false)))) 63,
 i 44 (mv t43) 127,
 ig 45 (.b0 t3 5) 44 true 255,
 ig 46 (.load false 1 t45) 44 true 511,
 ig 47 (.bin .eql t46 (.c (I 0))) 44 true 1023,
 i 48 (.pick t44 t47 (.c (.pv (.bool false)))) 2047,
 i 49 (mv t48) 4095,
 ig 50 (.b0 t3 6) 49 true 8191,
 ig 51 (.load false 1 t50) 49 true 16383,
 ig 52 (.bin .eql t51 (.c (I 0))) 49 true 32767,
 i 53 (.pick t49 t52 (.c (.pv (.bool false)))) 65535,
 i 4 (mv t53) 131071] false)
 .ret)
 (.seq (.b6 [i 55 (.bin .eql G4 (.c (I 3))) 0,
 i 54 (mv t55) 1] false)
 (.cond t54
 (.seq (.b6 [i 56 (.b0 t3 1) 0,
 i 57 (.load false 1 t56) 1,
 i 58 (.bin .eql t57 (.c (.pv (.str [])))) 3,
 i 59 (mv t58) 7,
 ig 60 (mv t5) 59 true 15,
 ig 61 (.bin .eql t60 (.c (I 0))) 59 true 31,
 i 62 (.pick t59 t61 (.c (.pv (.bool false)))) 63,
 i 63 (mv t62) 127,
 ig 64 (.b0 t3 6) 63 true 255,
 ig 65 (.load false 1 t64) 63 true 511,
 ig 66 (.bin .eql t65 (.c (I 0))) 63 true 1023,
 i 67 (.pick t63 t66 (.c (.pv (.bool false)))) 2047,
 i 4 (mv t67) 4095] false)
 .ret)
 (.seq (.b6 [i 69 (.bin .eql G4 (.c (I 4))) 0,
 i 68 (mv t69) 1] false)
 (.cond t68
 (.seq (.b6 [i 70 (mv t5) 0,
 i 71 (mv t6) 0,
 i 72 (.bin .add t70 t71) 3,
 i 73 (.bin .eql t72 (.c (I 0))) 7,
 i 4 (mv t73) 15] false)
 .ret)
 .skip))))))))))
 (.seq (.b6 [i 4 (.mv (.c (.pv (.bool false)))) 0] false)
 .ret)))⟩
def R7:m0:=⟨2,73,[.tmp 4],
 .seq (.b6 [i 2 (.box 1 t0) 0,
 i 3 (.box 7 t1) 0,
 i 4 (.mv (.c (.pv (.bool false)))) 0] false)
 (.seq (.seq (.b6 [i 5 (.b0 t3 0) 0,
 i 6 (.load false 1 t5) 1] false)
 (.block 0
 (.seq (.b6 [i 8 (.bin .eql t6 (.c (I 1))) 0,
 i 7 (mv t8) 1] false)
 (.cond t7
 (.seq (.b6 [i 9 (.b0 t3 1) 0,
 i 10 (.load false 1 t9) 1,
 i 11 (.H0 o8) 3,
 i 12 (.bin .leq s8 (.c (I 1000))) 7,
 i 4 (mv y0) 15] false)
 .ret)
 (.seq (.b6 [i 14 (.bin .eql t6 (.c (I 2))) 0,
 i 13 (mv B3) 1] false)
 (.cond y6
 (.seq (.b6 [i 15 (.b0 t3 2) 0,
 i 16 (.load false 1 G2) 1,
 i 17 (.i5 F2) 3,
 i 18 (.bin .leq D5 (.c (I 1000))) 7,
 i 4 (mv G4) 15] false)
 .ret)
 (.seq (.b6 [i 20 (.bin .eql t6 (.c (I 3))) 0,
 i 19 (mv M1) 1] false)
 (.cond K2
 (.seq (.b6 [i 21 (.b0 t3 5) 0,
 i 22 (.load false 1 K6) 1,
 i 23 (.bin .geq P1 (.c (I 0))) 3,
 i 24 (mv T7) 7,
 ig 25 (.b0 t3 5) 24 true 15,
 ig 26 (.load false 1 W0) 24 true 31,
 ig 27 (.bin .leq t26 (.c (I 200))) 24 true 63,
 i 28 (.pick X7 t27 (.c (.pv (.bool false)))) 127,
 i 29 (mv t28) 255,
 ig 30 (.b0 t3 3) 29 true 511,
 ig 31 (.load false 1 t30) 29 true 1023,
 ig 32 (.i5 t31) 29 true 2047,
 ig 33 (.b0 t3 4) 29 true 511,
 ig 34 (.load false 1 t33) 29 true 4607,
 ig 35 (.i5 t34) 29 true 12799,
 ig 36 (.bin .eql t32 t35) 29 true 32767,
 i 37 (.pick t29 t36 (.c (.pv (.bool false)))) 65535,
 i 38 (mv t37) 131071,
 ig 39 (.b0 t3 3) 38 true 262143,
 ig 40 (.load false 1 t39) 38 true 524287,
 ig 41 (.i5 t40) 38 true 1048575,
 ig 42 (.b0 t3 5) 38 true 262143,
 ig 43 (.load false 1 t42) 38 true 2359295,
 ig 44 (.bin .leq t41 t43) 38 true 8388607,
 i 45 (.pick t38 t44 (.c (.pv (.bool false)))) 16777215,
 i 4 (mv t45) 33554431] false)
 .ret)
 .skip))))))))
 (.seq (.b6 [i 46 (.b0 t3 1) 0,
 i 47 (.load false 1 t46) 1,
 i 48 (.H0 t47) 3,
 i 49 (.bin .leq t48 (.c (I 4000))) 7,
 i 50 (mv t49) 15,
 ig 51 (.b0 t3 6) 50 true 31,
 ig 52 (.load false 1 t51) 50 true 63,
 ig 53 (.bin .geq t52 (.c (I 0))) 50 true 127,
 i 54 (.pick t50 t53 (.c (.pv (.bool false)))) 255,
 i 55 (mv t54) 511,
 ig 56 (.b0 t3 6) 55 true 1023,
 ig 57 (.load false 1 t56) 55 true 2047,
 ig 58 (.b0 t3 1) 55 true 1023,
 ig 59 (.load false 1 t58) 55 true 5119,
 ig 60 (.H0 t59) 55 true 13311,
 ig 61 (.bin .leq t57 t60) 55 true 32767,
 i 62 (.pick t55 t61 (.c (.pv (.bool false)))) 65535,
 i 63 (mv t62) 131071,
 ig 64 (.b0 t3 5) 63 true 262143,
 ig 65 (.load false 1 t64) 63 true 524287,
 ig 66 (.bin .eql t65 (.c (I 0))) 63 true 1048575,
 ig 67 (mv t66) 63 true 2097151,
 ig 68 (.b0 t3 5) 67 false 4194303,
 ig 69 (.load false 1 t68) 67 false 8388607,
 ig 70 (.bin .eql t69 (.c (I 1))) 67 false 16777215,
 ig 71 (.pick t67 (.c (.pv (.bool true))) t70) 63 true 33554431,
 i 72 (.pick t63 t71 (.c (.pv (.bool false)))) 67108863,
 i 4 (mv t72) 134217727] false)
 .ret))⟩
def Y9:m0:=⟨2,47,[.cell 4 false 1],
 .seq (.b6 [i 2 (.box 1 t0) 0,
 i 3 (.box 7 t1) 0,
 i 4 (.alloc [.pv (.bool false)]) 0] false)
 (.seq (.seq (.b6 [i 10 (.load true 7 t3) 0,
 i 11 (.call (.f S6) [o8]) 1] false)
 (.block 0
 (.rng s8 [12]
 (.b6 [i 5 (.alloc z0) 0,
 iz (.store 7 t5 y0) 1] false)
 (.block 1
 (.seq (.b6 [i 13 (.b0 t2 0) 0,
 i 14 (.load false 1 y6) 1,
 i 15 (.load true 7 t5) 0,
 i 16 (.call (.f C3) [B3,G2]) 7,
 i 17 (.not F2) 15] false)
 (.cond D5
 (.seq (.b6 [iz (.store 1 t4 (.c (.pv (.bool false)))) 0] false)
 .ret)
 .skip))))))
 (.seq (.seq (.b6 [i 18 (.b0 t3 3) 0,
 i 19 (.load false 1 G4) 1,
 i 20 (.i5 K2) 3,
 i 21 (.mv (.c (I 0))) 0] false)
 (.block 2
 (.loop [3,4,19,20,21]
 (.seq (.b6 [i 22 (.bin .lss K6 M1) 0] false)
 (.seq (.cond P1
 .skip
 (.exit 2))
 (.seq (.block 3
 (.seq (.b6 [i 23 (mv K6) 0,
 i 24 (.i6 7 K2 K6) 0,
 i 25 (.load true 7 X7) 2,
 i 7 (.alloc z0) 0,
 i 6 (mv T7) 15,
 iz (.store 7 t7 W0) 31] false)
 (.seq (.b6 [i 27 (.load true 7 t7) 0,
 i 28 (.call (.f U7) [t27]) 1,
 i 26 (mv t28) 3,
 i 29 (.extract t26 0) 7,
 i 30 (.extract t26 1) 7,
 i 8 (.alloc z0) 0,
 iz (.store 7 t8 t29) 47,
 i 9 (mv t30) 127] false)
 (.seq (.b6 [i 31 (mv t9) 0,
 i 32 (.bin .neq t31 (.c (I 0))) 1,
 i 33 (mv t32) 3,
 ig 34 (.load true 7 t8) 33 false 7,
 ig 35 (.load true 7 t7) 33 false 7,
 ig 36 (.eqs true [0,1,0,2,0,0,0] t34 t35) 33 false 31,
 i 37 (.pick t33 (.c (.pv (.bool true))) t36) 63,
 i 38 (mv t37) 127,
 ig 39 (.b0 t3 3) 38 false 255,
 ig 40 (.load false 1 t39) 38 false 511,
 ig 41 (mv t6) 38 false 255,
 ig 42 (.slice 7 t40 none (some t41) none) 38 false 2047,
 ig 43 (.load true 7 t7) 38 false 255,
 ig 44 (.call (.f G1) [t42,t43]) 38 false 8191,
 i 45 (.pick t38 (.c (.pv (.bool true))) t44) 16383] true)
 (.cond t45
 (.seq (.b6 [iz (.store 1 t4 (.c (.pv (.bool false)))) 0] false)
 .ret)
 .skip)))))
 (.b6 [i 46 (.bin .add K6 (.c (I 1))) 0,
 i 21 (mv t46) 1] false)))))))
 (.seq (.b6 [iz (.store 1 t4 (.c (.pv (.bool true)))) 0] false)
 .ret)))⟩
def R8:m0:=⟨1,30,[.tmp 2],
 .seq (.b6 [i 1 (.box 7 t0) 0,
 i 2 (.mv (.c (I 0))) 0] false)
 (.scope
 (.seq (.seq (.b6 [i 7 (.b0 t1 0) 0,
 i 8 (.load false 1 t7) 1,
 i 9 (.bin .lss t8 (.c (I 0))) 3,
 i 10 (mv t9) 7,
 ig 11 (.b0 t1 0) 10 false 15,
 ig 12 (.load false 1 s8) 10 false 31,
 ig 13 (.bin .geq y0 (.c (I 13))) 10 false 63,
 i 14 (.pick o8 (.c (.pv (.bool true))) y6) 127] false)
 (.cond B3
 (.seq (.b6 [i 2 (.mv (.c (I 200))) 0] false)
 .ret)
 .skip))
 (.seq (.b6 [i 15 (.call (.f L7) []) 0,
 i 16 (.b0 t1 0) 0,
 i 17 (.load false 1 F2) 2,
 i 18 (.index true 13 6 G2 D5) 7,
 i 3 (.alloc [.pv (.str []),I 0,I 0,I 0,I 0,I 0]) 0,
 iz (.store 6 t3 G4) 31] true)
 (.seq (.b6 [i 4 (.mv (.c (I 0))) 0] false)
 (.seq .skip
 (.seq (.seq (.b6 [i 19 (.build [.pv .nilFunc,.pv .nilFunc,.pv .nilFunc] [(0,1,.f y3),(1,1,.f y8),(2,1,.f s9)]) 0,
 i 20 (.mv (.c (I 0))) 0] false)
 (.block 0
 (.loop [1,3,4,19,20]
 (.seq (.b6 [i 21 (.bin .lss M1 (.c (I 3))) 0] false)
 (.seq (.cond K6
 .skip
 (.exit 0))
 (.seq (.block 1
 (.seq (.b6 [i 22 (.index false 3 1 K2 M1) 0,
 i 6 (mv P1) 1] false)
 (.seq (.b6 [i 23 (mv t6) 0,
 i 24 (.load true 6 t3) 0,
 i 25 (.load true 7 t1) 0,
 i 26 (.call T7 [X7,W0]) 7,
 i 27 (.not t26) 15] false)
 (.cond t27
 (.seq (.b6 [i 4 (.mv (.c (I 200))) 0] false)
 (.exit 0))
 .skip))))
 (.b6 [i 28 (.bin .add M1 (.c (I 1))) 0,
 i 20 (mv t28) 1] false)))))))
 (.seq (.b6 [i 29 (mv t4) 0,
 i 2 (mv t29) 1] false)
 .ret)))))))⟩
def O6:m0:=⟨1,6,[.tmp 2],
 .seq (.b6 [i 2 (.mv (.c (I 0))) 0] false)
 (.seq (.b6 [i 3 (.build [I 0,I 0,I 0,I 0,I 0,I 0,I 0,I 0,I 0,I 0,I 0,I 0,I 0,I 0] [(6,1,.c (I 1)),(7,1,.c (I 2)),(8,1,.c (I 2)),(9,1,.c (I 3)),(11,1,.c (I 4)),(13,1,.c (I 0))]) 0,
 i 4 (mv t0) 0,
 i 5 (.index false 14 1 t3 t4) 3,
 i 2 (mv t5) 7] false)
 .ret)⟩
def W1:m0:=⟨1,12,[.tmp 2],
 .seq (.b6 [i 1 (.box 7 t0) 0,
 i 2 (.mv (.c (I 0))) 0] false)
 (.seq (.seq (.b6 [i 3 (.b0 t1 0) 0,
 i 4 (.load false 1 t3) 1,
 i 5 (.bin .eql t4 (.c (I 1))) 3] false)
 (.cond t5
 (.seq (.b6 [i 6 (.b0 t1 1) 0,
 i 7 (.load false 1 t6) 1,
 i 8 (.H0 t7) 3,
 i 2 (mv t8) 7] false)
 .ret)
 .skip))
 (.seq (.b6 [i 9 (.b0 t1 2) 0,
 i 10 (.load false 1 t9) 1,
 i 11 (.i5 o8) 3,
 i 2 (mv s8) 7] false)
 .ret))⟩
def a3z:m0:=⟨1,26,[.tmp 2],
 .seq (.b6 [i 1 (.box 7 t0) 0,
 i 2 (.mv (.c (.pv (.bool false)))) 0] false)
 (.seq (.b6 [i 3 (.b0 t1 0) 0,
 i 4 (.load false 1 t3) 1,
 i 5 (.bin .eql t4 (.c (I 6))) 3,
 i 6 (mv t5) 7,
 ig 7 (.b0 t1 0) 6 false 15,
 ig 8 (.load false 1 t7) 6 false 31,
 ig 9 (.bin .eql t8 (.c (I 7))) 6 false 63,
 i 10 (.pick t6 (.c (.pv (.bool true))) t9) 127,
 i 11 (mv o8) 255,
 ig 12 (.b0 t1 0) 11 false 511,
 ig 13 (.load false 1 y0) 11 false 1023,
 ig 14 (.bin .eql y6 (.c (I 8))) 11 false 2047,
 i 15 (.pick s8 (.c (.pv (.bool true))) B3) 4095,
 i 16 (mv G2) 8191,
 ig 17 (.b0 t1 0) 16 false 16383,
 ig 18 (.load false 1 D5) 16 false 32767,
 ig 19 (.bin .eql G4 (.c (I 9))) 16 false 65535,
 i 20 (.pick F2 (.c (.pv (.bool true))) K2) 131071,
 i 21 (mv M1) 262143,
 ig 22 (.b0 t1 0) 21 false 524287,
 ig 23 (.load false 1 P1) 21 false 1048575,
 ig 24 (.bin .eql T7 (.c (I 11))) 21 false 2097151,
 i 25 (.pick K6 (.c (.pv (.bool true))) X7) 4194303,
 i 2 (mv W0) 8388607] false)
 .ret)⟩
def J8:m0:=⟨1,89,[.tmp 2],
 .seq (.b6 [i 2 (.mv (.c (.emp 7))) 0] false)
 (.seq (.b6 [i 7 (.call (.f l0) [.c (I 200)]) 0,
 i 8 (.call (.f l0) [.c (I 50)]) 1,
 i 9 (.call (.f l0) [.c (I 30)]) 3,
 i 10 (.call (.f l0) [.c (I 12)]) 7,
 i 11 (.call (.f l0) [.c (I 5)]) 15,
 i 12 (.M0 7 5 z2 [(0,t7),(1,t8),(2,t9),(3,o8),(4,s8)]) 31,
 i 3 (mv y0) 63] false)
 (.seq (.seq (.b6 [i 4 (.mv (.c (I 0))) 0] false)
 (.block 0
 (.loop [0,3,4]
 (.seq (.seq (.b6 [i 13 (mv t4) 0,
 i 14 (mv t0) 0,
 i 15 (.i5 B3) 2,
 i 16 (.bin .lss y6 G2) 7,
 i 17 (mv F2) 15,
 ig 18 (mv t4) 17 true 31,
 ig 19 (.bin .lss G4 (.c (I 200))) 17 true 63,
 i 20 (.pick D5 K2 (.c (.pv (.bool false)))) 127] false)
 (.cond M1
 .skip
 (.exit 0)))
 (.seq (.block 1
 (.seq (.b6 [i 23 (mv t3) 0,
 i 24 (mv t3) 0,
 i 25 (.i6 7 X7 (.c (I 0))) 2,
 i 26 (.b0 W0 3) 6,
 i 27 (.load false 1 t26) 14,
 i 28 (mv t0) 0,
 i 29 (mv t4) 0,
 i 30 (.i6 1 t28 t29) 96,
 i 31 (.load false 1 t30) 224,
 i 32 (.call (.f v3) [t31]) 480,
 i 33 (.M0 7 1 z0 [(0,t32)]) 992,
 i 34 (.append 7 64 t27 t33) 2046,
 i 35 (.i6 7 T7 (.c (I 0))) 4095,
 i 36 (.b0 t35 3) 8191,
 iz (.store 1 t36 t34) 16383] true)
 (.b6 [i 37 (mv t3) 0,
 i 38 (mv t3) 0,
 i 39 (.i6 7 t38 (.c (I 0))) 2,
 i 40 (.b0 t39 4) 6,
 i 41 (.load false 1 t40) 14,
 i 42 (mv t0) 0,
 i 43 (mv t4) 0,
 i 44 (.i6 1 t42 t43) 96,
 i 45 (.load false 1 t44) 224,
 i 46 (.build z0 [(0,1,.c (I 10)),(1,1,.c (.pv (.bool true))),(3,1,t45)]) 480,
 i 47 (.M0 7 1 z0 [(0,t46)]) 992,
 i 48 (.append 7 64 t41 t47) 2046,
 i 49 (.i6 7 t37 (.c (I 0))) 4095,
 i 50 (.b0 t49 4) 8191,
 iz (.store 1 t50 t48) 16383] true)))
 (.b6 [i 21 (mv t4) 0,
 i 22 (.bin .add K6 (.c (I 1))) 1,
 i 4 (mv P1) 3] false))))))
 (.seq (.b6 [i 51 (.call (.f A9) []) 0,
 i 5 (mv t51) 1] false)
 (.seq (.seq (.b6 [i 6 (.mv (.c (I 0))) 0] false)
 (.block 2
 (.loop [3,5,6]
 (.seq (.seq (.b6 [i 52 (mv t6) 0,
 i 53 (mv t5) 0,
 i 54 (.i5 t53) 2,
 i 55 (.bin .lss t52 t54) 7] false)
 (.cond t55
 .skip
 (.exit 2)))
 (.seq (.block 3
 (.seq (.b6 [i 58 (mv t3) 0,
 i 59 (mv t3) 0,
 i 60 (.i6 7 t59 (.c (I 4))) 2,
 i 61 (.b0 t60 3) 6,
 i 62 (.load false 1 t61) 14,
 i 63 (mv t5) 0,
 i 64 (mv t6) 0,
 i 65 (.i6 1 t63 t64) 96,
 i 66 (.load false 1 t65) 224,
 i 67 (.call (.f v3) [t66]) 480,
 i 68 (.M0 7 1 z0 [(0,t67)]) 992,
 i 69 (.append 7 64 t62 t68) 2046,
 i 70 (.i6 7 t58 (.c (I 4))) 4095,
 i 71 (.b0 t70 3) 8191,
 iz (.store 1 t71 t69) 16383] true)
 (.seq (.b6 [i 72 (mv t3) 0,
 i 73 (mv t3) 0,
 i 74 (.i6 7 t73 (.c (I 4))) 2,
 i 75 (.b0 t74 4) 6,
 i 76 (.load false 1 t75) 14,
 i 77 (mv t6) 0,
 i 78 (.bin .add (.c (I 5)) t77) 32,
 i 79 (.build z0 [(0,1,.c (I 9)),(4,1,t78)]) 96,
 i 80 (.M0 7 1 z0 [(0,t79)]) 224,
 i 81 (.append 7 64 t76 t80) 510,
 i 82 (.i6 7 t72 (.c (I 4))) 1023,
 i 83 (.b0 t82 4) 2047,
 iz (.store 1 t83 t81) 4095] false)
 (.b6 [i 84 (mv t3) 0,
 i 85 (.call (.f l0) [.c (I 10)]) 0,
 i 86 (.M0 7 1 z2 [(0,t85)]) 2,
 i 87 (.append 7 112 t84 t86) 7,
 i 3 (mv t87) 15] false))))
 (.b6 [i 56 (mv t6) 0,
 i 57 (.bin .add t56 (.c (I 1))) 1,
 i 6 (mv t57) 3] false))))))
 (.seq (.b6 [i 88 (mv t3) 0,
 i 2 (mv t88) 1] false)
 .ret)))))⟩
def a0Y:m0:=⟨2,42,[.tmp 4,.tmp 5],
 .seq (.b6 [i 2 (.box 7 t0) 0,
 i 3 (.box 7 t1) 0,
 i 4 (.mv (.c (I 0))) 0,
 i 5 (.mv (.c (I 0))) 4] false)
 (.seq (.seq (.b6 [i 9 (.load true 7 t2) 0,
 i 10 (.call (.f o6) [t9]) 1,
 i 11 (.bin .neq o8 (.c (I 0))) 3,
 i 12 (mv s8) 7,
 ig 13 (.load true 7 t3) 12 false 15,
 ig 14 (.call (.f o6) [y6]) 12 false 31,
 ig 15 (.bin .neq B3 (.c (I 0))) 12 false 63,
 i 16 (.pick y0 (.c (.pv (.bool true))) G2) 127] false)
 (.cond F2
 (.seq (.b6 [i 4 (.mv (.c (I 0))) 0,
 i 5 (.mv (.c (I 200))) 1] false)
 .ret)
 .skip))
 (.seq (.b6 [i 18 (.load true 7 t2) 0,
 i 19 (.call (.f F7) [G4]) 1,
 i 17 (mv K2) 3,
 i 20 (.extract D5 0) 7,
 i 21 (.extract D5 1) 7,
 i 6 (mv M1) 15,
 i 7 (mv K6) 63] false)
 (.seq (.seq (.b6 [i 22 (mv t7) 0,
 i 23 (.bin .neq P1 (.c (I 0))) 1] false)
 (.cond T7
 (.seq (.b6 [i 24 (mv t7) 0,
 i 4 (.mv (.c (I 0))) 0,
 i 5 (mv X7) 3] false)
 .ret)
 .skip))
 (.seq (.b6 [i 26 (.load true 7 t3) 0,
 i 27 (.call (.f F7) [t26]) 1,
 i 25 (mv t27) 3,
 i 28 (.extract W0 0) 7,
 i 29 (.extract W0 1) 7,
 i 8 (mv t28) 15,
 i 7 (mv t29) 63] false)
 (.seq (.block 0
 (.seq (.b6 [i 31 (mv t7) 0,
 i 32 (.bin .neq t31 (.c (I 0))) 1,
 i 30 (mv t32) 3] false)
 (.cond t30
 (.seq (.b6 [i 33 (mv t7) 0,
 i 4 (.mv (.c (I 0))) 0,
 i 5 (mv t33) 3] false)
 .ret)
 (.seq (.b6 [i 35 (mv t6) 0,
 i 36 (mv t8) 0,
 i 37 (.bin .lss t35 t36) 3,
 i 34 (mv t37) 7] false)
 (.cond t34
 (.seq (.b6 [i 4 (.mv (.c (I (-1)))) 0,
 i 5 (.mv (.c (I 0))) 1] false)
 .ret)
 (.seq (.b6 [i 39 (mv t6) 0,
 i 40 (mv t8) 0,
 i 41 (.bin .gtr t39 t40) 3,
 i 38 (mv t41) 7] false)
 (.cond t38
 (.seq (.b6 [i 4 (.mv (.c (I 1))) 0,
 i 5 (.mv (.c (I 0))) 1] false)
 .ret)
 .skip)))))))
 (.seq (.b6 [i 4 (.mv (.c (I 0))) 0,
 i 5 (.mv (.c (I 0))) 1] false)
 .ret))))))⟩
def a3X:m0:=⟨2,22,[.tmp 4,.tmp 5],
 .seq (.b6 [i 3 (.box 7 t1) 0,
 i 4 (.mv (.c (.pv (.str [])))) 0,
 i 5 (.mv (.c (.pv (.bool false)))) 2] false)
 (.seq (.seq (.b6 [i 8 (.b0 t3 0) 0,
 i 9 (.load false 1 t8) 1,
 i 10 (.bin .eql t9 (.c (I 5))) 3] false)
 (.cond o8
 (.seq (.b6 [i 11 (.b0 t3 3) 0,
 i 12 (.load false 1 s8) 1,
 i 4 (mv y0) 3,
 i 5 (.mv (.c (.pv (.bool true)))) 7] false)
 .ret)
 .skip))
 (.seq (.b6 [i 14 (mv t0) 0,
 i 15 (.load true 7 t3) 0,
 i 16 (.call (.f N7) [B3,G2]) 3,
 i 13 (mv F2) 7,
 i 17 (.extract y6 0) 15,
 i 18 (.extract y6 1) 15,
 i 6 (mv D5) 31,
 i 7 (mv G4) 127] false)
 (.seq (.b6 [i 19 (mv t6) 0,
 i 20 (mv t7) 0,
 i 21 (.bin .eql M1 (.c (I 0))) 2,
 i 4 (mv K2) 1,
 i 5 (mv K6) 15] false)
 .ret)))⟩
def a0n:m0:=⟨4,37,[],
 .seq (.b6 [i 4 (.box 7 t0) 0] false)
 (.seq (.seq (.b6 [i 6 (.load false 1 t1) 0,
 i 7 (.load true 7 t4) 0,
 i 8 (.call (.f C3) [t6,t7]) 3,
 i 9 (.not t8) 7,
 i 10 (mv t9) 15,
 ig 11 (.b0 t4 0) 10 false 31,
 ig 12 (.load false 1 s8) 10 false 63,
 ig 13 (.call (.f D4) [y0]) 10 false 127,
 ig 14 (.bin .eql y6 (.c (I 0))) 10 false 255,
 i 15 (.pick o8 (.c (.pv (.bool true))) B3) 511,
 i 16 (mv G2) 1023,
 ig 17 (.load false 1 t2) 16 false 2047,
 ig 18 (.b0 t4 4) 16 false 2047,
 ig 19 (.load false 1 G4) 16 false 6143,
 ig 20 (.i6 1 D5 K2) 16 false 16383,
 ig 21 (.load false 1 M1) 16 false 32767,
 i 22 (.pick F2 (.c (.pv (.bool true))) K6) 65535] false)
 (.cond P1
 .ret
 .skip))
 (.seq (.b6 [i 23 (.load false 1 t2) 0,
 i 24 (.b0 t4 4) 0,
 i 25 (.load false 1 X7) 2,
 i 26 (.i6 1 T7 W0) 7,
 iz (.store 1 t26 (.c (.pv (.bool true)))) 15] false)
 (.seq (.b6 [i 27 (.load false 1 t1) 0,
 i 28 (.b0 t4 4) 0,
 i 29 (.load false 1 t28) 2,
 i 30 (.i6 7 t27 t29) 7,
 i 31 (.load true 7 t30) 15,
 i 32 (.call (.f S6) [t31]) 31] false)
 (.block 0
 (.rng t32 [33]
 (.b6 [i 5 (.alloc z0) 0,
 iz (.store 7 t5 t33) 1] false)
 (.block 1
 (.b6 [i 34 (.load false 1 t3) 0,
 i 35 (.load true 7 t5) 0,
 i 36 (.call t34 [t35]) 3] false)))))))⟩
def a2V:m0:=⟨1,4,[.tmp 2],
 .seq (.b6 [i 1 (.box 7 t0) 0,
 i 2 (.mv (.c (.pv .nilFunc))) 0] false)
 (.seq (.b6 [i 3 (.mkf (.func A8) [] [t1]) 0,
 i 2 (mv t3) 1] false)
 .ret)⟩
def a1p:m0:=⟨1,15,[.cell 2 true 67],
 .seq (.b6 [i 2 (.alloc z1) 0] false)
 (.seq (.b6 [i 4 (.call (.f p7) [.c (.emp 1)]) 0,
 i 5 (.build z2 [(0,1,.c (I 3)),(5,1,.c (I 3))]) 0,
 i 6 (.build z2 [(0,1,.c (I 1)),(1,1,.c (.pv (.str [70,70,111,110,116])))]) 0,
 i 7 (.M0 7 2 z2 [(0,t5),(1,t6)]) 6,
 i 8 (.append 7 112 t4 t7) 15,
 i 3 (mv t8) 31] false)
 (.seq (.b6 [i 9 (mv t3) 0,
 i 10 (.call (.f U4) [.c (I 0)]) 0,
 i 11 (.call (.f U4) [.c (I 1)]) 2,
 i 12 (.M0 7 2 z0 [(0,o8),(1,s8)]) 6,
 i 13 (mv t0) 0,
 i 14 (.build z1 [(2,1,t9),(1,1,y0),(0,1,y6)]) 31,
 iz (.store 67 t2 B3) 63] false)
 .ret))⟩
def a9B:m0:=⟨1,5,[.cell 2 true 7],
 .seq (.b6 [i 2 (.alloc z0) 0] false)
 (.seq (.b6 [i 3 (mv t0) 0,
 i 4 (.build z0 [(0,1,.c (I 9)),(4,1,t3)]) 1,
 iz (.store 7 t2 t4) 3] false)
 .ret)⟩
def a3Z:m0:=⟨3,23,[.tmp 6],
 .seq (.b6 [i 3 (.box 67 t0) 0,
 i 6 (.mv (.c (.pv (.bool false)))) 0] false)
 (.seq (.b6 [i 10 (.load true 67 t3) 0,
 i 11 (mv t1) 0,
 i 12 (.call (.f P6) [o8,s8]) 3,
 i 9 (mv y0) 7,
 i 13 (.extract t9 0) 15,
 i 14 (.extract t9 1) 15,
 i 7 (.alloc z1) 0,
 iz (.store 67 t7 y6) 95,
 i 8 (mv B3) 255] false)
 (.seq (.b6 [i 15 (mv t8) 0,
 i 16 (mv t2) 0,
 i 17 (.bin .eql G2 F2) 3,
 i 18 (mv D5) 7,
 ig 19 (.load true 67 t7) 18 true 15,
 ig 20 (.load true 67 t3) 18 true 15,
 ig 21 (.call (.f n8) [K2,M1]) 18 true 63,
 i 22 (.pick G4 K6 (.c (.pv (.bool false)))) 127,
 i 6 (mv P1) 255] false)
 .ret))⟩
def a9C:m0:=⟨1,5,[.cell 2 true 7],
 .seq (.b6 [i 2 (.alloc z0) 0] false)
 (.seq (.b6 [i 3 (mv t0) 0,
 i 4 (.build z0 [(0,1,.c (I 3)),(2,1,t3)]) 1,
 iz (.store 7 t2 t4) 3] false)
 .ret)⟩
def J9:m0:=⟨2,88,[.cell 4 true 29,.tmp 5],
 .seq (.b6 [i 2 (.box 67 t0) 0,
 i 4 (.alloc z3) 0,
 i 5 (.mv (.c (I 0))) 0] false)
 (.seq (.b6 [i 11 (.b0 t2 0) 0,
 i 12 (.load true 67 s8) 1,
 i 13 (mv t1) 0,
 i 14 (.call (.f M6) [y0,y6]) 7,
 i 10 (mv B3) 15,
 i 15 (.extract o8 0) 31,
 i 16 (.extract o8 1) 31,
 i 6 (mv G2) 63,
 i 7 (mv F2) 255] false)
 (.seq (.seq (.b6 [i 17 (mv t7) 0,
 i 18 (.bin .neq D5 (.c (I 0))) 1] false)
 (.cond G4
 (.seq (.b6 [i 19 (.build z3 []) 0,
 i 20 (mv t7) 0,
 iz (.store 29 t4 K2) 1,
 i 5 (mv M1) 7] false)
 .ret)
 .skip))
 (.seq (.b6 [i 21 (mv t6) 0,
 i 22 (mv t1) 0,
 i 23 (.bin .sub P1 (.c (I 1))) 2,
 i 24 (.i6 7 K6 T7) 7,
 i 25 (.load true 7 X7) 15,
 i 8 (.alloc z0) 0,
 iz (.store 7 t8 W0) 63] false)
 (.seq (.seq (.b6 [i 26 (mv t6) 0,
 i 27 (.i6 7 t26 (.c (I 0))) 1,
 i 28 (.b0 t27 0) 3,
 i 29 (.load false 1 t28) 7,
 i 30 (.bin .eql t29 (.c (I 0))) 15,
 i 31 (mv t30) 31,
 ig 32 (.b0 t8 0) 31 false 63,
 ig 33 (.load false 1 t32) 31 false 127,
 ig 34 (.bin .neq t33 (.c (I 5))) 31 false 255,
 ig 35 (mv t34) 31 false 511,
 ig 36 (.b0 t8 0) 35 true 1023,
 ig 37 (.load false 1 t36) 35 true 2047,
 ig 38 (.bin .neq t37 (.c (I 6))) 35 true 4095,
 ig 39 (.pick t35 t38 (.c (.pv (.bool false)))) 31 false 8191,
 i 40 (.pick t31 (.c (.pv (.bool true))) t39) 16383] false)
 (.cond t40
 (.seq (.b6 [i 41 (.build z3 []) 0,
 iz (.store 29 t4 t41) 1,
 i 5 (.mv (.c (I 22))) 3] false)
 .ret)
 .skip))
 (.seq (.b6 [i 42 (mv t6) 0,
 i 43 (.i6 7 t42 (.c (I 1))) 1,
 i 44 (.load true 7 t43) 3,
 i 45 (mv t1) 0,
 i 46 (.build z3 [(7,7,t44),(28,1,t45)]) 15,
 i 9 (.alloc z3) 0,
 iz (.store 29 t9 t46) 63] false)
 (.seq (.seq (.b6 [i 48 (.b0 t2 0) 0,
 i 49 (.b0 t48 2) 1,
 i 50 (.load false 1 t49) 3,
 i 51 (mv t6) 0,
 i 52 (.i6 7 t51 (.c (I 0))) 8,
 i 53 (.load true 7 t52) 24,
 i 54 (.call (.f a0a) [t50,t53]) 63,
 i 47 (mv t54) 127,
 i 55 (.extract t47 0) 255,
 i 56 (.extract t47 1) 255,
 i 57 (.b0 t9 0) 511,
 iz (.store 7 t57 t55) 1535,
 i 7 (mv t56) 4095] true)
 (.seq (.b6 [i 58 (mv t7) 0,
 i 59 (.bin .neq t58 (.c (I 0))) 1] false)
 (.cond t59
 (.seq (.b6 [i 60 (.build z3 []) 0,
 i 61 (mv t7) 0,
 iz (.store 29 t4 t60) 1,
 i 5 (mv t61) 7] false)
 .ret)
 .skip)))
 (.seq (.seq (.b6 [i 63 (.b0 t2 0) 0,
 i 64 (.b0 t63 2) 1,
 i 65 (.load false 1 t64) 3,
 i 66 (.load true 7 t8) 0,
 i 67 (.call (.f a0a) [t65,t66]) 15,
 i 62 (mv t67) 31,
 i 68 (.extract t62 0) 63,
 i 69 (.extract t62 1) 63,
 i 70 (.b0 t9 14) 127,
 iz (.store 7 t70 t68) 383,
 i 7 (mv t69) 1023] false)
 (.seq (.b6 [i 71 (mv t7) 0,
 i 72 (.bin .neq t71 (.c (I 0))) 1] false)
 (.cond t72
 (.seq (.b6 [i 73 (.build z3 []) 0,
 i 74 (mv t7) 0,
 iz (.store 29 t4 t73) 1,
 i 5 (mv t74) 7] false)
 .ret)
 .skip)))
 (.seq (.seq (.b6 [i 76 (.load true 67 t2) 0,
 i 77 (.b0 t9 14) 0,
 i 78 (.load true 7 t77) 2,
 i 79 (.call (.f o0) [t76,t78]) 7,
 i 75 (mv t79) 15,
 i 80 (.extract t75 0) 31,
 i 81 (.extract t75 1) 31,
 i 82 (.b0 t9 21) 63,
 iz (.store 7 t82 t80) 191,
 i 7 (mv t81) 511] false)
 (.seq (.b6 [i 83 (mv t7) 0,
 i 84 (.bin .neq t83 (.c (I 0))) 1] false)
 (.cond t84
 (.seq (.b6 [i 85 (.build z3 []) 0,
 i 86 (mv t7) 0,
 iz (.store 29 t4 t85) 1,
 i 5 (mv t86) 7] false)
 .ret)
 .skip)))
 (.seq (.b6 [i 87 (.load true 29 t9) 0,
 iz (.store 29 t4 t87) 1,
 i 5 (.mv (.c (I 0))) 3] false)
 .ret)))))))))⟩
def Y1:m0:=⟨4,8,[.tmp 6],
 .seq (.b6 [i 4 (.box 1 t0) 0,
 i 5 (.box 1 t1) 0,
 i 6 (.mv (.c (.pv .nilFunc))) 0] false)
 (.seq (.b6 [i 7 (.mkf (.func J3) [] [t2,t4,t3,t5]) 0,
 i 6 (mv t7) 1] false)
 .ret)⟩
def R0:m0:=⟨4,23,[.cell 4 true 67,.tmp 5],
 .seq (.b6 [i 4 (.alloc z1) 0,
 i 5 (.mv (.c (I 0))) 0] false)
 (.seq (.b6 [i 9 (.load false 1 t0) 0,
 i 10 (.load false 1 t1) 0,
 i 11 (.call t9 [o8]) 3,
 i 8 (mv s8) 7,
 i 12 (.extract t8 0) 15,
 i 13 (.extract t8 1) 15,
 i 6 (.alloc z3) 0,
 iz (.store 29 t6 y0) 95,
 i 7 (mv y6) 255] false)
 (.seq (.seq (.b6 [i 14 (mv t7) 0,
 i 15 (.bin .neq B3 (.c (I 0))) 1] false)
 (.cond G2
 (.seq (.b6 [i 16 (.load true 67 t2) 0,
 i 17 (mv t7) 0,
 iz (.store 67 t4 F2) 1,
 i 5 (mv D5) 7] false)
 .ret)
 .skip))
 (.seq (.b6 [i 18 (.load false 1 t3) 0,
 i 19 (.load true 29 t6) 0,
 i 20 (.call G4 [K2]) 3,
 i 21 (.extract M1 0) 7,
 i 22 (.extract M1 1) 7,
 iz (.store 67 t4 K6) 31,
 i 5 (mv P1) 63] false)
 .ret)))⟩
def G5:m0:=⟨2,44,[.cell 4 true 67,.tmp 5],
 .seq (.b6 [i 2 (.box 67 t0) 0,
 i 3 (.box 29 t1) 0,
 i 4 (.alloc z1) 0,
 i 5 (.mv (.c (I 0))) 0] false)
 (.seq (.seq (.b6 [i 8 (.b0 t3 14) 0,
 i 9 (.b0 t8 3) 1,
 i 10 (.load false 1 t9) 3,
 i 11 (.b0 t3 7) 0,
 i 12 (.load true 7 s8) 8,
 i 13 (.call (.f V0) [o8,y0]) 31,
 i 14 (.not y6) 63] false)
 (.cond B3
 (.seq (.b6 [i 15 (.b0 t2 0) 0,
 i 16 (.load true 67 G2) 1,
 iz (.store 67 t4 F2) 3,
 i 5 (.mv (.c (I 22))) 7] false)
 .ret)
 .skip))
 (.seq (.b6 [i 18 (.b0 t2 0) 0,
 i 19 (.b0 G4 2) 1,
 i 20 (.load false 1 K2) 3,
 i 21 (.b0 t3 21) 0,
 i 22 (.load true 7 K6) 8,
 i 23 (.b0 t3 0) 0,
 i 24 (.load true 7 T7) 32,
 i 25 (.b0 t3 7) 0,
 i 26 (.load true 7 W0) 128,
 i 27 (.call (.f N8) [M1,P1,X7,t26]) 511,
 i 17 (mv t27) 1023,
 i 28 (.extract D5 0) 2047,
 i 29 (.extract D5 1) 2047,
 i 6 (mv t28) 4095,
 i 7 (mv t29) 16383] false)
 (.seq (.seq (.b6 [i 30 (mv t7) 0,
 i 31 (.bin .neq t30 (.c (I 0))) 1] false)
 (.cond t31
 (.seq (.b6 [i 32 (.b0 t2 0) 0,
 i 33 (.load true 67 t32) 1,
 i 34 (mv t7) 0,
 iz (.store 67 t4 t33) 3,
 i 5 (mv t34) 15] false)
 .ret)
 .skip))
 (.seq (.b6 [i 35 (.load true 67 t2) 0,
 i 36 (.load true 29 t3) 0,
 i 37 (mv t6) 0,
 i 38 (.b0 t3 7) 0,
 i 39 (.load true 7 t38) 8,
 i 40 (.M0 7 1 z0 [(0,t39)]) 24,
 i 41 (.call (.f n6) [t35,t36,t37,t40]) 63,
 i 42 (.extract t41 0) 127,
 i 43 (.extract t41 1) 127,
 iz (.store 67 t4 t42) 511,
 i 5 (mv t43) 1023] false)
 .ret))))⟩
def G6:m0:=⟨2,32,[.cell 4 true 67,.tmp 5],
 .seq (.b6 [i 2 (.box 67 t0) 0,
 i 3 (.box 29 t1) 0,
 i 4 (.alloc z1) 0,
 i 5 (.mv (.c (I 0))) 0] false)
 (.seq (.b6 [i 9 (.load true 67 t2) 0,
 i 10 (.b0 t3 21) 0,
 i 11 (.load true 7 o8) 2,
 i 12 (.b0 t3 0) 0,
 i 13 (.load true 7 y0) 8,
 i 14 (.call (.f u0) [t9,s8,y6]) 31,
 i 8 (mv B3) 63,
 i 15 (.extract t8 0) 127,
 i 16 (.extract t8 1) 127,
 i 6 (.alloc z0) 0,
 iz (.store 7 t6 G2) 767,
 i 7 (mv F2) 2047] false)
 (.seq (.seq (.b6 [i 17 (mv t7) 0,
 i 18 (.bin .neq D5 (.c (I 0))) 1] false)
 (.cond G4
 (.seq (.b6 [i 19 (.b0 t2 0) 0,
 i 20 (.load true 67 K2) 1,
 i 21 (mv t7) 0,
 iz (.store 67 t4 M1) 3,
 i 5 (mv K6) 15] false)
 .ret)
 .skip))
 (.seq (.b6 [i 22 (.load true 67 t2) 0,
 i 23 (.load true 29 t3) 0,
 i 24 (.b0 t2 0) 0,
 i 25 (.b0 X7 2) 4,
 i 26 (.load false 1 W0) 12,
 i 27 (.load true 7 t6) 0,
 i 28 (.M0 7 1 z0 [(0,t27)]) 32,
 i 29 (.call (.f n6) [P1,T7,t26,t28]) 127,
 i 30 (.extract t29 0) 255,
 i 31 (.extract t29 1) 255,
 iz (.store 67 t4 t30) 1023,
 i 5 (mv t31) 2047] false)
 .ret)))⟩
def G7:m0:=⟨2,30,[.cell 4 true 67,.tmp 5],
 .seq (.b6 [i 2 (.box 67 t0) 0,
 i 3 (.box 29 t1) 0,
 i 4 (.alloc z1) 0,
 i 5 (.mv (.c (I 0))) 0] false)
 (.seq (.b6 [i 9 (.b0 t2 0) 0,
 i 10 (.b0 t9 2) 1,
 i 11 (.load false 1 o8) 3,
 i 12 (.b0 t3 21) 0,
 i 13 (.load true 7 y0) 8,
 i 14 (.b0 t3 0) 0,
 i 15 (.load true 7 B3) 32,
 i 16 (.call (.f a1u) [s8,y6,G2]) 127,
 i 8 (mv F2) 255,
 i 17 (.extract t8 0) 511,
 i 18 (.extract t8 1) 511,
 i 6 (mv D5) 1023,
 i 7 (mv G4) 4095] false)
 (.seq (.seq (.b6 [i 19 (mv t7) 0,
 i 20 (.bin .neq K2 (.c (I 0))) 1] false)
 (.cond M1
 (.seq (.b6 [i 21 (.b0 t2 0) 0,
 i 22 (.load true 67 K6) 1,
 i 23 (mv t7) 0,
 iz (.store 67 t4 P1) 3,
 i 5 (mv T7) 15] false)
 .ret)
 .skip))
 (.seq (.b6 [i 24 (.load true 67 t2) 0,
 i 25 (.load true 29 t3) 0,
 i 26 (mv t6) 0,
 i 27 (.call (.f n6) [X7,W0,t26,.c (.emp 7)]) 7,
 i 28 (.extract t27 0) 15,
 i 29 (.extract t27 1) 15,
 iz (.store 67 t4 t28) 63,
 i 5 (mv t29) 127] false)
 .ret)))⟩
def G8:m0:=⟨2,32,[.cell 4 true 67,.tmp 5],
 .seq (.b6 [i 2 (.box 67 t0) 0,
 i 3 (.box 29 t1) 0,
 i 4 (.alloc z1) 0,
 i 5 (.mv (.c (I 0))) 0] false)
 (.seq (.b6 [i 9 (.build z0 [(0,1,.c (I 2))]) 0,
 i 6 (.alloc z0) 0,
 iz (.store 7 t6 t9) 3] false)
 (.seq (.seq (.b6 [i 11 (.load true 67 t2) 0,
 i 12 (.b0 t3 21) 0,
 i 13 (.load true 7 y0) 2,
 i 14 (.b0 t3 0) 0,
 i 15 (.load true 7 B3) 8,
 i 16 (.call (.f u0) [s8,y6,G2]) 31,
 i 10 (mv F2) 63,
 i 17 (.extract o8 0) 127,
 i 18 (.extract o8 1) 127,
 i 7 (.alloc z0) 0,
 iz (.store 7 t7 D5) 767,
 i 8 (mv G4) 2047] false)
 (.seq (.b6 [i 19 (mv t8) 0,
 i 20 (.bin .eql K2 (.c (I 0))) 1] false)
 (.cond M1
 (.b6 [i 21 (.b0 t6 2) 0,
 iz (.store 1 K6 (.c (I 1))) 1] false)
 .skip)))
 (.seq (.b6 [i 22 (.load true 67 t2) 0,
 i 23 (.load true 29 t3) 0,
 i 24 (.b0 t2 0) 0,
 i 25 (.b0 X7 2) 4,
 i 26 (.load false 1 W0) 12,
 i 27 (.load true 7 t6) 0,
 i 28 (.M0 7 1 z0 [(0,t27)]) 32,
 i 29 (.call (.f n6) [P1,T7,t26,t28]) 127,
 i 30 (.extract t29 0) 255,
 i 31 (.extract t29 1) 255,
 iz (.store 67 t4 t30) 1023,
 i 5 (mv t31) 2047] false)
 .ret)))⟩
def M8:m0:=⟨1,5,[.cell 2 true 7],
 .seq (.b6 [i 2 (.alloc z2) 0] false)
 (.seq (.b6 [i 3 (mv t0) 0,
 i 4 (.build z2 [(0,1,.c (I 3)),(5,1,t3)]) 1,
 iz (.store 7 t2 t4) 3] false)
 .ret)⟩
def a0s:m0:=⟨1,5,[.cell 2 true 7],
 .seq (.b6 [i 2 (.alloc z0) 0] false)
 (.seq (.b6 [i 3 (mv t0) 0,
 i 4 (.build z0 [(0,1,.c (I 5)),(3,1,t3)]) 1,
 iz (.store 7 t2 t4) 3] false)
 .ret)⟩
def W2:m0:=⟨3,23,[.cell 6 true 8,.tmp 7],
 .seq (.b6 [i 4 (.box 7 t1) 0,
 i 6 (.alloc [.emp 7,I 0,.pv (.bool false),I 0,.pv (.str []),I 0,I 0,I 0]) 0,
 i 7 (.mv (.c (I 0))) 0] false)
 (.seq (.seq (.b6 [i 8 (mv t0) 0,
 i 9 (.load true 7 t4) 0,
 i 10 (.call (.f C3) [t8,t9]) 3,
 i 11 (.not o8) 7] false)
 (.cond s8
 (.seq (.b6 [i 12 (.build [.emp 7,I 0,.pv (.bool false),I 0,.pv (.str []),I 0,I 0,I 0] []) 0,
 iz (.store 8 t6 y0) 1,
 i 7 (.mv (.c (I 2))) 3] false)
 .ret)
 .skip))
 (.seq (.seq (.b6 [i 13 (mv t2) 0,
 i 14 (.b0 t4 0) 0,
 i 15 (.load false 1 B3) 2,
 i 16 (.call (.f x5) [y6,G2]) 7,
 i 17 (.not F2) 15] false)
 (.cond D5
 (.seq (.b6 [i 18 (.build [.emp 7,I 0,.pv (.bool false),I 0,.pv (.str []),I 0,I 0,I 0] []) 0,
 iz (.store 8 t6 G4) 1,
 i 7 (.mv (.c (I 22))) 3] false)
 .ret)
 .skip))
 (.seq (.b6 [i 19 (mv t0) 0,
 i 20 (.build [.emp 7] [(0,1,K2)]) 1,
 i 21 (.load true 7 t4) 0,
 i 22 (.build [.emp 7,I 0,.pv (.bool false),I 0,.pv (.str []),I 0,I 0,I 0] [(0,1,M1),(1,7,K6)]) 7,
 iz (.store 8 t6 P1) 15,
 i 7 (.mv (.c (I 0))) 31] false)
 .ret)))⟩
def T9:m0:=⟨3,25,[.tmp 6],
 .seq (.b6 [i 3 (.box 8 t0) 0,
 i 6 (.mv (.c (I 0))) 0] false)
 (.seq (.seq (.b6 [i 7 (mv t1) 0,
 i 8 (.bin .lss t7 (.c (I 0))) 1,
 i 9 (mv t8) 3,
 ig 10 (mv t1) 9 false 7,
 ig 11 (.b0 t3 1) 9 false 7,
 ig 12 (.b0 s8 6) 9 false 23,
 ig 13 (.load false 1 y0) 9 false 55,
 ig 14 (.bin .gtr o8 y6) 9 false 127,
 i 15 (.pick t9 (.c (.pv (.bool true))) B3) 255,
 i 16 (mv G2) 511,
 ig 17 (mv t2) 16 false 1023,
 ig 18 (.b0 t3 1) 16 false 1023,
 ig 19 (.b0 G4 6) 16 false 3071,
 ig 20 (.load false 1 K2) 16 false 7167,
 ig 21 (mv t1) 16 false 1023,
 ig 22 (.bin .sub M1 K6) 16 false 31743,
 ig 23 (.bin .gtr D5 P1) 16 false 65535,
 i 24 (.pick F2 (.c (.pv (.bool true))) T7) 131071] false)
 (.cond X7
 (.seq (.b6 [i 6 (.mv (.c (I 23))) 0] false)
 .ret)
 .skip))
 (.seq (.b6 [i 6 (.mv (.c (I 0))) 0] false)
 .ret))⟩
def K8:m0:=⟨1,11,[.cell 2 true 7],
 .seq (.b6 [i 1 (.box 8 t0) 0,
 i 2 (.alloc z2) 0] false)
 (.seq (.b6 [i 3 (.b0 t1 0) 0,
 i 4 (.b0 t3 0) 1,
 i 5 (.load false 1 t4) 3,
 i 6 (.b0 t1 1) 0,
 i 7 (.b0 t6 4) 8,
 i 8 (.load false 1 t7) 24,
 i 9 (.i6 7 t5 t8) 63,
 i 10 (.load true 7 t9) 127,
 iz (.store 7 t2 o8) 255] false)
 .ret)⟩
def H8:m0:=⟨3,20,[.tmp 6],
 .seq (.b6 [i 6 (.mv (.c (.emp 1))) 0] false)
 (.seq (.b6 [i 8 (mv t0) 0,
 i 9 (.i5 t8) 1,
 i 10 (.b3u 1 1 [.int .u8 (0)] t9) 3,
 i 7 (mv o8) 7] false)
 (.seq (.b6 [i 11 (mv t7) 0,
 i 12 (mv t0) 0,
 i 13 (.copy 1 s8 y0) 3] false)
 (.seq (.b6 [i 14 (mv t7) 0,
 i 15 (mv t1) 0,
 i 16 (.slice 1 B3 (some G2) none none) 3,
 i 17 (mv t2) 0,
 i 18 (.copy 1 F2 D5) 15] false)
 (.seq (.b6 [i 19 (mv t7) 0,
 i 6 (mv K2) 1] false)
 .ret))))⟩
def K9:m0:=⟨2,23,[.tmp 4],
 .seq (.b6 [i 2 (.box 8 t0) 0,
 i 3 (.box 7 t1) 0,
 i 4 (.mv (.c (.emp 7))) 0] false)
 (.seq (.b6 [i 6 (.b0 t2 0) 0,
 i 7 (.b0 t6 0) 1,
 i 8 (.load false 1 t7) 3,
 i 9 (.i5 t8) 7,
 i 10 (.b3u 7 112 [.int .i64 (0),.str [],.sl 7 [],.sl 7 [],.sl 7 [],.int .i64 (0),.int .i64 (0)] t9) 15,
 i 5 (mv o8) 31] false)
 (.seq (.b6 [i 11 (mv t5) 0,
 i 12 (.b0 t2 0) 0,
 i 13 (.b0 y0 0) 2,
 i 14 (.load false 1 y6) 6,
 i 15 (.copy 7 s8 B3) 15] false)
 (.seq (.b6 [i 16 (mv t5) 0,
 i 17 (.b0 t2 1) 0,
 i 18 (.b0 D5 4) 2,
 i 19 (.load false 1 G4) 6,
 i 20 (.load true 7 t3) 0,
 i 21 (.i6 7 F2 K2) 31,
 iz (.store 7 K6 M1) 63] false)
 (.seq (.b6 [i 22 (mv t5) 0,
 i 4 (mv P1) 1] false)
 .ret))))⟩
def K4:m0:=⟨3,20,[.tmp 6],
 .seq (.b6 [i 6 (.mv (.c (.emp 7))) 0] false)
 (.seq (.b6 [i 8 (mv t0) 0,
 i 9 (.i5 t8) 1,
 i 10 (.b3u 7 64 [.int .i64 (0),.bool false,.int .i64 (0),.str [],.int .i64 (0),.int .i64 (0),.int .i64 (0)] t9) 3,
 i 7 (mv o8) 7] false)
 (.seq (.b6 [i 11 (mv t7) 0,
 i 12 (mv t0) 0,
 i 13 (.copy 7 s8 y0) 3] false)
 (.seq (.b6 [i 14 (mv t7) 0,
 i 15 (mv t1) 0,
 i 16 (.slice 7 B3 (some G2) none none) 3,
 i 17 (mv t2) 0,
 i 18 (.copy 7 F2 D5) 15] false)
 (.seq (.b6 [i 19 (mv t7) 0,
 i 6 (mv K2) 1] false)
 .ret))))⟩
def a2t:m0:=⟨1,37,[.cell 2 true 7,.tmp 3],
 .seq (.b6 [i 1 (.box 7 t0) 0,
 i 2 (.alloc z0) 0,
 i 3 (.mv (.c (I 0))) 0] false)
 (.seq (.seq (.b6 [i 5 (.load true 7 t1) 0,
 i 6 (.call (.f o6) [t5]) 1,
 i 4 (mv t6) 3] false)
 (.seq (.b6 [i 7 (mv t4) 0,
 i 8 (.bin .neq t7 (.c (I 0))) 1] false)
 (.cond t8
 (.seq (.b6 [i 9 (.build z0 []) 0,
 i 10 (mv t4) 0,
 iz (.store 7 t2 t9) 1,
 i 3 (mv o8) 7] false)
 .ret)
 .skip)))
 (.seq (.seq (.b6 [i 11 (.load true 7 t1) 0,
 i 12 (.b0 t1 1) 0,
 i 13 (.load false 1 y0) 2,
 i 14 (.build z0 [(0,1,.c (I 0)),(1,1,y6)]) 6,
 i 15 (.eqs false [0,1,0,2,0,0,0] s8 B3) 15,
 i 16 (mv G2) 31,
 ig 17 (.b0 t1 0) 16 false 63,
 ig 18 (.load false 1 D5) 16 false 127,
 ig 19 (.bin .eql G4 (.c (I 6))) 16 false 255,
 i 20 (.pick F2 (.c (.pv (.bool true))) K2) 511] false)
 (.cond M1
 (.seq (.b6 [i 21 (.build z0 []) 0,
 iz (.store 7 t2 K6) 1,
 i 3 (.mv (.c (I 22))) 3] false)
 .ret)
 .skip))
 (.seq (.seq (.b6 [i 22 (.b0 t1 0) 0,
 i 23 (.load false 1 P1) 1,
 i 24 (.bin .eql T7 (.c (I 4))) 3,
 i 25 (mv X7) 7,
 ig 26 (.b0 t1 2) 25 true 15,
 ig 27 (.load false 1 t26) 25 true 31,
 ig 28 (.bin .rem t27 (.c (I 65536))) 25 true 63,
 ig 29 (.bin .eql t28 (.c (I 0))) 25 true 127,
 i 30 (.pick W0 t29 (.c (.pv (.bool false)))) 255] false)
 (.cond t30
 (.seq (.b6 [i 31 (.load true 7 t1) 0,
 i 32 (.call (.f S9) [t31]) 1,
 i 33 (.extract t32 0) 3,
 i 34 (.extract t32 1) 3,
 iz (.store 7 t2 t33) 15,
 i 3 (mv t34) 31] false)
 .ret)
 .skip))
 (.seq (.b6 [i 35 (.b0 t1 1) 0,
 iz (.store 1 t35 (.c (.pv (.bool false)))) 1] false)
 (.seq (.b6 [i 36 (.load true 7 t1) 0,
 iz (.store 7 t2 t36) 1,
 i 3 (.mv (.c (I 0))) 3] false)
 .ret)))))⟩
def a1r:m0:=⟨2,11,[.cell 4 true 7,.tmp 5],
 .seq (.b6 [i 3 (.box 1 t1) 0,
 i 4 (.alloc z0) 0,
 i 5 (.mv (.c (I 0))) 0] false)
 (.seq (.b6 [i 6 (mv t0) 0,
 i 7 (.mkf (.func O8) [] [t3]) 0,
 i 8 (.call (.f C5) [t6,t7]) 3,
 i 9 (.extract t8 0) 7,
 i 10 (.extract t8 1) 7,
 iz (.store 7 t4 t9) 31,
 i 5 (mv o8) 63] false)
 .ret)⟩
def N2:m0:=⟨2,19,[.tmp 4],
 .seq (.b6 [i 3 (.box 7 t1) 0,
 i 4 (.mv (.c (I 0))) 0] false)
 (.seq (.seq (.b6 [i 6 (mv t0) 0,
 i 7 (.i5 t6) 1,
 i 8 (.mv (.c (I 0))) 0] false)
 (.block 0
 (.loop [0,3,7,8]
 (.seq (.b6 [i 9 (.bin .lss t8 t7) 0] false)
 (.seq (.cond t9
 .skip
 (.exit 0))
 (.seq (.block 1
 (.seq (.b6 [i 10 (mv t8) 0,
 i 5 (mv o8) 1] false)
 (.seq (.b6 [i 11 (.load true 7 t3) 0,
 i 12 (mv t0) 0,
 i 13 (mv t5) 0,
 i 14 (.i6 7 y0 y6) 6,
 i 15 (.load true 7 B3) 14,
 i 16 (.eqs false [0,1,0,2,0,0,0] s8 G2) 31] true)
 (.cond F2
 (.seq (.b6 [i 17 (mv t5) 0,
 i 4 (mv D5) 1] false)
 .ret)
 .skip))))
 (.b6 [i 18 (.bin .add t8 (.c (I 1))) 0,
 i 8 (mv G4) 1] false)))))))
 (.seq (.b6 [i 4 (.mv (.c (I (-1)))) 0] false)
 .ret))⟩
def V6:m0:=⟨3,33,[.tmp 6],
 .seq (.b6 [i 6 (.mv (.c (.emp 7))) 0] false)
 (.seq (.b6 [i 8 (mv t0) 0,
 i 9 (mv t1) 0,
 i 10 (mv t2) 0,
 i 11 (mv t0) 0,
 i 12 (.i5 s8) 8,
 i 13 (.slice 7 t8 (some t9) (some o8) (some y0)) 31] false)
 (.seq (.seq (.b6 [i 14 (mv t1) 0,
 i 15 (mv t2) 0,
 i 16 (.bin .eql B3 G2) 3] false)
 (.cond F2
 (.seq (.b6 [i 17 (mv t0) 0,
 i 6 (mv D5) 1] false)
 .ret)
 .skip))
 (.seq (.b6 [i 18 (mv t0) 0,
 i 19 (.i5 G4) 1,
 i 7 (mv K2) 3] false)
 (.seq (.b6 [i 20 (mv t0) 0,
 i 21 (mv t1) 0,
 i 22 (.slice 7 M1 none (some K6) none) 3,
 i 23 (mv t0) 0,
 i 24 (mv t2) 0,
 i 25 (.slice 7 T7 (some X7) none none) 24,
 i 26 (.append 7 64 P1 W0) 63,
 i 0 (mv t26) 127] true)
 (.seq (.b6 [i 27 (mv t0) 0,
 i 28 (mv t0) 0,
 i 29 (.i5 t28) 2,
 i 30 (mv t7) 0,
 i 31 (.slice 7 t27 (some t29) (some t30) none) 15,
 iz (.clear 7 [.int .i64 (0),.bool false,.int .i64 (0),.str [],.int .i64 (0),.int .i64 (0),.int .i64 (0)] t31) 31] false)
 (.seq (.b6 [i 32 (mv t0) 0,
 i 6 (mv t32) 1] false)
 .ret))))))⟩
def a5h:m0:=⟨3,36,[.tmp 6],
 .seq (.b6 [i 6 (.mv (.c (I 0))) 0] false)
 (.seq (.b6 [i 7 (.mv (.c (.emp 1))) 0] false)
 (.seq (.seq (.b6 [i 8 (.mv (.c (I 0))) 0] false)
 (.block 0
 (.loop [0,1,2,7,8]
 (.seq (.seq (.b6 [i 9 (mv t8) 0,
 i 10 (mv t0) 0,
 i 11 (.i5 o8) 2,
 i 12 (.bin .lss t9 s8) 7] false)
 (.cond y0
 .skip
 (.exit 0)))
 (.seq (.block 1
 (.seq (.b6 [i 15 (mv t0) 0,
 i 16 (mv t8) 0,
 i 17 (.i6 7 G2 F2) 3,
 i 18 (.b0 D5 0) 7,
 i 19 (.load false 1 G4) 15,
 i 20 (mv t1) 0,
 i 21 (.bin .eql K2 M1) 63] false)
 (.cond K6
 (.b6 [i 22 (mv t7) 0,
 i 23 (mv t8) 0,
 i 24 (.M0 1 1 [I 0] [(0,T7)]) 2,
 i 25 (.append 1 8 P1 X7) 7,
 i 7 (mv W0) 15] false)
 .skip)))
 (.b6 [i 13 (mv t8) 0,
 i 14 (.bin .add y6 (.c (I 1))) 1,
 i 8 (mv B3) 3] false))))))
 (.seq (.seq (.b6 [i 26 (mv t7) 0,
 i 27 (.i5 t26) 1,
 i 28 (.bin .eql t27 (.c (I 0))) 3] false)
 (.cond t28
 (.seq (.b6 [i 6 (.mv (.c (I (-1)))) 0] false)
 .ret)
 .skip))
 (.seq (.b6 [i 29 (mv t7) 0,
 i 30 (mv t2) 0,
 i 31 (mv t7) 0,
 i 32 (.i5 t31) 4,
 i 33 (.bin .rem t30 t32) 14,
 i 34 (.i6 1 t29 t33) 31,
 i 35 (.load false 1 t34) 63,
 i 6 (mv t35) 127] false)
 .ret))))⟩
def C2:m0:=⟨2,32,[.cell 4 true 7,.tmp 5],
 .seq (.b6 [i 2 (.box 67 t0) 0,
 i 3 (.box 7 t1) 0,
 i 4 (.alloc z0) 0,
 i 5 (.mv (.c (I 0))) 0] false)
 (.seq (.b6 [i 10 (.b0 t2 0) 0,
 i 11 (.b0 o8 2) 1,
 i 12 (.load false 1 s8) 3,
 i 13 (.build z0 [(0,1,.c (I 9)),(4,1,.c (I 4))]) 0,
 i 14 (.load true 7 t3) 0,
 i 15 (.call (.f S4) [y0,y6,B3]) 31,
 i 9 (mv G2) 63,
 i 16 (.extract t9 0) 127,
 i 17 (.extract t9 1) 127,
 i 18 (.extract t9 2) 127,
 i 6 (.alloc z0) 0,
 iz (.store 7 t6 F2) 1279,
 i 7 (mv D5) 3583,
 i 8 (mv G4) 8191] false)
 (.seq (.seq (.b6 [i 19 (mv t8) 0,
 i 20 (.bin .neq K2 (.c (I 0))) 1,
 i 21 (mv M1) 3,
 ig 22 (mv t7) 21 false 7,
 ig 23 (.not P1) 21 false 15,
 i 24 (.pick K6 (.c (.pv (.bool true))) T7) 31,
 i 25 (mv X7) 63,
 ig 26 (.b0 t6 0) 25 false 127,
 ig 27 (.load false 1 t26) 25 false 255,
 ig 28 (.bin .neq t27 (.c (I 9))) 25 false 511,
 i 29 (.pick W0 (.c (.pv (.bool true))) t28) 1023] false)
 (.cond t29
 (.seq (.b6 [i 30 (.build z0 []) 0,
 iz (.store 7 t4 t30) 1,
 i 5 (.mv (.c (I 24))) 3] false)
 .ret)
 .skip))
 (.seq (.b6 [i 31 (.load true 7 t6) 0,
 iz (.store 7 t4 t31) 1,
 i 5 (.mv (.c (I 0))) 3] false)
 .ret)))⟩
def L1:m0:=⟨3,29,[.cell 6 true 7,.tmp 7],
 .seq (.b6 [i 3 (.box 67 t0) 0,
 i 4 (.box 7 t1) 0,
 i 5 (.box 7 t2) 0,
 i 6 (.alloc z0) 0,
 i 7 (.mv (.c (I 0))) 0] false)
 (.seq (.b6 [i 12 (.b0 t3 0) 0,
 i 13 (.b0 y0 2) 1,
 i 14 (.load false 1 y6) 3,
 i 15 (.load true 7 t4) 0,
 i 16 (.load true 7 t5) 0,
 i 17 (.call (.f S4) [B3,G2,F2]) 31,
 i 11 (mv D5) 63,
 i 18 (.extract s8 0) 127,
 i 19 (.extract s8 1) 127,
 i 20 (.extract s8 2) 127,
 i 8 (.alloc z0) 0,
 iz (.store 7 t8 G4) 1279,
 i 9 (mv K2) 3583,
 i 10 (mv M1) 8191] false)
 (.seq (.seq (.b6 [i 21 (mv o8) 0,
 i 22 (.bin .eql K6 (.c (I 0))) 1,
 i 23 (mv P1) 3,
 ig 24 (mv t9) 23 true 7,
 ig 25 (.not X7) 23 true 15,
 i 26 (.pick T7 W0 (.c (.pv (.bool false)))) 31] false)
 (.cond t26
 (.b6 [i 10 (.mv (.c (I 40))) 0] false)
 .skip))
 (.seq (.b6 [i 27 (.load true 7 t8) 0,
 i 28 (mv o8) 0,
 iz (.store 7 t6 t27) 1,
 i 7 (mv t28) 7] false)
 .ret)))⟩
def a7t:m0:=⟨2,13,[.tmp 4],
 .seq (.b6 [i 2 (.box 7 t0) 0,
 i 4 (.mv (.c (.pv (.bool false)))) 0] false)
 (.seq (.b6 [i 5 (.load true 7 t2) 0,
 i 6 (.call (.f I9) [t5]) 1,
 i 7 (mv t6) 3,
 ig 8 (.b0 t2 4) 7 true 7,
 ig 9 (.load false 1 t8) 7 true 15,
 ig 10 (mv t1) 7 true 7,
 ig 11 (.bin .geq t9 o8) 7 true 63,
 i 12 (.pick t7 s8 (.c (.pv (.bool false)))) 127,
 i 4 (mv y0) 255] false)
 .ret)⟩
def a8t:m0:=⟨3,16,[.tmp 6],
 .seq (.b6 [i 5 (.box 7 t2) 0,
 i 6 (.mv (.c (.emp 7))) 0] false)
 (.seq (.b6 [i 7 (.mv (.c (.emp 7))) 0] false)
 (.seq (.b6 [i 8 (mv t7) 0,
 i 9 (mv t0) 0,
 i 10 (.append 7 112 t8 t9) 3,
 i 7 (mv o8) 7] false)
 (.seq (.b6 [i 11 (mv t7) 0,
 i 12 (mv t1) 0,
 i 13 (.load true 7 t5) 0,
 i 14 (.i6 7 s8 y0) 7,
 iz (.store 7 B3 y6) 15] false)
 (.seq (.b6 [i 15 (mv t7) 0,
 i 6 (mv G2) 1] false)
 .ret))))⟩
def a7r:m0:=⟨2,19,[.tmp 4],
 .seq (.b6 [i 3 (.box 7 t1) 0,
 i 4 (.mv (.c (I 0))) 0] false)
 (.seq (.seq (.b6 [i 5 (.mv (.c (I 0))) 0] false)
 (.block 0
 (.loop [0,3,5]
 (.seq (.seq (.b6 [i 6 (mv t5) 0,
 i 7 (mv t0) 0,
 i 8 (.i5 t7) 2,
 i 9 (.bin .lss t6 t8) 7] false)
 (.cond t9
 .skip
 (.exit 0)))
 (.seq (.block 1
 (.seq (.b6 [i 12 (mv t0) 0,
 i 13 (mv t5) 0,
 i 14 (.i6 7 y0 y6) 3,
 i 15 (.load true 7 B3) 7,
 i 16 (.load true 7 t3) 0,
 i 17 (.eqs false [0,1,0,2,0,0,0] G2 F2) 31] true)
 (.cond D5
 (.seq (.b6 [i 18 (mv t5) 0,
 i 4 (mv G4) 1] false)
 .ret)
 .skip)))
 (.b6 [i 10 (mv t5) 0,
 i 11 (.bin .add o8 (.c (I 1))) 1,
 i 5 (mv s8) 3] false))))))
 (.seq (.b6 [i 4 (.mv (.c (I (-1)))) 0] false)
 .ret))⟩
def a2w:m0:=⟨2,27,[.cell 4 true 67,.tmp 5],
 .seq (.b6 [i 2 (.box 67 t0) 0,
 i 4 (.alloc z1) 0,
 i 5 (.mv (.c (I 0))) 0] false)
 (.seq (.seq (.b6 [i 6 (.b0 t2 0) 0,
 i 7 (.load false 1 t6) 1,
 i 8 (.i5 t7) 3,
 i 9 (mv t1) 0,
 i 10 (.i5 t9) 8,
 i 11 (.bin .add t8 o8) 31,
 i 12 (.bin .gtr s8 (.c (I 100))) 63] false)
 (.cond y0
 (.seq (.b6 [i 13 (.load true 67 t2) 0,
 iz (.store 67 t4 y6) 1,
 i 5 (.mv (.c (I 21))) 3] false)
 .ret)
 .skip))
 (.seq (.b6 [i 14 (.b0 t2 0) 0,
 i 15 (.load false 1 B3) 1,
 i 16 (.b0 t2 0) 0,
 i 17 (.load false 1 F2) 4,
 i 18 (.i5 D5) 12,
 i 19 (.b0 t2 0) 0,
 i 20 (.load false 1 K2) 32,
 i 21 (.i5 M1) 96,
 i 22 (.slice 7 G2 none (some G4) (some K6)) 255,
 i 23 (mv t1) 0,
 i 24 (.append 7 64 P1 T7) 1023,
 i 25 (.b0 t2 0) 2047,
 iz (.store 1 W0 X7) 4095] false)
 (.seq (.b6 [i 26 (.load true 67 t2) 0,
 iz (.store 67 t4 t26) 1,
 i 5 (.mv (.c (I 0))) 3] false)
 .ret)))⟩
def a3B:m0:=⟨2,27,[.tmp 4,.tmp 5],
 .seq (.b6 [i 2 (.box 67 t0) 0,
 i 4 (.mv (.c (.emp 7))) 0,
 i 5 (.mv (.c (I 0))) 2] false)
 (.seq (.seq (.b6 [i 6 (mv t1) 0,
 i 7 (.bin .lss t6 (.c (I 0))) 1] false)
 (.cond t7
 (.seq (.b6 [i 4 (.mv (.c (.emp 7))) 0,
 i 5 (.mv (.c (I 2))) 1] false)
 .ret)
 .skip))
 (.seq (.seq (.b6 [i 8 (mv t1) 0,
 i 9 (.b0 t2 0) 0,
 i 10 (.load false 1 t9) 2,
 i 11 (.i5 o8) 6,
 i 12 (.bin .gtr t8 s8) 15] false)
 (.cond y0
 (.seq (.b6 [i 4 (.mv (.c (.emp 7))) 0,
 i 5 (.mv (.c (I 20))) 1] false)
 .ret)
 .skip))
 (.seq (.b6 [i 13 (.b0 t2 0) 0,
 i 14 (.load false 1 y6) 1,
 i 15 (.b0 t2 0) 0,
 i 16 (.load false 1 G2) 4,
 i 17 (.i5 F2) 12,
 i 18 (mv t1) 0,
 i 19 (.bin .sub D5 G4) 60,
 i 20 (.b0 t2 0) 0,
 i 21 (.load false 1 M1) 128,
 i 22 (.i5 K6) 384,
 i 23 (.b0 t2 0) 0,
 i 24 (.load false 1 T7) 1024,
 i 25 (.i5 X7) 3072,
 i 26 (.slice 7 B3 (some K2) (some P1) (some W0)) 8191,
 i 4 (mv t26) 16383,
 i 5 (.mv (.c (I 0))) 32767] false)
 .ret)))⟩
def L2:m0:=⟨2,9,[.tmp 3],
 .seq (.b6 [i 2 (.box 7 t0) 0,
 i 3 (.mv (.c (.pv (.bool false)))) 0] false)
 (.seq (.b6 [i 4 (.load true 7 t2) 0,
 i 5 (.b0 t1 1) 0,
 i 6 (.load false 1 t5) 2,
 i 7 (.i5 t6) 6,
 i 8 (.call (.f J4) [t4,t7]) 15,
 i 3 (mv t8) 31] false)
 .ret)⟩
def a2v:m0:=⟨2,30,[.cell 4 true 67,.tmp 5],
 .seq (.b6 [i 2 (.box 67 t0) 0,
 i 4 (.alloc z1) 0,
 i 5 (.mv (.c (I 0))) 0] false)
 (.seq (.seq (.b6 [i 6 (mv t1) 0,
 i 7 (.bin .lss t6 (.c (I 0))) 1] false)
 (.cond t7
 (.seq (.b6 [i 8 (.load true 67 t2) 0,
 iz (.store 67 t4 t8) 1,
 i 5 (.mv (.c (I 2))) 3] false)
 .ret)
 .skip))
 (.seq (.seq (.b6 [i 9 (mv t1) 0,
 i 10 (.b0 t2 0) 0,
 i 11 (.load false 1 o8) 2,
 i 12 (.i5 s8) 6,
 i 13 (.bin .gtr t9 y0) 15] false)
 (.cond y6
 (.seq (.b6 [i 14 (.load true 67 t2) 0,
 iz (.store 67 t4 B3) 1,
 i 5 (.mv (.c (I 20))) 3] false)
 .ret)
 .skip))
 (.seq (.b6 [i 15 (.b0 t2 0) 0,
 i 16 (.load false 1 G2) 1,
 i 17 (.b0 t2 0) 0,
 i 18 (.load false 1 D5) 4,
 i 19 (.i5 G4) 12,
 i 20 (mv t1) 0,
 i 21 (.bin .sub K2 M1) 60,
 i 22 (.b0 t2 0) 0,
 i 23 (.load false 1 P1) 128,
 i 24 (.i5 T7) 384,
 i 25 (mv t1) 0,
 i 26 (.bin .sub X7 W0) 1920,
 i 27 (.slice 7 F2 none (some K6) (some t26)) 4095,
 i 28 (.b0 t2 0) 8191,
 iz (.store 1 t28 t27) 16383] false)
 (.seq (.b6 [i 29 (.load true 67 t2) 0,
 iz (.store 67 t4 t29) 1,
 i 5 (.mv (.c (I 0))) 3] false)
 .ret))))⟩
def a1Y:m0:=⟨2,8,[.tmp 4],
 .seq (.b6 [i 4 (.mv (.c (.pv (.bool false)))) 0] false)
 (.seq (.b6 [i 5 (mv t0) 0,
 i 6 (mv t1) 0,
 i 7 (.call (.f v8) [t5,t6]) 3,
 i 4 (mv t7) 7] false)
 .ret)⟩
def V5:m0:=⟨1,4,[.tmp 2],
 .seq (.b6 [i 1 (.box 67 t0) 0,
 i 2 (.mv (.c (.pv .nilFunc))) 0] false)
 (.seq (.b6 [i 3 (.mkf (.func l5) [] [t1]) 0,
 i 2 (mv t3) 1] false)
 .ret)⟩
def Q0:m0:=⟨2,9,[.tmp 4],
 .seq (.b6 [i 3 (.box 7 t1) 0,
 i 4 (.mv (.c (.pv (.bool false)))) 0] false)
 (.seq (.b6 [i 5 (mv t0) 0,
 i 6 (.load true 7 t3) 0,
 i 7 (.call (.f u5) [t5,t6]) 3,
 i 8 (.bin .geq t7 (.c (I 0))) 7,
 i 4 (mv t8) 15] false)
 .ret)⟩
def R9:m0:=⟨0,15,[.cell 0 true 78],
 .seq (.b6 [i 0 (.alloc z5) 0] false)
 (.seq (.b6 [i 1 (.build [.pv (.str []),I 0,I 0,I 0,I 0,I 0] [(0,1,.c (.pv (.str [110,117,108,108,116,121,112,101])))]) 0,
 i 2 (.build [.pv (.str []),I 0,I 0,I 0,I 0,I 0] [(0,1,.c (.pv (.str [109,97,114,107,116,121,112,101])))]) 0,
 i 3 (.build [.pv (.str []),I 0,I 0,I 0,I 0,I 0] [(0,1,.c (.pv (.str [98,111,111,108,101,97,110,116,121,112,101]))),(2,1,.c (I 1))]) 0,
 i 4 (.build [.pv (.str []),I 0,I 0,I 0,I 0,I 0] [(0,1,.c (.pv (.str [105,110,116,101,103,101,114,116,121,112,101]))),(1,1,.c (I (-2147483648))),(2,1,.c (I 2147483647))]) 0,
 i 5 (.build [.pv (.str []),I 0,I 0,I 0,I 0,I 0] [(0,1,.c (.pv (.str [114,101,97,108,116,121,112,101]))),(1,1,.c (I (-2147483648))),(2,1,.c (I 2147483648))]) 0,
 i 6 (.build [.pv (.str []),I 0,I 0,I 0,I 0,I 0] [(0,1,.c (.pv (.str [110,97,109,101,116,121,112,101]))),(4,1,.c (I 100))]) 0,
 i 7 (.build [.pv (.str []),I 0,I 0,I 0,I 0,I 0] [(0,1,.c (.pv (.str [115,116,114,105,110,103,116,121,112,101]))),(5,1,.c (I 1))]) 0,
 i 8 (.build [.pv (.str []),I 0,I 0,I 0,I 0,I 0] [(0,1,.c (.pv (.str [97,114,114,97,121,116,121,112,101]))),(5,1,.c (I 2))]) 0,
 i 9 (.build [.pv (.str []),I 0,I 0,I 0,I 0,I 0] [(0,1,.c (.pv (.str [112,97,99,107,101,100,97,114,114,97,121,116,121,112,101]))),(5,1,.c (I 2))]) 0,
 i 10 (.build [.pv (.str []),I 0,I 0,I 0,I 0,I 0] [(0,1,.c (.pv (.str [100,105,99,116,116,121,112,101]))),(5,1,.c (I 3))]) 0,
 i 11 (.build [.pv (.str []),I 0,I 0,I 0,I 0,I 0] [(0,1,.c (.pv (.str [111,112,101,114,97,116,111,114,116,121,112,101]))),(3,1,.c (I 1)),(4,1,.c (I 100))]) 0,
 i 12 (.build [.pv (.str []),I 0,I 0,I 0,I 0,I 0] [(0,1,.c (.pv (.str [102,105,108,101,116,121,112,101]))),(5,1,.c (I 3))]) 0,
 i 13 (.build [.pv (.str []),I 0,I 0,I 0,I 0,I 0] [(0,1,.c (.pv (.str [115,97,118,101,116,121,112,101]))),(1,1,.c (I 1)),(2,1,.c (I 9223372036854775807))]) 0,
 i 14 (.build z5 [(0,6,t1),(6,6,t2),(12,6,t3),(18,6,t4),(24,6,t5),(30,6,t6),(36,6,t7),(42,6,t8),(48,6,t9),(54,6,o8),(60,6,s8),(66,6,y0),(72,6,y6)]) 8191,
 iz (.store 78 t0 B3) 16383] false)
 .ret)⟩
def C1:m0:=⟨2,17,[.tmp 4],
 .seq (.b6 [i 2 (.box 6 t0) 0,
 i 3 (.box 7 t1) 0,
 i 4 (.mv (.c (.pv (.bool false)))) 0] false)
 (.seq (.b6 [i 5 (.b0 t3 2) 0,
 i 6 (.load false 1 t5) 1,
 i 7 (.b0 t2 1) 0,
 i 8 (.load false 1 t7) 4,
 i 9 (.bin .geq t6 t8) 15,
 i 10 (mv t9) 31,
 ig 11 (.b0 t3 2) 10 true 63,
 ig 12 (.load false 1 s8) 10 true 127,
 ig 13 (.b0 t2 2) 10 true 63,
 ig 14 (.load false 1 y6) 10 true 319,
 ig 15 (.bin .leq y0 B3) 10 true 1023,
 i 16 (.pick o8 G2 (.c (.pv (.bool false)))) 2047,
 i 4 (mv F2) 4095] false)
 .ret)⟩
def D6:m0:=⟨2,19,[.tmp 4],
 .seq (.b6 [i 2 (.box 6 t0) 0,
 i 3 (.box 7 t1) 0,
 i 4 (.mv (.c (.pv (.bool false)))) 0] false)
 (.seq (.b6 [i 5 (.b0 t3 3) 0,
 i 6 (.load false 1 t5) 1,
 i 7 (.H0 t6) 3,
 i 8 (.b0 t2 3) 0,
 i 9 (.load false 1 t8) 8,
 i 10 (.bin .geq t7 t9) 31,
 i 11 (mv o8) 63,
 ig 12 (.b0 t3 3) 11 true 127,
 ig 13 (.load false 1 y0) 11 true 255,
 ig 14 (.H0 y6) 11 true 511,
 ig 15 (.b0 t2 4) 11 true 127,
 ig 16 (.load false 1 G2) 11 true 1151,
 ig 17 (.bin .leq B3 F2) 11 true 4095,
 i 18 (.pick s8 D5 (.c (.pv (.bool false)))) 8191,
 i 4 (mv G4) 16383] false)
 .ret)⟩
def y2:m0:=⟨2,57,[.tmp 4],
 .seq (.b6 [i 2 (.box 6 t0) 0,
 i 3 (.box 7 t1) 0,
 i 4 (.mv (.c (.pv (.bool false)))) 0] false)
 (.seq (.seq (.b6 [i 6 (.b0 t2 5) 0,
 i 7 (.load false 1 t6) 1,
 i 8 (.bin .eql t7 (.c (I 0))) 3] false)
 (.cond t8
 (.seq (.b6 [i 9 (.b0 t3 4) 0,
 i 10 (.load false 1 t9) 1,
 i 11 (.bin .eql o8 (.c (I 0))) 3,
 i 12 (mv s8) 7,
 ig 13 (.b0 t3 5) 12 true 15,
 ig 14 (.load false 1 y6) 12 true 31,
 ig 15 (.bin .eql B3 (.c (I 0))) 12 true 63,
 i 16 (.pick y0 G2 (.c (.pv (.bool false)))) 127,
 i 17 (mv F2) 255,
 ig 18 (.b0 t3 6) 17 true 511,
 ig 19 (.load false 1 G4) 17 true 1023,
 ig 20 (.bin .eql K2 (.c (I 0))) 17 true 2047,
 i 21 (.pick D5 M1 (.c (.pv (.bool false)))) 4095,
 i 4 (mv K6) 8191] false)
 .ret)
 .skip))
 (.seq (.b6 [i 22 (.load true 6 t2) 0,
 i 23 (.call (.f x4) [P1]) 1,
 i 5 (mv T7) 3] false)
 (.seq (.b6 [i 24 (.b0 t3 4) 0,
 i 25 (.load false 1 X7) 1,
 i 26 (.bin .geq W0 (.c (I 0))) 3,
 i 27 (mv t26) 7,
 ig 28 (.b0 t3 4) 27 true 15,
 ig 29 (.load false 1 t28) 27 true 31,
 ig 30 (.bin .leq t29 (.c (I 20000))) 27 true 63,
 i 31 (.pick t27 t30 (.c (.pv (.bool false)))) 127,
 i 32 (mv t31) 255,
 ig 33 (.b0 t3 5) 32 true 511,
 ig 34 (.load false 1 t33) 32 true 1023,
 ig 35 (.bin .geq t34 (.c (I 0))) 32 true 2047,
 i 36 (.pick t32 t35 (.c (.pv (.bool false)))) 4095,
 i 37 (mv t36) 8191,
 ig 38 (.b0 t3 6) 37 true 16383,
 ig 39 (.load false 1 t38) 37 true 32767,
 ig 40 (.bin .geq t39 (.c (I 0))) 37 true 65535,
 i 41 (.pick t37 t40 (.c (.pv (.bool false)))) 131071,
 i 42 (mv t41) 262143,
 ig 43 (.b0 t3 5) 42 true 524287,
 ig 44 (.load false 1 t43) 42 true 1048575,
 ig 45 (mv t5) 42 true 524287,
 ig 46 (.bin .leq t44 t45) 42 true 4194303,
 i 47 (.pick t42 t46 (.c (.pv (.bool false)))) 8388607,
 i 48 (mv t47) 16777215,
 ig 49 (.b0 t3 6) 48 true 33554431,
 ig 50 (.load false 1 t49) 48 true 67108863,
 ig 51 (mv t5) 48 true 33554431,
 ig 52 (.b0 t3 5) 48 true 33554431,
 ig 53 (.load false 1 t52) 48 true 301989887,
 ig 54 (.bin .sub t51 t53) 48 true 973078527,
 ig 55 (.bin .leq t50 t54) 48 true 2147483647,
 i 56 (.pick t48 t55 (.c (.pv (.bool false)))) 4294967295,
 i 4 (mv t56) 8589934591] false)
 .ret)))⟩
def a0r:m0:=⟨1,16,[.tmp 2,.tmp 3],
 .seq (.b6 [i 1 (.box 7 t0) 0,
 i 2 (.mv (.c (I 0))) 0,
 i 3 (.mv (.c (I 0))) 2] false)
 (.seq (.b6 [i 7 (.load true 7 t1) 0,
 i 8 (.call (.f I8) [t7]) 1,
 i 6 (mv t8) 3,
 i 9 (.extract t6 0) 7,
 i 10 (.extract t6 1) 7,
 i 4 (.alloc z0) 0,
 iz (.store 7 t4 t9) 47,
 i 5 (mv o8) 127] false)
 (.seq (.seq (.b6 [i 11 (mv t5) 0,
 i 12 (.bin .neq s8 (.c (I 0))) 1] false)
 (.cond y0
 (.seq (.b6 [i 13 (mv t5) 0,
 i 2 (.mv (.c (I 0))) 0,
 i 3 (mv y6) 3] false)
 .ret)
 .skip))
 (.seq (.b6 [i 14 (.load true 7 t4) 0,
 i 15 (.call (.f A6) [B3]) 1,
 i 2 (mv G2) 3,
 i 3 (.mv (.c (I 0))) 7] false)
 .ret)))⟩
def E8:m0:=⟨2,29,[],
 .seq (.b6 [i 7 (.b0 t1 2) 0,
 i 8 (.load false 1 t7) 1,
 i 9 (.b0 t1 3) 0,
 i 10 (.load false 1 t9) 4,
 i 11 (.b0 t1 4) 0,
 i 12 (.load false 1 s8) 16,
 i 13 (.build [.emp 7,.emp 7,.emp 7] [(0,1,t8),(1,1,o8),(2,1,y0)]) 63,
 i 14 (.mv (.c (I 0))) 0] false)
 (.block 0
 (.loop [0,13,14]
 (.seq (.b6 [i 15 (.bin .lss B3 (.c (I 3))) 0] false)
 (.seq (.cond G2
 .skip
 (.exit 0))
 (.seq (.block 1
 (.seq (.b6 [i 16 (.index false 3 1 y6 B3) 0,
 i 4 (mv F2) 1] false)
 (.seq (.b6 [i 17 (mv t4) 0,
 i 18 (.i5 D5) 1,
 i 19 (.mv (.c (I 0))) 0] false)
 (.block 2
 (.loop [0,13,14,17,18,19]
 (.seq (.b6 [i 20 (.bin .lss K2 G4) 0] false)
 (.seq (.cond M1
 .skip
 (.exit 2))
 (.seq (.block 3
 (.seq (.b6 [i 21 (.i6 7 D5 K2) 0,
 i 22 (.load true 7 K6) 1,
 i 6 (.alloc z0) 0,
 iz (.store 7 t6 P1) 7] false)
 (.seq (.b6 [i 23 (mv t0) 0,
 i 24 (.load true 7 t6) 0,
 i 25 (.call T7 [X7]) 3,
 i 26 (.not W0) 7] false)
 (.cond t26
 .ret
 .skip))))
 (.b6 [i 27 (.bin .add K2 (.c (I 1))) 0,
 i 19 (mv t27) 1] false)))))))))
 (.b6 [i 28 (.bin .add B3 (.c (I 1))) 0,
 i 14 (mv t28) 1] false))))))⟩
def a0Z:m0:=⟨2,26,[.tmp 4],
 .seq (.b6 [i 3 (.box 7 t1) 0,
 i 4 (.mv (.c (.pv (.bool false)))) 0] false)
 (.scope
 (.seq (.b6 [i 5 (.mv (.c (.pv (.bool true)))) 0] false)
 (.seq .skip
 (.seq (.seq (.b6 [i 8 (.build [.pv (.str []),.pv .nilFunc] [(0,1,.c (.pv (.str [70,111,110,116]))),(1,1,.f C8)]) 0,
 i 9 (.build [.pv (.str []),.pv .nilFunc] [(0,1,.c (.pv (.str [80,97,116,116,101,114,110]))),(1,1,.f C8)]) 0,
 i 10 (.build [.pv (.str []),.pv .nilFunc] [(0,1,.c (.pv (.str [70,111,114,109]))),(1,1,.f C8)]) 0,
 i 11 (.build [.pv (.str []),.pv .nilFunc] [(0,1,.c (.pv (.str [69,110,99,111,100,105,110,103]))),(1,1,.f O1)]) 0,
 i 12 (.build [.pv (.str []),.pv .nilFunc,.pv (.str []),.pv .nilFunc,.pv (.str []),.pv .nilFunc,.pv (.str []),.pv .nilFunc] [(0,2,t8),(2,2,t9),(4,2,o8),(6,2,s8)]) 15,
 i 13 (.mv (.c (I 0))) 0] false)
 (.block 0
 (.loop [0,3,5,12,13]
 (.seq (.b6 [i 14 (.bin .lss y6 (.c (I 4))) 0] false)
 (.seq (.cond B3
 .skip
 (.exit 0))
 (.seq (.block 1
 (.seq (.b6 [i 15 (.index true 4 2 y0 y6) 0,
 i 7 (.alloc [.pv (.str []),.pv .nilFunc]) 0,
 iz (.store 2 t7 G2) 3] false)
 (.seq (.b6 [i 16 (.b0 t7 0) 0,
 i 17 (.load false 1 F2) 1,
 i 18 (mv t0) 0,
 i 19 (.bin .eql D5 G4) 7] false)
 (.cond K2
 (.seq (.b6 [i 20 (.b0 t7 1) 0,
 i 21 (.load false 1 M1) 1,
 i 22 (.load true 7 t3) 0,
 i 23 (.call K6 [P1]) 7,
 i 5 (mv T7) 15] false)
 (.exit 0))
 .skip))))
 (.b6 [i 24 (.bin .add y6 (.c (I 1))) 0,
 i 13 (mv X7) 1] false)))))))
 (.seq (.b6 [i 25 (mv t5) 0,
 i 4 (mv W0) 1] false)
 .ret)))))⟩
def L0:m0:=⟨4,40,[.cell 8 true 67,.tmp 9],
 .seq (.b6 [i 4 (.box 67 t0) 0,
 i 5 (.box 29 t1) 0,
 i 8 (.alloc z1) 0,
 i 9 (.mv (.c (I 0))) 0] false)
 (.seq (.b6 [i 14 (.b0 t4 0) 0,
 i 15 (.load true 67 B3) 1,
 i 16 (.b0 t5 28) 0,
 i 17 (.load false 1 F2) 4,
 i 18 (.call (.f O3) [G2,D5]) 15,
 i 13 (mv G4) 31,
 i 19 (.extract y6 0) 63,
 i 20 (.extract y6 1) 63,
 i 10 (.alloc z1) 0,
 iz (.store 67 o8 K2) 383,
 i 11 (mv M1) 1023] false)
 (.seq (.seq (.b6 [i 21 (mv s8) 0,
 i 22 (.bin .neq K6 (.c (I 0))) 1] false)
 (.cond P1
 (.seq (.b6 [i 23 (.b0 t4 0) 0,
 i 24 (.load true 67 T7) 1,
 i 25 (mv s8) 0,
 iz (.store 67 t8 X7) 3,
 i 9 (mv W0) 15] false)
 .ret)
 .skip))
 (.seq (.b6 [i 27 (.load true 67 o8) 0,
 i 28 (mv t3) 0,
 i 29 (.call (.f B9) [t27,t28]) 3,
 i 26 (mv t29) 7,
 i 30 (.extract t26 0) 15,
 i 31 (.extract t26 1) 15,
 i 12 (.alloc z1) 0,
 iz (.store 67 y0 t30) 95,
 i 11 (mv t31) 255] false)
 (.seq (.seq (.b6 [i 32 (mv s8) 0,
 i 33 (.bin .neq t32 (.c (I 0))) 1] false)
 (.cond t33
 (.seq (.b6 [i 34 (.b0 t4 0) 0,
 i 35 (.load true 67 t34) 1,
 i 36 (mv s8) 0,
 iz (.store 67 t8 t35) 3,
 i 9 (mv t36) 15] false)
 .ret)
 .skip))
 (.seq (.b6 [i 37 (mv t2) 0,
 i 38 (.b0 y0 2) 1,
 iz (.store 1 t38 t37) 3] false)
 (.seq (.b6 [i 39 (.load true 67 y0) 0,
 iz (.store 67 t8 t39) 1,
 i 9 (.mv (.c (I 0))) 3] false)
 .ret))))))⟩
def A5:m0:=⟨2,9,[.tmp 4],
 .seq (.b6 [i 4 (.mv (.c (.pv (.bool false)))) 0] false)
 (.seq (.b6 [i 5 (mv t0) 0,
 i 6 (mv t1) 0,
 i 7 (.call (.f B2) [t5,t6]) 3,
 i 8 (.bin .geq t7 (.c (I 0))) 7,
 i 4 (mv t8) 15] false)
 .ret)⟩
def a0q:m0:=⟨1,20,[.cell 2 true 7,.tmp 3],
 .seq (.b6 [i 1 (.box 7 t0) 0,
 i 2 (.alloc z0) 0,
 i 3 (.mv (.c (I 0))) 0] false)
 (.seq (.b6 [i 7 (.load true 7 t1) 0,
 i 8 (.call (.f F7) [t7]) 1,
 i 6 (mv t8) 3,
 i 9 (.extract t6 0) 7,
 i 10 (.extract t6 1) 7,
 i 4 (mv t9) 15,
 i 5 (mv o8) 63] false)
 (.seq (.seq (.b6 [i 11 (mv t5) 0,
 i 12 (.bin .neq s8 (.c (I 0))) 1] false)
 (.cond y0
 (.seq (.b6 [i 13 (.build z0 []) 0,
 i 14 (mv t5) 0,
 iz (.store 7 t2 y6) 1,
 i 3 (mv B3) 7] false)
 .ret)
 .skip))
 (.seq (.b6 [i 15 (mv t4) 0,
 i 16 (.bin .quo G2 (.c (I 65536))) 1,
 i 17 (.call (.f a0G) [F2]) 3,
 i 18 (.extract D5 0) 7,
 i 19 (.extract D5 1) 7,
 iz (.store 7 t2 G4) 31,
 i 3 (mv K2) 63] false)
 .ret)))⟩
def H9:m0:=⟨2,15,[.cell 4 true 7,.tmp 5],
 .seq (.b6 [i 4 (.alloc z0) 0,
 i 5 (.mv (.c (I 0))) 0] false)
 (.seq (.b6 [i 7 (mv t1) 0,
 i 8 (mv t0) 0,
 i 9 (.call t7 [t8]) 3,
 i 6 (.alloc z0) 0,
 iz (.store 7 t6 t9) 15] false)
 (.seq (.seq (.b6 [i 10 (.load true 7 t6) 0,
 i 11 (.call (.f o6) [o8]) 1,
 i 12 (.bin .neq s8 (.c (I 0))) 3] false)
 (.cond y0
 (.seq (.b6 [i 13 (.build z0 []) 0,
 iz (.store 7 t4 y6) 1,
 i 5 (.mv (.c (I 2))) 3] false)
 .ret)
 .skip))
 (.seq (.b6 [i 14 (.load true 7 t6) 0,
 iz (.store 7 t4 B3) 1,
 i 5 (.mv (.c (I 0))) 3] false)
 .ret)))⟩
def Y0:m0:=⟨2,7,[.cell 3 true 7],
 .seq (.b6 [i 3 (.alloc z0) 0] false)
 (.seq (.b6 [i 4 (mv t0) 0,
 i 5 (.load false 1 t1) 0,
 i 6 (.build z0 [(0,1,.c (I 5)),(3,1,t4),(1,1,t5)]) 3,
 iz (.store 7 t3 t6) 7] false)
 .ret)⟩
def G9:m0:=⟨2,9,[.tmp 4],
 .seq (.b6 [i 4 (.mv (.c (.pv (.bool false)))) 0] false)
 (.seq (.b6 [i 5 (mv t0) 0,
 i 6 (mv t1) 0,
 i 7 (.call (.f y7) [t5,t6]) 3,
 i 8 (.bin .geq t7 (.c (I 0))) 7,
 i 4 (mv t8) 15] false)
 .ret)⟩
def p9:m0:=⟨2,20,[],
 .seq (.b6 [i 5 (.b0 t1 0) 0,
 i 6 (.b0 t5 3) 1,
 i 7 (.load false 1 t6) 3,
 i 8 (.i5 t7) 7,
 i 9 (.mv (.c (I 0))) 0] false)
 (.block 0
 (.loop [0,7,8,9]
 (.seq (.b6 [i 10 (.bin .lss t9 t8) 0] false)
 (.seq (.cond o8
 .skip
 (.exit 0))
 (.seq (.block 1
 (.seq (.b6 [i 11 (mv t9) 0,
 i 12 (.i6 3 t7 t9) 0,
 i 13 (.load true 3 y0) 2,
 i 4 (.alloc [I 0,.emp 7,I 0]) 0,
 i 3 (mv s8) 15,
 iz (.store 3 t4 y6) 31] false)
 (.seq (.b6 [i 14 (mv t0) 0,
 i 15 (mv t3) 0,
 i 16 (.load true 3 t4) 0,
 i 17 (.call B3 [G2,F2]) 7,
 i 18 (.not D5) 15] false)
 (.cond G4
 .ret
 .skip))))
 (.b6 [i 19 (.bin .add t9 (.c (I 1))) 0,
 i 9 (mv K2) 1] false))))))⟩
def A4:m0:=⟨1,7,[.tmp 2],
 .seq (.b6 [i 1 (.box 6 t0) 0,
 i 2 (.mv (.c (I 0))) 0] false)
 (.seq (.b6 [i 3 (.build [I 0,I 0,I 0,I 0] [(0,1,.c (I 0)),(1,1,.c (I 1000)),(2,1,.c (I 1000)),(3,1,.c (I 0))]) 0,
 i 4 (.b0 t1 5) 0,
 i 5 (.load false 1 t4) 2,
 i 6 (.index false 4 1 t3 t5) 7,
 i 2 (mv t6) 15] false)
 .ret)⟩
def Q8:m0:=⟨1,22,[.cell 2 true 7,.tmp 3],
 .seq (.b6 [i 1 (.box 7 t0) 0,
 i 2 (.alloc z0) 0,
 i 3 (.mv (.c (I 0))) 0] false)
 (.seq (.seq (.b6 [i 5 (.load true 7 t1) 0,
 i 6 (.call (.f o6) [t5]) 1,
 i 4 (mv t6) 3] false)
 (.seq (.b6 [i 7 (mv t4) 0,
 i 8 (.bin .neq t7 (.c (I 0))) 1] false)
 (.cond t8
 (.seq (.b6 [i 9 (.build z0 []) 0,
 i 10 (mv t4) 0,
 iz (.store 7 t2 t9) 1,
 i 3 (mv o8) 7] false)
 .ret)
 .skip)))
 (.seq (.seq (.b6 [i 11 (.b0 t1 0) 0,
 i 12 (.load false 1 s8) 1,
 i 13 (.bin .neq y0 (.c (I 3))) 3,
 i 14 (mv y6) 7,
 ig 15 (.b0 t1 0) 14 true 15,
 ig 16 (.load false 1 G2) 14 true 31,
 ig 17 (.bin .neq F2 (.c (I 4))) 14 true 63,
 i 18 (.pick B3 D5 (.c (.pv (.bool false)))) 127] false)
 (.cond G4
 (.seq (.b6 [i 19 (.build z0 []) 0,
 iz (.store 7 t2 K2) 1,
 i 3 (.mv (.c (I 22))) 3] false)
 .ret)
 .skip))
 (.seq (.b6 [i 20 (.load true 7 t1) 0,
 i 21 (.build z0 [(0,7,M1)]) 1,
 iz (.store 7 t2 K6) 3,
 i 3 (.mv (.c (I 0))) 7] false)
 .ret)))⟩
def G0:m0:=⟨1,14,[.tmp 2],
 .seq (.b6 [i 1 (.box 7 t0) 0,
 i 2 (.mv (.c (I 0))) 0] false)
 (.seq (.seq (.b6 [i 3 (.b0 t1 0) 0,
 i 4 (.b0 t3 0) 1,
 i 5 (.load false 1 t4) 3,
 i 6 (.bin .eql t5 (.c (I 3))) 7] false)
 (.cond t6
 (.seq (.b6 [i 7 (.b0 t1 0) 0,
 i 8 (.b0 t7 2) 1,
 i 9 (.load false 1 t8) 3,
 i 10 (.bin .mul t9 (.c (I 65536))) 7,
 i 2 (mv o8) 15] false)
 .ret)
 .skip))
 (.seq (.b6 [i 11 (.b0 t1 0) 0,
 i 12 (.b0 s8 2) 1,
 i 13 (.load false 1 y0) 3,
 i 2 (mv y6) 7] false)
 .ret))⟩
def a0t:m0:=⟨1,6,[.tmp 2],
 .seq (.b6 [i 1 (.box 7 t0) 0,
 i 2 (.mv (.c (.pv (.bool false)))) 0] false)
 (.seq (.b6 [i 3 (.b0 t1 0) 0,
 i 4 (.load false 1 t3) 1,
 i 5 (.bin .eql t4 (.c (I 9))) 3,
 i 2 (mv t5) 7] false)
 .ret)⟩
def Z1:m0:=⟨1,11,[.tmp 2],
 .seq (.b6 [i 1 (.box 7 t0) 0,
 i 2 (.mv (.c (.pv (.bool false)))) 0] false)
 (.seq (.b6 [i 3 (.b0 t1 0) 0,
 i 4 (.load false 1 t3) 1,
 i 5 (.bin .eql t4 (.c (I 7))) 3,
 i 6 (mv t5) 7,
 ig 7 (.b0 t1 0) 6 false 15,
 ig 8 (.load false 1 t7) 6 false 31,
 ig 9 (.bin .eql t8 (.c (I 8))) 6 false 63,
 i 10 (.pick t6 (.c (.pv (.bool true))) t9) 127,
 i 2 (mv o8) 255] false)
 .ret)⟩
def F5:m0:=⟨2,19,[.tmp 4],
 .seq (.b6 [i 4 (.mv (.c (I 0))) 0] false)
 (.seq (.seq (.b6 [i 6 (mv t0) 0,
 i 7 (.i5 t6) 1,
 i 8 (.mv (.c (I 0))) 0] false)
 (.block 0
 (.loop [0,1,7,8]
 (.seq (.b6 [i 9 (.bin .lss t8 t7) 0] false)
 (.seq (.cond t9
 .skip
 (.exit 0))
 (.seq (.block 1
 (.seq (.b6 [i 10 (mv t8) 0,
 i 5 (mv o8) 1] false)
 (.seq (.b6 [i 11 (mv t1) 0,
 i 12 (mv t0) 0,
 i 13 (mv t5) 0,
 i 14 (.i6 1 y0 y6) 6,
 i 15 (.load false 1 B3) 14,
 i 16 (.bin .eql s8 G2) 31] false)
 (.cond F2
 (.seq (.b6 [i 17 (mv t5) 0,
 i 4 (mv D5) 1] false)
 .ret)
 .skip))))
 (.b6 [i 18 (.bin .add t8 (.c (I 1))) 0,
 i 8 (mv G4) 1] false)))))))
 (.seq (.b6 [i 4 (.mv (.c (I (-1)))) 0] false)
 .ret))⟩
def a2s:m0:=⟨1,8,[.cell 2 true 7,.tmp 3],
 .seq (.b6 [i 2 (.alloc z0) 0,
 i 3 (.mv (.c (I 0))) 0] false)
 (.seq (.b6 [i 4 (mv t0) 0,
 i 5 (.call (.f I7) [t4,.f S8]) 1,
 i 6 (.extract t5 0) 3,
 i 7 (.extract t5 1) 3,
 iz (.store 7 t2 t6) 15,
 i 3 (mv t7) 31] false)
 .ret)⟩
def N1:m0:=⟨2,19,[.tmp 4],
 .seq (.b6 [i 4 (.mv (.c (I 0))) 0] false)
 (.seq (.seq (.b6 [i 6 (mv t0) 0,
 i 7 (.i5 t6) 1,
 i 8 (.mv (.c (I 0))) 0] false)
 (.block 0
 (.loop [0,1,7,8]
 (.seq (.b6 [i 9 (.bin .lss t8 t7) 0] false)
 (.seq (.cond t9
 .skip
 (.exit 0))
 (.seq (.block 1
 (.seq (.b6 [i 10 (mv t8) 0,
 i 5 (mv o8) 1] false)
 (.seq (.b6 [i 11 (mv t1) 0,
 i 12 (mv t0) 0,
 i 13 (mv t5) 0,
 i 14 (.i6 7 y0 y6) 6,
 i 15 (.load true 7 B3) 14,
 i 16 (.call s8 [G2]) 31] false)
 (.cond F2
 (.seq (.b6 [i 17 (mv t5) 0,
 i 4 (mv D5) 1] false)
 .ret)
 .skip))))
 (.b6 [i 18 (.bin .add t8 (.c (I 1))) 0,
 i 8 (mv G4) 1] false)))))))
 (.seq (.b6 [i 4 (.mv (.c (I (-1)))) 0] false)
 .ret))⟩
def Q7:m0:=⟨2,15,[.cell 4 true 7,.tmp 5],
 .seq (.b6 [i 4 (.alloc z0) 0,
 i 5 (.mv (.c (I 0))) 0] false)
 (.seq (.b6 [i 7 (mv t1) 0,
 i 8 (mv t0) 0,
 i 9 (.call t7 [t8]) 3,
 i 6 (.alloc z0) 0,
 iz (.store 7 t6 t9) 15] false)
 (.seq (.seq (.b6 [i 10 (.load true 7 t6) 0,
 i 11 (.call (.f o6) [o8]) 1,
 i 12 (.bin .neq s8 (.c (I 0))) 3] false)
 (.cond y0
 (.seq (.b6 [i 13 (.build z0 []) 0,
 iz (.store 7 t4 y6) 1,
 i 5 (.mv (.c (I 2))) 3] false)
 .ret)
 .skip))
 (.seq (.b6 [i 14 (.load true 7 t6) 0,
 iz (.store 7 t4 B3) 1,
 i 5 (.mv (.c (I 0))) 3] false)
 .ret)))⟩
def a0p:m0:=⟨1,5,[.cell 2 true 7],
 .seq (.b6 [i 2 (.alloc z0) 0] false)
 (.seq (.b6 [i 3 (mv t0) 0,
 i 4 (.build z0 [(0,1,.c (I 3)),(2,1,t3)]) 1,
 iz (.store 7 t2 t4) 3] false)
 .ret)⟩
end Go.Ab.Td
namespace Go.Ab.Td
open Go.Ab
def c8t:TF:=(.node (.node (.node (.node (.node (.leaf a0E a5a) (.leaf a1w a7o)) (.node (.leaf a5v a7N) (.leaf B0 a9D))) (.node (.node (.leaf a0H a8s) (.node (.leaf i3 a2X) (.leaf E9 U0))) (.node (.leaf a2D a5b) (.node (.leaf W6 a3Y) (.leaf N7 a2n))))) (.node (.node (.node (.leaf a1x a7q) (.leaf w8 a3A)) (.node (.leaf O0 a2u) (.node (.leaf O2 a5i) (.leaf H3 X9)))) (.node (.node (.leaf C3 a1H) (.leaf c9 a4x)) (.node (.leaf K5 V7) (.leaf a2E a5c))))) (.node (.node (.node (.node (.leaf E4 a2p) (.node (.leaf a3M b0w) (.leaf W8 a4b))) (.node .nil (.node (.leaf n8 Q9) (.leaf m8 w7)))) (.leaf B7 a4c)) (.node (.node (.node (.node (.leaf S7 a1I) (.leaf M4 a3y)) (.node (.leaf q8 b1H) (.leaf P6 a4e))) (.node (.leaf F8 Z0) (.leaf X3 a7u))) (.node (.leaf I6 a2r) (.node (.node (.leaf P5 a4d) (.leaf a2F a5e)) (.leaf a0a a5d))))))
def c8u:TF:=(.node (.node (.node (.node (.node (.node (.leaf S4 a3x) (.leaf B1 Z2)) (.leaf P0 a1X)) (.node (.node (.leaf k8 F4) (.leaf o6 R8)) (.leaf U8 a4v))) (.node (.leaf J4 a5j) (.node (.leaf D8 V4) (.leaf u4 Z3)))) (.node (.node (.node (.leaf M5 a5X) (.leaf a1v a4a)) (.leaf X0 a7p)) (.node (.node (.leaf I5 R7) (.leaf X4 a7v)) (.node (.leaf U5 a2q) (.leaf o4 M9))))) (.node (.node (.node (.node (.node (.leaf N8 a2o) (.leaf a0F a2W)) (.leaf a3g a7O)) (.node (.leaf y1 N0) (.leaf U9 a4w))) (.node (.node (.leaf R3 a0o) (.leaf o7 a5C)) (.node (.leaf A9 F3) (.leaf j4 P9)))) (.node (.node (.node (.node (.leaf a1u a3W) (.leaf E5 a5f)) (.leaf P4 a1q)) (.node (.leaf a1z a7s) (.leaf J1 a8u))) (.node (.node (.node (.leaf K1 a1s) (.leaf N9 Y9)) (.leaf a0f b0x)) (.node (.leaf o3 a5g) (.leaf p8 U1))))))
def c8v:TF:=(.node (.node (.node (.node (.node (.leaf A2 G8) (.leaf U7 a2t)) (.node (.leaf l0 M8) (.node (.leaf a1A a7t) (.leaf W7 a3Z)))) (.node (.leaf S6 a2V) (.node (.node (.leaf n5 K8) (.leaf I9 a3z)) (.leaf J3 R0)))) (.node (.node (.leaf u5 N2) (.node (.node (.leaf x7 W2) (.leaf P3 W1)) (.leaf B8 J9))) (.node (.node .nil (.node (.leaf o0 C2) (.leaf K0 a1p))) (.node (.node (.leaf u9 K9) (.leaf U6 a0Y)) (.leaf A0 G6))))) (.node (.node (.node (.leaf W9 a1r) (.node (.node (.leaf v3 a0s) (.leaf D4 O6)) (.leaf a6S a9C))) (.node (.leaf J2 a5h) (.node (.node (.leaf C4 H8) (.leaf p7 J8)) (.leaf z9 G5)))) (.node (.node (.node .nil (.node (.leaf E0 V6) (.leaf S5 a0n))) (.node (.leaf L6 T9) (.leaf O9 Y1))) (.node (.node .nil (.node (.leaf u0 L1) (.leaf U4 a9B))) (.node (.node (.leaf D7 K4) (.leaf W5 a3X)) (.leaf A1 G7))))))
def c8w:TF:=(.node (.node (.node (.node (.node (.node (.leaf S8 a0p) (.leaf D9 V5)) (.leaf x5 A5)) (.leaf A6 G0)) (.node (.node (.leaf L7 R9) (.leaf v8 G9)) (.node (.leaf A8 E8) (.node (.leaf M6 a3B) (.leaf B2 F5))))) (.node (.node (.leaf C5 H9) (.node (.leaf F7 a0r) (.node (.leaf a1y a7r) (.leaf O1 Z1)))) (.node (.node (.leaf y8 D6) (.leaf x4 A4)) (.node (.leaf n6 L0) (.node (.leaf O3 a2v) (.leaf y7 N1)))))) (.node (.node (.node (.leaf S9 a0q) (.node .nil (.node (.leaf J0 a8t) (.leaf C8 a0t)))) (.node (.node (.leaf y3 C1) (.leaf l5 p9)) (.node (.leaf V0 a0Z) (.node (.leaf l6 L2) (.leaf a0G a2s))))) (.node (.node (.node (.leaf G1 Q0) (.leaf O8 Y0)) (.leaf B9 a2w)) (.node (.node (.leaf s9 y2) (.leaf I8 Q8)) (.node .nil (.node (.leaf H5 a1Y) (.leaf I7 Q7)))))))
structure Laid (P:Program):Prop where
 mixed:P.follows .mixedOrders=true
 t0:c8t.all (b9 P)=true
 t1:c8u.all (b9 P)=true
 t2:c8v.all (b9 P)=true
 t3:c8w.all (b9 P)=true
variable {P:Program} (C:Laid P)
include C
theorem a6n:b9 P S7 a1I=true:=TF.b8 C.t0 _ _ rfl
theorem b3l:b9 P P5 a4d=true:=TF.b8 C.t0 _ _ rfl
theorem b3k:b9 P a1w a7o=true:=TF.b8 C.t0 _ _ rfl
theorem b6i:b9 P a3M b0w=true:=TF.b8 C.t0 _ _ rfl
theorem R2:b9 P w8 a3A=true:=TF.b8 C.t0 _ _ rfl
theorem D3:b9 P q8 b1H=true:=TF.b8 C.t0 _ _ rfl
theorem j5:b9 P i3 a2X=true:=TF.b8 C.t0 _ _ rfl
theorem a7z:b9 P B7 a4c=true:=TF.b8 C.t0 _ _ rfl
theorem a9R:b9 P c9 a4x=true:=TF.b8 C.t0 _ _ rfl
theorem a5r:b9 P I6 a2r=true:=TF.b8 C.t0 _ _ rfl
theorem a4L:b9 P B0 a9D=true:=TF.b8 C.t0 _ _ rfl
theorem a0B:b9 P n8 Q9=true:=TF.b8 C.t0 _ _ rfl
theorem a5t:b9 P O2 a5i=true:=TF.b8 C.t0 _ _ rfl
theorem b3q:b9 P X3 a7u=true:=TF.b8 C.t0 _ _ rfl
theorem b3g:b9 P W6 a3Y=true:=TF.b8 C.t0 _ _ rfl
theorem b4V:b9 P a0E a5a=true:=TF.b8 C.t0 _ _ rfl
theorem a5q:b9 P E4 a2p=true:=TF.b8 C.t0 _ _ rfl
theorem b3m:b9 P a1x a7q=true:=TF.b8 C.t0 _ _ rfl
theorem a6l:b9 P M4 a3y=true:=TF.b8 C.t0 _ _ rfl
theorem b5b:b9 P a0H a8s=true:=TF.b8 C.t0 _ _ rfl
theorem a6j:b9 P C3 a1H=true:=TF.b8 C.t0 _ _ rfl
theorem b7t:b9 P a5v a7N=true:=TF.b8 C.t0 _ _ rfl
theorem a5s:b9 P O0 a2u=true:=TF.b8 C.t0 _ _ rfl
theorem a7V:b9 P F8 Z0=true:=TF.b8 C.t0 _ _ rfl
theorem b4W:b9 P a2D a5b=true:=TF.b8 C.t0 _ _ rfl
theorem a7f:b9 P K5 V7=true:=TF.b8 C.t0 _ _ rfl
theorem b4Y:b9 P a2F a5e=true:=TF.b8 C.t0 _ _ rfl
theorem b3j:b9 P W8 a4b=true:=TF.b8 C.t0 _ _ rfl
theorem b3s:b9 P P6 a4e=true:=TF.b8 C.t0 _ _ rfl
theorem a1i:b9 P E9 U0=true:=TF.b8 C.t0 _ _ rfl
theorem a3H:b9 P m8 w7=true:=TF.b8 C.t0 _ _ rfl
theorem a5E:b9 P H3 X9=true:=TF.b8 C.t0 _ _ rfl
theorem a8P:b9 P N7 a2n=true:=TF.b8 C.t0 _ _ rfl
theorem b4X:b9 P a2E a5c=true:=TF.b8 C.t0 _ _ rfl
theorem b2a:b9 P a0a a5d=true:=TF.b8 C.t0 _ _ rfl
theorem b0F:b9 P S4 a3x=true:=TF.b8 C.t1 _ _ rfl
theorem a8Q:b9 P N8 a2o=true:=TF.b8 C.t1 _ _ rfl
theorem b3e:b9 P a1u a3W=true:=TF.b8 C.t1 _ _ rfl
theorem a4i:b9 P K1 a1s=true:=TF.b8 C.t1 _ _ rfl
theorem F6:b9 P k8 F4=true:=TF.b8 C.t1 _ _ rfl
theorem a3d:b9 P y1 N0=true:=TF.b8 C.t1 _ _ rfl
theorem b3o:b9 P a1z a7s=true:=TF.b8 C.t1 _ _ rfl
theorem a7d:b9 P D8 V4=true:=TF.b8 C.t1 _ _ rfl
theorem Z8:b9 P A9 F3=true:=TF.b8 C.t1 _ _ rfl
theorem a8S:b9 P U5 a2q=true:=TF.b8 C.t1 _ _ rfl
theorem b5a:b9 P o3 a5g=true:=TF.b8 C.t1 _ _ rfl
theorem b0U:b9 P P0 a1X=true:=TF.b8 C.t1 _ _ rfl
theorem b7u:b9 P a3g a7O=true:=TF.b8 C.t1 _ _ rfl
theorem b3i:b9 P a1v a4a=true:=TF.b8 C.t1 _ _ rfl
theorem a7y:b9 P P4 a1q=true:=TF.b8 C.t1 _ _ rfl
theorem a8Y:b9 P J4 a5j=true:=TF.b8 C.t1 _ _ rfl
theorem a5G:b9 P o7 a5C=true:=TF.b8 C.t1 _ _ rfl
theorem b3r:b9 P X4 a7v=true:=TF.b8 C.t1 _ _ rfl
theorem b6j:b9 P a0f b0x=true:=TF.b8 C.t1 _ _ rfl
theorem a9P:b9 P U8 a4v=true:=TF.b8 C.t1 _ _ rfl
theorem a9Q:b9 P U9 a4w=true:=TF.b8 C.t1 _ _ rfl
theorem a7B:b9 P X0 a7p=true:=TF.b8 C.t1 _ _ rfl
theorem b5d:b9 P J1 a8u=true:=TF.b8 C.t1 _ _ rfl
theorem N4:b9 P u4 Z3=true:=TF.b8 C.t1 _ _ rfl
theorem q0:b9 P j4 P9=true:=TF.b8 C.t1 _ _ rfl
theorem N5:b9 P o4 M9=true:=TF.b8 C.t1 _ _ rfl
theorem a1j:b9 P p8 U1=true:=TF.b8 C.t1 _ _ rfl
theorem a3c:b9 P B1 Z2=true:=TF.b8 C.t1 _ _ rfl
theorem b2c:b9 P a0F a2W=true:=TF.b8 C.t1 _ _ rfl
theorem b6h:b9 P M5 a5X=true:=TF.b8 C.t1 _ _ rfl
theorem b4Z:b9 P E5 a5f=true:=TF.b8 C.t1 _ _ rfl
theorem a8R:b9 P R3 a0o=true:=TF.b8 C.t1 _ _ rfl
theorem a6m:b9 P I5 R7=true:=TF.b8 C.t1 _ _ rfl
theorem a7U:b9 P N9 Y9=true:=TF.b8 C.t1 _ _ rfl
theorem a3a:b9 P o6 R8=true:=TF.b8 C.t1 _ _ rfl
theorem a1Z:b9 P D4 O6=true:=TF.b8 C.t2 _ _ rfl
theorem a4g:b9 P P3 W1=true:=TF.b8 C.t2 _ _ rfl
theorem a8V:b9 P I9 a3z=true:=TF.b8 C.t2 _ _ rfl
theorem W3:b9 P p7 J8=true:=TF.b8 C.t2 _ _ rfl
theorem a9O:b9 P U6 a0Y=true:=TF.b8 C.t2 _ _ rfl
theorem b3f:b9 P W5 a3X=true:=TF.b8 C.t2 _ _ rfl
theorem a6k:b9 P S5 a0n=true:=TF.b8 C.t2 _ _ rfl
theorem b2b:b9 P S6 a2V=true:=TF.b8 C.t2 _ _ rfl
theorem a7x:b9 P K0 a1p=true:=TF.b8 C.t2 _ _ rfl
theorem b9V:b9 P U4 a9B=true:=TF.b8 C.t2 _ _ rfl
theorem b3h:b9 P W7 a3Z=true:=TF.b8 C.t2 _ _ rfl
theorem b9W:b9 P a6S a9C=true:=TF.b8 C.t2 _ _ rfl
theorem a4j:b9 P B8 J9=true:=TF.b8 C.t2 _ _ rfl
theorem a5H:b9 P O9 Y1=true:=TF.b8 C.t2 _ _ rfl
theorem a3I:b9 P J3 R0=true:=TF.b8 C.t2 _ _ rfl
theorem a3s:b9 P z9 G5=true:=TF.b8 C.t2 _ _ rfl
theorem a3t:b9 P A0 G6=true:=TF.b8 C.t2 _ _ rfl
theorem a3u:b9 P A1 G7=true:=TF.b8 C.t2 _ _ rfl
theorem a3v:b9 P A2 G8=true:=TF.b8 C.t2 _ _ rfl
theorem U3:b9 P l0 M8=true:=TF.b8 C.t2 _ _ rfl
theorem a2B:b9 P v3 a0s=true:=TF.b8 C.t2 _ _ rfl
theorem a4h:b9 P x7 W2=true:=TF.b8 C.t2 _ _ rfl
theorem a4I:b9 P L6 T9=true:=TF.b8 C.t2 _ _ rfl
theorem a1g:b9 P n5 K8=true:=TF.b8 C.t2 _ _ rfl
theorem a1M:b9 P C4 H8=true:=TF.b8 C.t2 _ _ rfl
theorem a1h:b9 P u9 K9=true:=TF.b8 C.t2 _ _ rfl
theorem a2i:b9 P D7 K4=true:=TF.b8 C.t2 _ _ rfl
theorem a8U:b9 P U7 a2t=true:=TF.b8 C.t2 _ _ rfl
theorem a7A:b9 P W9 a1r=true:=TF.b8 C.t2 _ _ rfl
theorem a3e:b9 P u5 N2=true:=TF.b8 C.t2 _ _ rfl
theorem a7e:b9 P E0 V6=true:=TF.b8 C.t2 _ _ rfl
theorem a8W:b9 P J2 a5h=true:=TF.b8 C.t2 _ _ rfl
theorem a1O:b9 P o0 C2=true:=TF.b8 C.t2 _ _ rfl
theorem a4K:b9 P u0 L1=true:=TF.b8 C.t2 _ _ rfl
theorem b3p:b9 P a1A a7t=true:=TF.b8 C.t2 _ _ rfl
theorem b5c:b9 P J0 a8t=true:=TF.b8 C.t3 _ _ rfl
theorem b3n:b9 P a1y a7r=true:=TF.b8 C.t3 _ _ rfl
theorem a2C:b9 P B9 a2w=true:=TF.b8 C.t3 _ _ rfl
theorem a3J:b9 P M6 a3B=true:=TF.b8 C.t3 _ _ rfl
theorem a0d:b9 P l6 L2=true:=TF.b8 C.t3 _ _ rfl
theorem a5u:b9 P O3 a2v=true:=TF.b8 C.t3 _ _ rfl
theorem a5I:b9 P H5 a1Y=true:=TF.b8 C.t3 _ _ rfl
theorem a2j:b9 P D9 V5=true:=TF.b8 C.t3 _ _ rfl
theorem a5R:b9 P G1 Q0=true:=TF.b8 C.t3 _ _ rfl
theorem a3b:b9 P L7 R9=true:=TF.b8 C.t3 _ _ rfl
theorem S3:b9 P y3 C1=true:=TF.b8 C.t3 _ _ rfl
theorem V9:b9 P y8 D6=true:=TF.b8 C.t3 _ _ rfl
theorem L4:b9 P s9 y2=true:=TF.b8 C.t3 _ _ rfl
theorem a6q:b9 P F7 a0r=true:=TF.b8 C.t3 _ _ rfl
theorem a4H:b9 P A8 E8=true:=TF.b8 C.t3 _ _ rfl
theorem a9S:b9 P V0 a0Z=true:=TF.b8 C.t3 _ _ rfl
theorem a4J:b9 P n6 L0=true:=TF.b8 C.t3 _ _ rfl
theorem Q4:b9 P x5 A5=true:=TF.b8 C.t3 _ _ rfl
theorem a6p:b9 P S9 a0q=true:=TF.b8 C.t3 _ _ rfl
theorem a1N:b9 P C5 H9=true:=TF.b8 C.t3 _ _ rfl
theorem a5F:b9 P O8 Y0=true:=TF.b8 C.t3 _ _ rfl
theorem V2:b9 P v8 G9=true:=TF.b8 C.t3 _ _ rfl
theorem Q3:b9 P l5 p9=true:=TF.b8 C.t3 _ _ rfl
theorem Q2:b9 P x4 A4=true:=TF.b8 C.t3 _ _ rfl
theorem a3G:b9 P I8 Q8=true:=TF.b8 C.t3 _ _ rfl
theorem a0U:b9 P A6 G0=true:=TF.b8 C.t3 _ _ rfl
theorem a8X:b9 P C8 a0t=true:=TF.b8 C.t3 _ _ rfl
theorem a7W:b9 P O1 Z1=true:=TF.b8 C.t3 _ _ rfl
theorem Z9:b9 P B2 F5=true:=TF.b8 C.t3 _ _ rfl
theorem a8T:b9 P a0G a2s=true:=TF.b8 C.t3 _ _ rfl
theorem a0C:b9 P y7 N1=true:=TF.b8 C.t3 _ _ rfl
theorem a3F:b9 P I7 Q7=true:=TF.b8 C.t3 _ _ rfl
theorem a6o:b9 P S8 a0p=true:=TF.b8 C.t3 _ _ rfl
end Go.Ab.Td
