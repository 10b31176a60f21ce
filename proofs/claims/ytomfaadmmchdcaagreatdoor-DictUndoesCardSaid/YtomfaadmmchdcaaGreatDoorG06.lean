/- A part of the proof: the texts TdNm, TdCd0, TdTb. Under: nothing. -/
import Derived.Test.YtomfaadmmchdcaaGreatDoorG05
set_option linter.unusedVariables false
namespace Go.Ab.Td
abbrev n_law16_DictDefines:Nat:=8
abbrev n_law16_DictUndoes:Nat:=9
abbrev X9:Nat:=11
abbrev y8:Nat:=12
abbrev j1:Nat:=14
abbrev p9:Nat:=15
abbrev F0:Nat:=16
abbrev u3:Nat:=17
abbrev P5:Nat:=18
abbrev w8:Nat:=20
abbrev n_heap_Check:Nat:=21
abbrev J2:Nat:=22
abbrev I8:Nat:=23
abbrev u0:Nat:=25
abbrev m6:Nat:=26
abbrev J1:Nat:=27
abbrev C5:Nat:=29
abbrev O0:Nat:=34
abbrev L4:Nat:=35
abbrev u4:Nat:=36
abbrev O1:Nat:=37
abbrev J3:Nat:=38
abbrev V2:Nat:=39
abbrev O9:Nat:=40
abbrev a3t:Nat:=41
abbrev V3:Nat:=42
abbrev a1Q:Nat:=43
abbrev X8:Nat:=44
abbrev a7c:Nat:=45
abbrev F1:Nat:=46
abbrev H7:Nat:=47
abbrev H6:Nat:=48
abbrev B6:Nat:=49
abbrev O8:Nat:=50
abbrev H8:Nat:=51
abbrev A2:Nat:=52
abbrev A3:Nat:=53
abbrev A4:Nat:=54
abbrev A5:Nat:=55
abbrev q9:Nat:=65
abbrev J4:Nat:=66
abbrev a2R:Nat:=67
abbrev n_heap_store_bare:Nat:=68
abbrev n_heap_store_limited:Nat:=69
abbrev n_heap_store_keyed:Nat:=70
abbrev x3:Nat:=71
abbrev r7:Nat:=72
abbrev V1:Nat:=73
abbrev J0:Nat:=74
abbrev X7:Nat:=75
abbrev k7:Nat:=76
abbrev R4:Nat:=78
abbrev N6:Nat:=79
abbrev U7:Nat:=80
abbrev U6:Nat:=81
abbrev C6:Nat:=82
abbrev s8:Nat:=83
abbrev N7:Nat:=84
abbrev N8:Nat:=85
abbrev s9:Nat:=86
abbrev B4:Nat:=87
abbrev y0:Nat:=88
abbrev D8:Nat:=89
abbrev K3:Nat:=90
abbrev U8:Nat:=91
abbrev U9:Nat:=92
abbrev K2:Nat:=93
abbrev R5:Nat:=94
abbrev R6:Nat:=95
abbrev E2:Nat:=103
abbrev V5:Nat:=104
abbrev V0:Nat:=105
abbrev P4:Nat:=106
abbrev E4:Nat:=107
abbrev y2:Nat:=108
abbrev o9:Nat:=109
abbrev s0:Nat:=110
abbrev C8:Nat:=111
abbrev M3:Nat:=112
abbrev V6:Nat:=113
abbrev y3:Nat:=114
abbrev o5:Nat:=115
abbrev P3:Nat:=116
abbrev a2e:Nat:=121
abbrev n_heap_objects:Nat:=122
abbrev n_slices_Contains_Obj:Nat:=123
abbrev C2:Nat:=124
abbrev E1:Nat:=125
abbrev e6:Nat:=126
abbrev a3s:Nat:=127
abbrev g8:Nat:=128
abbrev m8:Nat:=129
abbrev o8:Nat:=130
abbrev N9:Nat:=131
abbrev y5:Nat:=132
abbrev a3r:Nat:=133
abbrev C1:Nat:=134
abbrev B5:Nat:=135
abbrev F7:Nat:=136
abbrev X6:Nat:=137
abbrev u1:Nat:=144
abbrev G7:Nat:=145
abbrev I9:Nat:=146
abbrev L5:Nat:=147
abbrev y1:Nat:=148
abbrev u7:Nat:=149
abbrev x7:Nat:=150
abbrev D4:Nat:=151
abbrev n5:Nat:=152
abbrev x5:Nat:=153
abbrev C9:Nat:=154
abbrev O2:Nat:=155
abbrev y7:Nat:=156
abbrev u9:Nat:=157
abbrev H9:Nat:=158
abbrev y9:Nat:=159
abbrev L3:Nat:=161
abbrev l9:Nat:=162
abbrev O7:Nat:=163
abbrev L7:Nat:=164
abbrev u2:Nat:=165
abbrev v7:Nat:=166
abbrev o4:Nat:=167
abbrev L6:Nat:=168
abbrev V4:Nat:=169
abbrev x2:Nat:=170
abbrev x1:Nat:=172
abbrev y4:Nat:=173
abbrev r6:Nat:=174
abbrev C7:Nat:=175
abbrev E9:Nat:=176
abbrev A7:Nat:=177
open Go Go.Ab
abbrev I (n:Int):AV:=.pv (.int .i64 n)
abbrev z0:List AV:=[I 0,.pv (.bool false),I 0,.pv (.str []),I 0,I 0,I 0]
abbrev z1:List AV:=[.emp 7,.emp 7,.emp 7,.emp 3,I 0,I 0,I 0,I 0,I 0,I 0,I 0,.emp 7,I 0,I 0,I 0,I 0,I 0,I 0,I 0,I 0,I 0,I 0,I 0,I 0,I 0,I 0,I 0,I 0,I 0,I 0,I 0,I 0,.pv (.bool false),.pv (.bool false),.emp 47,I 0,I 0,I 0,I 0,I 0,I 0,I 0,I 0,.emp 1,I 0,I 0,.emp 2,I 0,.pv (.bool false),I 0,.pv (.str []),I 0,I 0,I 0,I 0,I 0,I 0,I 0,I 0,I 0,I 0,I 0,.emp 57,.emp 47,.emp 3,.pv (.str []),I 0]
abbrev z2:List AV:=[I 0,.pv (.str []),.emp 7,.emp 7,.emp 7,I 0,I 0]
abbrev z3:List AV:=[I 0,.pv (.bool false),I 0,.pv (.str []),I 0,I 0,I 0,I 0,.pv (.bool false),I 0,.pv (.str []),I 0,I 0,I 0,I 0,.pv (.bool false),I 0,.pv (.str []),I 0,I 0,I 0,I 0,.pv (.bool false),I 0,.pv (.str []),I 0,I 0,I 0,I 0]
abbrev z4:List AV:=[.pv (.str []),I 0,I 0,I 0,I 0,I 0,.pv (.str []),I 0,I 0,I 0,I 0,I 0,.pv (.str []),I 0,I 0,I 0,I 0,I 0,.pv (.str []),I 0,I 0,I 0,I 0,I 0,.pv (.str []),I 0,I 0,I 0,I 0,I 0,.pv (.str []),I 0,I 0,I 0,I 0,I 0,.pv (.str []),I 0,I 0,I 0,I 0,I 0,.pv (.str []),I 0,I 0,I 0,I 0,I 0,.pv (.str []),I 0,I 0,I 0,I 0,I 0,.pv (.str []),I 0,I 0,I 0,I 0,I 0,.pv (.str []),I 0,I 0,I 0,I 0,I 0,.pv (.str []),I 0,I 0,I 0,I 0,I 0,.pv (.str []),I 0,I 0,I 0,I 0,I 0]
abbrev i (d:Nat) (o:ROp) (p:Nat):m7:=⟨some d,o,none,p⟩
abbrev ig (d:Nat) (o:ROp) (g:Nat) (b:Bool) (p:Nat):m7:=⟨some d,o,some (g,b),p⟩
abbrev iz (o:ROp) (p:Nat):m7:=⟨none,o,none,p⟩
abbrev mv (a:RA):ROp:=.mv a
abbrev t0:RA:=.t 0
abbrev t1:RA:=.t 1
abbrev t2:RA:=.t 2
abbrev t3:RA:=.t 3
abbrev t4:RA:=.t 4
abbrev t5:RA:=.t 5
abbrev t6:RA:=.t 6
abbrev t7:RA:=.t 7
abbrev t8:RA:=.t 8
abbrev t9:RA:=.t 9
abbrev r9:RA:=.t 10
abbrev x4:RA:=.t 11
abbrev x6:RA:=.t 12
abbrev B7:RA:=.t 13
abbrev D2:RA:=.t 14
abbrev G0:RA:=.t 15
abbrev G1:RA:=.t 16
abbrev E0:RA:=.t 17
abbrev J6:RA:=.t 18
abbrev L9:RA:=.t 19
abbrev K5:RA:=.t 20
abbrev J5:RA:=.t 21
abbrev P8:RA:=.t 22
abbrev T9:RA:=.t 23
abbrev Y5:RA:=.t 24
abbrev X3:RA:=.t 25
abbrev t26:RA:=.t 26
abbrev t27:RA:=.t 27
abbrev t28:RA:=.t 28
abbrev t29:RA:=.t 29
abbrev t30:RA:=.t 30
abbrev t31:RA:=.t 31
abbrev t32:RA:=.t 32
abbrev t33:RA:=.t 33
abbrev t34:RA:=.t 34
abbrev t35:RA:=.t 35
abbrev t36:RA:=.t 36
abbrev t37:RA:=.t 37
abbrev t38:RA:=.t 38
abbrev t39:RA:=.t 39
abbrev t40:RA:=.t 40
abbrev t41:RA:=.t 41
abbrev t42:RA:=.t 42
abbrev t43:RA:=.t 43
abbrev t44:RA:=.t 44
abbrev t45:RA:=.t 45
abbrev t46:RA:=.t 46
abbrev t47:RA:=.t 47
abbrev t48:RA:=.t 48
abbrev t49:RA:=.t 49
abbrev t50:RA:=.t 50
abbrev t51:RA:=.t 51
abbrev t52:RA:=.t 52
abbrev t53:RA:=.t 53
abbrev t54:RA:=.t 54
abbrev t55:RA:=.t 55
abbrev t56:RA:=.t 56
abbrev t57:RA:=.t 57
abbrev t58:RA:=.t 58
abbrev t59:RA:=.t 59
abbrev t60:RA:=.t 60
abbrev t61:RA:=.t 61
abbrev t62:RA:=.t 62
abbrev t63:RA:=.t 63
abbrev t64:RA:=.t 64
abbrev t65:RA:=.t 65
abbrev t66:RA:=.t 66
abbrev t67:RA:=.t 67
abbrev t68:RA:=.t 68
abbrev t69:RA:=.t 69
abbrev t70:RA:=.t 70
abbrev t71:RA:=.t 71
abbrev t72:RA:=.t 72
abbrev t73:RA:=.t 73
abbrev t74:RA:=.t 74
abbrev t75:RA:=.t 75
abbrev t76:RA:=.t 76
abbrev t77:RA:=.t 77
abbrev t78:RA:=.t 78
abbrev t79:RA:=.t 79
abbrev t80:RA:=.t 80
abbrev t81:RA:=.t 81
abbrev t82:RA:=.t 82
abbrev t83:RA:=.t 83
abbrev t84:RA:=.t 84
abbrev t85:RA:=.t 85
abbrev t86:RA:=.t 86
abbrev t87:RA:=.t 87
abbrev t88:RA:=.t 88
abbrev t89:RA:=.t 89
abbrev t90:RA:=.t 90
abbrev t91:RA:=.t 91
abbrev t92:RA:=.t 92
abbrev t93:RA:=.t 93
abbrev t94:RA:=.t 94
abbrev t95:RA:=.t 95
abbrev t96:RA:=.t 96
abbrev t97:RA:=.t 97
abbrev t98:RA:=.t 98
abbrev t99:RA:=.t 99
abbrev c1D:RA:=.t 100
abbrev c1E:RA:=.t 101
abbrev c1F:RA:=.t 102
abbrev c1G:RA:=.t 103
abbrev c1H:RA:=.t 104
abbrev c1I:RA:=.t 105
abbrev c1J:RA:=.t 106
abbrev c1K:RA:=.t 107
abbrev c1L:RA:=.t 108
abbrev c1M:RA:=.t 109
abbrev c1N:RA:=.t 110
abbrev c1O:RA:=.t 111
abbrev c1P:RA:=.t 112
abbrev c1Q:RA:=.t 113
abbrev b7i:RA:=.t 114
abbrev c1R:RA:=.t 115
abbrev c1S:RA:=.t 116
abbrev c1T:RA:=.t 117
abbrev c1U:RA:=.t 118
abbrev c1V:RA:=.t 119
abbrev c1W:RA:=.t 120
abbrev c3k:RA:=.t 121
abbrev c3l:RA:=.t 122
abbrev c3m:RA:=.t 123
abbrev c3n:RA:=.t 124
abbrev c3o:RA:=.t 125
abbrev c3p:RA:=.t 126
abbrev c3q:RA:=.t 127
abbrev c3r:RA:=.t 128
abbrev c3s:RA:=.t 129
abbrev c3t:RA:=.t 130
abbrev c3u:RA:=.t 131
abbrev c1X:RA:=.t 132
abbrev c4Y:RA:=.t 133
abbrev c4Z:RA:=.t 134
abbrev c5a:RA:=.t 135
abbrev c5b:RA:=.t 136
abbrev c5c:RA:=.t 137
abbrev c5d:RA:=.t 138
abbrev c5T:RA:=.t 139
abbrev c5U:RA:=.t 140
abbrev c5V:RA:=.t 141
abbrev c5W:RA:=.t 142
abbrev c5X:RA:=.t 143
abbrev c5Y:RA:=.t 144
abbrev c5Z:RA:=.t 145
abbrev c6a:RA:=.t 146
abbrev c6b:RA:=.t 147
abbrev c6c:RA:=.t 148
abbrev c7S:RA:=.t 149
abbrev c7T:RA:=.t 150
abbrev c6d:RA:=.t 151
abbrev c7U:RA:=.t 152
abbrev c7V:RA:=.t 153
abbrev c8E:RA:=.t 154
abbrev c8F:RA:=.t 155
abbrev c8G:RA:=.t 156
abbrev c8H:RA:=.t 157
abbrev c8I:RA:=.t 158
abbrev c8J:RA:=.t 159
abbrev c8K:RA:=.t 160
abbrev c8L:RA:=.t 161
abbrev c8M:RA:=.t 162
abbrev c8N:RA:=.t 163
abbrev c8O:RA:=.t 164
abbrev c8P:RA:=.t 165
abbrev c8Q:RA:=.t 166
abbrev c8R:RA:=.t 167
abbrev c8S:RA:=.t 168
abbrev c8T:RA:=.t 169
abbrev c8U:RA:=.t 170
abbrev c8V:RA:=.t 171
abbrev c8W:RA:=.t 172
abbrev c8X:RA:=.t 173
abbrev c8Y:RA:=.t 174
abbrev c8Z:RA:=.t 175
abbrev c9a:RA:=.t 176
abbrev c9b:RA:=.t 177
abbrev c9c:RA:=.t 178
abbrev c9d:RA:=.t 179
abbrev c9e:RA:=.t 180
abbrev c9f:RA:=.t 181
abbrev c9g:RA:=.t 182
abbrev c9h:RA:=.t 183
abbrev c9i:RA:=.t 184
abbrev c9j:RA:=.t 185
abbrev c9k:RA:=.t 186
abbrev c9l:RA:=.t 187
abbrev c9m:RA:=.t 188
abbrev c9n:RA:=.t 189
abbrev c9o:RA:=.t 191
abbrev c9p:RA:=.t 192
abbrev c9q:RA:=.t 193
abbrev c9r:RA:=.t 194
abbrev c9s:RA:=.t 195
abbrev c9t:RA:=.t 196
abbrev c9u:RA:=.t 197
abbrev c9v:RA:=.t 199
abbrev c9w:RA:=.t 200
abbrev c9x:RA:=.t 201
abbrev c9y:RA:=.t 202
abbrev c9z:RA:=.t 203
abbrev c9A:RA:=.t 204
abbrev c9B:RA:=.t 205
abbrev c9C:RA:=.t 206
abbrev c9D:RA:=.t 207
abbrev c9E:RA:=.t 208
abbrev c9F:RA:=.t 209
abbrev c9G:RA:=.t 212
abbrev c9H:RA:=.t 213
abbrev c9I:RA:=.t 214
abbrev c9J:RA:=.t 215
abbrev c9K:RA:=.t 216
abbrev c9L:RA:=.t 217
abbrev c9M:RA:=.t 218
abbrev c9N:RA:=.t 219
abbrev c9O:RA:=.t 220
abbrev c9P:RA:=.t 221
abbrev c9Q:RA:=.t 222
abbrev c9R:RA:=.t 223
abbrev c9S:RA:=.t 224
abbrev c9T:RA:=.t 225
abbrev c9U:RA:=.t 226
abbrev c9V:RA:=.t 227
abbrev c9W:RA:=.t 228
abbrev c9X:RA:=.t 229
abbrev c9Y:RA:=.t 231
abbrev c9Z:RA:=.t 232
abbrev d0a:RA:=.t 233
abbrev d0b:RA:=.t 234
abbrev d0c:RA:=.t 235
abbrev d0d:RA:=.t 236
abbrev d0e:RA:=.t 237
abbrev d0f:RA:=.t 238
abbrev d0g:RA:=.t 239
abbrev d0h:RA:=.t 240
abbrev d0i:RA:=.t 241
abbrev d0j:RA:=.t 242
abbrev d0k:RA:=.t 243
abbrev d0l:RA:=.t 244
abbrev d0m:RA:=.t 245
abbrev d0n:RA:=.t 246
abbrev d0o:RA:=.t 247
abbrev d0p:RA:=.t 248
abbrev d0q:RA:=.t 249
abbrev d0r:RA:=.t 250
abbrev d0s:RA:=.t 251
abbrev d0t:RA:=.t 252
abbrev d0u:RA:=.t 253
abbrev d0v:RA:=.t 254
abbrev d0w:RA:=.t 255
abbrev d0x:RA:=.t 256
abbrev d0y:RA:=.t 257
abbrev d0z:RA:=.t 258
abbrev d0A:RA:=.t 259
abbrev d0B:RA:=.t 260
abbrev d0C:RA:=.t 261
abbrev d0D:RA:=.t 262
abbrev d0E:RA:=.t 263
abbrev d0F:RA:=.t 264
abbrev d0G:RA:=.t 265
abbrev d0H:RA:=.t 266
abbrev d0I:RA:=.t 267
abbrev d0J:RA:=.t 268
abbrev d0K:RA:=.t 269
abbrev d0L:RA:=.t 270
abbrev d0M:RA:=.t 271
abbrev d0N:RA:=.t 272
abbrev d0O:RA:=.t 273
abbrev d0P:RA:=.t 274
abbrev d0Q:RA:=.t 275
abbrev d0R:RA:=.t 277
abbrev d0S:RA:=.t 278
abbrev d0T:RA:=.t 279
abbrev d0U:RA:=.t 280
abbrev d0V:RA:=.t 281
abbrev d0W:RA:=.t 282
abbrev d0X:RA:=.t 283
abbrev d0Y:RA:=.t 285
abbrev d0Z:RA:=.t 287
abbrev d1a:RA:=.t 288
abbrev d1b:RA:=.t 289
abbrev d1c:RA:=.t 290
abbrev d1d:RA:=.t 291
abbrev d1e:RA:=.t 292
abbrev d1f:RA:=.t 293
abbrev d1g:RA:=.t 294
abbrev d1h:RA:=.t 295
abbrev d1i:RA:=.t 296
abbrev d1j:RA:=.t 297
abbrev d1k:RA:=.t 298
abbrev d1l:RA:=.t 299
abbrev d1m:RA:=.t 300
abbrev d1n:RA:=.t 301
abbrev d1o:RA:=.t 302
abbrev d1p:RA:=.t 303
abbrev d1q:RA:=.t 304
abbrev d1r:RA:=.t 305
abbrev d1s:RA:=.t 306
abbrev d1t:RA:=.t 307
abbrev d1u:RA:=.t 308
abbrev d1v:RA:=.t 309
abbrev d1w:RA:=.t 310
abbrev d1x:RA:=.t 311
abbrev d1y:RA:=.t 312
abbrev d1z:RA:=.t 313
abbrev d1A:RA:=.t 314
abbrev d1B:RA:=.t 316
abbrev d1C:RA:=.t 317
abbrev d1D:RA:=.t 319
abbrev d1E:RA:=.t 321
abbrev d1F:RA:=.t 323
abbrev d1G:RA:=.t 324
abbrev d1H:RA:=.t 325
abbrev d1I:RA:=.t 326
abbrev d1J:RA:=.t 327
abbrev d1K:RA:=.t 328
abbrev d1L:RA:=.t 331
abbrev d1M:RA:=.t 332
abbrev d1N:RA:=.t 335
abbrev d1O:RA:=.t 336
abbrev d1P:RA:=.t 337
abbrev d1Q:RA:=.t 338
abbrev d1R:RA:=.t 339
abbrev d1S:RA:=.t 343
abbrev d1T:RA:=.t 344
abbrev d1U:RA:=.t 345
abbrev d1V:RA:=.t 347
abbrev d1W:RA:=.t 348
abbrev d1X:RA:=.t 349
end Go.Ab.Td
namespace Go.Ab.Td
open Go.Ab
def c_law16_DictDefines:n6:=⟨2,229,[.tmp 4],
 .seq (.b6 [i 2 (.box 3 t0) 0,
 i 3 (.box 15 t1) 0,
 i 4 (.mv (.c (.pv (.bool false)))) 0] false)
 (.seq (.seq (.b6 [i 32 (.call (.f J2) []) 0,
 i 33 (.not t32) 1] false)
 (.cond t33
 (.seq (.b6 [i 4 (.mv (.c (.pv (.bool false)))) 0] false)
 .ret)
 .skip))
 (.seq (.b6 [i 34 (.load true 3 t2) 0,
 i 35 (.call (.f y8) [t34]) 1,
 i 5 (.alloc z1) 0,
 iz (.store 67 t5 t35) 7] false)
 (.seq (.b6 [i 36 (.a5Z 3 5 t3 (.c (I 0))) 0,
 i 37 (.load true 5 t36) 1,
 i 38 (.b0 t5 2) 0,
 i 39 (.load false 1 t38) 4,
 i 40 (.call (.f j1) [t37,t39]) 15,
 i 41 (.a5Z 3 5 t3 (.c (I 1))) 0,
 i 42 (.load true 5 t41) 32,
 i 43 (.b0 t5 2) 0,
 i 44 (.load false 1 t43) 128,
 i 45 (.call (.f j1) [t42,t44]) 511,
 i 46 (.a5Z 3 5 t3 (.c (I 2))) 0,
 i 47 (.load true 5 t46) 1024,
 i 48 (.b0 t5 2) 0,
 i 49 (.load false 1 t48) 4096,
 i 50 (.call (.f j1) [t47,t49]) 16383,
 i 6 (.alloc z0) 0,
 i 7 (.alloc z0) 0,
 i 8 (.alloc z0) 0,
 iz (.store 7 t6 t40) 262143,
 iz (.store 7 t7 t45) 524287,
 iz (.store 7 t8 t50) 1048575] true)
 (.seq (.b6 [i 52 (.b0 t5 2) 0,
 i 53 (.load false 1 t52) 1,
 i 54 (.load true 7 t6) 0,
 i 55 (.call (.f O0) [t53,t54]) 7,
 i 51 (mv t55) 15,
 i 56 (.extract t51 0) 31,
 i 57 (.extract t51 1) 31,
 i 9 (.alloc z0) 0,
 iz (.store 7 t9 t56) 191,
 i 10 (mv t57) 511] false)
 (.seq (.b6 [i 59 (.b0 t5 2) 0,
 i 60 (.load false 1 t59) 1,
 i 61 (.load true 7 t8) 0,
 i 62 (.call (.f O0) [t60,t61]) 7,
 i 58 (mv t62) 15,
 i 63 (.extract t58 0) 31,
 i 64 (.extract t58 1) 31,
 i 11 (.alloc z0) 0,
 iz (.store 7 x4 t63) 191,
 i 12 (mv t64) 511] false)
 (.seq (.b6 [i 66 (.load true 67 t5) 0,
 i 67 (.load true 7 t6) 0,
 i 68 (.load true 7 t7) 0,
 i 69 (.G6 7 2 z0 [(0,t67),(1,t68)]) 6,
 i 70 (.call (.f u0) [t66,.c (.pv (.str [100,101,102])),t69]) 15,
 i 65 (mv t70) 31,
 i 71 (.extract t65 0) 63,
 i 72 (.extract t65 1) 63,
 i 13 (.alloc z1) 0,
 iz (.store 67 B7 t71) 383,
 i 14 (mv t72) 1023] false)
 (.seq (.seq (.b6 [i 73 (mv r9) 0,
 i 74 (.bin .neq t73 (.c (I 0))) 1] false)
 (.cond t74
 (.seq (.b6 [i 75 (mv D2) 0,
 i 76 (mv r9) 0,
 i 77 (.bin .eql t75 t76) 3,
 i 4 (mv t77) 7] false)
 .ret)
 .skip))
 (.seq (.b6 [i 78 (.b0 t5 1) 0,
 i 79 (.load false 1 t78) 1,
 i 80 (.b0 t5 1) 0,
 i 81 (.load false 1 t80) 4,
 i 82 (.l8 t81) 12,
 i 83 (.bin .sub t82 (.c (I 1))) 28,
 i 84 (.i6 7 t79 t83) 63,
 i 85 (.load true 7 t84) 127,
 i 15 (.alloc z0) 0,
 iz (.store 7 G0 t85) 511] false)
 (.seq (.seq (.b6 [i 86 (mv D2) 0,
 i 87 (.bin .neq t86 (.c (I 0))) 1] false)
 (.cond t87
 (.seq (.b6 [i 89 (.load true 67 t5) 0,
 i 90 (.load true 7 G0) 0,
 i 91 (.G6 7 1 z0 [(0,t90)]) 2,
 i 92 (.call (.f u0) [t89,.c (.pv (.str [109,97,120,108,101,110,103,116,104])),t91]) 7,
 i 88 (mv t92) 15,
 i 93 (.extract t88 0) 31,
 i 94 (.extract t88 1) 31,
 i 16 (.alloc z1) 0,
 iz (.store 67 G1 t93) 191,
 i 17 (mv t94) 511] false)
 (.seq (.b6 [i 96 (.load true 67 t5) 0,
 i 97 (.load true 7 G0) 0,
 i 98 (.G6 7 1 z0 [(0,t97)]) 2,
 i 99 (.call (.f u0) [t96,.c (.pv (.str [108,101,110,103,116,104])),t98]) 7,
 i 95 (mv t99) 15,
 i 100 (.extract t95 0) 31,
 i 101 (.extract t95 1) 31,
 i 18 (.alloc z1) 0,
 iz (.store 67 J6 c1D) 191,
 i 19 (mv c1E) 511] false)
 (.seq (.b6 [i 102 (mv D2) 0,
 i 103 (.bin .eql c1F (.c (I 30))) 1,
 i 104 (mv c1G) 3,
 ig 105 (mv E0) 104 true 7,
 ig 106 (.bin .eql c1I (.c (I 0))) 104 true 15,
 i 107 (.pick c1H c1J (.c (.pv (.bool false)))) 31,
 i 108 (mv c1K) 63,
 ig 109 (mv L9) 108 true 127,
 ig 110 (.bin .eql c1M (.c (I 0))) 108 true 255,
 i 111 (.pick c1L c1N (.c (.pv (.bool false)))) 511,
 i 112 (mv c1O) 1023,
 ig 113 (.b0 G1 0) 112 true 2047,
 ig 114 (.load false 1 c1Q) 112 true 4095,
 ig 115 (.b0 J6 0) 112 true 2047,
 ig 116 (.load false 1 c1R) 112 true 10239,
 ig 117 (.call (.f m6) [b7i,c1S]) 112 true 32767,
 i 118 (.pick c1P c1T (.c (.pv (.bool false)))) 65535,
 i 4 (mv c1U) 131071] false)
 .ret)))
 .skip))
 (.seq (.b6 [i 120 (.load true 67 B7) 0,
 i 121 (.load true 7 t6) 0,
 i 122 (.G6 7 1 z0 [(0,c3k)]) 2,
 i 123 (.call (.f u0) [c1W,.c (.pv (.str [108,111,97,100])),c3l]) 7,
 i 119 (mv c3m) 15,
 i 124 (.extract c1V 0) 31,
 i 125 (.extract c1V 1) 31,
 i 20 (.alloc z1) 0,
 iz (.store 67 K5 c3n) 191,
 i 21 (mv c3o) 511] false)
 (.seq (.b6 [i 127 (.load true 67 B7) 0,
 i 128 (.load true 7 G0) 0,
 i 129 (.load true 7 t6) 0,
 i 130 (.G6 7 2 z0 [(0,c3r),(1,c3s)]) 6,
 i 131 (.call (.f u0) [c3q,.c (.pv (.str [103,101,116])),c3t]) 15,
 i 126 (mv c3u) 31,
 i 132 (.extract c3p 0) 63,
 i 133 (.extract c3p 1) 63,
 i 22 (.alloc z1) 0,
 iz (.store 67 P8 c1X) 383,
 i 23 (mv c4Y) 1023] false)
 (.seq (.b6 [i 135 (.load true 67 B7) 0,
 i 136 (.load true 7 t6) 0,
 i 137 (.G6 7 1 z0 [(0,c5b)]) 2,
 i 138 (.call (.f u0) [c5a,.c (.pv (.str [119,104,101,114,101])),c5c]) 7,
 i 134 (mv c5d) 15,
 i 139 (.extract c4Z 0) 31,
 i 140 (.extract c4Z 1) 31,
 i 24 (.alloc z1) 0,
 iz (.store 67 Y5 c5T) 191,
 i 25 (mv c5U) 511] false)
 (.seq (.b6 [i 142 (.load true 67 B7) 0,
 i 143 (.load true 7 G0) 0,
 i 144 (.load true 7 t6) 0,
 i 145 (.G6 7 2 z0 [(0,c5X),(1,c5Y)]) 6,
 i 146 (.call (.f u0) [c5W,.c (.pv (.str [107,110,111,119,110])),c5Z]) 15,
 i 141 (mv c6a) 31,
 i 147 (.extract c5V 0) 63,
 i 148 (.extract c5V 1) 63,
 i 26 (.alloc z1) 0,
 iz (.store 67 t26 c6b) 383,
 i 27 (mv c6c) 1023] false)
 (.seq (.seq (.b6 [i 149 (mv J5) 0,
 i 150 (.bin .neq c7S (.c (I 0))) 1,
 i 151 (mv c7T) 3,
 ig 152 (mv T9) 151 false 7,
 ig 153 (.bin .neq c7U (.c (I 0))) 151 false 15,
 i 154 (.pick c6d (.c (.pv (.bool true))) c7V) 31,
 i 155 (mv c8E) 63,
 ig 156 (mv X3) 155 false 127,
 ig 157 (.bin .neq c8G (.c (I 0))) 155 false 255,
 i 158 (.pick c8F (.c (.pv (.bool true))) c8H) 511,
 i 159 (mv c8I) 1023,
 ig 160 (mv t27) 159 false 2047,
 ig 161 (.bin .neq c8K (.c (I 0))) 159 false 4095,
 i 162 (.pick c8J (.c (.pv (.bool true))) c8L) 8191,
 i 163 (mv c8M) 16383,
 ig 164 (.b0 K5 0) 163 false 32767,
 ig 165 (.load false 1 c8O) 163 false 65535,
 ig 166 (.load true 7 t7) 163 false 32767,
 ig 167 (.G6 7 1 z0 [(0,c8Q)]) 163 false 163839,
 ig 168 (.call (.f m6) [c8P,c8R]) 163 false 524287,
 ig 169 (.not c8S) 163 false 1048575,
 i 170 (.pick c8N (.c (.pv (.bool true))) c8T) 2097151,
 i 171 (mv c8U) 4194303,
 ig 172 (.b0 P8 0) 171 false 8388607,
 ig 173 (.load false 1 c8W) 171 false 16777215,
 ig 174 (.load true 7 t7) 171 false 8388607,
 ig 175 (.G6 7 1 z0 [(0,c8Y)]) 171 false 41943039,
 ig 176 (.call (.f m6) [c8X,c8Z]) 171 false 134217727,
 ig 177 (.not c9a) 171 false 268435455,
 i 178 (.pick c8V (.c (.pv (.bool true))) c9b) 536870911,
 i 179 (mv c9c) 1073741823,
 ig 180 (.b0 Y5 0) 179 false 2147483647,
 ig 181 (.load false 1 c9e) 179 false 4294967295,
 ig 182 (.load true 7 G0) 179 false 2147483647,
 ig 183 (.call (.f J1) [.c (.pv (.bool true))]) 179 false 2147483647,
 ig 184 (.G6 7 2 z0 [(0,c9g),(1,c9h)]) 179 false 27917287423,
 ig 185 (.call (.f m6) [c9f,c9i]) 179 false 68719476735,
 ig 186 (.not c9j) 179 false 137438953471,
 i 187 (.pick c9d (.c (.pv (.bool true))) c9k) 274877906943,
 i 188 (mv c9l) 549755813887,
 ig 189 (.b0 t26 0) 188 false 1099511627775,
 ig 190 (.load false 1 c9n) 188 false 2199023255551,
 ig 191 (.call (.f J1) [.c (.pv (.bool true))]) 188 false 1099511627775,
 ig 192 (.G6 7 1 z0 [(0,c9o)]) 188 false 5497558138879,
 ig 193 (.call (.f m6) [.t 190,c9p]) 188 false 17592186044415,
 ig 194 (.not c9q) 188 false 35184372088831,
 i 195 (.pick c9m (.c (.pv (.bool true))) c9r) 70368744177663,
 i 196 (mv c9s) 140737488355327,
 ig 197 (.b0 B7 2) 196 false 281474976710655,
 ig 198 (.load false 1 c9u) 196 false 562949953421311,
 ig 199 (.call (.f n_heap_Check) [.t 198]) 196 false 1125899906842623,
 ig 200 (.bin .neq c9v (.c (I 0))) 196 false 2251799813685247,
 i 201 (.pick c9t (.c (.pv (.bool true))) c9w) 4503599627370495] true)
 (.cond c9x
 (.seq (.b6 [i 4 (.mv (.c (.pv (.bool false)))) 0] false)
 .ret)
 .skip))
 (.seq (.seq (.b6 [i 202 (mv x6) 0,
 i 203 (.bin .neq c9y (.c (I 0))) 1,
 i 204 (mv c9z) 3,
 ig 205 (.load true 7 x4) 204 false 7,
 ig 206 (.load true 7 t9) 204 false 7,
 ig 207 (.eqs false [0,1,0,2,0,0,0] c9B c9C) 204 false 31,
 i 208 (.pick c9A (.c (.pv (.bool true))) c9D) 63] false)
 (.cond c9E
 (.seq (.b6 [i 4 (.mv (.c (.pv (.bool true)))) 0] false)
 .ret)
 .skip))
 (.seq (.b6 [i 210 (.load true 67 t5) 0,
 i 211 (.load true 7 x4) 0,
 i 212 (.call (.f I8) [.t 210,.t 211]) 3,
 i 209 (mv c9G) 7,
 i 213 (.extract c9F 0) 15,
 i 214 (.extract c9F 1) 15,
 i 28 (.alloc z0) 0,
 iz (.store 7 t28 c9H) 95,
 i 29 (mv c9I) 255] false)
 (.seq (.b6 [i 216 (.load true 67 B7) 0,
 i 217 (.load true 7 x4) 0,
 i 218 (.call (.f I8) [c9K,c9L]) 3,
 i 215 (mv c9M) 7,
 i 219 (.extract c9J 0) 15,
 i 220 (.extract c9J 1) 15,
 i 30 (.alloc z0) 0,
 iz (.store 7 t30 c9N) 95,
 i 31 (mv c9O) 255] false)
 (.seq (.b6 [i 221 (.load true 7 t28) 0,
 i 222 (.load true 7 t30) 0,
 i 223 (.eqs false [0,1,0,2,0,0,0] c9P c9Q) 3,
 i 224 (mv c9R) 7,
 ig 225 (mv t29) 224 true 15,
 ig 226 (mv t31) 224 true 15,
 ig 227 (.eqb false c9T c9U) 224 true 63,
 i 228 (.pick c9S c9V (.c (.pv (.bool false)))) 127,
 i 4 (mv c9W) 255] false)
 .ret))))))))))))))))))⟩
def c_law16_DictUndoes:n6:=⟨2,187,[.tmp 4],
 .seq (.b6 [i 2 (.box 3 t0) 0,
 i 3 (.box 15 t1) 0,
 i 4 (.mv (.c (.pv (.bool false)))) 0] false)
 (.seq (.seq (.b6 [i 21 (.call (.f J2) []) 0,
 i 22 (.not J5) 1] false)
 (.cond P8
 (.seq (.b6 [i 4 (.mv (.c (.pv (.bool false)))) 0] false)
 .ret)
 .skip))
 (.seq (.b6 [i 23 (.load true 3 t2) 0,
 i 24 (.call (.f y8) [T9]) 1,
 i 5 (.alloc z1) 0,
 iz (.store 67 t5 Y5) 7] false)
 (.seq (.b6 [i 25 (.a5Z 3 5 t3 (.c (I 0))) 0,
 i 26 (.load true 5 X3) 1,
 i 27 (.b0 t5 2) 0,
 i 28 (.load false 1 t27) 4,
 i 29 (.call (.f j1) [t26,t28]) 15,
 i 30 (.a5Z 3 5 t3 (.c (I 1))) 0,
 i 31 (.load true 5 t30) 32,
 i 32 (.b0 t5 2) 0,
 i 33 (.load false 1 t32) 128,
 i 34 (.call (.f j1) [t31,t33]) 511,
 i 35 (.a5Z 3 5 t3 (.c (I 2))) 0,
 i 36 (.load true 5 t35) 1024,
 i 37 (.b0 t5 2) 0,
 i 38 (.load false 1 t37) 4096,
 i 39 (.call (.f j1) [t36,t38]) 16383,
 i 6 (.alloc z0) 0,
 i 7 (.alloc z0) 0,
 i 8 (.alloc z0) 0,
 iz (.store 7 t6 t29) 262143,
 iz (.store 7 t7 t34) 524287,
 iz (.store 7 t8 t39) 1048575] true)
 (.seq (.b6 [i 41 (.load true 67 t5) 0,
 i 42 (.load true 7 t6) 0,
 i 43 (.G6 7 1 z0 [(0,t42)]) 2,
 i 44 (.call (.f u0) [t41,.c (.pv (.str [98,101,103,105,110])),t43]) 7,
 i 40 (mv t44) 15,
 i 45 (.extract t40 0) 31,
 i 46 (.extract t40 1) 31,
 i 9 (.alloc z1) 0,
 iz (.store 67 t9 t45) 191,
 i 10 (mv t46) 511] false)
 (.seq (.seq (.b6 [i 47 (.b0 t6 0) 0,
 i 48 (.load false 1 t47) 1,
 i 49 (.bin .neq t48 (.c (I 9))) 3] false)
 (.cond t49
 (.seq (.b6 [i 50 (mv r9) 0,
 i 51 (.bin .eql t50 (.c (I 22))) 1,
 i 4 (mv t51) 3] false)
 .ret)
 .skip))
 (.seq (.seq (.b6 [i 52 (mv r9) 0,
 i 53 (.bin .neq t52 (.c (I 0))) 1] false)
 (.cond t53
 (.seq (.b6 [i 54 (mv r9) 0,
 i 55 (.bin .eql t54 (.c (I 29))) 1,
 i 56 (mv t55) 3,
 ig 57 (.b0 t5 1) 56 true 7,
 ig 58 (.load false 1 t57) 56 true 15,
 ig 59 (.l8 t58) 56 true 31,
 ig 60 (.bin .eql t59 (.c (I 20))) 56 true 63,
 i 61 (.pick t56 t60 (.c (.pv (.bool false)))) 127,
 i 4 (mv t61) 255] false)
 .ret)
 .skip))
 (.seq (.b6 [i 63 (.load true 67 t9) 0,
 i 64 (.call (.f u0) [t63,.c (.pv (.str [101,110,100])),.c (.emp 7)]) 1,
 i 62 (mv t64) 3,
 i 65 (.extract t62 0) 7,
 i 66 (.extract t62 1) 7,
 i 11 (.alloc z1) 0,
 iz (.store 67 x4 t65) 47,
 i 12 (mv t66) 127] false)
 (.seq (.b6 [i 68 (.load true 67 t9) 0,
 i 69 (.call (.f u0) [t68,.c (.pv (.str [99,117,114,114,101,110,116,100,105,99,116])),.c (.emp 7)]) 1,
 i 67 (mv t69) 3,
 i 70 (.extract t67 0) 7,
 i 71 (.extract t67 1) 7,
 i 13 (.alloc z1) 0,
 iz (.store 67 B7 t70) 47,
 i 14 (mv t71) 127] false)
 (.seq (.b6 [i 73 (.load true 67 t9) 0,
 i 74 (.call (.f u0) [t73,.c (.pv (.str [99,111,117,110,116,100,105,99,116,115,116,97,99,107])),.c (.emp 7)]) 1,
 i 72 (mv t74) 3,
 i 75 (.extract t72 0) 7,
 i 76 (.extract t72 1) 7,
 i 15 (.alloc z1) 0,
 iz (.store 67 G0 t75) 47,
 i 16 (mv t76) 127] false)
 (.seq (.b6 [i 77 (.b0 t5 0) 0,
 iz (.store 1 t77 (.c (.emp 7))) 1] false)
 (.seq (.seq (.b6 [i 78 (mv x6) 0,
 i 79 (.bin .neq t78 (.c (I 0))) 1,
 i 80 (mv t79) 3,
 ig 81 (mv D2) 80 false 7,
 ig 82 (.bin .neq t81 (.c (I 0))) 80 false 15,
 i 83 (.pick t80 (.c (.pv (.bool true))) t82) 31,
 i 84 (mv t83) 63,
 ig 85 (mv G1) 84 false 127,
 ig 86 (.bin .neq t85 (.c (I 0))) 84 false 255,
 i 87 (.pick t84 (.c (.pv (.bool true))) t86) 511,
 i 88 (mv t87) 1023,
 ig 89 (.load true 67 x4) 88 false 2047,
 ig 90 (.load true 67 t5) 88 false 2047,
 ig 91 (.call (.f w8) [t89,t90]) 88 false 8191,
 ig 92 (.not t91) 88 false 16383,
 i 93 (.pick t88 (.c (.pv (.bool true))) t92) 32767,
 i 94 (mv t93) 65535,
 ig 95 (.b0 B7 0) 94 false 131071,
 ig 96 (.load false 1 t95) 94 false 262143,
 ig 97 (.load true 7 t6) 94 false 131071,
 ig 98 (.G6 7 1 z0 [(0,t97)]) 94 false 655359,
 ig 99 (.call (.f m6) [t96,t98]) 94 false 2097151,
 ig 100 (.not t99) 94 false 4194303,
 i 101 (.pick t94 (.c (.pv (.bool true))) c1D) 8388607,
 i 102 (mv c1E) 16777215,
 ig 103 (.b0 G0 0) 102 false 33554431,
 ig 104 (.load false 1 c1G) 102 false 67108863,
 ig 105 (.b0 t5 1) 102 false 33554431,
 ig 106 (.load false 1 c1I) 102 false 167772159,
 ig 107 (.l8 c1J) 102 false 436207615,
 ig 108 (.bin .add c1K (.c (I 1))) 102 false 973078527,
 ig 109 (.call (.f L4) [c1L]) 102 false 2046820351,
 ig 110 (.G6 7 1 z0 [(0,c1M)]) 102 false 4194303999,
 ig 111 (.call (.f m6) [c1H,c1N]) 102 false 8589934591,
 ig 112 (.not c1O) 102 false 17179869183,
 i 113 (.pick c1F (.c (.pv (.bool true))) c1P) 34359738367] true)
 (.cond c1Q
 (.seq (.b6 [i 4 (.mv (.c (.pv (.bool false)))) 0] false)
 .ret)
 .skip))
 (.seq (.b6 [i 115 (.load true 67 t5) 0,
 i 116 (.load true 7 t6) 0,
 i 117 (.load true 7 t7) 0,
 i 118 (.load true 7 t8) 0,
 i 119 (.G6 7 3 z0 [(0,c1S),(1,c1T),(2,c1U)]) 14,
 i 120 (.call (.f u0) [c1R,.c (.pv (.str [112,117,116])),c1V]) 31,
 i 114 (mv c1W) 63,
 i 121 (.extract b7i 0) 127,
 i 122 (.extract b7i 1) 127,
 i 17 (.alloc z1) 0,
 iz (.store 67 E0 c3k) 767,
 i 10 (mv c3l) 2047] false)
 (.seq (.seq (.b6 [i 123 (mv r9) 0,
 i 124 (.bin .neq c3m (.c (I 0))) 1] false)
 (.cond c3n
 (.seq (.b6 [i 125 (mv r9) 0,
 i 126 (.bin .eql c3o (.c (I 22))) 1,
 i 127 (mv c3p) 3,
 ig 128 (mv r9) 127 false 7,
 ig 129 (.bin .eql c3r (.c (I 23))) 127 false 15,
 i 130 (.pick c3q (.c (.pv (.bool true))) c3s) 31,
 i 131 (mv c3t) 63,
 ig 132 (mv r9) 131 false 127,
 ig 133 (.bin .eql c1X (.c (I 30))) 131 false 255,
 i 134 (.pick c3u (.c (.pv (.bool true))) c4Y) 511,
 i 4 (mv c4Z) 1023] false)
 .ret)
 .skip))
 (.seq (.b6 [i 136 (.load true 67 E0) 0,
 i 137 (.load true 7 t6) 0,
 i 138 (.load true 7 t7) 0,
 i 139 (.G6 7 2 z0 [(0,c5c),(1,c5d)]) 6,
 i 140 (.call (.f u0) [c5b,.c (.pv (.str [117,110,100,101,102])),c5T]) 15,
 i 135 (mv c5U) 31,
 i 141 (.extract c5a 0) 63,
 i 142 (.extract c5a 1) 63,
 i 18 (.alloc z1) 0,
 iz (.store 67 J6 c5V) 383,
 i 12 (mv c5W) 1023] false)
 (.seq (.b6 [i 144 (.load true 67 J6) 0,
 i 145 (.load true 7 t6) 0,
 i 146 (.load true 7 t7) 0,
 i 147 (.G6 7 2 z0 [(0,c5Z),(1,c6a)]) 6,
 i 148 (.call (.f u0) [c5Y,.c (.pv (.str [107,110,111,119,110])),c6b]) 15,
 i 143 (mv c6c) 31,
 i 149 (.extract c5X 0) 63,
 i 150 (.extract c5X 1) 63,
 i 19 (.alloc z1) 0,
 iz (.store 67 L9 c7S) 383,
 i 14 (mv c7T) 1023] false)
 (.seq (.b6 [i 152 (.load true 67 J6) 0,
 i 153 (.load true 7 t6) 0,
 i 154 (.load true 7 t7) 0,
 i 155 (.G6 7 2 z0 [(0,c7V),(1,c8E)]) 6,
 i 156 (.call (.f u0) [c7U,.c (.pv (.str [117,110,100,101,102])),c8F]) 15,
 i 151 (mv c8G) 31,
 i 157 (.extract c6d 0) 63,
 i 158 (.extract c6d 1) 63,
 i 20 (.alloc z1) 0,
 iz (.store 67 K5 c8H) 383,
 i 16 (mv c8I) 1023] false)
 (.seq (.b6 [i 159 (mv x6) 0,
 i 160 (.bin .eql c8J (.c (I 0))) 1,
 i 161 (mv c8K) 3,
 ig 162 (mv D2) 161 true 7,
 ig 163 (.bin .eql c8M (.c (I 0))) 161 true 15,
 i 164 (.pick c8L c8N (.c (.pv (.bool false)))) 31,
 i 165 (mv c8O) 63,
 ig 166 (mv G1) 165 true 127,
 ig 167 (.bin .eql c8Q (.c (I 0))) 165 true 255,
 i 168 (.pick c8P c8R (.c (.pv (.bool false)))) 511,
 i 169 (mv c8S) 1023,
 ig 170 (.b0 L9 0) 169 true 2047,
 ig 171 (.load false 1 c8U) 169 true 4095,
 ig 172 (.call (.f J1) [.c (.pv (.bool false))]) 169 true 2047,
 ig 173 (.G6 7 1 z0 [(0,c8W)]) 169 true 10239,
 ig 174 (.call (.f m6) [c8V,c8X]) 169 true 32767,
 i 175 (.pick c8T c8Y (.c (.pv (.bool false)))) 65535,
 i 176 (mv c8Z) 131071,
 ig 177 (.load true 67 K5) 176 true 262143,
 ig 178 (.load true 67 J6) 176 true 262143,
 ig 179 (.call (.f w8) [c9b,c9c]) 176 true 1048575,
 i 180 (.pick c9a c9d (.c (.pv (.bool false)))) 2097151,
 i 181 (mv c9e) 4194303,
 ig 182 (.b0 J6 2) 181 true 8388607,
 ig 183 (.load false 1 c9g) 181 true 16777215,
 ig 184 (.call (.f n_heap_Check) [c9h]) 181 true 33554431,
 ig 185 (.bin .eql c9i (.c (I 0))) 181 true 67108863,
 i 186 (.pick c9f c9j (.c (.pv (.bool false)))) 134217727,
 i 4 (mv c9k) 268435455] true)
 .ret)))))))))))))))))⟩
def a4m:n6:=⟨0,85,[.tmp 0],
 .seq (.b6 [i 0 (.mv (.c (.pv (.bool false)))) 0] false)
 (.seq (.b6 [i 8 (.call (.f p9) [.c (.pv (.str [70]))]) 0,
 i 9 (.call (.f V2) [.c (I 10)]) 1,
 i 10 (.call (.f p9) [.c (.pv (.str [70,111,110,116]))]) 3,
 i 11 (.G6 7 3 z0 [(0,t8),(1,t9),(2,r9)]) 7,
 i 12 (.call (.f J3) [x4]) 15,
 i 13 (.call (.f P5) [x6,.c (.pv (.str [100,101,102,105,110,101,114,101,115,111,117,114,99,101]))]) 31,
 i 7 (mv B7) 63,
 i 14 (.extract t7 0) 127,
 i 15 (.extract t7 1) 127,
 i 1 (.alloc z1) 0,
 iz (.store 67 t1 D2) 767,
 i 2 (mv G0) 2047] false)
 (.seq (.b6 [i 17 (.load true 67 t1) 0,
 i 18 (.call (.f p9) [.c (.pv (.str [70]))]) 0,
 i 19 (.call (.f O9) [E0,.c (.pv (.str [70,111,110,116])),J6]) 3,
 i 16 (mv L9) 7,
 i 20 (.extract G1 0) 15,
 i 21 (.extract G1 1) 15,
 i 3 (.alloc z0) 0,
 iz (.store 7 t3 K5) 95,
 i 4 (mv J5) 255] true)
 (.seq (.b6 [i 23 (.load true 67 t1) 0,
 i 24 (.call (.f p9) [.c (.pv (.str [70]))]) 0,
 i 25 (.call (.f O9) [T9,.c (.pv (.str [70,111,114,109])),Y5]) 3,
 i 22 (mv X3) 7,
 i 26 (.extract P8 0) 15,
 i 27 (.extract P8 1) 15,
 i 5 (.alloc z0) 0,
 iz (.store 7 t5 t26) 95,
 i 6 (mv t27) 255] true)
 (.seq (.b6 [i 28 (mv t2) 0,
 i 29 (.bin .eql t28 (.c (I 0))) 1,
 i 30 (mv t29) 3,
 ig 31 (.b0 t1 0) 30 true 7,
 ig 32 (.load false 1 t31) 30 true 15,
 ig 33 (.call (.f V2) [.c (I 10)]) 30 true 7,
 ig 34 (.G6 7 1 z0 [(0,t33)]) 30 true 39,
 ig 35 (.call (.f m6) [t32,t34]) 30 true 127,
 i 36 (.pick t30 t35 (.c (.pv (.bool false)))) 255,
 i 37 (mv t36) 511,
 ig 38 (mv t4) 37 true 1023,
 ig 39 (.bin .eql t38 (.c (I 0))) 37 true 2047,
 i 40 (.pick t37 t39 (.c (.pv (.bool false)))) 4095,
 i 41 (mv t40) 8191,
 ig 42 (.load true 7 t3) 41 true 16383,
 ig 43 (.call (.f V2) [.c (I 10)]) 41 true 16383,
 ig 44 (.eqs false [0,1,0,2,0,0,0] t42 t43) 41 true 65535,
 i 45 (.pick t41 t44 (.c (.pv (.bool false)))) 131071,
 i 46 (mv t45) 262143,
 ig 47 (mv t6) 46 true 524287,
 ig 48 (.bin .eql t47 (.c (I 40))) 46 true 1048575,
 i 49 (.pick t46 t48 (.c (.pv (.bool false)))) 2097151,
 i 50 (mv t49) 4194303,
 ig 51 (.load true 67 t1) 50 true 8388607,
 ig 52 (.call (.f p9) [.c (.pv (.str [70]))]) 50 true 8388607,
 ig 53 (.call (.f p9) [.c (.pv (.str [70,111,110,116]))]) 50 true 25165823,
 ig 54 (.G6 7 2 z0 [(0,t52),(1,t53)]) 50 true 58720255,
 ig 55 (.call (.f V3) [t51,t54]) 50 true 134217727,
 ig 56 (.call (.f V2) [.c (I 10)]) 50 true 268435455,
 ig 57 (.G6 7 1 z0 [(0,t56)]) 50 true 536870911,
 ig 58 (.call (.f a3t) [t55,.c (.pv (.str [102,105,110,100,114,101,115,111,117,114,99,101])),t57]) 50 true 1073741823,
 i 59 (.pick t50 t58 (.c (.pv (.bool false)))) 2147483647,
 i 60 (mv t59) 4294967295,
 ig 61 (.load true 67 t1) 60 true 8589934591,
 ig 62 (.call (.f p9) [.c (.pv (.str [70]))]) 60 true 8589934591,
 ig 63 (.call (.f p9) [.c (.pv (.str [70,111,114,109]))]) 60 true 25769803775,
 ig 64 (.G6 7 2 z0 [(0,t62),(1,t63)]) 60 true 60129542143,
 ig 65 (.call (.f V3) [t61,t64]) 60 true 137438953471,
 ig 66 (.call (.f a1Q) [.c (.pv (.bool false))]) 60 true 274877906943,
 ig 67 (.G6 7 1 z0 [(0,t66)]) 60 true 549755813887,
 ig 68 (.call (.f a3t) [t65,.c (.pv (.str [114,101,115,111,117,114,99,101,115,116,97,116,117,115])),t67]) 60 true 1099511627775,
 i 69 (.pick t60 t68 (.c (.pv (.bool false)))) 2199023255551,
 i 70 (mv t69) 4398046511103,
 ig 71 (.call (.f p9) [.c (.pv (.str [70]))]) 70 true 8796093022207,
 ig 72 (.call (.f a7c) [.c (I 1)]) 70 true 17592186044415,
 ig 73 (.call (.f p9) [.c (.pv (.str [70,111,110,116]))]) 70 true 35184372088831,
 ig 74 (.G6 7 3 z0 [(0,t71),(1,t72),(2,t73)]) 70 true 70368744177663,
 ig 75 (.call (.f J3) [t74]) 70 true 140737488355327,
 ig 76 (.call (.f X8) [t75,.c (.pv (.str [100,101,102,105,110,101,114,101,115,111,117,114,99,101])),.c (I 22)]) 70 true 281474976710655,
 i 77 (.pick t70 t76 (.c (.pv (.bool false)))) 562949953421311,
 i 78 (mv t77) 1125899906842623,
 ig 79 (.call (.f p9) [.c (.pv (.str [70]))]) 78 true 2251799813685247,
 ig 80 (.call (.f p9) [.c (.pv (.str [70,111,110,116,115]))]) 78 true 4503599627370495,
 ig 81 (.G6 7 2 z0 [(0,t79),(1,t80)]) 78 true 9007199254740991,
 ig 82 (.call (.f J3) [t81]) 78 true 18014398509481983,
 ig 83 (.call (.f X8) [t82,.c (.pv (.str [102,105,110,100,114,101,115,111,117,114,99,101])),.c (I 24)]) 78 true 36028797018963967,
 i 84 (.pick t78 t83 (.c (.pv (.bool false)))) 72057594037927935,
 i 0 (mv t84) 144115188075855871] true)
 .ret))))⟩
def W4:n6:=⟨1,63,[.cell 2 true 67],
 .seq (.b6 [i 1 (.box 3 t0) 0,
 i 2 (.alloc z1) 0] false)
 (.seq (.b6 [i 6 (.load true 3 t1) 0,
 i 7 (.call (.f F1) [t6]) 1,
 i 8 (.build z0 [(0,1,.c (I 9))]) 0,
 i 9 (.build z0 [(0,1,.c (I 9)),(4,1,.c (I 1))]) 0,
 i 10 (.G6 7 2 z0 [(0,t8),(1,t9)]) 12,
 i 11 (.build z1 [(2,1,t7),(1,1,r9),(66,1,.c (I 1))]) 31,
 i 3 (.alloc z1) 0,
 iz (.store 67 t3 x4) 127] false)
 (.seq (.seq (.b6 [i 4 (.mv (.c (I 0))) 0] false)
 (.block 0
 (.loop [1,2,3,4]
 (.seq (.seq (.b6 [i 12 (mv t4) 0,
 i 13 (.b0 t1 1) 0,
 i 14 (.load false 1 B7) 2,
 i 15 (.l8 D2) 6,
 i 16 (.bin .lss x6 G0) 15,
 i 17 (mv G1) 31,
 ig 18 (mv t4) 17 true 63,
 ig 19 (.bin .lss J6 (.c (I 20))) 17 true 127,
 i 20 (.pick E0 L9 (.c (.pv (.bool false)))) 255] false)
 (.cond K5
 .skip
 (.exit 0)))
 (.seq (.block 1
 (.b6 [i 23 (.b0 t3 0) 0,
 i 24 (.load false 1 T9) 1,
 i 25 (.b0 t1 1) 0,
 i 26 (.load false 1 X3) 4,
 i 27 (mv t4) 0,
 i 28 (.i6 5 t26 t27) 28,
 i 29 (.load true 5 t28) 60,
 i 30 (.b0 t3 2) 0,
 i 31 (.load false 1 t30) 128,
 i 32 (.call (.f j1) [t29,t31]) 508,
 i 33 (.G6 7 1 z0 [(0,t32)]) 1020,
 i 34 (.append 7 64 Y5 t33) 2047,
 i 35 (.b0 t3 0) 4095,
 iz (.store 1 t35 t34) 8191] true))
 (.b6 [i 21 (mv t4) 0,
 i 22 (.bin .add J5 (.c (I 1))) 1,
 i 4 (mv P8) 3] false))))))
 (.seq (.seq (.b6 [i 5 (.mv (.c (I 0))) 0] false)
 (.block 2
 (.loop [1,2,3,5]
 (.seq (.seq (.b6 [i 36 (mv t5) 0,
 i 37 (.b0 t1 2) 0,
 i 38 (.load false 1 t37) 2,
 i 39 (.l8 t38) 6,
 i 40 (.bin .lss t36 t39) 15,
 i 41 (mv t40) 31,
 ig 42 (mv t5) 41 true 63,
 ig 43 (.bin .lss t42 (.c (I 4))) 41 true 127,
 i 44 (.pick t41 t43 (.c (.pv (.bool false)))) 255] false)
 (.cond t44
 .skip
 (.exit 2)))
 (.seq (.block 3
 (.b6 [i 47 (.b0 t3 1) 0,
 i 48 (.load false 1 t47) 1,
 i 49 (.b0 t3 2) 0,
 i 50 (.load false 1 t49) 4,
 i 51 (.b0 t1 2) 0,
 i 52 (.load false 1 t51) 16,
 i 53 (mv t5) 0,
 i 54 (.i6 1 t52 t53) 112,
 i 55 (.load false 1 t54) 240,
 i 56 (.conv .i64 t55) 496,
 i 57 (.call (.f H7) [t50,.c (I 3),t56]) 1020,
 i 58 (.build z0 [(0,1,.c (I 9)),(4,1,t57)]) 2044,
 i 59 (.G6 7 1 z0 [(0,t58)]) 4092,
 i 60 (.append 7 64 t48 t59) 8191,
 i 61 (.b0 t3 1) 16383,
 iz (.store 1 t61 t60) 32767] true))
 (.b6 [i 45 (mv t5) 0,
 i 46 (.bin .add t45 (.c (I 1))) 1,
 i 5 (mv t46) 3] false))))))
 (.seq (.b6 [i 62 (.load true 67 t3) 0,
 iz (.store 67 t2 t62) 1] false)
 .ret))))⟩
def a4M:n6:=⟨2,84,[.cell 4 true 7],
 .seq (.b6 [i 2 (.box 5 t0) 0,
 i 4 (.alloc z0) 0] false)
 (.seq (.b6 [i 6 (.b0 t2 3) 0,
 i 7 (.load false 1 t6) 1,
 i 8 (.conv .i64 t7) 3,
 i 5 (mv t8) 7] false)
 (.seq (.seq (.b6 [i 9 (.b0 t2 0) 0,
 i 10 (.load false 1 t9) 1,
 i 11 (.bin .rem r9 (.c (.pv (.int .u8 (16))))) 3] false)
 (.block 0
 (.seq (.b6 [i 13 (.bin .eql x4 (.c (.pv (.int .u8 (0))))) 0,
 i 12 (mv B7) 1] false)
 (.cond x6
 (.seq (.b6 [i 14 (.build z0 [(0,1,.c (I 0))]) 0,
 iz (.store 7 t4 D2) 1] false)
 .ret)
 (.seq (.b6 [i 16 (.bin .eql x4 (.c (.pv (.int .u8 (1))))) 0,
 i 15 (mv G1) 1] false)
 (.cond G0
 (.seq (.b6 [i 17 (.build z0 [(0,1,.c (I 1))]) 0,
 iz (.store 7 t4 E0) 1] false)
 .ret)
 (.seq (.b6 [i 19 (.bin .eql x4 (.c (.pv (.int .u8 (2))))) 0,
 i 18 (mv L9) 1] false)
 (.cond J6
 (.seq (.b6 [i 20 (.b0 t2 1) 0,
 i 21 (.load false 1 K5) 1,
 i 22 (.bin .rem J5 (.c (.pv (.int .u8 (2))))) 3,
 i 23 (.conv .i64 P8) 7,
 i 24 (.build z0 [(0,1,.c (I 2)),(2,1,T9)]) 15,
 iz (.store 7 t4 Y5) 31] false)
 .ret)
 (.seq (.seq (.b6 [i 26 (.bin .eql x4 (.c (.pv (.int .u8 (3))))) 0,
 i 25 (mv t26) 1] false)
 (.cond X3
 .skip
 (.b6 [i 27 (.bin .eql x4 (.c (.pv (.int .u8 (4))))) 0,
 i 25 (mv t27) 1] false)))
 (.cond X3
 (.seq (.b6 [i 28 (mv t5) 0,
 i 29 (.bin .rem t28 (.c (I 10))) 1,
 i 30 (.build z0 [(0,1,.c (I 3)),(2,1,t29)]) 3,
 iz (.store 7 t4 t30) 7] false)
 .ret)
 (.seq (.b6 [i 32 (.bin .eql x4 (.c (.pv (.int .u8 (5))))) 0,
 i 31 (mv t32) 1] false)
 (.cond t31
 (.seq (.b6 [i 33 (mv t5) 0,
 i 34 (.build z0 [(0,1,.c (I 3)),(2,1,t33)]) 1,
 iz (.store 7 t4 t34) 3] false)
 .ret)
 (.seq (.b6 [i 36 (.bin .eql x4 (.c (.pv (.int .u8 (6))))) 0,
 i 35 (mv t36) 1] false)
 (.cond t35
 (.seq (.b6 [i 37 (mv t5) 0,
 i 38 (.bin .rem t37 (.c (I 1048576))) 1,
 i 39 (.build z0 [(0,1,.c (I 4)),(2,1,t38)]) 3,
 iz (.store 7 t4 t39) 7] false)
 .ret)
 (.seq (.b6 [i 41 (.bin .eql x4 (.c (.pv (.int .u8 (7))))) 0,
 i 40 (mv t41) 1] false)
 (.cond t40
 (.seq (.b6 [i 42 (mv t5) 0,
 i 43 (.build z0 [(0,1,.c (I 4)),(2,1,t42)]) 1,
 iz (.store 7 t4 t43) 3] false)
 .ret)
 (.seq (.seq (.b6 [i 45 (.bin .eql x4 (.c (.pv (.int .u8 (8))))) 0,
 i 44 (mv t45) 1] false)
 (.cond t44
 .skip
 (.b6 [i 46 (.bin .eql x4 (.c (.pv (.int .u8 (9))))) 0,
 i 44 (mv t46) 1] false)))
 (.cond t44
 (.seq (.b6 [i 47 (.b0 t2 0) 0,
 i 48 (.load false 1 t47) 1,
 i 49 (.bin .rem t48 (.c (.pv (.int .u8 (16))))) 3,
 i 50 (.bin .eql t49 (.c (.pv (.int .u8 (9))))) 7,
 i 51 (.b0 t2 1) 0,
 i 52 (.load false 1 t51) 16,
 i 53 (.conv .i64 t52) 48,
 i 54 (.bin .rem t53 (.c (I 8))) 112,
 i 55 (.a5Z 8 1 (.g 0) t54) 240,
 i 56 (.load false 1 t55) 496,
 i 57 (.build z0 [(0,1,.c (I 5)),(1,1,t50),(3,1,t56)]) 1023,
 iz (.store 7 t4 t57) 2047] true)
 .ret)
 (.seq (.b6 [i 59 (.bin .eql x4 (.c (.pv (.int .u8 (10))))) 0,
 i 58 (mv t59) 1] false)
 (.cond t58
 (.seq (.b6 [i 60 (mv t1) 0,
 i 61 (.load true 5 t2) 0,
 i 62 (.call (.f H6) [t60,.c (I 6),.c (I 1),t61]) 3,
 iz (.store 7 t4 t62) 7] false)
 .ret)
 (.seq (.b6 [i 64 (.bin .eql x4 (.c (.pv (.int .u8 (11))))) 0,
 i 63 (mv t64) 1] false)
 (.cond t63
 (.seq (.b6 [i 65 (mv t1) 0,
 i 66 (.load true 5 t2) 0,
 i 67 (.call (.f H6) [t65,.c (I 7),.c (I 2),t66]) 3,
 iz (.store 7 t4 t67) 7] false)
 .ret)
 (.seq (.b6 [i 69 (.bin .eql x4 (.c (.pv (.int .u8 (12))))) 0,
 i 68 (mv t69) 1] false)
 (.cond t68
 (.seq (.b6 [i 70 (mv t1) 0,
 i 71 (.load true 5 t2) 0,
 i 72 (.call (.f H6) [t70,.c (I 8),.c (I 2),t71]) 3,
 iz (.store 7 t4 t72) 7] false)
 .ret)
 (.seq (.b6 [i 74 (.bin .eql x4 (.c (.pv (.int .u8 (13))))) 0,
 i 73 (mv t74) 1] false)
 (.cond t73
 (.seq (.b6 [i 75 (mv t1) 0,
 i 76 (.load true 5 t2) 0,
 i 77 (.call (.f H6) [t75,.c (I 9),.c (I 3),t76]) 3,
 iz (.store 7 t4 t77) 7] false)
 .ret)
 (.seq (.b6 [i 79 (.bin .eql x4 (.c (.pv (.int .u8 (14))))) 0,
 i 78 (mv t79) 1] false)
 (.cond t78
 (.seq (.b6 [i 80 (.build z0 [(0,1,.c (I 10)),(1,1,.c (.pv (.bool true))),(3,1,.c (.pv (.str [97,100,100])))]) 0,
 iz (.store 7 t4 t80) 1] false)
 .ret)
 .skip))))))))))))))))))))))))))))
 (.seq (.b6 [i 81 (mv t1) 0,
 i 82 (.load true 5 t2) 0,
 i 83 (.call (.f H6) [t81,.c (I 11),.c (I 4),t82]) 3,
 iz (.store 7 t4 t83) 7] false)
 .ret)))⟩
def a5p:n6:=⟨1,5,[.cell 2 true 7],
 .seq (.b6 [i 2 (.alloc z0) 0] false)
 (.seq (.b6 [i 3 (mv t0) 0,
 i 4 (.build z0 [(0,1,.c (I 5)),(3,1,t3)]) 1,
 iz (.store 7 t2 t4) 3] false)
 .ret)⟩
def M5:n6:=⟨0,2,[.tmp 0],
 .seq (.b6 [i 0 (.mv (.c (.emp 1))) 0] false)
 (.seq (.b6 [i 1 (.G6 1 5 [.pv (.str [])] [(0,.c (.pv (.str [70,111,110,116]))),(1,.c (.pv (.str [80,97,116,116,101,114,110]))),(2,.c (.pv (.str [69,110,99,111,100,105,110,103]))),(3,.c (.pv (.str [70,111,114,109]))),(4,.c (.pv (.str [71,101,110,101,114,105,99])))]) 0,
 i 0 (mv t1) 1] false)
 .ret)⟩
def E7:n6:=⟨1,8,[.tmp 2],
 .seq (.b6 [i 2 (.mv (.c (.emp 7))) 0] false)
 (.seq (.seq (.b6 [i 3 (mv t0) 0,
 i 4 (.a9c false t3) 1] false)
 (.cond t4
 (.seq (.b6 [i 2 (.mv (.c (.emp 7))) 0] false)
 .ret)
 .skip))
 (.seq (.b6 [i 5 (.G6 7 0 z0 []) 0,
 i 6 (mv t0) 0,
 i 7 (.append 7 64 t5 t6) 3,
 i 2 (mv t7) 7] false)
 .ret))⟩
def a4n:n6:=⟨2,48,[.cell 4 true 67,.tmp 5],
 .seq (.b6 [i 2 (.box 67 t0) 0,
 i 4 (.alloc z1) 0,
 i 5 (.mv (.c (I 0))) 0] false)
 (.seq (.b6 [i 12 (.load true 67 t2) 0,
 i 13 (.build z1 [(0,67,x6)]) 1,
 i 6 (.alloc z1) 0,
 iz (.store 67 t6 B7) 7] false)
 (.seq (.b6 [i 14 (.load true 67 t6) 0,
 i 15 (.mkf (.func B6) [D2] []) 1,
 i 7 (.alloc [.pv .nilFunc]) 0,
 iz (.store 1 t7 G0) 7] false)
 (.seq (.b6 [i 16 (.mkf (.func O8) [] [t7,t2]) 0,
 i 8 (mv G1) 1] false)
 (.seq (.b6 [i 17 (.b0I) 0,
 i 18 (mv t8) 0,
 i 19 (.load true 67 t6) 0,
 i 20 (.mkf (.func A2) [L9] []) 4,
 i 21 (.call J6 [.c (I 3),K5]) 14,
 iz (.insert E0 (.c (.pv (.str [100,101,102,105,110,101,114,101,115,111,117,114,99,101]))) J5) 31,
 i 22 (mv t8) 0,
 i 23 (.load true 67 t6) 0,
 i 24 (.mkf (.func A3) [T9] []) 128,
 i 25 (.call P8 [.c (I 2),Y5]) 478,
 iz (.insert E0 (.c (.pv (.str [102,105,110,100,114,101,115,111,117,114,99,101]))) X3) 991,
 i 26 (mv t8) 0,
 i 27 (.load true 67 t6) 0,
 i 28 (.mkf (.func A4) [t27] []) 4096,
 i 29 (.call t26 [.c (I 2),t28]) 15326,
 iz (.insert E0 (.c (.pv (.str [117,110,100,101,102,105,110,101,114,101,115,111,117,114,99,101]))) t29) 31711,
 i 30 (mv t8) 0,
 i 31 (.load true 67 t6) 0,
 i 32 (.mkf (.func A5) [t31] []) 131072,
 i 33 (.call t30 [.c (I 2),t32]) 490462,
 iz (.insert E0 (.c (.pv (.str [114,101,115,111,117,114,99,101,115,116,97,116,117,115]))) t33) 1014751,
 i 34 (mv E0) 2097151,
 i 9 (mv t34) 4194303] true)
 (.seq (.b6 [i 36 (mv t9) 0,
 i 37 (mv t1) 0,
 i 38 (.lookup t36 t37 (.pv .nilFunc)) 3,
 i 35 (mv t38) 7,
 i 39 (.extract t35 0) 15,
 i 40 (.extract t35 1) 15,
 i 10 (mv t39) 31,
 i 11 (mv t40) 127] false)
 (.seq (.seq (.b6 [i 41 (mv x4) 0,
 i 42 (.not t41) 1] false)
 (.cond t42
 (.seq (.b6 [i 43 (.load true 67 t2) 0,
 iz (.store 67 t4 t43) 1,
 i 5 (.mv (.c (I 24))) 3] false)
 .ret)
 .skip))
 (.seq (.b6 [i 44 (mv r9) 0,
 i 45 (.call t44 []) 1,
 i 46 (.extract t45 0) 3,
 i 47 (.extract t45 1) 3,
 iz (.store 67 t4 t46) 15,
 i 5 (mv t47) 31] false)
 .ret)))))))⟩
def R1:n6:=⟨2,149,[.tmp 4],
 .seq (.b6 [i 2 (.box 67 t0) 0,
 i 3 (.box 67 t1) 0,
 i 4 (.mv (.c (.pv (.bool false)))) 0] false)
 (.seq (.seq (.b6 [i 9 (.b0 t2 0) 0,
 i 10 (.load false 1 t9) 1,
 i 11 (.b0 t3 0) 0,
 i 12 (.load false 1 x4) 4,
 i 13 (.call (.f q9) [r9,x6]) 15,
 i 14 (.not B7) 31,
 i 15 (mv D2) 63,
 ig 16 (.b0 t2 1) 15 false 127,
 ig 17 (.load false 1 G1) 15 false 255,
 ig 18 (.b0 t3 1) 15 false 127,
 ig 19 (.load false 1 J6) 15 false 639,
 ig 20 (.call (.f q9) [E0,L9]) 15 false 2047,
 ig 21 (.not K5) 15 false 4095,
 i 22 (.pick G0 (.c (.pv (.bool true))) J5) 8191,
 i 23 (mv P8) 16383,
 ig 24 (.b0 t2 2) 23 false 32767,
 ig 25 (.load false 1 Y5) 23 false 65535,
 ig 26 (.b0 t3 2) 23 false 32767,
 ig 27 (.load false 1 t26) 23 false 163839,
 ig 28 (.call (.f O1) [X3,t27]) 23 false 524287,
 ig 29 (.not t28) 23 false 1048575,
 i 30 (.pick T9 (.c (.pv (.bool true))) t29) 2097151,
 i 31 (mv t30) 4194303,
 ig 32 (.b0 t2 3) 31 false 8388607,
 ig 33 (.load false 1 t32) 31 false 16777215,
 ig 34 (.l8 t33) 31 false 33554431,
 ig 35 (.b0 t3 3) 31 false 8388607,
 ig 36 (.load false 1 t35) 31 false 75497471,
 ig 37 (.l8 t36) 31 false 209715199,
 ig 38 (.bin .neq t34 t37) 31 false 536870911,
 i 39 (.pick t31 (.c (.pv (.bool true))) t38) 1073741823,
 i 40 (mv t39) 2147483647,
 ig 41 (.b0 t2 4) 40 false 4294967295,
 ig 42 (.load false 1 t41) 40 false 8589934591,
 ig 43 (.b0 t3 4) 40 false 4294967295,
 ig 44 (.load false 1 t43) 40 false 21474836479,
 ig 45 (.bin .neq t42 t44) 40 false 68719476735,
 i 46 (.pick t40 (.c (.pv (.bool true))) t45) 137438953471,
 i 47 (mv t46) 274877906943,
 ig 48 (.b0 t2 62) 47 false 549755813887,
 ig 49 (.load false 1 t48) 47 false 1099511627775,
 ig 50 (.l8 t49) 47 false 2199023255551,
 ig 51 (.b0 t3 62) 47 false 549755813887,
 ig 52 (.load false 1 t51) 47 false 4947802324991,
 ig 53 (.l8 t52) 47 false 13743895347199,
 ig 54 (.bin .neq t50 t53) 47 false 35184372088831,
 i 55 (.pick t47 (.c (.pv (.bool true))) t54) 70368744177663,
 i 56 (mv t55) 140737488355327,
 ig 57 (.b0 t2 65) 56 false 281474976710655,
 ig 58 (.load false 1 t57) 56 false 562949953421311,
 ig 59 (.b0 t3 65) 56 false 281474976710655,
 ig 60 (.load false 1 t59) 56 false 1407374883553279,
 ig 61 (.bin .neq t58 t60) 56 false 4503599627370495,
 i 62 (.pick t56 (.c (.pv (.bool true))) t61) 9007199254740991,
 i 63 (mv t62) 18014398509481983,
 ig 64 (.b0 t2 66) 63 false 36028797018963967,
 ig 65 (.load false 1 t64) 63 false 72057594037927935,
 ig 66 (.b0 t3 66) 63 false 36028797018963967,
 ig 67 (.load false 1 t66) 63 false 180143985094819839,
 ig 68 (.bin .neq t65 t67) 63 false 576460752303423487,
 i 69 (.pick t63 (.c (.pv (.bool true))) t68) 1152921504606846975] false)
 (.cond t69
 (.seq (.b6 [i 4 (.mv (.c (.pv (.bool false)))) 0] false)
 .ret)
 .skip))
 (.seq (.seq (.b6 [i 5 (.mv (.c (I 0))) 0] false)
 (.block 0
 (.loop [2,3,5]
 (.seq (.seq (.b6 [i 70 (mv t5) 0,
 i 71 (.b0 t2 3) 0,
 i 72 (.load false 1 t71) 2,
 i 73 (.l8 t72) 6,
 i 74 (.bin .lss t70 t73) 15] false)
 (.cond t74
 .skip
 (.exit 0)))
 (.seq (.block 1
 (.seq (.b6 [i 77 (.b0 t2 3) 0,
 i 78 (.load false 1 t77) 1,
 i 79 (mv t5) 0,
 i 80 (.i6 3 t78 t79) 7,
 i 81 (.load true 3 t80) 15,
 i 82 (.b0 t3 3) 0,
 i 83 (.load false 1 t82) 32,
 i 84 (mv t5) 0,
 i 85 (.i6 3 t83 t84) 224,
 i 86 (.load true 3 t85) 480,
 i 6 (.alloc [I 0,.emp 7,I 0]) 0,
 i 7 (.alloc [I 0,.emp 7,I 0]) 0,
 iz (.store 3 t6 t81) 3103,
 iz (.store 3 t7 t86) 8191] true)
 (.seq (.b6 [i 87 (.b0 t6 0) 0,
 i 88 (.load false 1 t87) 1,
 i 89 (.b0 t7 0) 0,
 i 90 (.load false 1 t89) 4,
 i 91 (.bin .neq t88 t90) 15,
 i 92 (mv t91) 31,
 ig 93 (.b0 t6 2) 92 false 63,
 ig 94 (.load false 1 t93) 92 false 127,
 ig 95 (.b0 t7 2) 92 false 63,
 ig 96 (.load false 1 t95) 92 false 319,
 ig 97 (.bin .neq t94 t96) 92 false 1023,
 i 98 (.pick t92 (.c (.pv (.bool true))) t97) 2047,
 i 99 (mv t98) 4095,
 ig 100 (.b0 t6 1) 99 false 8191,
 ig 101 (.load false 1 c1D) 99 false 16383,
 ig 102 (.b0 t7 1) 99 false 8191,
 ig 103 (.load false 1 c1F) 99 false 40959,
 ig 104 (.call (.f O1) [c1E,c1G]) 99 false 131071,
 ig 105 (.not c1H) 99 false 262143,
 i 106 (.pick t99 (.c (.pv (.bool true))) c1I) 524287] false)
 (.cond c1J
 (.seq (.b6 [i 4 (.mv (.c (.pv (.bool false)))) 0] false)
 .ret)
 .skip))))
 (.b6 [i 75 (mv t5) 0,
 i 76 (.bin .add t75 (.c (I 1))) 1,
 i 5 (mv t76) 3] false))))))
 (.seq (.seq (.b6 [i 8 (.mv (.c (I 0))) 0] false)
 (.block 2
 (.loop [2,3,8]
 (.seq (.seq (.b6 [i 107 (mv t8) 0,
 i 108 (.b0 t2 62) 0,
 i 109 (.load false 1 c1L) 2,
 i 110 (.l8 c1M) 6,
 i 111 (.bin .lss c1K c1N) 15] false)
 (.cond c1O
 .skip
 (.exit 2)))
 (.seq (.block 3
 (.seq (.b6 [i 114 (.b0 t2 62) 0,
 i 115 (.load false 1 b7i) 1,
 i 116 (mv t8) 0,
 i 117 (.i6 57 c1R c1S) 7,
 i 118 (.load true 57 c1T) 15,
 i 119 (.b0 t3 62) 0,
 i 120 (.load false 1 c1V) 32,
 i 121 (mv t8) 0,
 i 122 (.i6 57 c1W c3k) 224,
 i 123 (.load true 57 c3l) 480,
 i 124 (.call (.f J4) [c1U,c3m]) 1023,
 i 125 (.not c3n) 2047] true)
 (.cond c3o
 (.seq (.b6 [i 4 (.mv (.c (.pv (.bool false)))) 0] false)
 .ret)
 .skip)))
 (.b6 [i 112 (mv t8) 0,
 i 113 (.bin .add c1P (.c (I 1))) 1,
 i 8 (mv c1Q) 3] false))))))
 (.seq (.b6 [i 126 (.b0 t2 5) 0,
 i 127 (.load true 57 c3p) 1,
 i 128 (.b0 t3 5) 0,
 i 129 (.load true 57 c3r) 4,
 i 130 (.call (.f J4) [c3q,c3s]) 15,
 i 131 (mv c3t) 31,
 ig 132 (.b0 t2 63) 131 true 63,
 ig 133 (.load false 1 c1X) 131 true 127,
 ig 134 (.l8 c4Y) 131 true 255,
 ig 135 (.b0 t3 63) 131 true 63,
 ig 136 (.load false 1 c5a) 131 true 575,
 ig 137 (.l8 c5b) 131 true 1599,
 ig 138 (.bin .eql c4Z c5c) 131 true 4095,
 i 139 (.pick c3u c5d (.c (.pv (.bool false)))) 8191,
 i 140 (mv c5T) 16383,
 ig 141 (.b0 t2 64) 140 true 32767,
 ig 142 (.load false 1 c5V) 140 true 65535,
 ig 143 (.l8 c5W) 140 true 131071,
 ig 144 (.b0 t3 64) 140 true 32767,
 ig 145 (.load false 1 c5Y) 140 true 294911,
 ig 146 (.l8 c5Z) 140 true 819199,
 ig 147 (.bin .eql c5X c6a) 140 true 2097151,
 i 148 (.pick c5U c6b (.c (.pv (.bool false)))) 4194303,
 i 4 (mv c6c) 8388607] false)
 .ret))))⟩
def c_heap_Check:n6:=⟨1,32,[.tmp 2],
 .seq (.b6 [i 2 (.mv (.c (I 0))) 0] false)
 (.scope
 (.seq (.seq (.b6 [i 9 (mv t0) 0,
 i 10 (.call (.f a2R) [t9]) 1,
 i 11 (.bin .gtr r9 (.c (I 20000))) 3] false)
 (.cond x4
 (.seq (.b6 [i 2 (.mv (.c (I 210))) 0] false)
 .ret)
 .skip))
 (.seq (.b6 [i 12 (mv t0) 0,
 i 13 (.build [.emp 7] [(0,1,x6)]) 1,
 i 3 (.alloc [.emp 7]) 0,
 iz (.store 1 t3 B7) 7,
 i 4 (.mv (.c (I 0))) 15] false)
 (.seq .skip
 (.seq (.seq (.b6 [i 14 (mv t0) 0,
 i 15 (.l8 D2) 1,
 i 16 (.mv (.c (I 0))) 0] false)
 (.block 0
 (.loop [3,4,14,15,16]
 (.seq (.b6 [i 17 (.bin .lss G1 G0) 0] false)
 (.seq (.cond E0
 .skip
 (.exit 0))
 (.seq (.block 1
 (.seq (.b6 [i 18 (.i6 7 D2 G1) 0,
 i 19 (.load true 7 J6) 1,
 i 6 (.alloc z2) 0,
 iz (.store 7 t6 L9) 7] false)
 (.seq (.b6 [i 20 (.build [.pv .nilFunc,.pv .nilFunc,.pv .nilFunc] [(0,1,.f n_heap_store_bare),(1,1,.f n_heap_store_limited),(2,1,.f n_heap_store_keyed)]) 0,
 i 21 (.mv (.c (I 0))) 0] false)
 (.block 2
 (.loop [3,4,6,14,15,16,20,21]
 (.seq (.b6 [i 22 (.bin .lss J5 (.c (I 3))) 0] false)
 (.seq (.cond P8
 .skip
 (.exit 2))
 (.seq (.block 3
 (.seq (.b6 [i 23 (.index false 3 1 K5 J5) 0,
 i 8 (mv T9) 1] false)
 (.seq (.b6 [i 24 (mv t8) 0,
 i 25 (.load true 1 t3) 0,
 i 26 (.load true 7 t6) 0,
 i 27 (.call Y5 [X3,t26]) 7,
 i 28 (.not t27) 15] false)
 (.cond t28
 (.seq (.b6 [i 4 (.mv (.c (I 210))) 0] false)
 (.exit 0))
 .skip))))
 (.b6 [i 29 (.bin .add J5 (.c (I 1))) 0,
 i 21 (mv t29) 1] false)))))))))
 (.b6 [i 30 (.bin .add G1 (.c (I 1))) 0,
 i 16 (mv t30) 1] false)))))))
 (.seq (.b6 [i 31 (mv t4) 0,
 i 2 (mv t31) 1] false)
 .ret))))))⟩
def a4j:n6:=⟨0,133,[.tmp 0],
 .seq (.b6 [i 0 (.mv (.c (.pv (.bool false)))) 0] false)
 (.seq (.b6 [i 10 (.call (.f r7) [.c (.pv (.str [98]))]) 0,
 i 11 (.call (.f L4) [.c (I 8)]) 1,
 i 12 (.G6 7 2 z0 [(0,r9),(1,x4)]) 3,
 i 13 (.call (.f x3) [x6]) 7,
 i 14 (.call (.f C5) [B7,.c (.pv (.str [100,101,102]))]) 15,
 i 9 (mv D2) 31,
 i 15 (.extract t9 0) 63,
 i 16 (.extract t9 1) 63,
 i 1 (.alloc z1) 0,
 iz (.store 67 t1 G0) 383,
 i 2 (mv G1) 1023] false)
 (.seq (.b6 [i 18 (.load true 67 t1) 0,
 i 19 (.call (.f r7) [.c (.pv (.str [98]))]) 0,
 i 20 (.call (.f I8) [J6,L9]) 3,
 i 17 (mv K5) 7,
 i 21 (.extract E0 0) 15,
 i 22 (.extract E0 1) 15,
 i 3 (.alloc z0) 0,
 iz (.store 7 t3 J5) 95,
 i 4 (mv P8) 255] true)
 (.seq (.b6 [i 24 (.build z0 [(0,1,.c (I 1))]) 0,
 i 25 (.call (.f r7) [.c (.pv (.str [97]))]) 0,
 i 26 (.call (.f L4) [.c (I 1)]) 2,
 i 27 (.call (.f r7) [.c (.pv (.str [98]))]) 6,
 i 28 (.call (.f L4) [.c (I 2)]) 14,
 i 29 (.G6 7 5 z0 [(0,Y5),(1,X3),(2,t26),(3,t27),(4,t28)]) 31,
 i 30 (.call (.f x3) [t29]) 63,
 i 31 (.call (.f C5) [t30,.c (.pv (.str [62,62]))]) 127,
 i 23 (mv t31) 255,
 i 32 (.extract T9 0) 511,
 i 33 (.extract T9 1) 511,
 i 5 (.alloc z1) 0,
 iz (.store 67 t5 t32) 3071,
 i 6 (mv t33) 8191] false)
 (.seq (.b6 [i 35 (.call (.f x3) [.c (.emp 7)]) 0,
 i 36 (.call (.f C5) [t35,.c (.pv (.str [101,110,100]))]) 1,
 i 34 (mv t36) 3,
 i 37 (.extract t34 0) 7,
 i 38 (.extract t34 1) 7,
 i 7 (.alloc z1) 0,
 iz (.store 67 t7 t37) 47,
 i 8 (mv t38) 127] false)
 (.seq (.b6 [i 39 (mv t2) 0,
 i 40 (.bin .eql t39 (.c (I 0))) 1,
 i 41 (mv t40) 3,
 ig 42 (mv t4) 41 true 7,
 i 43 (.pick t41 t42 (.c (.pv (.bool false)))) 15,
 i 44 (mv t43) 31,
 ig 45 (.load true 7 t3) 44 true 63,
 ig 46 (.call (.f L4) [.c (I 8)]) 44 true 63,
 ig 47 (.eqs false [0,1,0,2,0,0,0] t45 t46) 44 true 255,
 i 48 (.pick t44 t47 (.c (.pv (.bool false)))) 511,
 i 49 (mv t48) 1023,
 ig 50 (mv t6) 49 true 2047,
 ig 51 (.bin .eql t50 (.c (I 0))) 49 true 4095,
 i 52 (.pick t49 t51 (.c (.pv (.bool false)))) 8191,
 i 53 (mv t52) 16383,
 ig 54 (.b0 t5 0) 53 true 32767,
 ig 55 (.load false 1 t54) 53 true 65535,
 ig 56 (.call (.f V1) [.c (I 4)]) 53 true 32767,
 ig 57 (.G6 7 1 z0 [(0,t56)]) 53 true 163839,
 ig 58 (.call (.f m6) [t55,t57]) 53 true 524287,
 i 59 (.pick t53 t58 (.c (.pv (.bool false)))) 1048575,
 i 60 (mv t59) 2097151,
 ig 61 (.b0 t5 2) 60 true 4194303,
 ig 62 (.load false 1 t61) 60 true 8388607,
 ig 63 (.l8 t62) 60 true 16777215,
 ig 64 (.bin .eql t63 (.c (I 5))) 60 true 33554431,
 i 65 (.pick t60 t64 (.c (.pv (.bool false)))) 67108863,
 i 66 (mv t65) 134217727,
 ig 67 (.b0 t5 2) 66 true 268435455,
 ig 68 (.load false 1 t67) 66 true 536870911,
 ig 69 (.i6 7 t68 (.c (I 4))) 66 true 1073741823,
 ig 70 (.b0 t69 5) 66 true 2147483647,
 ig 71 (.load false 1 t70) 66 true 4294967295,
 ig 72 (.bin .eql t71 (.c (I 2))) 66 true 8589934591,
 i 73 (.pick t66 t72 (.c (.pv (.bool false)))) 17179869183,
 i 74 (mv t73) 34359738367,
 ig 75 (.b0 t5 2) 74 true 68719476735,
 ig 76 (.load false 1 t75) 74 true 137438953471,
 ig 77 (.i6 7 t76 (.c (I 4))) 74 true 274877906943,
 ig 78 (.b0 t77 3) 74 true 549755813887,
 ig 79 (.load false 1 t78) 74 true 1099511627775,
 ig 80 (.l8 t79) 74 true 2199023255551,
 ig 81 (.bin .eql t80 (.c (I 2))) 74 true 4398046511103,
 i 82 (.pick t74 t81 (.c (.pv (.bool false)))) 8796093022207,
 i 83 (mv t82) 17592186044415,
 ig 84 (mv t8) 83 true 35184372088831,
 ig 85 (.bin .eql t84 (.c (I 0))) 83 true 70368744177663,
 i 86 (.pick t83 t85 (.c (.pv (.bool false)))) 140737488355327,
 i 87 (mv t86) 281474976710655,
 ig 88 (.b0 t7 1) 87 true 562949953421311,
 ig 89 (.load false 1 t88) 87 true 1125899906842623,
 ig 90 (.l8 t89) 87 true 2251799813685247,
 ig 91 (.bin .eql t90 (.c (I 2))) 87 true 4503599627370495,
 i 92 (.pick t87 t91 (.c (.pv (.bool false)))) 9007199254740991,
 i 93 (mv t92) 18014398509481983,
 ig 94 (.call (.f L4) [.c (I 7)]) 93 true 36028797018963967,
 ig 95 (.G6 7 1 z0 [(0,t94)]) 93 true 72057594037927935,
 ig 96 (.call (.f r7) [.c (.pv (.str [97]))]) 93 true 72057594037927935,
 ig 97 (.G6 7 1 z0 [(0,t96)]) 93 true 216172782113783807,
 ig 98 (.call (.f J0) [.c (.pv (.str [108,111,97,100])),t95,t97]) 93 true 576460752303423487,
 i 99 (.pick t93 t98 (.c (.pv (.bool false)))) 1152921504606846975,
 i 100 (mv t99) 2305843009213693951,
 ig 101 (.call (.f L4) [.c (I 5)]) 100 true 4611686018427387903,
 ig 102 (.G6 7 1 z0 [(0,c1E)]) 100 true 9223372036854775807,
 ig 103 (.call (.f r7) [.c (.pv (.str [120]))]) 100 true 9223372036854775807,
 ig 104 (.G6 7 1 z0 [(0,c1G)]) 100 true 27670116110564327423,
 ig 105 (.call (.f J0) [.c (.pv (.str [108,111,97,100])),c1F,c1H]) 100 true 73786976294838206463,
 i 106 (.pick c1D c1I (.c (.pv (.bool false)))) 147573952589676412927,
 i 107 (mv c1J) 295147905179352825855,
 ig 108 (.call (.f V1) [.c (I 1)]) 107 true 590295810358705651711,
 ig 109 (.call (.f J1) [.c (.pv (.bool true))]) 107 true 1180591620717411303423,
 ig 110 (.G6 7 2 z0 [(0,c1L),(1,c1M)]) 107 true 2361183241434822606847,
 ig 111 (.call (.f r7) [.c (.pv (.str [120]))]) 107 true 2361183241434822606847,
 ig 112 (.G6 7 1 z0 [(0,c1O)]) 107 true 7083549724304467820543,
 ig 113 (.call (.f J0) [.c (.pv (.str [119,104,101,114,101])),c1N,c1P]) 107 true 18889465931478580854783,
 i 114 (.pick c1K c1Q (.c (.pv (.bool false)))) 37778931862957161709567,
 i 115 (mv b7i) 75557863725914323419135,
 ig 116 (.call (.f J1) [.c (.pv (.bool false))]) 115 true 151115727451828646838271,
 ig 117 (.G6 7 1 z0 [(0,c1S)]) 115 true 302231454903657293676543,
 ig 118 (.call (.f V1) [.c (I 2)]) 115 true 302231454903657293676543,
 ig 119 (.call (.f r7) [.c (.pv (.str [98]))]) 115 true 906694364710971881029631,
 ig 120 (.G6 7 2 z0 [(0,c1U),(1,c1V)]) 115 true 2115620184325601055735807,
 ig 121 (.call (.f J0) [.c (.pv (.str [107,110,111,119,110])),c1T,c1W]) 115 true 4835703278458516698824703,
 i 122 (.pick c1R c3k (.c (.pv (.bool false)))) 9671406556917033397649407,
 i 123 (mv c3l) 19342813113834066795298815,
 ig 124 (.call (.f r7) [.c (.pv (.str [98]))]) 123 true 38685626227668133590597631,
 ig 125 (.G6 7 1 z0 [(0,c3n)]) 123 true 77371252455336267181195263,
 ig 126 (.call (.f X7) [.c (.pv (.str [108,111,97,100])),.c (I 24),c3o]) 123 true 154742504910672534362390527,
 i 127 (.pick c3m c3p (.c (.pv (.bool false)))) 309485009821345068724781055,
 i 128 (mv c3q) 618970019642690137449562111,
 ig 129 (.build z0 []) 128 true 1237940039285380274899124223,
 ig 130 (.G6 7 1 z0 [(0,c3s)]) 128 true 2475880078570760549798248447,
 ig 131 (.call (.f X7) [.c (.pv (.str [108,111,97,100])),.c (I 22),c3t]) 128 true 4951760157141521099596496895,
 i 132 (.pick c3r c3u (.c (.pv (.bool false)))) 9903520314283042199192993791,
 i 0 (mv c1X) 19807040628566084398385987583] true)
 .ret)))))⟩
def a4e:n6:=⟨2,19,[.cell 4 true 7,.tmp 5],
 .seq (.b6 [i 2 (.box 67 t0) 0,
 i 3 (.box 7 t1) 0,
 i 4 (.alloc z0) 0,
 i 5 (.mv (.c (.pv (.bool false)))) 0] false)
 (.seq (.b6 [i 10 (.load true 67 t2) 0,
 i 11 (.build z1 [(0,67,r9)]) 1,
 i 12 (.load true 7 t3) 0,
 i 13 (.call (.f k7) [x4,x6]) 7,
 i 9 (mv B7) 15,
 i 14 (.extract t9 0) 31,
 i 15 (.extract t9 1) 31,
 i 16 (.extract t9 2) 31,
 i 6 (.alloc z0) 0,
 i 7 (.alloc z0) 0,
 iz (.store 7 t6 D2) 831,
 iz (.store 7 t7 G0) 1919,
 i 8 (mv G1) 4095] false)
 (.seq (.b6 [i 17 (.load true 7 t7) 0,
 i 18 (mv t8) 0,
 iz (.store 7 t4 E0) 1,
 i 5 (mv J6) 7] false)
 .ret))⟩
def b1D:n6:=⟨3,15,[.cell 6 true 67,.tmp 7],
 .seq (.b6 [i 3 (.box 67 t0) 0,
 i 6 (.alloc z1) 0,
 i 7 (.mv (.c (I 0))) 0] false)
 (.seq (.b6 [i 8 (mv t2) 0,
 i 9 (.b0 t3 0) 1,
 iz (.store 1 t9 t8) 3] false)
 (.seq (.b6 [i 10 (.load true 67 t3) 0,
 i 11 (mv t1) 0,
 i 12 (.call (.f C5) [r9,x4]) 3,
 i 13 (.extract x6 0) 7,
 i 14 (.extract x6 1) 7,
 iz (.store 67 t6 B7) 31,
 i 7 (mv D2) 63] false)
 .ret))⟩
def M6:n6:=⟨2,26,[.tmp 4],
 .seq (.b6 [i 4 (.mv (.c (.pv (.bool false)))) 0] false)
 (.seq (.seq (.b6 [i 6 (mv t0) 0,
 i 7 (.l8 t6) 1,
 i 8 (mv t1) 0,
 i 9 (.l8 t8) 4,
 i 10 (.bin .neq t7 t9) 15] false)
 (.cond r9
 (.seq (.b6 [i 4 (.mv (.c (.pv (.bool false)))) 0] false)
 .ret)
 .skip))
 (.seq (.seq (.b6 [i 11 (mv t0) 0,
 i 12 (.l8 x4) 1,
 i 13 (.mv (.c (I 0))) 0] false)
 (.block 0
 (.loop [0,1,12,13]
 (.seq (.b6 [i 14 (.bin .lss B7 x6) 0] false)
 (.seq (.cond D2
 .skip
 (.exit 0))
 (.seq (.block 1
 (.seq (.b6 [i 15 (mv B7) 0,
 i 5 (mv G0) 1] false)
 (.seq (.b6 [i 16 (mv t0) 0,
 i 17 (mv t5) 0,
 i 18 (.i6 7 G1 E0) 3,
 i 19 (.load true 7 J6) 7,
 i 20 (mv t1) 0,
 i 21 (mv t5) 0,
 i 22 (.i6 7 K5 J5) 48,
 i 23 (.load true 7 P8) 112,
 i 24 (.eqs true [0,1,0,2,0,0,0] L9 T9) 255] true)
 (.cond Y5
 (.seq (.b6 [i 4 (.mv (.c (.pv (.bool false)))) 0] false)
 .ret)
 .skip))))
 (.b6 [i 25 (.bin .add B7 (.c (I 1))) 0,
 i 13 (mv X3) 1] false)))))))
 (.seq (.b6 [i 4 (.mv (.c (.pv (.bool true)))) 0] false)
 .ret)))⟩
def a4i:n6:=⟨1,6,[.cell 2 true 7],
 .seq (.b6 [i 2 (.alloc z0) 0] false)
 (.seq (.seq (.b6 [i 3 (mv t0) 0] false)
 (.cond t3
 (.seq (.b6 [i 4 (.build z0 [(0,1,.c (I 2)),(2,1,.c (I 1))]) 0,
 iz (.store 7 t2 t4) 1] false)
 .ret)
 .skip))
 (.seq (.b6 [i 5 (.build z0 [(0,1,.c (I 2))]) 0,
 iz (.store 7 t2 t5) 1] false)
 .ret))⟩
def a9L:n6:=⟨2,26,[.cell 4 true 67,.tmp 5],
 .seq (.b6 [i 2 (.box 67 t0) 0,
 i 4 (.alloc z1) 0,
 i 5 (.mv (.c (I 0))) 0] false)
 (.seq (.b6 [i 9 (.b0I) 0,
 iz (.insert t9 (.c (.pv (.str [100,105,99,116]))) (.f R4)) 1,
 iz (.insert t9 (.c (.pv (.str [98,101,103,105,110]))) (.f N6)) 1,
 iz (.insert t9 (.c (.pv (.str [101,110,100]))) (.f U7)) 1,
 iz (.insert t9 (.c (.pv (.str [100,101,102]))) (.f U6)) 1,
 iz (.insert t9 (.c (.pv (.str [108,111,97,100]))) (.f C6)) 1,
 iz (.insert t9 (.c (.pv (.str [115,116,111,114,101]))) (.f s8)) 1,
 iz (.insert t9 (.c (.pv (.str [107,110,111,119,110]))) (.f N7)) 1,
 iz (.insert t9 (.c (.pv (.str [117,110,100,101,102]))) (.f N8)) 1,
 iz (.insert t9 (.c (.pv (.str [119,104,101,114,101]))) (.f s9)) 1,
 iz (.insert t9 (.c (.pv (.str [99,117,114,114,101,110,116,100,105,99,116]))) (.f B4)) 1,
 iz (.insert t9 (.c (.pv (.str [99,111,117,110,116,100,105,99,116,115,116,97,99,107]))) (.f y0)) 1,
 iz (.insert t9 (.c (.pv (.str [109,97,120,108,101,110,103,116,104]))) (.f D8)) 1,
 iz (.insert t9 (.c (.pv (.str [108,101,110,103,116,104]))) (.f K3)) 1,
 iz (.insert t9 (.c (.pv (.str [103,101,116]))) (.f U8)) 1,
 iz (.insert t9 (.c (.pv (.str [112,117,116]))) (.f U9)) 1,
 iz (.insert t9 (.c (.pv (.str [99,111,112,121]))) (.f K2)) 1,
 iz (.insert t9 (.c (.pv (.str [60,60]))) (.f R5)) 1,
 iz (.insert t9 (.c (.pv (.str [62,62]))) (.f R6)) 1,
 i 10 (mv t9) 524287,
 i 6 (mv r9) 1048575] false)
 (.seq (.b6 [i 12 (mv t6) 0,
 i 13 (mv t1) 0,
 i 14 (.lookup x6 B7 (.pv .nilFunc)) 3,
 i 11 (mv D2) 7,
 i 15 (.extract x4 0) 15,
 i 16 (.extract x4 1) 15,
 i 7 (mv G0) 31,
 i 8 (mv G1) 127] false)
 (.seq (.seq (.b6 [i 17 (mv t8) 0,
 i 18 (.not E0) 1] false)
 (.cond J6
 (.seq (.b6 [i 19 (.load true 67 t2) 0,
 iz (.store 67 t4 L9) 1,
 i 5 (.mv (.c (I 24))) 3] false)
 .ret)
 .skip))
 (.seq (.b6 [i 20 (mv t7) 0,
 i 21 (.load true 67 t2) 0,
 i 22 (.build z1 [(0,67,J5)]) 2,
 i 23 (.call K5 [P8]) 7,
 i 24 (.extract T9 0) 15,
 i 25 (.extract T9 1) 15,
 iz (.store 67 t4 Y5) 63,
 i 5 (mv X3) 127] false)
 .ret))))⟩
def a5m:n6:=⟨2,34,[.cell 4 true 7,.tmp 5],
 .seq (.b6 [i 3 (.box 7 t1) 0,
 i 4 (.alloc z0) 0,
 i 5 (.mv (.c (I 0))) 0] false)
 (.seq (.seq (.b6 [i 8 (mv t0) 0,
 i 9 (.load true 7 t3) 0,
 i 10 (.call (.f E2) [t8,t9]) 3,
 i 11 (.not r9) 7] false)
 (.cond x4
 (.seq (.b6 [i 12 (.build z0 []) 0,
 iz (.store 7 t4 x6) 1,
 i 5 (.mv (.c (I 2))) 3] false)
 .ret)
 .skip))
 (.seq (.seq (.b6 [i 13 (.b0 t3 0) 0,
 i 14 (.load false 1 B7) 1,
 i 15 (.bin .neq D2 (.c (I 6))) 3] false)
 (.cond G0
 (.seq (.b6 [i 16 (.load true 7 t3) 0,
 i 17 (.call (.f V5) [G1]) 1,
 i 18 (.extract E0 0) 3,
 i 19 (.extract E0 1) 3,
 iz (.store 7 t4 J6) 15,
 i 5 (mv L9) 31] false)
 .ret)
 .skip))
 (.seq (.b6 [i 21 (mv t0) 0,
 i 22 (.load true 7 t3) 0,
 i 23 (.call (.f V0) [J5,P8]) 3,
 i 20 (mv T9) 7,
 i 24 (.extract K5 0) 15,
 i 25 (.extract K5 1) 15,
 i 6 (mv Y5) 31,
 i 7 (mv X3) 127] false)
 (.seq (.seq (.b6 [i 26 (mv t6) 0,
 i 27 (.a0m t26) 1,
 i 28 (.bin .gtr t27 (.c (I 100))) 3] false)
 (.cond t28
 (.seq (.b6 [i 29 (.build z0 []) 0,
 iz (.store 7 t4 t29) 1,
 i 5 (.mv (.c (I 23))) 3] false)
 .ret)
 .skip))
 (.seq (.b6 [i 30 (mv t6) 0,
 i 31 (.call (.f P4) [t30,.c (.pv (.bool false))]) 1,
 i 32 (.extract t31 0) 3,
 i 33 (.extract t31 1) 3,
 iz (.store 7 t4 t32) 15,
 i 5 (mv t33) 31] false)
 .ret)))))⟩
def a9N:n6:=⟨1,5,[.cell 2 true 7],
 .seq (.b6 [i 2 (.alloc z0) 0] false)
 (.seq (.b6 [i 3 (mv t0) 0,
 i 4 (.build z0 [(0,1,.c (I 3)),(2,1,t3)]) 1,
 iz (.store 7 t2 t4) 3] false)
 .ret)⟩
def M7:n6:=⟨2,19,[.tmp 4],
 .seq (.b6 [i 3 (.box 7 t1) 0,
 i 4 (.mv (.c (I 0))) 0] false)
 (.seq (.seq (.b6 [i 6 (mv t0) 0,
 i 7 (.l8 t6) 1,
 i 8 (.mv (.c (I 0))) 0] false)
 (.block 0
 (.loop [0,3,7,8]
 (.seq (.b6 [i 9 (.bin .lss t8 t7) 0] false)
 (.seq (.cond t9
 .skip
 (.exit 0))
 (.seq (.block 1
 (.seq (.b6 [i 10 (mv t8) 0,
 i 5 (mv r9) 1] false)
 (.seq (.b6 [i 11 (.load true 7 t3) 0,
 i 12 (mv t0) 0,
 i 13 (mv t5) 0,
 i 14 (.i6 7 x6 B7) 6,
 i 15 (.load true 7 D2) 14,
 i 16 (.eqs false [0,1,0,2,0,0,0] x4 G0) 31] true)
 (.cond G1
 (.seq (.b6 [i 17 (mv t5) 0,
 i 4 (mv E0) 1] false)
 .ret)
 .skip))))
 (.b6 [i 18 (.bin .add t8 (.c (I 1))) 0,
 i 8 (mv J6) 1] false)))))))
 (.seq (.b6 [i 4 (.mv (.c (I (-1)))) 0] false)
 .ret))⟩
def a2G:n6:=⟨2,27,[.tmp 4],
 .seq (.b6 [i 4 (.mv (.c (.pv (.bool false)))) 0] false)
 (.seq (.seq (.b6 [i 6 (mv t0) 0,
 i 7 (.l8 t6) 1,
 i 8 (mv t1) 0,
 i 9 (.l8 t8) 4,
 i 10 (.bin .neq t7 t9) 15] false)
 (.cond r9
 (.seq (.b6 [i 4 (.mv (.c (.pv (.bool false)))) 0] false)
 .ret)
 .skip))
 (.seq (.seq (.b6 [i 5 (.mv (.c (I 0))) 0] false)
 (.block 0
 (.loop [0,1,5]
 (.seq (.seq (.b6 [i 11 (mv t5) 0,
 i 12 (mv t0) 0,
 i 13 (.l8 x6) 2,
 i 14 (.bin .lss x4 B7) 7] false)
 (.cond D2
 .skip
 (.exit 0)))
 (.seq (.block 1
 (.seq (.b6 [i 17 (mv t0) 0,
 i 18 (mv t5) 0,
 i 19 (.i6 7 E0 J6) 3,
 i 20 (.load true 7 L9) 7,
 i 21 (mv t1) 0,
 i 22 (mv t5) 0,
 i 23 (.i6 7 J5 P8) 48,
 i 24 (.load true 7 T9) 112,
 i 25 (.call (.f E4) [K5,Y5]) 255,
 i 26 (.not X3) 511] true)
 (.cond t26
 (.seq (.b6 [i 4 (.mv (.c (.pv (.bool false)))) 0] false)
 .ret)
 .skip)))
 (.b6 [i 15 (mv t5) 0,
 i 16 (.bin .add G0 (.c (I 1))) 1,
 i 5 (mv G1) 3] false))))))
 (.seq (.b6 [i 4 (.mv (.c (.pv (.bool true)))) 0] false)
 .ret)))⟩
def a1K:n6:=⟨1,15,[.cell 2 true 67],
 .seq (.b6 [i 2 (.alloc z1) 0] false)
 (.seq (.b6 [i 4 (.call (.f y2) [.c (.emp 1)]) 0,
 i 5 (.build z2 [(0,1,.c (I 3)),(5,1,.c (I 3))]) 0,
 i 6 (.build z2 [(0,1,.c (I 1)),(1,1,.c (.pv (.str [70,70,111,110,116])))]) 0,
 i 7 (.G6 7 2 z2 [(0,t5),(1,t6)]) 6,
 i 8 (.append 7 112 t4 t7) 15,
 i 3 (mv t8) 31] false)
 (.seq (.b6 [i 9 (mv t3) 0,
 i 10 (.call (.f V2) [.c (I 0)]) 0,
 i 11 (.call (.f V2) [.c (I 1)]) 2,
 i 12 (.G6 7 2 z0 [(0,r9),(1,x4)]) 6,
 i 13 (mv t0) 0,
 i 14 (.build z1 [(2,1,t9),(1,1,x6),(0,1,B7)]) 31,
 iz (.store 67 t2 D2) 63] false)
 .ret))⟩
def a9O:n6:=⟨1,5,[.cell 2 true 7],
 .seq (.b6 [i 2 (.alloc z0) 0] false)
 (.seq (.b6 [i 3 (mv t0) 0,
 i 4 (.build z0 [(0,1,.c (I 9)),(4,1,t3)]) 1,
 iz (.store 7 t2 t4) 3] false)
 .ret)⟩
def a2m:n6:=⟨3,30,[.cell 6 true 7,.tmp 7],
 .seq (.b6 [i 3 (.box 67 t0) 0,
 i 5 (.box 7 t2) 0,
 i 6 (.alloc z0) 0,
 i 7 (.mv (.c (I 0))) 0] false)
 (.seq (.b6 [i 11 (.load true 67 t3) 0,
 i 12 (.build z1 [(0,67,x4)]) 1,
 i 8 (.alloc z1) 0,
 iz (.store 67 t8 x6) 7] false)
 (.seq (.b6 [i 14 (.load true 67 t8) 0,
 i 15 (mv t1) 0,
 i 16 (.build z0 [(0,1,.c (I 5)),(3,1,G0)]) 2,
 i 17 (.call (.f o9) [D2,G1]) 7,
 i 13 (mv E0) 15,
 i 18 (.extract B7 0) 31,
 i 19 (.extract B7 1) 31,
 i 9 (.alloc z0) 0,
 iz (.store 7 t9 J6) 191,
 i 10 (mv L9) 511] false)
 (.seq (.seq (.b6 [i 20 (mv r9) 0,
 i 21 (.bin .neq K5 (.c (I 0))) 1] false)
 (.cond J5
 (.seq (.b6 [i 22 (.build z0 []) 0,
 i 23 (mv r9) 0,
 iz (.store 7 t6 P8) 1,
 i 7 (mv T9) 7] false)
 .ret)
 .skip))
 (.seq (.b6 [i 24 (.load true 67 t8) 0,
 i 25 (.load true 7 t9) 0,
 i 26 (.load true 7 t5) 0,
 i 27 (.call (.f s0) [Y5,X3,t26]) 7,
 i 28 (.extract t27 0) 15,
 i 29 (.extract t27 1) 15,
 iz (.store 7 t6 t28) 63,
 i 7 (mv t29) 127] false)
 .ret))))⟩
def a7R:n6:=⟨3,23,[.tmp 6],
 .seq (.b6 [i 3 (.box 67 t0) 0,
 i 6 (.mv (.c (.pv (.bool false)))) 0] false)
 (.seq (.b6 [i 10 (.load true 67 t3) 0,
 i 11 (mv t1) 0,
 i 12 (.call (.f P5) [r9,x4]) 3,
 i 9 (mv x6) 7,
 i 13 (.extract t9 0) 15,
 i 14 (.extract t9 1) 15,
 i 7 (.alloc z1) 0,
 iz (.store 67 t7 B7) 95,
 i 8 (mv D2) 255] false)
 (.seq (.b6 [i 15 (mv t8) 0,
 i 16 (.bin .eql G0 (.c (I 0))) 1,
 i 17 (mv G1) 3,
 ig 18 (.b0 t7 0) 17 true 7,
 ig 19 (.load false 1 J6) 17 true 15,
 ig 20 (mv t2) 17 true 7,
 ig 21 (.call (.f m6) [L9,K5]) 17 true 63,
 i 22 (.pick E0 J5 (.c (.pv (.bool false)))) 127,
 i 6 (mv P8) 255] false)
 .ret))⟩
def a2D:n6:=⟨2,8,[.cell 4 true 67],
 .seq (.b6 [i 2 (.box 67 t0) 0,
 i 4 (.alloc z1) 0] false)
 (.seq (.b6 [i 5 (mv t1) 0,
 i 6 (.b0 t2 0) 1,
 iz (.store 1 t6 t5) 3] false)
 (.seq (.b6 [i 7 (.load true 67 t2) 0,
 iz (.store 67 t4 t7) 1] false)
 .ret))⟩
def a4l:n6:=⟨1,6,[.cell 2 true 7],
 .seq (.b6 [i 2 (.alloc z0) 0] false)
 (.seq (.seq (.b6 [i 3 (mv t0) 0] false)
 (.cond t3
 (.seq (.b6 [i 4 (.build z0 [(0,1,.c (I 2)),(2,1,.c (I 1))]) 0,
 iz (.store 7 t2 t4) 1] false)
 .ret)
 .skip))
 (.seq (.b6 [i 5 (.build z0 [(0,1,.c (I 2))]) 0,
 iz (.store 7 t2 t5) 1] false)
 .ret))⟩
def a4k:n6:=⟨3,23,[.tmp 6],
 .seq (.b6 [i 3 (.box 67 t0) 0,
 i 6 (.mv (.c (.pv (.bool false)))) 0] false)
 (.seq (.b6 [i 10 (.load true 67 t3) 0,
 i 11 (mv t1) 0,
 i 12 (.call (.f P5) [r9,x4]) 3,
 i 9 (mv x6) 7,
 i 13 (.extract t9 0) 15,
 i 14 (.extract t9 1) 15,
 i 7 (.alloc z1) 0,
 iz (.store 67 t7 B7) 95,
 i 8 (mv D2) 255] false)
 (.seq (.b6 [i 15 (mv t8) 0,
 i 16 (mv t2) 0,
 i 17 (.bin .eql G0 G1) 3,
 i 18 (mv E0) 7,
 ig 19 (.load true 67 t7) 18 true 15,
 ig 20 (.load true 67 t3) 18 true 15,
 ig 21 (.call (.f w8) [L9,K5]) 18 true 63,
 i 22 (.pick J6 J5 (.c (.pv (.bool false)))) 127,
 i 6 (mv P8) 255] false)
 .ret))⟩
def a9P:n6:=⟨1,5,[.cell 2 true 7],
 .seq (.b6 [i 2 (.alloc z0) 0] false)
 (.seq (.b6 [i 3 (mv t0) 0,
 i 4 (.build z0 [(0,1,.c (I 3)),(2,1,t3)]) 1,
 iz (.store 7 t2 t4) 3] false)
 .ret)⟩
def a0a:n6:=⟨1,29,[.tmp 2],
 .seq (.b6 [i 1 (.box 3 t0) 0,
 i 2 (.mv (.c (.emp 7))) 0] false)
 (.seq (.b6 [i 5 (.G6 1 2 [.pv (.str [])] [(0,.c (.pv (.str [97,100,100]))),(1,.c (.pv (.str [112,111,112])))]) 0,
 i 6 (.call (.f y2) [t5]) 1,
 i 3 (mv t6) 3] false)
 (.seq (.seq (.b6 [i 4 (.mv (.c (I 0))) 0] false)
 (.block 0
 (.loop [1,3,4]
 (.seq (.seq (.b6 [i 7 (mv t4) 0,
 i 8 (.b0 t1 0) 0,
 i 9 (.load false 1 t8) 2,
 i 10 (.l8 t9) 6,
 i 11 (.bin .lss t7 r9) 15,
 i 12 (mv x4) 31,
 ig 13 (mv t4) 12 true 63,
 ig 14 (.bin .lss B7 (.c (I 10))) 12 true 127,
 i 15 (.pick x6 D2 (.c (.pv (.bool false)))) 255] false)
 (.cond G0
 .skip
 (.exit 0)))
 (.seq (.block 1
 (.b6 [i 18 (mv t3) 0,
 i 19 (.b0 t1 0) 0,
 i 20 (.load false 1 L9) 2,
 i 21 (mv t4) 0,
 i 22 (.i6 5 K5 J5) 14,
 i 23 (.load true 5 P8) 30,
 i 24 (mv t3) 0,
 i 25 (.call (.f C8) [T9,Y5]) 126,
 i 26 (.G6 7 1 z2 [(0,X3)]) 254,
 i 27 (.append 7 112 J6 t26) 511,
 i 3 (mv t27) 1023] false))
 (.b6 [i 16 (mv t4) 0,
 i 17 (.bin .add G1 (.c (I 1))) 1,
 i 4 (mv E0) 3] false))))))
 (.seq (.b6 [i 28 (mv t3) 0,
 i 2 (mv t28) 1] false)
 .ret)))⟩
def a5q:n6:=⟨3,36,[.tmp 6],
 .seq (.b6 [i 6 (.mv (.c (I 0))) 0] false)
 (.seq (.b6 [i 7 (.mv (.c (.emp 1))) 0] false)
 (.seq (.seq (.b6 [i 8 (.mv (.c (I 0))) 0] false)
 (.block 0
 (.loop [0,1,2,7,8]
 (.seq (.seq (.b6 [i 9 (mv t8) 0,
 i 10 (mv t0) 0,
 i 11 (.l8 r9) 2,
 i 12 (.bin .lss t9 x4) 7] false)
 (.cond x6
 .skip
 (.exit 0)))
 (.seq (.block 1
 (.seq (.b6 [i 15 (mv t0) 0,
 i 16 (mv t8) 0,
 i 17 (.i6 7 G0 G1) 3,
 i 18 (.b0 E0 0) 7,
 i 19 (.load false 1 J6) 15,
 i 20 (mv t1) 0,
 i 21 (.bin .eql L9 K5) 63] false)
 (.cond J5
 (.b6 [i 22 (mv t7) 0,
 i 23 (mv t8) 0,
 i 24 (.G6 1 1 [I 0] [(0,T9)]) 2,
 i 25 (.append 1 8 P8 Y5) 7,
 i 7 (mv X3) 15] false)
 .skip)))
 (.b6 [i 13 (mv t8) 0,
 i 14 (.bin .add B7 (.c (I 1))) 1,
 i 8 (mv D2) 3] false))))))
 (.seq (.seq (.b6 [i 26 (mv t7) 0,
 i 27 (.l8 t26) 1,
 i 28 (.bin .eql t27 (.c (I 0))) 3] false)
 (.cond t28
 (.seq (.b6 [i 6 (.mv (.c (I (-1)))) 0] false)
 .ret)
 .skip))
 (.seq (.b6 [i 29 (mv t7) 0,
 i 30 (mv t2) 0,
 i 31 (mv t7) 0,
 i 32 (.l8 t31) 4,
 i 33 (.bin .rem t30 t32) 14,
 i 34 (.i6 1 t29 t33) 31,
 i 35 (.load false 1 t34) 63,
 i 6 (mv t35) 127] false)
 .ret))))⟩
def a8G:n6:=⟨4,76,[.cell 8 true 7],
 .seq (.b6 [i 7 (.box 5 t3) 0,
 i 8 (.alloc z0) 0] false)
 (.seq (.b6 [i 11 (mv t0) 0,
 i 12 (mv t2) 0,
 i 13 (.b0 t7 1) 0,
 i 14 (.load false 1 B7) 4,
 i 15 (.conv .i64 D2) 12,
 i 16 (.call (.f H7) [x4,x6,G0]) 31,
 i 9 (mv G1) 63] false)
 (.seq (.seq (.b6 [i 17 (mv t9) 0,
 i 18 (.bin .lss E0 (.c (I 0))) 1] false)
 (.cond J6
 (.seq (.b6 [i 19 (.b0 t7 1) 0,
 i 20 (.load false 1 L9) 1,
 i 21 (.conv .i64 K5) 3,
 i 22 (.build z0 [(0,1,.c (I 3)),(2,1,J5)]) 7,
 iz (.store 7 t8 P8) 15] false)
 .ret)
 .skip))
 (.seq (.b6 [i 23 (mv t1) 0,
 i 24 (.b0 t7 3) 0,
 i 25 (.load false 1 Y5) 2,
 i 26 (.bin .rem X3 (.c (.pv (.int .i32 (5))))) 6,
 i 27 (.bin .eql t26 (.c (.pv (.int .i32 (3))))) 14,
 i 28 (mv t9) 0,
 i 29 (.build z0 [(0,1,T9),(1,1,t27),(4,1,t28)]) 63,
 i 10 (.alloc z0) 0,
 iz (.store 7 r9 t29) 255] false)
 (.seq (.seq (.b6 [i 30 (mv t2) 0,
 i 31 (.bin .eql t30 (.c (I 3))) 1,
 i 32 (mv t31) 3,
 ig 33 (mv t2) 32 false 7,
 ig 34 (.bin .eql t33 (.c (I 4))) 32 false 15,
 i 35 (.pick t32 (.c (.pv (.bool true))) t34) 31] false)
 (.cond t35
 (.seq (.b6 [i 36 (.load true 7 r9) 0,
 iz (.store 7 t8 t36) 1] false)
 .ret)
 .skip))
 (.seq (.b6 [i 37 (mv t0) 0,
 i 38 (mv t9) 0,
 i 39 (.i6 7 t37 t38) 3,
 i 40 (.b0 t39 1) 7,
 i 41 (.load false 1 t40) 15,
 i 42 (.a0m t41) 31,
 i 43 (mv t0) 0,
 i 44 (mv t9) 0,
 i 45 (.i6 7 t43 t44) 192,
 i 46 (.b0 t45 2) 448,
 i 47 (.load false 1 t46) 960,
 i 48 (.l8 t47) 1984,
 i 49 (.bin .add t42 t48) 4095,
 i 50 (.b0 r9 6) 8191,
 iz (.store 1 t50 t49) 16383] true)
 (.seq (.seq (.b6 [i 51 (.b0 t7 2) 0,
 i 52 (.load false 1 t51) 1,
 i 53 (.bin .rem t52 (.c (.pv (.int .u8 (3))))) 3,
 i 54 (.bin .eql t53 (.c (.pv (.int .u8 (2))))) 7] false)
 (.cond t54
 (.seq (.b6 [i 55 (.b0 t7 2) 0,
 i 56 (.load false 1 t55) 1,
 i 57 (.conv .i64 t56) 3,
 i 58 (.b0 r9 6) 0,
 i 59 (.load false 1 t58) 8,
 i 60 (.bin .add t59 (.c (I 1))) 24,
 i 61 (.bin .rem t57 t60) 63,
 i 62 (.b0 r9 5) 127,
 iz (.store 1 t62 t61) 255] false)
 (.b6 [i 63 (.b0 t7 2) 0,
 i 64 (.load false 1 t63) 1,
 i 65 (.conv .i64 t64) 3,
 i 66 (.bin .quo t65 (.c (I 3))) 7,
 i 67 (.b0 r9 6) 0,
 i 68 (.load false 1 t67) 16,
 i 69 (.b0 r9 5) 0,
 i 70 (.load false 1 t69) 64,
 i 71 (.bin .sub t68 t70) 240,
 i 72 (.bin .add t71 (.c (I 1))) 496,
 i 73 (.bin .rem t66 t72) 1023,
 i 74 (.b0 r9 6) 2047,
 iz (.store 1 t74 t73) 4095] false))
 .skip))
 (.seq (.b6 [i 75 (.load true 7 r9) 0,
 iz (.store 7 t8 t75) 1] false)
 .ret)))))))⟩
def I7:n6:=⟨2,88,[.cell 4 true 29,.tmp 5],
 .seq (.b6 [i 2 (.box 67 t0) 0,
 i 4 (.alloc z3) 0,
 i 5 (.mv (.c (I 0))) 0] false)
 (.seq (.b6 [i 11 (.b0 t2 0) 0,
 i 12 (.load true 67 x4) 1,
 i 13 (mv t1) 0,
 i 14 (.call (.f M3) [x6,B7]) 7,
 i 10 (mv D2) 15,
 i 15 (.extract r9 0) 31,
 i 16 (.extract r9 1) 31,
 i 6 (mv G0) 63,
 i 7 (mv G1) 255] false)
 (.seq (.seq (.b6 [i 17 (mv t7) 0,
 i 18 (.bin .neq E0 (.c (I 0))) 1] false)
 (.cond J6
 (.seq (.b6 [i 19 (.build z3 []) 0,
 i 20 (mv t7) 0,
 iz (.store 29 t4 L9) 1,
 i 5 (mv K5) 7] false)
 .ret)
 .skip))
 (.seq (.b6 [i 21 (mv t6) 0,
 i 22 (mv t1) 0,
 i 23 (.bin .sub P8 (.c (I 1))) 2,
 i 24 (.i6 7 J5 T9) 7,
 i 25 (.load true 7 Y5) 15,
 i 8 (.alloc z0) 0,
 iz (.store 7 t8 X3) 63] false)
 (.seq (.seq (.b6 [i 26 (mv t6) 0,
 i 27 (.i6 7 t26 (.c (I 0))) 1,
 i 28 (.b0 t27 0) 3,
 i 29 (.load false 1 t28) 7,
 i 30 (.bin .eql t29 (.c (I 0))) 15,
 i 31 (mv t30) 31,
 ig 32 (.b0 t8 0) 31 false 63,
 ig 33 (.load false 1 t32) 31 false 127,
 ig 34 (.bin .neq t33 (.c (I 5))) 31 false 255,
 ig 35 (mv t34) 31 false 511,
 ig 36 (.b0 t8 0) 35 true 1023,
 ig 37 (.load false 1 t36) 35 true 2047,
 ig 38 (.bin .neq t37 (.c (I 6))) 35 true 4095,
 ig 39 (.pick t35 t38 (.c (.pv (.bool false)))) 31 false 8191,
 i 40 (.pick t31 (.c (.pv (.bool true))) t39) 16383] false)
 (.cond t40
 (.seq (.b6 [i 41 (.build z3 []) 0,
 iz (.store 29 t4 t41) 1,
 i 5 (.mv (.c (I 22))) 3] false)
 .ret)
 .skip))
 (.seq (.b6 [i 42 (mv t6) 0,
 i 43 (.i6 7 t42 (.c (I 1))) 1,
 i 44 (.load true 7 t43) 3,
 i 45 (mv t1) 0,
 i 46 (.build z3 [(7,7,t44),(28,1,t45)]) 15,
 i 9 (.alloc z3) 0,
 iz (.store 29 t9 t46) 63] false)
 (.seq (.seq (.b6 [i 48 (.b0 t2 0) 0,
 i 49 (.b0 t48 2) 1,
 i 50 (.load false 1 t49) 3,
 i 51 (mv t6) 0,
 i 52 (.i6 7 t51 (.c (I 0))) 8,
 i 53 (.load true 7 t52) 24,
 i 54 (.call (.f O0) [t50,t53]) 63,
 i 47 (mv t54) 127,
 i 55 (.extract t47 0) 255,
 i 56 (.extract t47 1) 255,
 i 57 (.b0 t9 0) 511,
 iz (.store 7 t57 t55) 1535,
 i 7 (mv t56) 4095] true)
 (.seq (.b6 [i 58 (mv t7) 0,
 i 59 (.bin .neq t58 (.c (I 0))) 1] false)
 (.cond t59
 (.seq (.b6 [i 60 (.build z3 []) 0,
 i 61 (mv t7) 0,
 iz (.store 29 t4 t60) 1,
 i 5 (mv t61) 7] false)
 .ret)
 .skip)))
 (.seq (.seq (.b6 [i 63 (.b0 t2 0) 0,
 i 64 (.b0 t63 2) 1,
 i 65 (.load false 1 t64) 3,
 i 66 (.load true 7 t8) 0,
 i 67 (.call (.f O0) [t65,t66]) 15,
 i 62 (mv t67) 31,
 i 68 (.extract t62 0) 63,
 i 69 (.extract t62 1) 63,
 i 70 (.b0 t9 14) 127,
 iz (.store 7 t70 t68) 383,
 i 7 (mv t69) 1023] false)
 (.seq (.b6 [i 71 (mv t7) 0,
 i 72 (.bin .neq t71 (.c (I 0))) 1] false)
 (.cond t72
 (.seq (.b6 [i 73 (.build z3 []) 0,
 i 74 (mv t7) 0,
 iz (.store 29 t4 t73) 1,
 i 5 (mv t74) 7] false)
 .ret)
 .skip)))
 (.seq (.seq (.b6 [i 76 (.load true 67 t2) 0,
 i 77 (.b0 t9 14) 0,
 i 78 (.load true 7 t77) 2,
 i 79 (.call (.f o9) [t76,t78]) 7,
 i 75 (mv t79) 15,
 i 80 (.extract t75 0) 31,
 i 81 (.extract t75 1) 31,
 i 82 (.b0 t9 21) 63,
 iz (.store 7 t82 t80) 191,
 i 7 (mv t81) 511] false)
 (.seq (.b6 [i 83 (mv t7) 0,
 i 84 (.bin .neq t83 (.c (I 0))) 1] false)
 (.cond t84
 (.seq (.b6 [i 85 (.build z3 []) 0,
 i 86 (mv t7) 0,
 iz (.store 29 t4 t85) 1,
 i 5 (mv t86) 7] false)
 .ret)
 .skip)))
 (.seq (.b6 [i 87 (.load true 29 t9) 0,
 iz (.store 29 t4 t87) 1,
 i 5 (.mv (.c (I 0))) 3] false)
 .ret)))))))))⟩
def Y9:n6:=⟨4,8,[.tmp 6],
 .seq (.b6 [i 4 (.box 1 t0) 0,
 i 5 (.box 1 t1) 0,
 i 6 (.mv (.c (.pv .nilFunc))) 0] false)
 (.seq (.b6 [i 7 (.mkf (.func H8) [] [t2,t4,t3,t5]) 0,
 i 6 (mv t7) 1] false)
 .ret)⟩
def R2:n6:=⟨4,23,[.cell 4 true 67,.tmp 5],
 .seq (.b6 [i 4 (.alloc z1) 0,
 i 5 (.mv (.c (I 0))) 0] false)
 (.seq (.b6 [i 9 (.load false 1 t0) 0,
 i 10 (.load false 1 t1) 0,
 i 11 (.call t9 [r9]) 3,
 i 8 (mv x4) 7,
 i 12 (.extract t8 0) 15,
 i 13 (.extract t8 1) 15,
 i 6 (.alloc z3) 0,
 iz (.store 29 t6 x6) 95,
 i 7 (mv B7) 255] false)
 (.seq (.seq (.b6 [i 14 (mv t7) 0,
 i 15 (.bin .neq D2 (.c (I 0))) 1] false)
 (.cond G0
 (.seq (.b6 [i 16 (.load true 67 t2) 0,
 i 17 (mv t7) 0,
 iz (.store 67 t4 G1) 1,
 i 5 (mv E0) 7] false)
 .ret)
 .skip))
 (.seq (.b6 [i 18 (.load false 1 t3) 0,
 i 19 (.load true 29 t6) 0,
 i 20 (.call J6 [L9]) 3,
 i 21 (.extract K5 0) 7,
 i 22 (.extract K5 1) 7,
 iz (.store 67 t4 J5) 31,
 i 5 (mv P8) 63] false)
 .ret)))⟩
def G2:n6:=⟨2,44,[.cell 4 true 67,.tmp 5],
 .seq (.b6 [i 2 (.box 67 t0) 0,
 i 3 (.box 29 t1) 0,
 i 4 (.alloc z1) 0,
 i 5 (.mv (.c (I 0))) 0] false)
 (.seq (.seq (.b6 [i 8 (.b0 t3 14) 0,
 i 9 (.b0 t8 3) 1,
 i 10 (.load false 1 t9) 3,
 i 11 (.b0 t3 7) 0,
 i 12 (.load true 7 x4) 8,
 i 13 (.call (.f V6) [r9,x6]) 31,
 i 14 (.not B7) 63] false)
 (.cond D2
 (.seq (.b6 [i 15 (.b0 t2 0) 0,
 i 16 (.load true 67 G0) 1,
 iz (.store 67 t4 G1) 3,
 i 5 (.mv (.c (I 22))) 7] false)
 .ret)
 .skip))
 (.seq (.b6 [i 18 (.b0 t2 0) 0,
 i 19 (.b0 J6 2) 1,
 i 20 (.load false 1 L9) 3,
 i 21 (.b0 t3 21) 0,
 i 22 (.load true 7 J5) 8,
 i 23 (.b0 t3 0) 0,
 i 24 (.load true 7 T9) 32,
 i 25 (.b0 t3 7) 0,
 i 26 (.load true 7 X3) 128,
 i 27 (.call (.f y3) [K5,P8,Y5,t26]) 511,
 i 17 (mv t27) 1023,
 i 28 (.extract E0 0) 2047,
 i 29 (.extract E0 1) 2047,
 i 6 (mv t28) 4095,
 i 7 (mv t29) 16383] false)
 (.seq (.seq (.b6 [i 30 (mv t7) 0,
 i 31 (.bin .neq t30 (.c (I 0))) 1] false)
 (.cond t31
 (.seq (.b6 [i 32 (.b0 t2 0) 0,
 i 33 (.load true 67 t32) 1,
 i 34 (mv t7) 0,
 iz (.store 67 t4 t33) 3,
 i 5 (mv t34) 15] false)
 .ret)
 .skip))
 (.seq (.b6 [i 35 (.load true 67 t2) 0,
 i 36 (.load true 29 t3) 0,
 i 37 (mv t6) 0,
 i 38 (.b0 t3 7) 0,
 i 39 (.load true 7 t38) 8,
 i 40 (.G6 7 1 z0 [(0,t39)]) 24,
 i 41 (.call (.f o5) [t35,t36,t37,t40]) 63,
 i 42 (.extract t41 0) 127,
 i 43 (.extract t41 1) 127,
 iz (.store 67 t4 t42) 511,
 i 5 (mv t43) 1023] false)
 .ret))))⟩
def G3:n6:=⟨2,32,[.cell 4 true 67,.tmp 5],
 .seq (.b6 [i 2 (.box 67 t0) 0,
 i 3 (.box 29 t1) 0,
 i 4 (.alloc z1) 0,
 i 5 (.mv (.c (I 0))) 0] false)
 (.seq (.b6 [i 9 (.load true 67 t2) 0,
 i 10 (.b0 t3 21) 0,
 i 11 (.load true 7 r9) 2,
 i 12 (.b0 t3 0) 0,
 i 13 (.load true 7 x6) 8,
 i 14 (.call (.f s0) [t9,x4,B7]) 31,
 i 8 (mv D2) 63,
 i 15 (.extract t8 0) 127,
 i 16 (.extract t8 1) 127,
 i 6 (.alloc z0) 0,
 iz (.store 7 t6 G0) 767,
 i 7 (mv G1) 2047] false)
 (.seq (.seq (.b6 [i 17 (mv t7) 0,
 i 18 (.bin .neq E0 (.c (I 0))) 1] false)
 (.cond J6
 (.seq (.b6 [i 19 (.b0 t2 0) 0,
 i 20 (.load true 67 L9) 1,
 i 21 (mv t7) 0,
 iz (.store 67 t4 K5) 3,
 i 5 (mv J5) 15] false)
 .ret)
 .skip))
 (.seq (.b6 [i 22 (.load true 67 t2) 0,
 i 23 (.load true 29 t3) 0,
 i 24 (.b0 t2 0) 0,
 i 25 (.b0 Y5 2) 4,
 i 26 (.load false 1 X3) 12,
 i 27 (.load true 7 t6) 0,
 i 28 (.G6 7 1 z0 [(0,t27)]) 32,
 i 29 (.call (.f o5) [P8,T9,t26,t28]) 127,
 i 30 (.extract t29 0) 255,
 i 31 (.extract t29 1) 255,
 iz (.store 67 t4 t30) 1023,
 i 5 (mv t31) 2047] false)
 .ret)))⟩
def G4:n6:=⟨2,30,[.cell 4 true 67,.tmp 5],
 .seq (.b6 [i 2 (.box 67 t0) 0,
 i 3 (.box 29 t1) 0,
 i 4 (.alloc z1) 0,
 i 5 (.mv (.c (I 0))) 0] false)
 (.seq (.b6 [i 9 (.b0 t2 0) 0,
 i 10 (.b0 t9 2) 1,
 i 11 (.load false 1 r9) 3,
 i 12 (.b0 t3 21) 0,
 i 13 (.load true 7 x6) 8,
 i 14 (.b0 t3 0) 0,
 i 15 (.load true 7 D2) 32,
 i 16 (.call (.f P3) [x4,B7,G0]) 127,
 i 8 (mv G1) 255,
 i 17 (.extract t8 0) 511,
 i 18 (.extract t8 1) 511,
 i 6 (mv E0) 1023,
 i 7 (mv J6) 4095] false)
 (.seq (.seq (.b6 [i 19 (mv t7) 0,
 i 20 (.bin .neq L9 (.c (I 0))) 1] false)
 (.cond K5
 (.seq (.b6 [i 21 (.b0 t2 0) 0,
 i 22 (.load true 67 J5) 1,
 i 23 (mv t7) 0,
 iz (.store 67 t4 P8) 3,
 i 5 (mv T9) 15] false)
 .ret)
 .skip))
 (.seq (.b6 [i 24 (.load true 67 t2) 0,
 i 25 (.load true 29 t3) 0,
 i 26 (mv t6) 0,
 i 27 (.call (.f o5) [Y5,X3,t26,.c (.emp 7)]) 7,
 i 28 (.extract t27 0) 15,
 i 29 (.extract t27 1) 15,
 iz (.store 67 t4 t28) 63,
 i 5 (mv t29) 127] false)
 .ret)))⟩
def G5:n6:=⟨2,32,[.cell 4 true 67,.tmp 5],
 .seq (.b6 [i 2 (.box 67 t0) 0,
 i 3 (.box 29 t1) 0,
 i 4 (.alloc z1) 0,
 i 5 (.mv (.c (I 0))) 0] false)
 (.seq (.b6 [i 9 (.build z0 [(0,1,.c (I 2))]) 0,
 i 6 (.alloc z0) 0,
 iz (.store 7 t6 t9) 3] false)
 (.seq (.seq (.b6 [i 11 (.load true 67 t2) 0,
 i 12 (.b0 t3 21) 0,
 i 13 (.load true 7 x6) 2,
 i 14 (.b0 t3 0) 0,
 i 15 (.load true 7 D2) 8,
 i 16 (.call (.f s0) [x4,B7,G0]) 31,
 i 10 (mv G1) 63,
 i 17 (.extract r9 0) 127,
 i 18 (.extract r9 1) 127,
 i 7 (.alloc z0) 0,
 iz (.store 7 t7 E0) 767,
 i 8 (mv J6) 2047] false)
 (.seq (.b6 [i 19 (mv t8) 0,
 i 20 (.bin .eql L9 (.c (I 0))) 1] false)
 (.cond K5
 (.b6 [i 21 (.b0 t6 2) 0,
 iz (.store 1 J5 (.c (I 1))) 1] false)
 .skip)))
 (.seq (.b6 [i 22 (.load true 67 t2) 0,
 i 23 (.load true 29 t3) 0,
 i 24 (.b0 t2 0) 0,
 i 25 (.b0 Y5 2) 4,
 i 26 (.load false 1 X3) 12,
 i 27 (.load true 7 t6) 0,
 i 28 (.G6 7 1 z0 [(0,t27)]) 32,
 i 29 (.call (.f o5) [P8,T9,t26,t28]) 127,
 i 30 (.extract t29 0) 255,
 i 31 (.extract t29 1) 255,
 iz (.store 67 t4 t30) 1023,
 i 5 (mv t31) 2047] false)
 .ret)))⟩
def U4:n6:=⟨2,26,[.tmp 4],
 .seq (.b6 [i 4 (.mv (.c (.pv (.bool false)))) 0] false)
 (.seq (.seq (.b6 [i 6 (mv t0) 0,
 i 7 (.l8 t6) 1,
 i 8 (mv t1) 0,
 i 9 (.l8 t8) 4,
 i 10 (.bin .neq t7 t9) 15] false)
 (.cond r9
 (.seq (.b6 [i 4 (.mv (.c (.pv (.bool false)))) 0] false)
 .ret)
 .skip))
 (.seq (.seq (.b6 [i 5 (.mv (.c (I 0))) 0] false)
 (.block 0
 (.loop [0,1,5]
 (.seq (.seq (.b6 [i 11 (mv t5) 0,
 i 12 (mv t0) 0,
 i 13 (.l8 x6) 2,
 i 14 (.bin .lss x4 B7) 7] false)
 (.cond D2
 .skip
 (.exit 0)))
 (.seq (.block 1
 (.seq (.b6 [i 17 (mv t0) 0,
 i 18 (mv t5) 0,
 i 19 (.i6 7 E0 J6) 3,
 i 20 (.load true 7 L9) 7,
 i 21 (mv t1) 0,
 i 22 (mv t5) 0,
 i 23 (.i6 7 J5 P8) 48,
 i 24 (.load true 7 T9) 112,
 i 25 (.eqs true [0,1,0,2,0,0,0] K5 Y5) 255] true)
 (.cond X3
 (.seq (.b6 [i 4 (.mv (.c (.pv (.bool false)))) 0] false)
 .ret)
 .skip)))
 (.b6 [i 15 (mv t5) 0,
 i 16 (.bin .add G0 (.c (I 1))) 1,
 i 5 (mv G1) 3] false))))))
 (.seq (.b6 [i 4 (.mv (.c (.pv (.bool true)))) 0] false)
 .ret)))⟩
def a1M:n6:=⟨2,90,[.tmp 4],
 .seq (.b6 [i 2 (.box 57 t0) 0,
 i 3 (.box 57 t1) 0,
 i 4 (.mv (.c (.pv (.bool false)))) 0] false)
 (.seq (.b6 [i 5 (.b0 t2 0) 0,
 i 6 (.load true 6 t5) 1,
 i 7 (.b0 t3 0) 0,
 i 8 (.load true 6 t7) 4,
 i 9 (.eqs false [0,0,0,0,0,0] t6 t8) 15,
 i 10 (mv t9) 31,
 ig 11 (.b0 t2 6) 10 true 63,
 ig 12 (.load false 1 x4) 10 true 127,
 ig 13 (.l8 x6) 10 true 255,
 ig 14 (.b0 t3 6) 10 true 63,
 ig 15 (.load false 1 D2) 10 true 575,
 ig 16 (.l8 G0) 10 true 1599,
 ig 17 (.bin .eql B7 G1) 10 true 4095,
 i 18 (.pick r9 E0 (.c (.pv (.bool false)))) 8191,
 i 19 (mv J6) 16383,
 ig 20 (.b0 t2 7) 19 true 32767,
 ig 21 (.b0 K5 0) 19 true 65535,
 ig 22 (.load false 1 J5) 19 true 131071,
 ig 23 (.b0 t3 7) 19 true 32767,
 ig 24 (.b0 T9 0) 19 true 294911,
 ig 25 (.load false 1 Y5) 19 true 819199,
 ig 26 (.bin .eql P8 X3) 19 true 2097151,
 i 27 (.pick L9 t26 (.c (.pv (.bool false)))) 4194303,
 i 28 (mv t27) 8388607,
 ig 29 (.b0 t2 7) 28 true 16777215,
 ig 30 (.b0 t29 1) 28 true 33554431,
 ig 31 (.load true 4 t30) 28 true 67108863,
 ig 32 (.b0 t3 7) 28 true 16777215,
 ig 33 (.b0 t32 1) 28 true 150994943,
 ig 34 (.load true 4 t33) 28 true 419430399,
 ig 35 (.eqs false [0,0,0,0] t31 t34) 28 true 1073741823,
 i 36 (.pick t28 t35 (.c (.pv (.bool false)))) 2147483647,
 i 37 (mv t36) 4294967295,
 ig 38 (.b0 t2 34) 37 true 8589934591,
 ig 39 (.b0 t38 0) 37 true 17179869183,
 ig 40 (.load false 1 t39) 37 true 34359738367,
 ig 41 (.b0 t3 34) 37 true 8589934591,
 ig 42 (.b0 t41 0) 37 true 77309411327,
 ig 43 (.load false 1 t42) 37 true 214748364799,
 ig 44 (.bin .eql t40 t43) 37 true 549755813887,
 i 45 (.pick t37 t44 (.c (.pv (.bool false)))) 1099511627775,
 i 46 (mv t45) 2199023255551,
 ig 47 (.b0 t2 40) 46 true 4398046511103,
 ig 48 (.load false 1 t47) 46 true 8796093022207,
 ig 49 (.b0 t3 40) 46 true 4398046511103,
 ig 50 (.load false 1 t49) 46 true 21990232555519,
 ig 51 (.bin .eql t48 t50) 46 true 70368744177663,
 i 52 (.pick t46 t51 (.c (.pv (.bool false)))) 140737488355327,
 i 53 (mv t52) 281474976710655,
 ig 54 (.b0 t2 41) 53 true 562949953421311,
 ig 55 (.load false 1 t54) 53 true 1125899906842623,
 ig 56 (.l8 t55) 53 true 2251799813685247,
 ig 57 (.b0 t3 41) 53 true 562949953421311,
 ig 58 (.load false 1 t57) 53 true 5066549580791807,
 ig 59 (.l8 t58) 53 true 14073748835532799,
 ig 60 (.bin .eql t56 t59) 53 true 36028797018963967,
 i 61 (.pick t53 t60 (.c (.pv (.bool false)))) 72057594037927935,
 i 62 (mv t61) 144115188075855871,
 ig 63 (.b0 t2 42) 62 true 288230376151711743,
 ig 64 (.load true 7 t63) 62 true 576460752303423487,
 ig 65 (.b0 t3 42) 62 true 288230376151711743,
 ig 66 (.load true 7 t65) 62 true 1441151880758558719,
 ig 67 (.eqs false [0,1,0,2,0,0,0] t64 t66) 62 true 4611686018427387903,
 i 68 (.pick t62 t67 (.c (.pv (.bool false)))) 9223372036854775807,
 i 69 (mv t68) 18446744073709551615,
 ig 70 (.b0 t2 49) 69 true 36893488147419103231,
 ig 71 (.load true 6 t70) 69 true 73786976294838206463,
 ig 72 (.b0 t3 49) 69 true 36893488147419103231,
 ig 73 (.load true 6 t72) 69 true 184467440737095516159,
 ig 74 (.eqs false [0,0,0,0,0,0] t71 t73) 69 true 590295810358705651711,
 i 75 (.pick t69 t74 (.c (.pv (.bool false)))) 1180591620717411303423,
 i 76 (mv t75) 2361183241434822606847,
 ig 77 (.b0 t2 55) 76 true 4722366482869645213695,
 ig 78 (.load false 1 t77) 76 true 9444732965739290427391,
 ig 79 (.b0 t3 55) 76 true 4722366482869645213695,
 ig 80 (.load false 1 t79) 76 true 23611832414348226068479,
 ig 81 (.bin .eql t78 t80) 76 true 75557863725914323419135,
 i 82 (.pick t76 t81 (.c (.pv (.bool false)))) 151115727451828646838271,
 i 83 (mv t82) 302231454903657293676543,
 ig 84 (.b0 t2 56) 83 true 604462909807314587353087,
 ig 85 (.load false 1 t84) 83 true 1208925819614629174706175,
 ig 86 (.b0 t3 56) 83 true 604462909807314587353087,
 ig 87 (.load false 1 t86) 83 true 3022314549036572936765439,
 ig 88 (.bin .eql t85 t87) 83 true 9671406556917033397649407,
 i 89 (.pick t83 t88 (.c (.pv (.bool false)))) 19342813113834066795298815,
 i 4 (mv t89) 38685626227668133590597631] false)
 .ret)⟩
def a5n:n6:=⟨1,18,[.tmp 2],
 .seq (.b6 [i 2 (.mv (.c (I 0))) 0] false)
 (.seq (.b6 [i 3 (.mv (.c (I 0))) 0] false)
 (.seq (.seq (.b6 [i 6 (mv t0) 0,
 i 7 (.l8 t6) 1,
 i 8 (.mv (.c (I 0))) 0] false)
 (.block 0
 (.loop [3,6,7,8]
 (.seq (.b6 [i 9 (.bin .lss t8 t7) 0] false)
 (.seq (.cond t9
 .skip
 (.exit 0))
 (.seq (.block 1
 (.seq (.b6 [i 10 (.i6 7 t6 t8) 0,
 i 11 (.load true 7 r9) 1,
 i 5 (.alloc z2) 0,
 iz (.store 7 t5 x4) 7] false)
 (.b6 [i 12 (mv t3) 0,
 i 13 (.load true 7 t5) 0,
 i 14 (.call (.f a2e) [B7]) 2,
 i 15 (.bin .add x6 D2) 7,
 i 3 (mv G0) 15] false)))
 (.b6 [i 16 (.bin .add t8 (.c (I 1))) 0,
 i 8 (mv G1) 1] false)))))))
 (.seq (.b6 [i 17 (mv t3) 0,
 i 2 (mv E0) 1] false)
 .ret)))⟩
def c_heap_store_bare:n6:=⟨2,74,[.tmp 4],
 .seq (.b6 [i 2 (.box 1 t0) 0,
 i 3 (.box 7 t1) 0,
 i 4 (.mv (.c (.pv (.bool false)))) 0] false)
 (.seq (.b6 [i 7 (.b0 t3 2) 0,
 i 8 (.load false 1 t7) 1,
 i 9 (.l8 t8) 3,
 i 10 (.b0 t3 3) 0,
 i 11 (.load false 1 r9) 8,
 i 12 (.l8 x4) 24,
 i 13 (.b0 t3 4) 0,
 i 14 (.load false 1 B7) 64,
 i 15 (.l8 D2) 192,
 i 16 (.bin .add x6 G0) 504,
 i 5 (mv t9) 7,
 i 6 (mv G1) 2047] false)
 (.seq (.seq (.b6 [i 17 (.b0 t3 0) 0,
 i 18 (.load false 1 E0) 1] false)
 (.block 0
 (.seq (.b6 [i 20 (.bin .eql J6 (.c (I 1))) 0,
 i 19 (mv K5) 1] false)
 (.cond L9
 (.seq (.b6 [i 21 (mv t5) 0,
 i 22 (mv t6) 0,
 i 23 (.bin .add J5 P8) 3,
 i 24 (.bin .eql T9 (.c (I 0))) 7,
 i 25 (mv Y5) 15,
 ig 26 (.b0 t3 5) 25 true 31,
 ig 27 (.load false 1 t26) 25 true 63,
 ig 28 (.bin .eql t27 (.c (I 0))) 25 true 127,
 i 29 (.pick X3 t28 (.c (.pv (.bool false)))) 255,
 i 30 (mv t29) 511,
 ig 31 (.b0 t3 6) 30 true 1023,
 ig 32 (.load false 1 t31) 30 true 2047,
 ig 33 (.bin .eql t32 (.c (I 0))) 30 true 4095,
 i 34 (.pick t30 t33 (.c (.pv (.bool false)))) 8191,
 i 4 (mv t34) 16383] false)
 .ret)
 (.seq (.b6 [i 36 (.bin .eql J6 (.c (I 2))) 0,
 i 35 (mv t36) 1] false)
 (.cond t35
 (.seq (.b6 [i 37 (.b0 t3 1) 0,
 i 38 (.load false 1 t37) 1,
 i 39 (.bin .eql t38 (.c (.pv (.str [])))) 3,
 i 40 (mv t39) 7,
 ig 41 (mv t6) 40 true 15,
 ig 42 (.bin .eql t41 (.c (I 0))) 40 true 31,
 i 43 (.pick t40 t42 (.c (.pv (.bool false)))) 63,
 i 44 (mv t43) 127,
 ig 45 (.b0 t3 5) 44 true 255,
 ig 46 (.load false 1 t45) 44 true 511,
 ig 47 (.bin .eql t46 (.c (I 0))) 44 true 1023,
 i 48 (.pick t44 t47 (.c (.pv (.bool false)))) 2047,
 i 49 (mv t48) 4095,
 ig 50 (.b0 t3 6) 49 true 8191,
 ig 51 (.load false 1 t50) 49 true 16383,
 ig 52 (.bin .eql t51 (.c (I 0))) 49 true 32767,
 i 53 (.pick t49 t52 (.c (.pv (.bool false)))) 65535,
 i 4 (mv t53) 131071] false)
 .ret)
 (.seq (.b6 [i 55 (.bin .eql J6 (.c (I 3))) 0,
 i 54 (mv t55) 1] false)
 (.cond t54
 (.seq (.b6 [i 56 (.b0 t3 1) 0,
 i 57 (.load false 1 t56) 1,
 i 58 (.bin .eql t57 (.c (.pv (.str [])))) 3,
 i 59 (mv t58) 7,
 ig 60 (mv t5) 59 true 15,
 ig 61 (.bin .eql t60 (.c (I 0))) 59 true 31,
 i 62 (.pick t59 t61 (.c (.pv (.bool false)))) 63,
 i 63 (mv t62) 127,
 ig 64 (.b0 t3 6) 63 true 255,
 ig 65 (.load false 1 t64) 63 true 511,
 ig 66 (.bin .eql t65 (.c (I 0))) 63 true 1023,
 i 67 (.pick t63 t66 (.c (.pv (.bool false)))) 2047,
 i 4 (mv t67) 4095] false)
 .ret)
 (.seq (.b6 [i 69 (.bin .eql J6 (.c (I 4))) 0,
 i 68 (mv t69) 1] false)
 (.cond t68
 (.seq (.b6 [i 70 (mv t5) 0,
 i 71 (mv t6) 0,
 i 72 (.bin .add t70 t71) 3,
 i 73 (.bin .eql t72 (.c (I 0))) 7,
 i 4 (mv t73) 15] false)
 .ret)
 .skip))))))))))
 (.seq (.b6 [i 4 (.mv (.c (.pv (.bool false)))) 0] false)
 .ret)))⟩
def c_heap_store_limited:n6:=⟨2,73,[.tmp 4],
 .seq (.b6 [i 2 (.box 1 t0) 0,
 i 3 (.box 7 t1) 0,
 i 4 (.mv (.c (.pv (.bool false)))) 0] false)
 (.seq (.seq (.b6 [i 5 (.b0 t3 0) 0,
 i 6 (.load false 1 t5) 1] false)
 (.block 0
 (.seq (.b6 [i 8 (.bin .eql t6 (.c (I 1))) 0,
 i 7 (mv t8) 1] false)
 (.cond t7
 (.seq (.b6 [i 9 (.b0 t3 1) 0,
 i 10 (.load false 1 t9) 1,
 i 11 (.a0m r9) 3,
 i 12 (.bin .leq x4 (.c (I 1000))) 7,
 i 4 (mv x6) 15] false)
 .ret)
 (.seq (.b6 [i 14 (.bin .eql t6 (.c (I 2))) 0,
 i 13 (mv D2) 1] false)
 (.cond B7
 (.seq (.b6 [i 15 (.b0 t3 2) 0,
 i 16 (.load false 1 G0) 1,
 i 17 (.l8 G1) 3,
 i 18 (.bin .leq E0 (.c (I 1000))) 7,
 i 4 (mv J6) 15] false)
 .ret)
 (.seq (.b6 [i 20 (.bin .eql t6 (.c (I 3))) 0,
 i 19 (mv K5) 1] false)
 (.cond L9
 (.seq (.b6 [i 21 (.b0 t3 5) 0,
 i 22 (.load false 1 J5) 1,
 i 23 (.bin .geq P8 (.c (I 0))) 3,
 i 24 (mv T9) 7,
 ig 25 (.b0 t3 5) 24 true 15,
 ig 26 (.load false 1 X3) 24 true 31,
 ig 27 (.bin .leq t26 (.c (I 200))) 24 true 63,
 i 28 (.pick Y5 t27 (.c (.pv (.bool false)))) 127,
 i 29 (mv t28) 255,
 ig 30 (.b0 t3 3) 29 true 511,
 ig 31 (.load false 1 t30) 29 true 1023,
 ig 32 (.l8 t31) 29 true 2047,
 ig 33 (.b0 t3 4) 29 true 511,
 ig 34 (.load false 1 t33) 29 true 4607,
 ig 35 (.l8 t34) 29 true 12799,
 ig 36 (.bin .eql t32 t35) 29 true 32767,
 i 37 (.pick t29 t36 (.c (.pv (.bool false)))) 65535,
 i 38 (mv t37) 131071,
 ig 39 (.b0 t3 3) 38 true 262143,
 ig 40 (.load false 1 t39) 38 true 524287,
 ig 41 (.l8 t40) 38 true 1048575,
 ig 42 (.b0 t3 5) 38 true 262143,
 ig 43 (.load false 1 t42) 38 true 2359295,
 ig 44 (.bin .leq t41 t43) 38 true 8388607,
 i 45 (.pick t38 t44 (.c (.pv (.bool false)))) 16777215,
 i 4 (mv t45) 33554431] false)
 .ret)
 .skip))))))))
 (.seq (.b6 [i 46 (.b0 t3 1) 0,
 i 47 (.load false 1 t46) 1,
 i 48 (.a0m t47) 3,
 i 49 (.bin .leq t48 (.c (I 4000))) 7,
 i 50 (mv t49) 15,
 ig 51 (.b0 t3 6) 50 true 31,
 ig 52 (.load false 1 t51) 50 true 63,
 ig 53 (.bin .geq t52 (.c (I 0))) 50 true 127,
 i 54 (.pick t50 t53 (.c (.pv (.bool false)))) 255,
 i 55 (mv t54) 511,
 ig 56 (.b0 t3 6) 55 true 1023,
 ig 57 (.load false 1 t56) 55 true 2047,
 ig 58 (.b0 t3 1) 55 true 1023,
 ig 59 (.load false 1 t58) 55 true 5119,
 ig 60 (.a0m t59) 55 true 13311,
 ig 61 (.bin .leq t57 t60) 55 true 32767,
 i 62 (.pick t55 t61 (.c (.pv (.bool false)))) 65535,
 i 63 (mv t62) 131071,
 ig 64 (.b0 t3 5) 63 true 262143,
 ig 65 (.load false 1 t64) 63 true 524287,
 ig 66 (.bin .eql t65 (.c (I 0))) 63 true 1048575,
 ig 67 (mv t66) 63 true 2097151,
 ig 68 (.b0 t3 5) 67 false 4194303,
 ig 69 (.load false 1 t68) 67 false 8388607,
 ig 70 (.bin .eql t69 (.c (I 1))) 67 false 16777215,
 ig 71 (.pick t67 (.c (.pv (.bool true))) t70) 63 true 33554431,
 i 72 (.pick t63 t71 (.c (.pv (.bool false)))) 67108863,
 i 4 (mv t72) 134217727] false)
 .ret))⟩
def c_heap_store_keyed:n6:=⟨2,47,[.cell 4 false 1],
 .seq (.b6 [i 2 (.box 1 t0) 0,
 i 3 (.box 7 t1) 0,
 i 4 (.alloc [.pv (.bool false)]) 0] false)
 (.seq (.seq (.b6 [i 10 (.load true 7 t3) 0,
 i 11 (.call (.f n_heap_objects) [r9]) 1] false)
 (.block 0
 (.rng x4 [12]
 (.b6 [i 5 (.alloc z0) 0,
 iz (.store 7 t5 x6) 1] false)
 (.block 1
 (.seq (.b6 [i 13 (.b0 t2 0) 0,
 i 14 (.load false 1 B7) 1,
 i 15 (.load true 7 t5) 0,
 i 16 (.call (.f E2) [D2,G0]) 7,
 i 17 (.not G1) 15] false)
 (.cond E0
 (.seq (.b6 [iz (.store 1 t4 (.c (.pv (.bool false)))) 0] false)
 .ret)
 .skip))))))
 (.seq (.seq (.b6 [i 18 (.b0 t3 3) 0,
 i 19 (.load false 1 J6) 1,
 i 20 (.l8 L9) 3,
 i 21 (.mv (.c (I 0))) 0] false)
 (.block 2
 (.loop [3,4,19,20,21]
 (.seq (.b6 [i 22 (.bin .lss J5 K5) 0] false)
 (.seq (.cond P8
 .skip
 (.exit 2))
 (.seq (.block 3
 (.seq (.b6 [i 23 (mv J5) 0,
 i 24 (.i6 7 L9 J5) 0,
 i 25 (.load true 7 Y5) 2,
 i 7 (.alloc z0) 0,
 i 6 (mv T9) 15,
 iz (.store 7 t7 X3) 31] false)
 (.seq (.b6 [i 27 (.load true 7 t7) 0,
 i 28 (.call (.f V5) [t27]) 1,
 i 26 (mv t28) 3,
 i 29 (.extract t26 0) 7,
 i 30 (.extract t26 1) 7,
 i 8 (.alloc z0) 0,
 iz (.store 7 t8 t29) 47,
 i 9 (mv t30) 127] false)
 (.seq (.b6 [i 31 (mv t9) 0,
 i 32 (.bin .neq t31 (.c (I 0))) 1,
 i 33 (mv t32) 3,
 ig 34 (.load true 7 t8) 33 false 7,
 ig 35 (.load true 7 t7) 33 false 7,
 ig 36 (.eqs true [0,1,0,2,0,0,0] t34 t35) 33 false 31,
 i 37 (.pick t33 (.c (.pv (.bool true))) t36) 63,
 i 38 (mv t37) 127,
 ig 39 (.b0 t3 3) 38 false 255,
 ig 40 (.load false 1 t39) 38 false 511,
 ig 41 (mv t6) 38 false 255,
 ig 42 (.slice 7 t40 none (some t41) none) 38 false 2047,
 ig 43 (.load true 7 t7) 38 false 255,
 ig 44 (.call (.f n_slices_Contains_Obj) [t42,t43]) 38 false 8191,
 i 45 (.pick t38 (.c (.pv (.bool true))) t44) 16383] true)
 (.cond t45
 (.seq (.b6 [iz (.store 1 t4 (.c (.pv (.bool false)))) 0] false)
 .ret)
 .skip)))))
 (.b6 [i 46 (.bin .add J5 (.c (I 1))) 0,
 i 21 (mv t46) 1] false)))))))
 (.seq (.b6 [iz (.store 1 t4 (.c (.pv (.bool true)))) 0] false)
 .ret)))⟩
def a0D:n6:=⟨1,24,[.cell 2 true 67],
 .seq (.b6 [i 2 (.alloc z1) 0] false)
 (.seq (.b6 [i 4 (.build z2 [(0,1,.c (I 3)),(5,1,.c (I 9))]) 0,
 i 5 (.call (.f r7) [.c (.pv (.str [120]))]) 0,
 i 6 (.G6 7 1 z0 [(0,t5)]) 2,
 i 7 (.call (.f L4) [.c (I 5)]) 2,
 i 8 (.G6 7 1 z0 [(0,t7)]) 10,
 i 9 (.build z2 [(0,1,.c (I 3)),(5,1,.c (I 9)),(3,1,t6),(4,1,t8)]) 30,
 i 10 (.call (.f r7) [.c (.pv (.str [97]))]) 10,
 i 11 (.G6 7 1 z0 [(0,r9)]) 74,
 i 12 (.call (.f L4) [.c (I 7)]) 74,
 i 13 (.G6 7 1 z0 [(0,x6)]) 330,
 i 14 (.build z2 [(0,1,.c (I 3)),(5,1,.c (I 2)),(3,1,x4),(4,1,B7)]) 970,
 i 15 (.build z2 [(0,1,.c (I 1)),(1,1,.c (.pv (.str [97])))]) 0,
 i 16 (.G6 7 4 z2 [(0,t4),(1,t9),(2,D2),(3,G0)]) 4095,
 i 3 (mv G1) 8191] false)
 (.seq (.b6 [i 17 (mv t3) 0,
 i 18 (.call (.f V1) [.c (I 0)]) 0,
 i 19 (.call (.f V1) [.c (I 1)]) 2,
 i 20 (.call (.f V1) [.c (I 2)]) 6,
 i 21 (.G6 7 3 z0 [(0,J6),(1,L9),(2,K5)]) 14,
 i 22 (mv t0) 0,
 i 23 (.build z1 [(2,1,E0),(1,1,J5),(0,1,P8)]) 63,
 iz (.store 67 t2 T9) 127] false)
 .ret))⟩
def a5o:n6:=⟨1,5,[.cell 2 true 7],
 .seq (.b6 [i 2 (.alloc z0) 0] false)
 (.seq (.b6 [i 3 (mv t0) 0,
 i 4 (.build z0 [(0,1,.c (I 5)),(3,1,t3)]) 1,
 iz (.store 7 t2 t4) 3] false)
 .ret)⟩
def a9M:n6:=⟨1,5,[.cell 2 true 7],
 .seq (.b6 [i 2 (.alloc z0) 0] false)
 (.seq (.b6 [i 3 (mv t0) 0,
 i 4 (.build z0 [(0,1,.c (I 9)),(4,1,t3)]) 1,
 iz (.store 7 t2 t4) 3] false)
 .ret)⟩
def a4h:n6:=⟨3,24,[.tmp 6],
 .seq (.b6 [i 6 (.mv (.c (.pv (.bool false)))) 0] false)
 (.seq (.b6 [i 10 (mv t2) 0,
 i 11 (.call (.f x3) [r9]) 1,
 i 12 (mv t0) 0,
 i 13 (.call (.f C5) [x4,x6]) 7,
 i 9 (mv B7) 15,
 i 14 (.extract t9 0) 31,
 i 15 (.extract t9 1) 31,
 i 7 (.alloc z1) 0,
 iz (.store 67 t7 D2) 191,
 i 8 (mv G0) 511] false)
 (.seq (.b6 [i 16 (mv t8) 0,
 i 17 (.bin .eql G1 (.c (I 0))) 1,
 i 18 (mv E0) 3,
 ig 19 (.b0 t7 0) 18 true 7,
 ig 20 (.load false 1 L9) 18 true 15,
 ig 21 (mv t1) 18 true 7,
 ig 22 (.call (.f m6) [K5,J5]) 18 true 63,
 i 23 (.pick J6 P8 (.c (.pv (.bool false)))) 127,
 i 6 (mv T9) 255] false)
 .ret))⟩
def a4g:n6:=⟨3,25,[.tmp 6],
 .seq (.b6 [i 6 (.mv (.c (.pv (.bool false)))) 0] false)
 (.seq (.b6 [i 10 (mv t2) 0,
 i 11 (.call (.f x3) [r9]) 1,
 i 12 (mv t0) 0,
 i 13 (.call (.f C5) [x4,x6]) 7,
 i 9 (mv B7) 15,
 i 14 (.extract t9 0) 31,
 i 15 (.extract t9 1) 31,
 i 7 (.alloc z1) 0,
 iz (.store 67 t7 D2) 191,
 i 8 (mv G0) 511] false)
 (.seq (.b6 [i 16 (mv t8) 0,
 i 17 (mv t1) 0,
 i 18 (.bin .eql G1 E0) 3,
 i 19 (mv J6) 7,
 ig 20 (.load true 67 t7) 19 true 15,
 ig 21 (mv t2) 19 true 15,
 ig 22 (.call (.f x3) [J5]) 19 true 47,
 ig 23 (.call (.f w8) [K5,P8]) 19 true 127,
 i 24 (.pick L9 T9 (.c (.pv (.bool false)))) 255,
 i 6 (mv Y5) 511] true)
 .ret))⟩
def a0z:n6:=⟨2,30,[.cell 4 true 7,.cell 5 true 7,.cell 6 false 1],
 .seq (.b6 [i 2 (.box 67 t0) 0,
 i 3 (.box 7 t1) 0,
 i 4 (.alloc z0) 0,
 i 5 (.alloc z0) 0,
 i 6 (.alloc [.pv (.bool false)]) 0] false)
 (.scope
 (.seq .skip
 (.seq (.seq (.b6 [i 11 (.load true 67 t2) 0,
 i 12 (.call (.f C2) [x4]) 1] false)
 (.block 0
 (.rng x6 [13]
 (.b6 [i 7 (.alloc z0) 0,
 iz (.store 7 t7 B7) 1] false)
 (.block 1
 (.seq (.b6 [i 15 (.b0 t2 0) 0,
 i 16 (.b0 G0 2) 1,
 i 17 (.load false 1 G1) 3,
 i 18 (.load true 7 t7) 0,
 i 19 (.load true 7 t3) 0,
 i 20 (.call (.f E1) [E0,J6,L9]) 31,
 i 14 (mv K5) 63,
 i 21 (.extract D2 0) 127,
 i 22 (.extract D2 1) 127,
 i 23 (.extract D2 2) 127,
 i 8 (.alloc z0) 0,
 iz (.store 7 t8 J5) 1279,
 i 9 (mv P8) 3583,
 i 10 (mv T9) 8191] false)
 (.seq (.b6 [i 24 (mv t9) 0] false)
 (.cond Y5
 (.seq (.b6 [i 25 (.load true 7 t7) 0,
 i 26 (.load true 7 t8) 0,
 iz (.store 7 t4 X3) 1,
 iz (.store 7 t5 t26) 7,
 iz (.store 1 t6 (.c (.pv (.bool true)))) 15] true)
 (.exit 0))
 .skip)))))))
 (.seq (.b6 [i 27 (.load true 7 t4) 0,
 i 28 (.load true 7 t5) 0,
 i 29 (.load false 1 t6) 0,
 iz (.store 7 t4 t27) 1,
 iz (.store 7 t5 t28) 11,
 iz (.store 1 t6 t29) 31] true)
 .ret))))⟩
def a0x:n6:=⟨1,71,[.cell 2 true 67,.tmp 3],
 .seq (.b6 [i 1 (.box 67 t0) 0,
 i 2 (.alloc z1) 0,
 i 3 (.mv (.c (I 0))) 0] false)
 (.seq (.b6 [i 10 (.load true 67 t1) 0,
 i 11 (.call (.f e6) [r9,.c (I 1),.c (I 0),.c (.pv (.bool false))]) 1,
 i 9 (mv x4) 3,
 i 12 (.extract t9 0) 7,
 i 13 (.extract t9 1) 7,
 i 14 (.extract t9 2) 7,
 i 5 (.alloc z0) 0,
 i 4 (mv x6) 79,
 iz (.store 7 t5 B7) 223,
 i 6 (mv D2) 511] false)
 (.seq (.block 0
 (.seq (.b6 [i 16 (mv t6) 0,
 i 17 (.bin .neq G1 (.c (I 0))) 1,
 i 15 (mv E0) 3] false)
 (.cond G0
 (.seq (.b6 [i 18 (.b0 t1 0) 0,
 i 19 (.load true 67 J6) 1,
 i 20 (mv t6) 0,
 iz (.store 67 t2 L9) 3,
 i 3 (mv K5) 15] false)
 .ret)
 (.seq (.b6 [i 22 (mv t4) 0,
 i 23 (.i6 7 P8 (.c (I 0))) 1,
 i 24 (.b0 T9 0) 3,
 i 25 (.load false 1 Y5) 7,
 i 26 (.bin .neq X3 (.c (I 3))) 15,
 i 21 (mv t26) 31] false)
 (.cond J5
 (.seq (.b6 [i 27 (.b0 t1 0) 0,
 i 28 (.load true 67 t27) 1,
 iz (.store 67 t2 t28) 3,
 i 3 (.mv (.c (I 22))) 7] false)
 .ret)
 (.seq (.b6 [i 30 (mv t4) 0,
 i 31 (.i6 7 t30 (.c (I 0))) 1,
 i 32 (.b0 t31 2) 3,
 i 33 (.load false 1 t32) 7,
 i 34 (.bin .lss t33 (.c (I 0))) 15,
 i 29 (mv t34) 31] false)
 (.cond t29
 (.seq (.b6 [i 35 (.b0 t1 0) 0,
 i 36 (.load true 67 t35) 1,
 iz (.store 67 t2 t36) 3,
 i 3 (.mv (.c (I 23))) 7] false)
 .ret)
 (.seq (.b6 [i 38 (mv t4) 0,
 i 39 (.i6 7 t38 (.c (I 0))) 1,
 i 40 (.b0 t39 2) 3,
 i 41 (.load false 1 t40) 7,
 i 42 (.bin .gtr t41 (.c (I 200))) 15,
 i 37 (mv t42) 31] false)
 (.cond t37
 (.seq (.b6 [i 43 (.b0 t1 0) 0,
 i 44 (.load true 67 t43) 1,
 iz (.store 67 t2 t44) 3,
 i 3 (.mv (.c (I 26))) 7] false)
 .ret)
 .skip)))))))))
 (.seq (.b6 [i 46 (.b0 t1 0) 0,
 i 47 (.b0 t46 2) 1,
 i 48 (.load false 1 t47) 3,
 i 49 (mv t4) 0,
 i 50 (.i6 7 t49 (.c (I 0))) 8,
 i 51 (.b0 t50 2) 24,
 i 52 (.load false 1 t51) 56,
 i 53 (.build z2 [(0,1,.c (I 3)),(5,1,t52)]) 120,
 i 54 (.call (.f a3s) [t48,t53]) 255,
 i 45 (mv t54) 511,
 i 55 (.extract t45 0) 1023,
 i 56 (.extract t45 1) 1023,
 i 57 (.extract t45 2) 1023,
 i 7 (mv t55) 2047,
 i 8 (mv t56) 12287,
 i 6 (mv t57) 32767] true)
 (.seq (.seq (.b6 [i 58 (mv t6) 0,
 i 59 (.bin .neq t58 (.c (I 0))) 1] false)
 (.cond t59
 (.seq (.b6 [i 60 (.b0 t1 0) 0,
 i 61 (.load true 67 t60) 1,
 i 62 (mv t6) 0,
 iz (.store 67 t2 t61) 3,
 i 3 (mv t62) 15] false)
 .ret)
 .skip))
 (.seq (.b6 [i 63 (.load true 67 t1) 0,
 i 64 (mv t7) 0,
 i 65 (mv t8) 0,
 i 66 (.build z0 [(0,1,.c (I 9)),(4,1,t65)]) 4,
 i 67 (.G6 7 1 z0 [(0,t66)]) 12,
 i 68 (.call (.f g8) [t63,.c (I 1),t64,t67]) 31,
 i 69 (.extract t68 0) 63,
 i 70 (.extract t68 1) 63,
 iz (.store 67 t2 t69) 255,
 i 3 (mv t70) 511] false)
 .ret)))))⟩
def Z5:n6:=⟨1,55,[.cell 2 true 67,.tmp 3],
 .seq (.b6 [i 1 (.box 67 t0) 0,
 i 2 (.alloc z1) 0,
 i 3 (.mv (.c (I 0))) 0] false)
 (.seq (.b6 [i 9 (.load true 67 t1) 0,
 i 10 (.call (.f e6) [t9,.c (I 1),.c (I 1),.c (.pv (.bool false))]) 1,
 i 8 (mv r9) 3,
 i 11 (.extract t8 0) 7,
 i 12 (.extract t8 1) 7,
 i 13 (.extract t8 2) 7,
 i 5 (.alloc z0) 0,
 i 4 (mv x4) 79,
 iz (.store 7 t5 x6) 223,
 i 6 (mv B7) 511] false)
 (.seq (.seq (.b6 [i 14 (mv t6) 0,
 i 15 (.bin .neq D2 (.c (I 0))) 1] false)
 (.cond G0
 (.seq (.b6 [i 16 (.b0 t1 0) 0,
 i 17 (.load true 67 G1) 1,
 i 18 (mv t6) 0,
 iz (.store 67 t2 E0) 3,
 i 3 (mv J6) 15] false)
 .ret)
 .skip))
 (.seq (.seq (.b6 [i 19 (.b0 t1 0) 0,
 i 20 (.b0 L9 1) 1,
 i 21 (.load false 1 K5) 3,
 i 22 (.l8 J5) 7,
 i 23 (.bin .geq P8 (.c (I 20))) 15] false)
 (.cond T9
 (.seq (.b6 [i 24 (.b0 t1 0) 0,
 i 25 (.load true 67 Y5) 1,
 iz (.store 67 t2 X3) 3,
 i 3 (.mv (.c (I 29))) 7] false)
 .ret)
 .skip))
 (.seq (.b6 [i 27 (.load true 67 t1) 0,
 i 28 (.b0 t1 0) 0,
 i 29 (.b0 t28 2) 2,
 i 30 (.load false 1 t29) 6,
 i 31 (.call (.f g8) [t27,.c (I 1),t30,.c (.emp 7)]) 15,
 i 26 (mv t31) 31,
 i 32 (.extract t26 0) 63,
 i 33 (.extract t26 1) 63,
 i 7 (.alloc z1) 0,
 iz (.store 67 t7 t32) 383,
 i 6 (mv t33) 1023] false)
 (.seq (.seq (.b6 [i 34 (mv t6) 0,
 i 35 (.bin .neq t34 (.c (I 0))) 1] false)
 (.cond t35
 (.seq (.b6 [i 36 (.b0 t1 0) 0,
 i 37 (.load true 67 t36) 1,
 i 38 (mv t6) 0,
 iz (.store 67 t2 t37) 3,
 i 3 (mv t38) 15] false)
 .ret)
 .skip))
 (.seq (.b6 [i 39 (.b0 t7 1) 0,
 i 40 (.load false 1 t39) 1,
 i 41 (.b0 t7 1) 0,
 i 42 (.load false 1 t41) 4,
 i 43 (.l8 t42) 12,
 i 44 (.b0 t7 1) 0,
 i 45 (.load false 1 t44) 32,
 i 46 (.l8 t45) 96,
 i 47 (.slice 7 t40 none (some t43) (some t46)) 255,
 i 48 (mv t4) 0,
 i 49 (.i6 7 t48 (.c (I 0))) 512,
 i 50 (.load true 7 t49) 1536,
 i 51 (.G6 7 1 z0 [(0,t50)]) 3584,
 i 52 (.append 7 64 t47 t51) 8191,
 i 53 (.b0 t7 1) 16383,
 iz (.store 1 t53 t52) 32767] true)
 (.seq (.b6 [i 54 (.load true 67 t7) 0,
 iz (.store 67 t2 t54) 1,
 i 3 (.mv (.c (I 0))) 3] false)
 .ret)))))))⟩
def a1o:n6:=⟨1,28,[.cell 2 true 67,.tmp 3],
 .seq (.b6 [i 1 (.box 67 t0) 0,
 i 2 (.alloc z1) 0,
 i 3 (.mv (.c (I 0))) 0] false)
 (.seq (.seq (.b6 [i 5 (.b0 t1 0) 0,
 i 6 (.b0 t5 1) 1,
 i 7 (.load false 1 t6) 3,
 i 8 (.l8 t7) 7,
 i 9 (.bin .leq t8 (.c (I 2))) 15] false)
 (.cond t9
 (.seq (.b6 [i 10 (.b0 t1 0) 0,
 i 11 (.load true 67 r9) 1,
 iz (.store 67 t2 x4) 3,
 i 3 (.mv (.c (I 28))) 7] false)
 .ret)
 .skip))
 (.seq (.b6 [i 12 (.b0 t1 0) 0,
 i 13 (.load true 67 x6) 1,
 i 4 (.alloc z1) 0,
 iz (.store 67 t4 B7) 7] false)
 (.seq (.b6 [i 14 (.b0 t1 0) 0,
 i 15 (.b0 D2 1) 1,
 i 16 (.load false 1 G0) 3,
 i 17 (.l8 G1) 7,
 i 18 (.bin .sub E0 (.c (I 1))) 15,
 i 19 (.b3a 7 64 [.int .i64 (0),.bool false,.int .i64 (0),.str [],.int .i64 (0),.int .i64 (0),.int .i64 (0)] J6) 31,
 i 20 (.b0 t4 1) 63,
 iz (.store 1 K5 L9) 127] false)
 (.seq (.b6 [i 21 (.b0 t4 1) 0,
 i 22 (.load false 1 J5) 1,
 i 23 (.b0 t1 0) 0,
 i 24 (.b0 T9 1) 4,
 i 25 (.load false 1 Y5) 12,
 i 26 (.copy 7 P8 X3) 31] false)
 (.seq (.b6 [i 27 (.load true 67 t4) 0,
 iz (.store 67 t2 t27) 1,
 i 3 (.mv (.c (I 0))) 3] false)
 .ret)))))⟩
def a1n:n6:=⟨1,28,[.cell 2 true 67,.tmp 3],
 .seq (.b6 [i 1 (.box 67 t0) 0,
 i 2 (.alloc z1) 0,
 i 3 (.mv (.c (I 0))) 0] false)
 (.seq (.b6 [i 8 (.load true 67 t1) 0,
 i 9 (.call (.f e6) [t8,.c (I 2),.c (I 0),.c (.pv (.bool true))]) 1,
 i 7 (mv t9) 3,
 i 10 (.extract t7 0) 7,
 i 11 (.extract t7 1) 7,
 i 12 (.extract t7 2) 7,
 i 5 (.alloc z0) 0,
 i 4 (mv r9) 79,
 iz (.store 7 t5 x4) 223,
 i 6 (mv x6) 511] false)
 (.seq (.seq (.b6 [i 13 (mv t6) 0,
 i 14 (.bin .neq B7 (.c (I 0))) 1] false)
 (.cond D2
 (.seq (.b6 [i 15 (.b0 t1 0) 0,
 i 16 (.load true 67 G0) 1,
 i 17 (mv t6) 0,
 iz (.store 67 t2 G1) 3,
 i 3 (mv E0) 15] false)
 .ret)
 .skip))
 (.seq (.b6 [i 18 (.load true 67 t1) 0,
 i 19 (.load true 67 t1) 0,
 i 20 (.call (.f o8) [L9]) 2,
 i 21 (.load true 7 t5) 0,
 i 22 (mv t4) 0,
 i 23 (.i6 7 P8 (.c (I 1))) 16,
 i 24 (.load true 7 T9) 48,
 i 25 (.call (.f m8) [J6,.c (I 2),K5,J5,Y5]) 127,
 i 26 (.extract X3 0) 255,
 i 27 (.extract X3 1) 255,
 iz (.store 67 t2 t26) 1023,
 i 3 (mv t27) 2047] true)
 .ret)))⟩
def a0A:n6:=⟨1,41,[.cell 2 true 67,.tmp 3],
 .seq (.b6 [i 1 (.box 67 t0) 0,
 i 2 (.alloc z1) 0,
 i 3 (.mv (.c (I 0))) 0] false)
 (.seq (.b6 [i 11 (.load true 67 t1) 0,
 i 12 (.call (.f e6) [x4,.c (I 1),.c (I 0),.c (.pv (.bool true))]) 1,
 i 10 (mv x6) 3,
 i 13 (.extract r9 0) 7,
 i 14 (.extract r9 1) 7,
 i 15 (.extract r9 2) 7,
 i 5 (.alloc z0) 0,
 i 4 (mv B7) 79,
 iz (.store 7 t5 D2) 223,
 i 6 (mv G0) 511] false)
 (.seq (.seq (.b6 [i 16 (mv t6) 0,
 i 17 (.bin .neq G1 (.c (I 0))) 1] false)
 (.cond E0
 (.seq (.b6 [i 18 (.b0 t1 0) 0,
 i 19 (.load true 67 J6) 1,
 i 20 (mv t6) 0,
 iz (.store 67 t2 L9) 3,
 i 3 (mv K5) 15] false)
 .ret)
 .skip))
 (.seq (.b6 [i 22 (.load true 67 t1) 0,
 i 23 (.load true 7 t5) 0,
 i 24 (.call (.f k7) [P8,T9]) 3,
 i 21 (mv Y5) 7,
 i 25 (.extract J5 0) 15,
 i 26 (.extract J5 1) 15,
 i 27 (.extract J5 2) 15,
 i 7 (.alloc z0) 0,
 i 8 (.alloc z0) 0,
 iz (.store 7 t7 X3) 415,
 iz (.store 7 t8 t26) 959,
 i 9 (mv t27) 2047] false)
 (.seq (.seq (.b6 [i 28 (mv t9) 0,
 i 29 (.not t28) 1] false)
 (.cond t29
 (.seq (.b6 [i 30 (.b0 t1 0) 0,
 i 31 (.load true 67 t30) 1,
 iz (.store 67 t2 t31) 3,
 i 3 (.mv (.c (I 24))) 7] false)
 .ret)
 .skip))
 (.seq (.b6 [i 32 (.load true 67 t1) 0,
 i 33 (.b0 t1 0) 0,
 i 34 (.b0 t33 2) 2,
 i 35 (.load false 1 t34) 6,
 i 36 (.load true 7 t8) 0,
 i 37 (.G6 7 1 z0 [(0,t36)]) 16,
 i 38 (.call (.f g8) [t32,.c (I 1),t35,t37]) 63,
 i 39 (.extract t38 0) 127,
 i 40 (.extract t38 1) 127,
 iz (.store 67 t2 t39) 511,
 i 3 (mv t40) 1023] false)
 .ret)))))⟩
def Z7:n6:=⟨1,41,[.cell 2 true 67,.tmp 3],
 .seq (.b6 [i 1 (.box 67 t0) 0,
 i 2 (.alloc z1) 0,
 i 3 (.mv (.c (I 0))) 0] false)
 (.seq (.b6 [i 11 (.load true 67 t1) 0,
 i 12 (.call (.f e6) [x4,.c (I 2),.c (I 0),.c (.pv (.bool true))]) 1,
 i 10 (mv x6) 3,
 i 13 (.extract r9 0) 7,
 i 14 (.extract r9 1) 7,
 i 15 (.extract r9 2) 7,
 i 5 (.alloc z0) 0,
 i 4 (mv B7) 79,
 iz (.store 7 t5 D2) 223,
 i 6 (mv G0) 511] false)
 (.seq (.seq (.b6 [i 16 (mv t6) 0,
 i 17 (.bin .neq G1 (.c (I 0))) 1] false)
 (.cond E0
 (.seq (.b6 [i 18 (.b0 t1 0) 0,
 i 19 (.load true 67 J6) 1,
 i 20 (mv t6) 0,
 iz (.store 67 t2 L9) 3,
 i 3 (mv K5) 15] false)
 .ret)
 .skip))
 (.seq (.b6 [i 22 (.load true 67 t1) 0,
 i 23 (.load true 7 t5) 0,
 i 24 (.call (.f k7) [P8,T9]) 3,
 i 21 (mv Y5) 7,
 i 25 (.extract J5 0) 15,
 i 26 (.extract J5 1) 15,
 i 27 (.extract J5 2) 15,
 i 7 (.alloc z0) 0,
 i 8 (.alloc z0) 0,
 iz (.store 7 t7 X3) 415,
 iz (.store 7 t8 t26) 959,
 i 9 (mv t27) 2047] false)
 (.seq (.seq (.b6 [i 28 (mv t9) 0,
 i 29 (.not t28) 1] false)
 (.cond t29
 (.b6 [i 30 (.load true 67 t1) 0,
 i 31 (.call (.f o8) [t30]) 1,
 iz (.store 7 t7 t31) 3] false)
 .skip))
 (.seq (.b6 [i 32 (.load true 67 t1) 0,
 i 33 (.load true 7 t7) 0,
 i 34 (.load true 7 t5) 0,
 i 35 (mv t4) 0,
 i 36 (.i6 7 t35 (.c (I 1))) 8,
 i 37 (.load true 7 t36) 24,
 i 38 (.call (.f m8) [t32,.c (I 2),t33,t34,t37]) 63,
 i 39 (.extract t38 0) 127,
 i 40 (.extract t38 1) 127,
 iz (.store 67 t2 t39) 511,
 i 3 (mv t40) 1023] true)
 .ret)))))⟩
def Z6:n6:=⟨1,47,[.cell 2 true 67,.tmp 3],
 .seq (.b6 [i 1 (.box 67 t0) 0,
 i 2 (.alloc z1) 0,
 i 3 (.mv (.c (I 0))) 0] false)
 (.seq (.b6 [i 10 (.load true 67 t1) 0,
 i 11 (.call (.f e6) [r9,.c (I 2),.c (I 1),.c (.pv (.bool true))]) 1,
 i 9 (mv x4) 3,
 i 12 (.extract t9 0) 7,
 i 13 (.extract t9 1) 7,
 i 14 (.extract t9 2) 7,
 i 5 (.alloc z0) 0,
 i 4 (mv x6) 79,
 iz (.store 7 t5 B7) 223,
 i 6 (mv D2) 511] false)
 (.seq (.seq (.b6 [i 15 (mv t6) 0,
 i 16 (.bin .neq G0 (.c (I 0))) 1] false)
 (.cond G1
 (.seq (.b6 [i 17 (.b0 t1 0) 0,
 i 18 (.load true 67 E0) 1,
 i 19 (mv t6) 0,
 iz (.store 67 t2 J6) 3,
 i 3 (mv L9) 15] false)
 .ret)
 .skip))
 (.seq (.b6 [i 21 (.b0 t1 0) 0,
 i 22 (.b0 J5 2) 1,
 i 23 (.load false 1 P8) 3,
 i 24 (mv t4) 0,
 i 25 (.i6 7 Y5 (.c (I 0))) 8,
 i 26 (.load true 7 X3) 24,
 i 27 (.load true 7 t5) 0,
 i 28 (.call (.f E1) [T9,t26,t27]) 127,
 i 20 (mv t28) 255,
 i 29 (.extract K5 0) 511,
 i 30 (.extract K5 1) 511,
 i 31 (.extract K5 2) 511,
 i 7 (.alloc z0) 0,
 iz (.store 7 t7 t29) 5119,
 i 8 (mv t30) 14335,
 i 6 (mv t31) 32767] true)
 (.seq (.seq (.b6 [i 32 (mv t6) 0,
 i 33 (.bin .neq t32 (.c (I 0))) 1] false)
 (.cond t33
 (.seq (.b6 [i 34 (.b0 t1 0) 0,
 i 35 (.load true 67 t34) 1,
 i 36 (mv t6) 0,
 iz (.store 67 t2 t35) 3,
 i 3 (mv t36) 15] false)
 .ret)
 .skip))
 (.seq (.b6 [i 37 (.load true 67 t1) 0,
 i 38 (.b0 t1 0) 0,
 i 39 (.b0 t38 2) 2,
 i 40 (.load false 1 t39) 6,
 i 41 (mv t8) 0,
 i 42 (.call (.f N9) [t41]) 16,
 i 43 (.G6 7 1 z0 [(0,t42)]) 48,
 i 44 (.call (.f g8) [t37,.c (I 2),t40,t43]) 127,
 i 45 (.extract t44 0) 255,
 i 46 (.extract t44 1) 255,
 iz (.store 67 t2 t45) 1023,
 i 3 (mv t46) 2047] true)
 .ret)))))⟩
def Z8:n6:=⟨1,40,[.cell 2 true 67,.tmp 3],
 .seq (.b6 [i 1 (.box 67 t0) 0,
 i 2 (.alloc z1) 0,
 i 3 (.mv (.c (I 0))) 0] false)
 (.seq (.b6 [i 9 (.load true 67 t1) 0,
 i 10 (.call (.f e6) [t9,.c (I 2),.c (I 1),.c (.pv (.bool true))]) 1,
 i 8 (mv r9) 3,
 i 11 (.extract t8 0) 7,
 i 12 (.extract t8 1) 7,
 i 13 (.extract t8 2) 7,
 i 5 (.alloc z0) 0,
 i 4 (mv x4) 79,
 iz (.store 7 t5 x6) 223,
 i 6 (mv B7) 511] false)
 (.seq (.seq (.b6 [i 14 (mv t6) 0,
 i 15 (.bin .neq D2 (.c (I 0))) 1] false)
 (.cond G0
 (.seq (.b6 [i 16 (.b0 t1 0) 0,
 i 17 (.load true 67 G1) 1,
 i 18 (mv t6) 0,
 iz (.store 67 t2 E0) 3,
 i 3 (mv J6) 15] false)
 .ret)
 .skip))
 (.seq (.b6 [i 20 (.b0 t1 0) 0,
 i 21 (.b0 K5 2) 1,
 i 22 (.load false 1 J5) 3,
 i 23 (mv t4) 0,
 i 24 (.i6 7 T9 (.c (I 0))) 8,
 i 25 (.load true 7 Y5) 24,
 i 26 (.load true 7 t5) 0,
 i 27 (.call (.f P3) [P8,X3,t26]) 127,
 i 19 (mv t27) 255,
 i 28 (.extract L9 0) 511,
 i 29 (.extract L9 1) 511,
 i 7 (mv t28) 1023,
 i 6 (mv t29) 4095] true)
 (.seq (.seq (.b6 [i 30 (mv t6) 0,
 i 31 (.bin .neq t30 (.c (I 0))) 1] false)
 (.cond t31
 (.seq (.b6 [i 32 (.b0 t1 0) 0,
 i 33 (.load true 67 t32) 1,
 i 34 (mv t6) 0,
 iz (.store 67 t2 t33) 3,
 i 3 (mv t34) 15] false)
 .ret)
 .skip))
 (.seq (.b6 [i 35 (.load true 67 t1) 0,
 i 36 (mv t7) 0,
 i 37 (.call (.f g8) [t35,.c (I 2),t36,.c (.emp 7)]) 3,
 i 38 (.extract t37 0) 7,
 i 39 (.extract t37 1) 7,
 iz (.store 67 t2 t38) 31,
 i 3 (mv t39) 63] false)
 .ret)))))⟩
def Z9:n6:=⟨1,49,[.cell 2 true 67,.tmp 3],
 .seq (.b6 [i 1 (.box 67 t0) 0,
 i 2 (.alloc z1) 0,
 i 3 (.mv (.c (I 0))) 0] false)
 (.seq (.b6 [i 11 (.load true 67 t1) 0,
 i 12 (.call (.f e6) [x4,.c (I 1),.c (I 0),.c (.pv (.bool true))]) 1,
 i 10 (mv x6) 3,
 i 13 (.extract r9 0) 7,
 i 14 (.extract r9 1) 7,
 i 15 (.extract r9 2) 7,
 i 5 (.alloc z0) 0,
 i 4 (mv B7) 79,
 iz (.store 7 t5 D2) 223,
 i 6 (mv G0) 511] false)
 (.seq (.seq (.b6 [i 16 (mv t6) 0,
 i 17 (.bin .neq G1 (.c (I 0))) 1] false)
 (.cond E0
 (.seq (.b6 [i 18 (.b0 t1 0) 0,
 i 19 (.load true 67 J6) 1,
 i 20 (mv t6) 0,
 iz (.store 67 t2 L9) 3,
 i 3 (mv K5) 15] false)
 .ret)
 .skip))
 (.seq (.b6 [i 22 (.load true 67 t1) 0,
 i 23 (.load true 7 t5) 0,
 i 24 (.call (.f k7) [P8,T9]) 3,
 i 21 (mv Y5) 7,
 i 25 (.extract J5 0) 15,
 i 26 (.extract J5 1) 15,
 i 27 (.extract J5 2) 15,
 i 7 (.alloc z0) 0,
 i 8 (.alloc z0) 0,
 iz (.store 7 t7 X3) 415,
 iz (.store 7 t8 t26) 959,
 i 9 (mv t27) 2047] false)
 (.seq (.seq (.b6 [i 28 (mv t9) 0,
 i 29 (.not t28) 1] false)
 (.cond t29
 (.seq (.b6 [i 30 (.load true 67 t1) 0,
 i 31 (.b0 t1 0) 0,
 i 32 (.b0 t31 2) 2,
 i 33 (.load false 1 t32) 6,
 i 34 (.call (.f N9) [.c (.pv (.bool false))]) 0,
 i 35 (.G6 7 1 z0 [(0,t34)]) 16,
 i 36 (.call (.f g8) [t30,.c (I 1),t33,t35]) 63,
 i 37 (.extract t36 0) 127,
 i 38 (.extract t36 1) 127,
 iz (.store 67 t2 t37) 511,
 i 3 (mv t38) 1023] true)
 .ret)
 .skip))
 (.seq (.b6 [i 39 (.load true 67 t1) 0,
 i 40 (.b0 t1 0) 0,
 i 41 (.b0 t40 2) 2,
 i 42 (.load false 1 t41) 6,
 i 43 (.load true 7 t7) 0,
 i 44 (.call (.f N9) [.c (.pv (.bool true))]) 0,
 i 45 (.G6 7 2 z0 [(0,t43),(1,t44)]) 48,
 i 46 (.call (.f g8) [t39,.c (I 1),t42,t45]) 127,
 i 47 (.extract t46 0) 255,
 i 48 (.extract t46 1) 255,
 iz (.store 67 t2 t47) 1023,
 i 3 (mv t48) 2047] true)
 .ret)))))⟩
def I5:n6:=⟨1,12,[.cell 2 true 67,.tmp 3],
 .seq (.b6 [i 1 (.box 67 t0) 0,
 i 2 (.alloc z1) 0,
 i 3 (.mv (.c (I 0))) 0] false)
 (.seq (.b6 [i 4 (.b0 t1 0) 0,
 i 5 (.load true 67 t4) 1,
 i 6 (.load true 67 t1) 0,
 i 7 (.call (.f o8) [t6]) 4,
 i 8 (.G6 7 1 z0 [(0,t7)]) 12,
 i 9 (.call (.f y5) [t5,t8]) 31,
 i 10 (.extract t9 0) 63,
 i 11 (.extract t9 1) 63,
 iz (.store 67 t2 r9) 255,
 i 3 (mv x4) 511] true)
 .ret)⟩
def D7:n6:=⟨1,15,[.cell 2 true 67,.tmp 3],
 .seq (.b6 [i 1 (.box 67 t0) 0,
 i 2 (.alloc z1) 0,
 i 3 (.mv (.c (I 0))) 0] false)
 (.seq (.b6 [i 4 (.b0 t1 0) 0,
 i 5 (.load true 67 t4) 1,
 i 6 (.b0 t1 0) 0,
 i 7 (.b0 t6 1) 4,
 i 8 (.load false 1 t7) 12,
 i 9 (.l8 t8) 28,
 i 10 (.call (.f a3r) [t9]) 60,
 i 11 (.G6 7 1 z0 [(0,r9)]) 124,
 i 12 (.call (.f y5) [t5,x4]) 255,
 i 13 (.extract x6 0) 511,
 i 14 (.extract x6 1) 511,
 iz (.store 67 t2 B7) 2047,
 i 3 (mv D2) 4095] true)
 .ret)⟩
def M4:n6:=⟨1,8,[.cell 2 true 67,.tmp 3],
 .seq (.b6 [i 1 (.box 67 t0) 0,
 i 2 (.alloc z1) 0,
 i 3 (.mv (.c (I 0))) 0] false)
 (.seq (.b6 [i 4 (.load true 67 t1) 0,
 i 5 (.call (.f C1) [t4,.f B5]) 1,
 i 6 (.extract t5 0) 3,
 i 7 (.extract t5 1) 3,
 iz (.store 67 t2 t6) 15,
 i 3 (mv t7) 31] false)
 .ret)⟩
def W2:n6:=⟨1,8,[.cell 2 true 67,.tmp 3],
 .seq (.b6 [i 1 (.box 67 t0) 0,
 i 2 (.alloc z1) 0,
 i 3 (.mv (.c (I 0))) 0] false)
 (.seq (.b6 [i 4 (.load true 67 t1) 0,
 i 5 (.call (.f C1) [t4,.f F7]) 1,
 i 6 (.extract t5 0) 3,
 i 7 (.extract t5 1) 3,
 iz (.store 67 t2 t6) 15,
 i 3 (mv t7) 31] false)
 .ret)⟩
def a1p:n6:=⟨1,52,[.cell 2 true 67,.tmp 3],
 .seq (.b6 [i 1 (.box 67 t0) 0,
 i 2 (.alloc z1) 0,
 i 3 (.mv (.c (I 0))) 0] false)
 (.seq (.b6 [i 10 (.load true 67 t1) 0,
 i 11 (.call (.f e6) [r9,.c (I 2),.c (I 1),.c (.pv (.bool true))]) 1,
 i 9 (mv x4) 3,
 i 12 (.extract t9 0) 7,
 i 13 (.extract t9 1) 7,
 i 14 (.extract t9 2) 7,
 i 5 (.alloc z0) 0,
 i 4 (mv x6) 79,
 iz (.store 7 t5 B7) 223,
 i 6 (mv D2) 511] false)
 (.seq (.seq (.b6 [i 15 (mv t6) 0,
 i 16 (.bin .neq G0 (.c (I 0))) 1] false)
 (.cond G1
 (.seq (.b6 [i 17 (.b0 t1 0) 0,
 i 18 (.load true 67 E0) 1,
 i 19 (mv t6) 0,
 iz (.store 67 t2 J6) 3,
 i 3 (mv L9) 15] false)
 .ret)
 .skip))
 (.seq (.b6 [i 21 (.b0 t1 0) 0,
 i 22 (.b0 J5 2) 1,
 i 23 (.load false 1 P8) 3,
 i 24 (mv t4) 0,
 i 25 (.i6 7 Y5 (.c (I 0))) 8,
 i 26 (.load true 7 X3) 24,
 i 27 (.load true 7 t5) 0,
 i 28 (.call (.f E1) [T9,t26,t27]) 127,
 i 20 (mv t28) 255,
 i 29 (.extract K5 0) 511,
 i 30 (.extract K5 1) 511,
 i 31 (.extract K5 2) 511,
 i 7 (.alloc z0) 0,
 iz (.store 7 t7 t29) 5119,
 i 8 (mv t30) 14335,
 i 6 (mv t31) 32767] true)
 (.seq (.seq (.b6 [i 32 (mv t6) 0,
 i 33 (.bin .eql t32 (.c (I 0))) 1,
 i 34 (mv t33) 3,
 ig 35 (mv t8) 34 true 7,
 ig 36 (.not t35) 34 true 15,
 i 37 (.pick t34 t36 (.c (.pv (.bool false)))) 31] false)
 (.cond t37
 (.b6 [i 6 (.mv (.c (I 24))) 0] false)
 .skip))
 (.seq (.seq (.b6 [i 38 (mv t6) 0,
 i 39 (.bin .neq t38 (.c (I 0))) 1] false)
 (.cond t39
 (.seq (.b6 [i 40 (.b0 t1 0) 0,
 i 41 (.load true 67 t40) 1,
 i 42 (mv t6) 0,
 iz (.store 67 t2 t41) 3,
 i 3 (mv t42) 15] false)
 .ret)
 .skip))
 (.seq (.b6 [i 43 (.load true 67 t1) 0,
 i 44 (.b0 t1 0) 0,
 i 45 (.b0 t44 2) 2,
 i 46 (.load false 1 t45) 6,
 i 47 (.load true 7 t7) 0,
 i 48 (.G6 7 1 z0 [(0,t47)]) 16,
 i 49 (.call (.f g8) [t43,.c (I 2),t46,t48]) 63,
 i 50 (.extract t49 0) 127,
 i 51 (.extract t49 1) 127,
 iz (.store 67 t2 t50) 511,
 i 3 (mv t51) 1023] false)
 .ret))))))⟩
def a1q:n6:=⟨1,29,[.cell 2 true 67,.tmp 3],
 .seq (.b6 [i 1 (.box 67 t0) 0,
 i 2 (.alloc z1) 0,
 i 3 (.mv (.c (I 0))) 0] false)
 (.seq (.b6 [i 8 (.load true 67 t1) 0,
 i 9 (.call (.f e6) [t8,.c (I 3),.c (I 1),.c (.pv (.bool true))]) 1,
 i 7 (mv t9) 3,
 i 10 (.extract t7 0) 7,
 i 11 (.extract t7 1) 7,
 i 12 (.extract t7 2) 7,
 i 5 (.alloc z0) 0,
 i 4 (mv r9) 79,
 iz (.store 7 t5 x4) 223,
 i 6 (mv x6) 511] false)
 (.seq (.seq (.b6 [i 13 (mv t6) 0,
 i 14 (.bin .neq B7 (.c (I 0))) 1] false)
 (.cond D2
 (.seq (.b6 [i 15 (.b0 t1 0) 0,
 i 16 (.load true 67 G0) 1,
 i 17 (mv t6) 0,
 iz (.store 67 t2 G1) 3,
 i 3 (mv E0) 15] false)
 .ret)
 .skip))
 (.seq (.b6 [i 18 (.load true 67 t1) 0,
 i 19 (mv t4) 0,
 i 20 (.i6 7 L9 (.c (I 0))) 2,
 i 21 (.load true 7 K5) 6,
 i 22 (.load true 7 t5) 0,
 i 23 (mv t4) 0,
 i 24 (.i6 7 T9 (.c (I 2))) 32,
 i 25 (.load true 7 Y5) 96,
 i 26 (.call (.f m8) [J6,.c (I 3),J5,P8,X3]) 255,
 i 27 (.extract t26 0) 511,
 i 28 (.extract t26 1) 511,
 iz (.store 67 t2 t27) 2047,
 i 3 (mv t28) 4095] true)
 .ret)))⟩
def W1:n6:=⟨1,75,[.cell 2 true 67,.tmp 3],
 .seq (.b6 [i 1 (.box 67 t0) 0,
 i 2 (.alloc z1) 0,
 i 3 (.mv (.c (I 0))) 0] false)
 (.seq (.b6 [i 10 (.load true 67 t1) 0,
 i 11 (.call (.f e6) [r9,.c (I 2),.c (I 2),.c (.pv (.bool false))]) 1,
 i 9 (mv x4) 3,
 i 12 (.extract t9 0) 7,
 i 13 (.extract t9 1) 7,
 i 14 (.extract t9 2) 7,
 i 5 (.alloc z0) 0,
 i 4 (mv x6) 79,
 iz (.store 7 t5 B7) 223,
 i 6 (mv D2) 511] false)
 (.seq (.seq (.b6 [i 15 (mv t6) 0,
 i 16 (.bin .neq G0 (.c (I 0))) 1] false)
 (.cond G1
 (.seq (.b6 [i 17 (.b0 t1 0) 0,
 i 18 (.load true 67 E0) 1,
 i 19 (mv t6) 0,
 iz (.store 67 t2 J6) 3,
 i 3 (mv L9) 15] false)
 .ret)
 .skip))
 (.seq (.seq (.b6 [i 20 (.b0 t1 0) 0,
 i 21 (.b0 K5 2) 1,
 i 22 (.load false 1 J5) 3,
 i 23 (mv t4) 0,
 i 24 (.i6 7 T9 (.c (I 0))) 8,
 i 25 (.load true 7 Y5) 24,
 i 26 (.call (.f E2) [P8,X3]) 63,
 i 27 (.not t26) 127] true)
 (.cond t27
 (.seq (.b6 [i 28 (.b0 t1 0) 0,
 i 29 (.load true 67 t28) 1,
 iz (.store 67 t2 t29) 3,
 i 3 (.mv (.c (I 22))) 7] false)
 .ret)
 .skip))
 (.seq (.b6 [i 30 (.b0 t1 0) 0,
 i 31 (.b0 t30 2) 1,
 i 32 (.load false 1 t31) 3,
 i 33 (mv t4) 0,
 i 34 (.i6 7 t33 (.c (I 0))) 8,
 i 35 (.b0 t34 4) 24,
 i 36 (.load false 1 t35) 56,
 i 37 (.i6 7 t32 t36) 127,
 i 38 (.load true 7 t37) 255,
 i 7 (.alloc z2) 0,
 iz (.store 7 t7 t38) 1023] true)
 (.seq (.b6 [i 40 (.b0 t1 0) 0,
 i 41 (.b0 t40 2) 1,
 i 42 (.load false 1 t41) 3,
 i 43 (mv t4) 0,
 i 44 (.i6 7 t43 (.c (I 1))) 8,
 i 45 (.load true 7 t44) 24,
 i 46 (.b0 t7 3) 0,
 i 47 (.load false 1 t46) 64,
 i 48 (.b0 t7 4) 0,
 i 49 (.load false 1 t48) 256,
 i 50 (.b0 t7 4) 0,
 i 51 (.load false 1 t50) 1024,
 i 52 (.l8 t51) 3072,
 i 53 (.b0 t7 3) 0,
 i 54 (.load false 1 t53) 8192,
 i 55 (.l8 t54) 24576,
 i 56 (.mm false [t52,t55]) 64512,
 i 57 (.slice 7 t49 none (some t56) none) 130816,
 i 58 (.call (.f X6) [t42,t45,t47,t57]) 262143,
 i 39 (mv t58) 524287,
 i 59 (.extract t39 0) 1048575,
 i 60 (.extract t39 1) 1048575,
 i 8 (mv t59) 2097151,
 i 6 (mv t60) 8388607] true)
 (.seq (.seq (.b6 [i 61 (mv t6) 0,
 i 62 (.bin .neq t61 (.c (I 0))) 1] false)
 (.cond t62
 (.seq (.b6 [i 63 (.b0 t1 0) 0,
 i 64 (.load true 67 t63) 1,
 i 65 (mv t6) 0,
 iz (.store 67 t2 t64) 3,
 i 3 (mv t65) 15] false)
 .ret)
 .skip))
 (.seq (.b6 [i 66 (.load true 67 t1) 0,
 i 67 (mv t8) 0,
 i 68 (mv t4) 0,
 i 69 (.i6 7 t68 (.c (I 1))) 4,
 i 70 (.load true 7 t69) 12,
 i 71 (.G6 7 1 z0 [(0,t70)]) 28,
 i 72 (.call (.f g8) [t66,.c (I 2),t67,t71]) 63,
 i 73 (.extract t72 0) 127,
 i 74 (.extract t72 1) 127,
 iz (.store 67 t2 t73) 511,
 i 3 (mv t74) 1023] true)
 .ret)))))))⟩
def a0B:n6:=⟨1,11,[.cell 2 true 67,.tmp 3],
 .seq (.b6 [i 1 (.box 67 t0) 0,
 i 2 (.alloc z1) 0,
 i 3 (.mv (.c (I 0))) 0] false)
 (.seq (.b6 [i 4 (.b0 t1 0) 0,
 i 5 (.load true 67 t4) 1,
 i 6 (.build z0 [(0,1,.c (I 1))]) 0,
 i 7 (.G6 7 1 z0 [(0,t6)]) 4,
 i 8 (.call (.f y5) [t5,t7]) 15,
 i 9 (.extract t8 0) 31,
 i 10 (.extract t8 1) 31,
 iz (.store 67 t2 t9) 127,
 i 3 (mv r9) 255] false)
 .ret)⟩
def a0C:n6:=⟨1,154,[.cell 2 true 67,.tmp 3],
 .seq (.b6 [i 1 (.box 67 t0) 0,
 i 2 (.alloc z1) 0,
 i 3 (.mv (.c (I 0))) 0] false)
 (.seq (.b6 [i 4 (.mv (.c (I 0))) 0] false)
 (.seq (.block 0
 (.loop [1,2,4]
 (.seq (.seq (.b6 [i 17 (mv t4) 0,
 i 18 (.b0 t1 0) 0,
 i 19 (.b0 J6 0) 2,
 i 20 (.load false 1 L9) 6,
 i 21 (.l8 K5) 14,
 i 22 (.bin .lss E0 J5) 31,
 i 23 (mv P8) 63,
 ig 24 (.b0 t1 0) 23 true 127,
 ig 25 (.b0 Y5 0) 23 true 255,
 ig 26 (.load false 1 X3) 23 true 511,
 ig 27 (.b0 t1 0) 23 true 127,
 ig 28 (.b0 t27 0) 23 true 1151,
 ig 29 (.load false 1 t28) 23 true 3199,
 ig 30 (.l8 t29) 23 true 7295,
 ig 31 (.bin .sub t30 (.c (I 1))) 23 true 15487,
 ig 32 (mv t4) 23 true 127,
 ig 33 (.bin .sub t31 t32) 23 true 64639,
 ig 34 (.i6 7 t26 t33) 23 true 131071,
 ig 35 (.load true 7 t34) 23 true 262143,
 ig 36 (.b0 t1 0) 23 true 127,
 ig 37 (.b0 t36 0) 23 true 524415,
 ig 38 (.load false 1 t37) 23 true 1572991,
 ig 39 (.b0 t1 0) 23 true 127,
 ig 40 (.b0 t39 0) 23 true 4194431,
 ig 41 (.load false 1 t40) 23 true 12583039,
 ig 42 (.l8 t41) 23 true 29360255,
 ig 43 (.bin .sub t42 (.c (I 1))) 23 true 62914687,
 ig 44 (mv t4) 23 true 127,
 ig 45 (.bin .sub t43 t44) 23 true 264241279,
 ig 46 (.i6 7 t38 t45) 23 true 536346751,
 ig 47 (.b0 t46 1) 23 true 1073217663,
 ig 48 (.load false 1 t47) 23 true 2146959487,
 ig 49 (.build z0 [(0,1,.c (I 1)),(1,1,t48)]) 23 true 4294443135,
 ig 50 (.eqs true [0,1,0,2,0,0,0] t35 t49) 23 true 8589934591,
 i 51 (.pick T9 t50 (.c (.pv (.bool false)))) 17179869183] true)
 (.cond t51
 .skip
 (.exit 0)))
 (.block 1
 (.b6 [i 52 (mv t4) 0,
 i 53 (.bin .add t52 (.c (I 1))) 1,
 i 4 (mv t53) 3] false)))))
 (.seq (.seq (.b6 [i 54 (mv t4) 0,
 i 55 (.b0 t1 0) 0,
 i 56 (.b0 t55 0) 2,
 i 57 (.load false 1 t56) 6,
 i 58 (.l8 t57) 14,
 i 59 (.bin .eql t54 t58) 31] false)
 (.cond t59
 (.seq (.b6 [i 60 (.b0 t1 0) 0,
 i 61 (.load true 67 t60) 1,
 iz (.store 67 t2 t61) 3,
 i 3 (.mv (.c (I 32))) 7] false)
 .ret)
 .skip))
 (.seq (.seq (.b6 [i 62 (mv t4) 0,
 i 63 (.bin .rem t62 (.c (I 2))) 1,
 i 64 (.bin .eql t63 (.c (I 1))) 3] false)
 (.cond t64
 (.seq (.b6 [i 65 (.b0 t1 0) 0,
 i 66 (.load true 67 t65) 1,
 iz (.store 67 t2 t66) 3,
 i 3 (.mv (.c (I 23))) 7] false)
 .ret)
 .skip))
 (.seq (.b6 [i 68 (.b0 t1 0) 0,
 i 69 (.load true 67 t68) 1,
 i 70 (mv t4) 0,
 i 71 (.call (.f M3) [t69,t70]) 7,
 i 67 (mv t71) 15,
 i 72 (.extract t67 0) 31,
 i 73 (.extract t67 1) 31,
 i 5 (mv t72) 63,
 i 6 (mv t73) 255] false)
 (.seq (.b6 [i 7 (.mv (.c (.emp 7))) 0,
 i 8 (.mv (.c (.emp 7))) 1] false)
 (.seq (.b6 [i 9 (.mv (.c (I 0))) 0] false)
 (.seq (.seq (.b6 [i 10 (.mv (.c (I 0))) 0] false)
 (.block 2
 (.loop [1,2,4,5,7,8,9,10]
 (.seq (.seq (.b6 [i 74 (mv r9) 0,
 i 75 (mv t4) 0,
 i 76 (.bin .lss t74 t75) 3] false)
 (.cond t76
 .skip
 (.exit 2)))
 (.seq (.block 3
 (.seq (.b6 [i 80 (.b0 t1 0) 0,
 i 81 (.b0 t80 2) 1,
 i 82 (.load false 1 t81) 3,
 i 83 (mv t5) 0,
 i 84 (mv r9) 0,
 i 85 (.i6 7 t83 t84) 24,
 i 86 (.load true 7 t85) 56,
 i 87 (.call (.f O0) [t82,t86]) 127,
 i 79 (mv t87) 255,
 i 88 (.extract t79 0) 511,
 i 89 (.extract t79 1) 511,
 i 11 (.alloc z0) 0,
 iz (.store 7 x4 t88) 3071,
 i 12 (mv t89) 8191] true)
 (.seq (.seq (.b6 [i 90 (mv x6) 0,
 i 91 (.bin .neq t90 (.c (I 0))) 1,
 i 92 (mv t91) 3,
 ig 93 (mv t9) 92 true 7,
 ig 94 (.bin .neq t93 (.c (I 22))) 92 true 15,
 i 95 (.pick t92 t94 (.c (.pv (.bool false)))) 31] false)
 (.cond t95
 (.b6 [i 96 (mv x6) 0,
 i 9 (mv t96) 1] false)
 .skip))
 (.b6 [i 97 (mv t7) 0,
 i 98 (.load true 7 x4) 0,
 i 99 (.G6 7 1 z0 [(0,t98)]) 2,
 i 100 (.append 7 64 t97 t99) 7,
 i 101 (mv t8) 0,
 i 102 (mv t5) 0,
 i 103 (mv r9) 0,
 i 104 (.bin .add c1G (.c (I 1))) 64,
 i 105 (.i6 7 c1F c1H) 224,
 i 106 (.load true 7 c1I) 480,
 i 107 (.G6 7 1 z0 [(0,c1J)]) 992,
 i 108 (.append 7 64 c1E c1K) 2047,
 i 7 (mv c1D) 4095,
 i 8 (mv c1L) 8191] true))))
 (.b6 [i 77 (mv r9) 0,
 i 78 (.bin .add t77 (.c (I 2))) 1,
 i 10 (mv t78) 3] false))))))
 (.seq (.seq (.b6 [i 109 (mv t9) 0,
 i 110 (.bin .neq c1M (.c (I 0))) 1] false)
 (.cond c1N
 (.seq (.b6 [i 111 (.b0 t1 0) 0,
 i 112 (.load true 67 c1O) 1,
 i 113 (mv t9) 0,
 iz (.store 67 t2 c1P) 3,
 i 3 (mv c1Q) 15] false)
 .ret)
 .skip))
 (.seq (.b6 [i 115 (.b0 t1 0) 0,
 i 116 (.b0 c1R 2) 1,
 i 117 (.load false 1 c1S) 3,
 i 118 (mv t4) 0,
 i 119 (.bin .quo c1U (.c (I 2))) 8,
 i 120 (.build z2 [(0,1,.c (I 3)),(5,1,c1V)]) 24,
 i 121 (.call (.f a3s) [c1T,c1W]) 63,
 i 114 (mv c3k) 127,
 i 122 (.extract b7i 0) 255,
 i 123 (.extract b7i 1) 255,
 i 124 (.extract b7i 2) 255,
 i 13 (mv c3l) 511,
 i 14 (mv c3m) 3071,
 i 15 (mv c3n) 8191] false)
 (.seq (.seq (.b6 [i 125 (mv G0) 0,
 i 126 (.bin .neq c3o (.c (I 0))) 1] false)
 (.cond c3p
 (.seq (.b6 [i 127 (.b0 t1 0) 0,
 i 128 (.load true 67 c3q) 1,
 i 129 (mv G0) 0,
 iz (.store 67 t2 c3r) 3,
 i 3 (mv c3s) 15] false)
 .ret)
 .skip))
 (.seq (.b6 [i 130 (mv D2) 0,
 i 131 (.build z0 [(0,1,.c (I 9)),(4,1,c3t)]) 1,
 i 16 (.alloc z0) 0,
 iz (.store 7 G1 c3u) 7] false)
 (.seq (.seq (.b6 [i 133 (mv B7) 0,
 i 134 (.load true 7 G1) 0,
 i 135 (mv t7) 0,
 i 136 (mv t8) 0,
 i 137 (.call (.f X6) [c4Y,c4Z,c5a,c5b]) 15,
 i 132 (mv c5c) 31,
 i 138 (.extract c1X 0) 63,
 i 139 (.extract c1X 1) 63,
 i 13 (mv c5d) 127,
 i 15 (mv c5T) 511] false)
 (.seq (.b6 [i 140 (mv G0) 0,
 i 141 (.bin .neq c5U (.c (I 0))) 1] false)
 (.cond c5V
 (.seq (.b6 [i 142 (.b0 t1 0) 0,
 i 143 (.load true 67 c5W) 1,
 i 144 (mv G0) 0,
 iz (.store 67 t2 c5X) 3,
 i 3 (mv c5Y) 15] false)
 .ret)
 .skip)))
 (.seq (.b6 [i 145 (.load true 67 t1) 0,
 i 146 (mv t4) 0,
 i 147 (.bin .add c6a (.c (I 1))) 2,
 i 148 (mv B7) 0,
 i 149 (.load true 7 G1) 0,
 i 150 (.G6 7 1 z0 [(0,c7S)]) 16,
 i 151 (.call (.f g8) [c5Z,c6b,c6c,c7T]) 63,
 i 152 (.extract c6d 0) 127,
 i 153 (.extract c6d 1) 127,
 iz (.store 67 t2 c7U) 511,
 i 3 (mv c7V) 1023] false)
 .ret))))))))))))))⟩
def a3K:n6:=⟨2,51,[.tmp 4],
 .seq (.b6 [i 3 (.box 7 t1) 0,
 i 4 (.mv (.c (.pv (.bool false)))) 0] false)
 (.seq (.seq (.b6 [i 6 (.load true 7 t3) 0,
 i 7 (.call (.f u1) [t6]) 1,
 i 8 (.bin .neq t7 (.c (I 0))) 3] false)
 (.cond t8
 (.seq (.b6 [i 4 (.mv (.c (.pv (.bool false)))) 0] false)
 .ret)
 .skip))
 (.seq (.b6 [i 9 (.b0 t3 0) 0,
 i 10 (.load false 1 t9) 1,
 i 11 (.call (.f G7) [r9]) 3,
 i 5 (mv x4) 7] false)
 (.seq (.seq (.b6 [i 12 (mv t5) 0,
 i 13 (.bin .eql x6 (.c (I 0))) 1] false)
 (.cond B7
 (.seq (.b6 [i 4 (.mv (.c (.pv (.bool true)))) 0] false)
 .ret)
 .skip))
 (.seq (.seq (.b6 [i 14 (.b0 t3 4) 0,
 i 15 (.load false 1 D2) 1,
 i 16 (mv t0) 0,
 i 17 (.l8 G1) 4,
 i 18 (.bin .geq G0 E0) 15,
 i 19 (mv J6) 31,
 ig 20 (mv t0) 19 false 63,
 ig 21 (.b0 t3 4) 19 false 63,
 ig 22 (.load false 1 J5) 19 false 191,
 ig 23 (.i6 7 K5 P8) 19 false 511,
 ig 24 (.b0 T9 0) 19 false 1023,
 ig 25 (.load false 1 Y5) 19 false 2047,
 ig 26 (mv t5) 19 false 63,
 ig 27 (.bin .neq X3 t26) 19 false 8191,
 i 28 (.pick L9 (.c (.pv (.bool true))) t27) 16383] false)
 (.cond t28
 (.seq (.b6 [i 4 (.mv (.c (.pv (.bool false)))) 0] false)
 .ret)
 .skip))
 (.seq (.b6 [i 29 (.b0 t3 0) 0,
 i 30 (.load false 1 t29) 1,
 i 31 (.bin .eql t30 (.c (I 9))) 3,
 i 32 (mv t31) 7,
 ig 33 (.b0 t3 0) 32 false 15,
 ig 34 (.load false 1 t33) 32 false 31,
 ig 35 (.bin .eql t34 (.c (I 11))) 32 false 63,
 i 36 (.pick t32 (.c (.pv (.bool true))) t35) 127,
 i 37 (mv t36) 255,
 ig 38 (.b0 t3 5) 37 false 511,
 ig 39 (.load false 1 t38) 37 false 1023,
 ig 40 (.b0 t3 6) 37 false 511,
 ig 41 (.load false 1 t40) 37 false 2559,
 ig 42 (.bin .add t39 t41) 37 false 8191,
 ig 43 (mv t0) 37 false 511,
 ig 44 (.b0 t3 4) 37 false 511,
 ig 45 (.load false 1 t44) 37 false 33279,
 ig 46 (.i6 7 t43 t45) 37 false 115199,
 ig 47 (.load true 7 t46) 37 false 246271,
 ig 48 (.call (.f I9) [t47]) 37 false 508415,
 ig 49 (.bin .leq t42 t48) 37 false 1048575,
 i 50 (.pick t37 (.c (.pv (.bool true))) t49) 2097151,
 i 4 (mv t50) 4194303] true)
 .ret)))))⟩
def a2F:n6:=⟨1,37,[.cell 2 true 7,.tmp 3],
 .seq (.b6 [i 1 (.box 7 t0) 0,
 i 2 (.alloc z0) 0,
 i 3 (.mv (.c (I 0))) 0] false)
 (.seq (.seq (.b6 [i 5 (.load true 7 t1) 0,
 i 6 (.call (.f u1) [t5]) 1,
 i 4 (mv t6) 3] false)
 (.seq (.b6 [i 7 (mv t4) 0,
 i 8 (.bin .neq t7 (.c (I 0))) 1] false)
 (.cond t8
 (.seq (.b6 [i 9 (.build z0 []) 0,
 i 10 (mv t4) 0,
 iz (.store 7 t2 t9) 1,
 i 3 (mv r9) 7] false)
 .ret)
 .skip)))
 (.seq (.seq (.b6 [i 11 (.load true 7 t1) 0,
 i 12 (.b0 t1 1) 0,
 i 13 (.load false 1 x6) 2,
 i 14 (.build z0 [(0,1,.c (I 0)),(1,1,B7)]) 6,
 i 15 (.eqs false [0,1,0,2,0,0,0] x4 D2) 15,
 i 16 (mv G0) 31,
 ig 17 (.b0 t1 0) 16 false 63,
 ig 18 (.load false 1 E0) 16 false 127,
 ig 19 (.bin .eql J6 (.c (I 6))) 16 false 255,
 i 20 (.pick G1 (.c (.pv (.bool true))) L9) 511] false)
 (.cond K5
 (.seq (.b6 [i 21 (.build z0 []) 0,
 iz (.store 7 t2 J5) 1,
 i 3 (.mv (.c (I 22))) 3] false)
 .ret)
 .skip))
 (.seq (.seq (.b6 [i 22 (.b0 t1 0) 0,
 i 23 (.load false 1 P8) 1,
 i 24 (.bin .eql T9 (.c (I 4))) 3,
 i 25 (mv Y5) 7,
 ig 26 (.b0 t1 2) 25 true 15,
 ig 27 (.load false 1 t26) 25 true 31,
 ig 28 (.bin .rem t27 (.c (I 65536))) 25 true 63,
 ig 29 (.bin .eql t28 (.c (I 0))) 25 true 127,
 i 30 (.pick X3 t29 (.c (.pv (.bool false)))) 255] false)
 (.cond t30
 (.seq (.b6 [i 31 (.load true 7 t1) 0,
 i 32 (.call (.f L5) [t31]) 1,
 i 33 (.extract t32 0) 3,
 i 34 (.extract t32 1) 3,
 iz (.store 7 t2 t33) 15,
 i 3 (mv t34) 31] false)
 .ret)
 .skip))
 (.seq (.b6 [i 35 (.b0 t1 1) 0,
 iz (.store 1 t35 (.c (.pv (.bool false)))) 1] false)
 (.seq (.b6 [i 36 (.load true 7 t1) 0,
 iz (.store 7 t2 t36) 1,
 i 3 (.mv (.c (I 0))) 3] false)
 .ret)))))⟩
def a2B:n6:=⟨2,29,[.tmp 4,.tmp 5],
 .seq (.b6 [i 3 (.box 7 t1) 0,
 i 4 (.mv (.c (.pv (.str [])))) 0,
 i 5 (.mv (.c (I 0))) 2] false)
 (.seq (.b6 [i 9 (mv t0) 0,
 i 10 (.load true 7 t3) 0,
 i 11 (.G6 1 1 [I 0] [(0,.c (I 6))]) 0,
 i 12 (.call (.f y1) [t9,r9,x4]) 7,
 i 8 (mv x6) 15,
 i 13 (.extract t8 0) 31,
 i 14 (.extract t8 1) 31,
 i 6 (.alloc [.emp 7,I 0,.pv (.bool false),I 0,.pv (.str []),I 0,I 0,I 0]) 0,
 iz (.store 8 t6 B7) 191,
 i 7 (mv D2) 511] false)
 (.seq (.seq (.b6 [i 15 (mv t7) 0,
 i 16 (.bin .neq G0 (.c (I 0))) 1] false)
 (.cond G1
 (.seq (.b6 [i 17 (mv t7) 0,
 i 4 (.mv (.c (.pv (.str [])))) 0,
 i 5 (mv E0) 3] false)
 .ret)
 .skip))
 (.seq (.b6 [i 18 (.load true 8 t6) 0,
 i 19 (.call (.f u7) [J6]) 1,
 i 20 (.field false 1 1 L9) 3,
 i 21 (.b0 t3 5) 0,
 i 22 (.load false 1 J5) 8,
 i 23 (.b0 t3 5) 0,
 i 24 (.load false 1 T9) 32,
 i 25 (.b0 t3 6) 0,
 i 26 (.load false 1 X3) 128,
 i 27 (.bin .add Y5 t26) 480,
 i 28 (.a4G K5 (some P8) (some t27)) 1023,
 i 4 (mv t28) 2047,
 i 5 (.mv (.c (I 0))) 4095] true)
 .ret)))⟩
def a1L:n6:=⟨2,11,[.cell 4 true 7,.tmp 5],
 .seq (.b6 [i 3 (.box 1 t1) 0,
 i 4 (.alloc z0) 0,
 i 5 (.mv (.c (I 0))) 0] false)
 (.seq (.b6 [i 6 (mv t0) 0,
 i 7 (.mkf (.func D4) [] [t3]) 0,
 i 8 (.call (.f x7) [t6,t7]) 3,
 i 9 (.extract t8 0) 7,
 i 10 (.extract t8 1) 7,
 iz (.store 7 t4 t9) 31,
 i 5 (mv r9) 63] false)
 .ret)⟩
def U3:n6:=⟨2,52,[.tmp 4],
 .seq (.b6 [i 2 (.box 7 t0) 0,
 i 3 (.box 7 t1) 0,
 i 4 (.mv (.c (.pv (.bool false)))) 0] false)
 (.seq (.b6 [i 5 (.b0 t2 0) 0,
 i 6 (.load false 1 t5) 1,
 i 7 (.b0 t3 0) 0,
 i 8 (.load false 1 t7) 4,
 i 9 (.bin .eql t6 t8) 15,
 i 10 (mv t9) 31,
 ig 11 (.b0 t2 1) 10 true 63,
 ig 12 (.load false 1 x4) 10 true 127,
 ig 13 (.b0 t3 1) 10 true 63,
 ig 14 (.load false 1 B7) 10 true 319,
 ig 15 (.bin .eql x6 D2) 10 true 1023,
 i 16 (.pick r9 G0 (.c (.pv (.bool false)))) 2047,
 i 17 (mv G1) 4095,
 ig 18 (.b0 t2 2) 17 true 8191,
 ig 19 (.load false 1 J6) 17 true 16383,
 ig 20 (.b0 t3 2) 17 true 8191,
 ig 21 (.load false 1 K5) 17 true 40959,
 ig 22 (.call (.f q9) [L9,J5]) 17 true 131071,
 i 23 (.pick E0 P8 (.c (.pv (.bool false)))) 262143,
 i 24 (mv T9) 524287,
 ig 25 (.b0 t2 3) 24 true 1048575,
 ig 26 (.load false 1 X3) 24 true 2097151,
 ig 27 (.b0 t3 3) 24 true 1048575,
 ig 28 (.load false 1 t27) 24 true 5242879,
 ig 29 (.call (.f q9) [t26,t28]) 24 true 16777215,
 i 30 (.pick Y5 t29 (.c (.pv (.bool false)))) 33554431,
 i 31 (mv t30) 67108863,
 ig 32 (.b0 t2 4) 31 true 134217727,
 ig 33 (.load false 1 t32) 31 true 268435455,
 ig 34 (.b0 t3 4) 31 true 134217727,
 ig 35 (.load false 1 t34) 31 true 671088639,
 ig 36 (.call (.f q9) [t33,t35]) 31 true 2147483647,
 i 37 (.pick t31 t36 (.c (.pv (.bool false)))) 4294967295,
 i 38 (mv t37) 8589934591,
 ig 39 (.b0 t2 5) 38 true 17179869183,
 ig 40 (.load false 1 t39) 38 true 34359738367,
 ig 41 (.b0 t3 5) 38 true 17179869183,
 ig 42 (.load false 1 t41) 38 true 85899345919,
 ig 43 (.bin .eql t40 t42) 38 true 274877906943,
 i 44 (.pick t38 t43 (.c (.pv (.bool false)))) 549755813887,
 i 45 (mv t44) 1099511627775,
 ig 46 (.b0 t2 6) 45 true 2199023255551,
 ig 47 (.load false 1 t46) 45 true 4398046511103,
 ig 48 (.b0 t3 6) 45 true 2199023255551,
 ig 49 (.load false 1 t48) 45 true 10995116277759,
 ig 50 (.bin .eql t47 t49) 45 true 35184372088831,
 i 51 (.pick t45 t50 (.c (.pv (.bool false)))) 70368744177663,
 i 4 (mv t51) 140737488355327] false)
 .ret)⟩
def X5:n6:=⟨1,89,[.tmp 2],
 .seq (.b6 [i 2 (.mv (.c (.emp 7))) 0] false)
 (.seq (.b6 [i 7 (.call (.f n5) [.c (I 200)]) 0,
 i 8 (.call (.f n5) [.c (I 50)]) 1,
 i 9 (.call (.f n5) [.c (I 30)]) 3,
 i 10 (.call (.f n5) [.c (I 12)]) 7,
 i 11 (.call (.f n5) [.c (I 5)]) 15,
 i 12 (.G6 7 5 z2 [(0,t7),(1,t8),(2,t9),(3,r9),(4,x4)]) 31,
 i 3 (mv x6) 63] false)
 (.seq (.seq (.b6 [i 4 (.mv (.c (I 0))) 0] false)
 (.block 0
 (.loop [0,3,4]
 (.seq (.seq (.b6 [i 13 (mv t4) 0,
 i 14 (mv t0) 0,
 i 15 (.l8 D2) 2,
 i 16 (.bin .lss B7 G0) 7,
 i 17 (mv G1) 15,
 ig 18 (mv t4) 17 true 31,
 ig 19 (.bin .lss J6 (.c (I 200))) 17 true 63,
 i 20 (.pick E0 L9 (.c (.pv (.bool false)))) 127] false)
 (.cond K5
 .skip
 (.exit 0)))
 (.seq (.block 1
 (.seq (.b6 [i 23 (mv t3) 0,
 i 24 (mv t3) 0,
 i 25 (.i6 7 Y5 (.c (I 0))) 2,
 i 26 (.b0 X3 3) 6,
 i 27 (.load false 1 t26) 14,
 i 28 (mv t0) 0,
 i 29 (mv t4) 0,
 i 30 (.i6 1 t28 t29) 96,
 i 31 (.load false 1 t30) 224,
 i 32 (.call (.f x5) [t31]) 480,
 i 33 (.G6 7 1 z0 [(0,t32)]) 992,
 i 34 (.append 7 64 t27 t33) 2046,
 i 35 (.i6 7 T9 (.c (I 0))) 4095,
 i 36 (.b0 t35 3) 8191,
 iz (.store 1 t36 t34) 16383] true)
 (.b6 [i 37 (mv t3) 0,
 i 38 (mv t3) 0,
 i 39 (.i6 7 t38 (.c (I 0))) 2,
 i 40 (.b0 t39 4) 6,
 i 41 (.load false 1 t40) 14,
 i 42 (mv t0) 0,
 i 43 (mv t4) 0,
 i 44 (.i6 1 t42 t43) 96,
 i 45 (.load false 1 t44) 224,
 i 46 (.build z0 [(0,1,.c (I 10)),(1,1,.c (.pv (.bool true))),(3,1,t45)]) 480,
 i 47 (.G6 7 1 z0 [(0,t46)]) 992,
 i 48 (.append 7 64 t41 t47) 2046,
 i 49 (.i6 7 t37 (.c (I 0))) 4095,
 i 50 (.b0 t49 4) 8191,
 iz (.store 1 t50 t48) 16383] true)))
 (.b6 [i 21 (mv t4) 0,
 i 22 (.bin .add J5 (.c (I 1))) 1,
 i 4 (mv P8) 3] false))))))
 (.seq (.b6 [i 51 (.call (.f F0) []) 0,
 i 5 (mv t51) 1] false)
 (.seq (.seq (.b6 [i 6 (.mv (.c (I 0))) 0] false)
 (.block 2
 (.loop [3,5,6]
 (.seq (.seq (.b6 [i 52 (mv t6) 0,
 i 53 (mv t5) 0,
 i 54 (.l8 t53) 2,
 i 55 (.bin .lss t52 t54) 7] false)
 (.cond t55
 .skip
 (.exit 2)))
 (.seq (.block 3
 (.seq (.b6 [i 58 (mv t3) 0,
 i 59 (mv t3) 0,
 i 60 (.i6 7 t59 (.c (I 4))) 2,
 i 61 (.b0 t60 3) 6,
 i 62 (.load false 1 t61) 14,
 i 63 (mv t5) 0,
 i 64 (mv t6) 0,
 i 65 (.i6 1 t63 t64) 96,
 i 66 (.load false 1 t65) 224,
 i 67 (.call (.f x5) [t66]) 480,
 i 68 (.G6 7 1 z0 [(0,t67)]) 992,
 i 69 (.append 7 64 t62 t68) 2046,
 i 70 (.i6 7 t58 (.c (I 4))) 4095,
 i 71 (.b0 t70 3) 8191,
 iz (.store 1 t71 t69) 16383] true)
 (.seq (.b6 [i 72 (mv t3) 0,
 i 73 (mv t3) 0,
 i 74 (.i6 7 t73 (.c (I 4))) 2,
 i 75 (.b0 t74 4) 6,
 i 76 (.load false 1 t75) 14,
 i 77 (mv t6) 0,
 i 78 (.bin .add (.c (I 5)) t77) 32,
 i 79 (.build z0 [(0,1,.c (I 9)),(4,1,t78)]) 96,
 i 80 (.G6 7 1 z0 [(0,t79)]) 224,
 i 81 (.append 7 64 t76 t80) 510,
 i 82 (.i6 7 t72 (.c (I 4))) 1023,
 i 83 (.b0 t82 4) 2047,
 iz (.store 1 t83 t81) 4095] false)
 (.b6 [i 84 (mv t3) 0,
 i 85 (.call (.f n5) [.c (I 10)]) 0,
 i 86 (.G6 7 1 z2 [(0,t85)]) 2,
 i 87 (.append 7 112 t84 t86) 7,
 i 3 (mv t87) 15] false))))
 (.b6 [i 56 (mv t6) 0,
 i 57 (.bin .add t56 (.c (I 1))) 1,
 i 6 (mv t57) 3] false))))))
 (.seq (.b6 [i 88 (mv t3) 0,
 i 2 (mv t88) 1] false)
 .ret)))))⟩
def B9:n6:=⟨2,32,[.cell 4 true 7,.tmp 5],
 .seq (.b6 [i 2 (.box 67 t0) 0,
 i 3 (.box 7 t1) 0,
 i 4 (.alloc z0) 0,
 i 5 (.mv (.c (I 0))) 0] false)
 (.seq (.b6 [i 10 (.b0 t2 0) 0,
 i 11 (.b0 r9 2) 1,
 i 12 (.load false 1 x4) 3,
 i 13 (.build z0 [(0,1,.c (I 9)),(4,1,.c (I 4))]) 0,
 i 14 (.load true 7 t3) 0,
 i 15 (.call (.f E1) [x6,B7,D2]) 31,
 i 9 (mv G0) 63,
 i 16 (.extract t9 0) 127,
 i 17 (.extract t9 1) 127,
 i 18 (.extract t9 2) 127,
 i 6 (.alloc z0) 0,
 iz (.store 7 t6 G1) 1279,
 i 7 (mv E0) 3583,
 i 8 (mv J6) 8191] false)
 (.seq (.seq (.b6 [i 19 (mv t8) 0,
 i 20 (.bin .neq L9 (.c (I 0))) 1,
 i 21 (mv K5) 3,
 ig 22 (mv t7) 21 false 7,
 ig 23 (.not P8) 21 false 15,
 i 24 (.pick J5 (.c (.pv (.bool true))) T9) 31,
 i 25 (mv Y5) 63,
 ig 26 (.b0 t6 0) 25 false 127,
 ig 27 (.load false 1 t26) 25 false 255,
 ig 28 (.bin .neq t27 (.c (I 9))) 25 false 511,
 i 29 (.pick X3 (.c (.pv (.bool true))) t28) 1023] false)
 (.cond t29
 (.seq (.b6 [i 30 (.build z0 []) 0,
 iz (.store 7 t4 t30) 1,
 i 5 (.mv (.c (I 24))) 3] false)
 .ret)
 .skip))
 (.seq (.b6 [i 31 (.load true 7 t6) 0,
 iz (.store 7 t4 t31) 1,
 i 5 (.mv (.c (I 0))) 3] false)
 .ret)))⟩
def K9:n6:=⟨3,29,[.cell 6 true 7,.tmp 7],
 .seq (.b6 [i 3 (.box 67 t0) 0,
 i 4 (.box 7 t1) 0,
 i 5 (.box 7 t2) 0,
 i 6 (.alloc z0) 0,
 i 7 (.mv (.c (I 0))) 0] false)
 (.seq (.b6 [i 12 (.b0 t3 0) 0,
 i 13 (.b0 x6 2) 1,
 i 14 (.load false 1 B7) 3,
 i 15 (.load true 7 t4) 0,
 i 16 (.load true 7 t5) 0,
 i 17 (.call (.f E1) [D2,G0,G1]) 31,
 i 11 (mv E0) 63,
 i 18 (.extract x4 0) 127,
 i 19 (.extract x4 1) 127,
 i 20 (.extract x4 2) 127,
 i 8 (.alloc z0) 0,
 iz (.store 7 t8 J6) 1279,
 i 9 (mv L9) 3583,
 i 10 (mv K5) 8191] false)
 (.seq (.seq (.b6 [i 21 (mv r9) 0,
 i 22 (.bin .eql J5 (.c (I 0))) 1,
 i 23 (mv P8) 3,
 ig 24 (mv t9) 23 true 7,
 ig 25 (.not Y5) 23 true 15,
 i 26 (.pick T9 X3 (.c (.pv (.bool false)))) 31] false)
 (.cond t26
 (.b6 [i 10 (.mv (.c (I 40))) 0] false)
 .skip))
 (.seq (.b6 [i 27 (.load true 7 t8) 0,
 i 28 (mv r9) 0,
 iz (.store 7 t6 t27) 1,
 i 7 (mv t28) 7] false)
 .ret)))⟩
def w7:n6:=⟨2,139,[.cell 4 true 7],
 .seq (.b6 [i 2 (.box 5 t0) 0,
 i 4 (.alloc z2) 0] false)
 (.seq (.b6 [i 12 (.b0 t2 4) 0,
 i 13 (.load false 1 x6) 1,
 i 14 (.b0 t2 4) 0,
 i 15 (.load false 1 D2) 4,
 i 16 (.a0m G0) 12,
 i 17 (.mm false [G1,.c (I 40)]) 28,
 i 18 (.a4G B7 none (some E0)) 63,
 i 5 (mv J6) 127] false)
 (.seq (.seq (.b6 [i 19 (.b0 t2 0) 0,
 i 20 (.load false 1 L9) 1,
 i 21 (.bin .rem K5 (.c (.pv (.int .u8 (5))))) 3] false)
 (.block 0
 (.seq (.seq (.b6 [i 23 (.bin .eql J5 (.c (.pv (.int .u8 (0))))) 0,
 i 22 (mv T9) 1] false)
 (.cond P8
 .skip
 (.b6 [i 24 (.bin .eql J5 (.c (.pv (.int .u8 (1))))) 0,
 i 22 (mv Y5) 1] false)))
 (.cond P8
 (.seq (.b6 [i 25 (mv t5) 0,
 i 26 (.build z2 [(0,1,.c (I 1)),(1,1,X3)]) 1,
 iz (.store 7 t4 t26) 3] false)
 .ret)
 (.seq (.b6 [i 28 (.bin .eql J5 (.c (.pv (.int .u8 (2))))) 0,
 i 27 (mv t28) 1] false)
 (.cond t27
 (.seq (.b6 [i 29 (.build z2 [(0,1,.c (I 2))]) 0,
 i 6 (.alloc z2) 0,
 iz (.store 7 t6 t29) 3] false)
 (.seq (.seq (.b6 [i 7 (.mv (.c (I 0))) 0] false)
 (.block 1
 (.loop [1,2,4,6,7]
 (.seq (.seq (.b6 [i 30 (mv t7) 0,
 i 31 (.b0 t2 1) 0,
 i 32 (.load false 1 t31) 2,
 i 33 (.bin .rem t32 (.c (.pv (.int .u8 (6))))) 6,
 i 34 (.conv .i64 t33) 14,
 i 35 (.bin .lss t30 t34) 31] false)
 (.cond t35
 .skip
 (.exit 1)))
 (.seq (.block 2
 (.seq (.b6 [i 38 (.b0 t2 2) 0,
 i 39 (.load false 1 t38) 1,
 i 40 (mv t7) 0,
 i 41 (.bin .mul (.c (I 5)) t40) 4,
 i 42 (.conv .u8 t41) 12,
 i 43 (.bin .add t39 t42) 31,
 i 44 (.b0 t2 1) 0,
 i 45 (.load false 1 t44) 64,
 i 46 (mv t7) 0,
 i 47 (.conv .u8 t46) 256,
 i 48 (.bin .add t45 t47) 960,
 i 49 (.b0 t2 2) 0,
 i 50 (.load false 1 t49) 2048,
 i 51 (mv t7) 0,
 i 52 (.bin .add t51 (.c (I 1))) 8192,
 i 53 (.conv .u8 t52) 24576,
 i 54 (.bin .mul t50 t53) 63488,
 i 55 (.b0 t2 3) 0,
 i 56 (.load false 1 t55) 131072,
 i 57 (mv t7) 0,
 i 58 (.bin .add t57 (.c (I 1))) 524288,
 i 59 (.conv .i32 t58) 1572864,
 i 60 (.bin .quo t56 t59) 4063232,
 i 61 (.build [.pv (.int .u8 (0)),.pv (.int .u8 (0)),.pv (.int .u8 (0)),.pv (.int .i32 (0)),.pv (.str [])] [(0,1,t43),(1,1,t48),(2,1,t54),(3,1,t60)]) 8388607,
 i 8 (.alloc [.pv (.int .u8 (0)),.pv (.int .u8 (0)),.pv (.int .u8 (0)),.pv (.int .i32 (0)),.pv (.str [])]) 0,
 iz (.store 5 t8 t61) 33554431] true)
 (.b6 [i 62 (.b0 t6 2) 0,
 i 63 (.load false 1 t62) 1,
 i 64 (.load true 5 t8) 0,
 i 65 (mv t1) 0,
 i 66 (.call (.f j1) [t64,t65]) 12,
 i 67 (.G6 7 1 z0 [(0,t66)]) 28,
 i 68 (.append 7 64 t63 t67) 63,
 i 69 (.b0 t6 2) 127,
 iz (.store 1 t69 t68) 255] true)))
 (.b6 [i 36 (mv t7) 0,
 i 37 (.bin .add t36 (.c (I 1))) 1,
 i 7 (mv t37) 3] false))))))
 (.seq (.b6 [i 70 (.load true 7 t6) 0,
 iz (.store 7 t4 t70) 1] false)
 .ret)))
 (.seq (.b6 [i 72 (.bin .eql J5 (.c (.pv (.int .u8 (3))))) 0,
 i 71 (mv t72) 1] false)
 (.cond t71
 (.seq (.b6 [i 73 (.b0 t2 1) 0,
 i 74 (.load false 1 t73) 1,
 i 75 (.bin .rem t74 (.c (.pv (.int .u8 (6))))) 3,
 i 76 (.conv .i64 t75) 7,
 i 77 (.call (.f n5) [t76]) 15,
 i 9 (.alloc z2) 0,
 iz (.store 7 t9 t77) 63] false)
 (.seq (.seq (.b6 [i 10 (.mv (.c (I 0))) 0] false)
 (.block 3
 (.loop [1,2,4,9,10]
 (.seq (.seq (.b6 [i 78 (mv r9) 0,
 i 79 (.b0 t2 2) 0,
 i 80 (.load false 1 t79) 2,
 i 81 (.bin .rem t80 (.c (.pv (.int .u8 (4))))) 6,
 i 82 (.conv .i64 t81) 14,
 i 83 (.bin .lss t78 t82) 31,
 i 84 (mv t83) 63,
 ig 85 (mv r9) 84 true 127,
 ig 86 (.b0 t9 5) 84 true 127,
 ig 87 (.load false 1 t86) 84 true 383,
 ig 88 (.bin .lss t85 t87) 84 true 1023,
 i 89 (.pick t84 t88 (.c (.pv (.bool false)))) 2047] false)
 (.cond t89
 .skip
 (.exit 3)))
 (.seq (.block 4
 (.seq (.b6 [i 92 (.b0 t2 2) 0,
 i 93 (.load false 1 t92) 1,
 i 94 (mv r9) 0,
 i 95 (.bin .mul (.c (I 3)) t94) 4,
 i 96 (.conv .u8 t95) 12,
 i 97 (.bin .add t93 t96) 31,
 i 98 (.b0 t2 1) 0,
 i 99 (.load false 1 t98) 64,
 i 100 (mv r9) 0,
 i 101 (.conv .u8 c1D) 256,
 i 102 (.bin .add t99 c1E) 960,
 i 103 (.b0 t2 2) 0,
 i 104 (.load false 1 c1G) 2048,
 i 105 (.b0 t2 3) 0,
 i 106 (.load false 1 c1I) 8192,
 i 107 (.build [.pv (.int .u8 (0)),.pv (.int .u8 (0)),.pv (.int .u8 (0)),.pv (.int .i32 (0)),.pv (.str [])] [(0,1,t97),(1,1,c1F),(2,1,c1H),(3,1,c1J)]) 32767,
 i 11 (.alloc [.pv (.int .u8 (0)),.pv (.int .u8 (0)),.pv (.int .u8 (0)),.pv (.int .i32 (0)),.pv (.str [])]) 0,
 iz (.store 5 x4 c1K) 131071] false)
 (.seq (.b6 [i 108 (.b0 t9 3) 0,
 i 109 (.load false 1 c1L) 1,
 i 110 (mv r9) 0,
 i 111 (.a5Z 8 1 (.g 0) c1N) 4,
 i 112 (.load false 1 c1O) 12,
 i 113 (.call (.f x5) [c1P]) 28,
 i 114 (.G6 7 1 z0 [(0,c1Q)]) 60,
 i 115 (.append 7 64 c1M b7i) 127,
 i 116 (.b0 t9 3) 255,
 iz (.store 1 c1S c1R) 511] true)
 (.b6 [i 117 (.b0 t9 4) 0,
 i 118 (.load false 1 c1T) 1,
 i 119 (.load true 5 x4) 0,
 i 120 (mv t1) 0,
 i 121 (.call (.f j1) [c1V,c1W]) 12,
 i 122 (.G6 7 1 z0 [(0,c3k)]) 28,
 i 123 (.append 7 64 c1U c3l) 63,
 i 124 (.b0 t9 4) 127,
 iz (.store 1 c3n c3m) 255] true))))
 (.b6 [i 90 (mv r9) 0,
 i 91 (.bin .add t90 (.c (I 1))) 1,
 i 10 (mv t91) 3] false))))))
 (.seq (.b6 [i 125 (.load true 7 t9) 0,
 iz (.store 7 t4 c3o) 1] false)
 .ret)))
 .skip))))))))
 (.seq (.b6 [i 126 (mv t5) 0,
 i 127 (.b0 t2 1) 0,
 i 128 (.load false 1 c3q) 2,
 i 129 (.conv .i64 c3r) 6,
 i 130 (mv t5) 0,
 i 131 (.a0m c3t) 16,
 i 132 (.bin .add c3u (.c (I 1))) 48,
 i 133 (.bin .rem c3s c1X) 126,
 i 134 (.b0 t2 2) 0,
 i 135 (.load false 1 c4Z) 256,
 i 136 (.bin .rem c5a (.c (.pv (.int .u8 (2))))) 768,
 i 137 (.conv .i64 c5b) 1792,
 i 138 (.build z2 [(0,1,.c (I 4)),(1,1,c3p),(6,1,c4Y),(5,1,c5c)]) 4095,
 iz (.store 7 t4 c5d) 8191] true)
 .ret)))⟩
def a3M:n6:=⟨2,27,[.tmp 4,.tmp 5],
 .seq (.b6 [i 2 (.box 67 t0) 0,
 i 4 (.mv (.c (.emp 7))) 0,
 i 5 (.mv (.c (I 0))) 2] false)
 (.seq (.seq (.b6 [i 6 (mv t1) 0,
 i 7 (.bin .lss t6 (.c (I 0))) 1] false)
 (.cond t7
 (.seq (.b6 [i 4 (.mv (.c (.emp 7))) 0,
 i 5 (.mv (.c (I 2))) 1] false)
 .ret)
 .skip))
 (.seq (.seq (.b6 [i 8 (mv t1) 0,
 i 9 (.b0 t2 0) 0,
 i 10 (.load false 1 t9) 2,
 i 11 (.l8 r9) 6,
 i 12 (.bin .gtr t8 x4) 15] false)
 (.cond x6
 (.seq (.b6 [i 4 (.mv (.c (.emp 7))) 0,
 i 5 (.mv (.c (I 20))) 1] false)
 .ret)
 .skip))
 (.seq (.b6 [i 13 (.b0 t2 0) 0,
 i 14 (.load false 1 B7) 1,
 i 15 (.b0 t2 0) 0,
 i 16 (.load false 1 G0) 4,
 i 17 (.l8 G1) 12,
 i 18 (mv t1) 0,
 i 19 (.bin .sub E0 J6) 60,
 i 20 (.b0 t2 0) 0,
 i 21 (.load false 1 K5) 128,
 i 22 (.l8 J5) 384,
 i 23 (.b0 t2 0) 0,
 i 24 (.load false 1 T9) 1024,
 i 25 (.l8 Y5) 3072,
 i 26 (.slice 7 D2 (some L9) (some P8) (some X3)) 8191,
 i 4 (mv t26) 16383,
 i 5 (.mv (.c (I 0))) 32767] false)
 .ret)))⟩
def a1r:n6:=⟨2,26,[.tmp 4],
 .seq (.b6 [i 3 (.box 7 t1) 0,
 i 4 (.mv (.c (.pv (.bool false)))) 0] false)
 (.scope
 (.seq (.b6 [i 5 (.mv (.c (.pv (.bool true)))) 0] false)
 (.seq .skip
 (.seq (.seq (.b6 [i 8 (.build [.pv (.str []),.pv .nilFunc] [(0,1,.c (.pv (.str [70,111,110,116]))),(1,1,.f C9)]) 0,
 i 9 (.build [.pv (.str []),.pv .nilFunc] [(0,1,.c (.pv (.str [80,97,116,116,101,114,110]))),(1,1,.f C9)]) 0,
 i 10 (.build [.pv (.str []),.pv .nilFunc] [(0,1,.c (.pv (.str [70,111,114,109]))),(1,1,.f C9)]) 0,
 i 11 (.build [.pv (.str []),.pv .nilFunc] [(0,1,.c (.pv (.str [69,110,99,111,100,105,110,103]))),(1,1,.f O2)]) 0,
 i 12 (.build [.pv (.str []),.pv .nilFunc,.pv (.str []),.pv .nilFunc,.pv (.str []),.pv .nilFunc,.pv (.str []),.pv .nilFunc] [(0,2,t8),(2,2,t9),(4,2,r9),(6,2,x4)]) 15,
 i 13 (.mv (.c (I 0))) 0] false)
 (.block 0
 (.loop [0,3,5,12,13]
 (.seq (.b6 [i 14 (.bin .lss B7 (.c (I 4))) 0] false)
 (.seq (.cond D2
 .skip
 (.exit 0))
 (.seq (.block 1
 (.seq (.b6 [i 15 (.index true 4 2 x6 B7) 0,
 i 7 (.alloc [.pv (.str []),.pv .nilFunc]) 0,
 iz (.store 2 t7 G0) 3] false)
 (.seq (.b6 [i 16 (.b0 t7 0) 0,
 i 17 (.load false 1 G1) 1,
 i 18 (mv t0) 0,
 i 19 (.bin .eql E0 J6) 7] false)
 (.cond L9
 (.seq (.b6 [i 20 (.b0 t7 1) 0,
 i 21 (.load false 1 K5) 1,
 i 22 (.load true 7 t3) 0,
 i 23 (.call J5 [P8]) 7,
 i 5 (mv T9) 15] false)
 (.exit 0))
 .skip))))
 (.b6 [i 24 (.bin .add B7 (.c (I 1))) 0,
 i 13 (mv Y5) 1] false)))))))
 (.seq (.b6 [i 25 (mv t5) 0,
 i 4 (mv X3) 1] false)
 .ret)))))⟩
def a2C:n6:=⟨4,84,[.tmp 8,.tmp 9],
 .seq (.b6 [i 5 (.box 7 t1) 0,
 i 6 (.box 7 t2) 0,
 i 7 (.box 7 t3) 0,
 i 8 (.mv (.c (.emp 7))) 0,
 i 9 (.mv (.c (I 0))) 8] false)
 (.seq (.b6 [i 15 (mv t0) 0,
 i 16 (.load true 7 t5) 0,
 i 17 (.G6 1 1 [I 0] [(0,.c (I 9))]) 0,
 i 18 (.call (.f y1) [G0,G1,E0]) 7,
 i 14 (mv J6) 15,
 i 19 (.extract D2 0) 31,
 i 20 (.extract D2 1) 31,
 i 10 (.alloc [.emp 7,I 0,.pv (.bool false),I 0,.pv (.str []),I 0,I 0,I 0]) 0,
 iz (.store 8 r9 L9) 191,
 i 11 (mv K5) 511] false)
 (.seq (.seq (.b6 [i 21 (mv x4) 0,
 i 22 (.bin .neq J5 (.c (I 0))) 1] false)
 (.cond P8
 (.seq (.b6 [i 23 (mv x4) 0,
 i 8 (.mv (.c (.emp 7))) 0,
 i 9 (mv T9) 3] false)
 .ret)
 .skip))
 (.seq (.b6 [i 24 (.load true 8 r9) 0,
 i 25 (.call (.f u7) [Y5]) 1,
 i 12 (.alloc z2) 0,
 iz (.store 7 x6 X3) 7] false)
 (.seq (.seq (.b6 [i 26 (.b0 x6 3) 0,
 i 27 (.load false 1 t26) 1,
 i 28 (.load true 7 t6) 0,
 i 29 (.call (.f u4) [t27,t28]) 7,
 i 13 (mv t29) 15] false)
 (.seq (.b6 [i 30 (mv B7) 0,
 i 31 (.bin .geq t30 (.c (I 0))) 1,
 i 32 (mv t31) 3,
 ig 33 (mv B7) 32 true 7,
 ig 34 (.b0 x6 4) 32 true 7,
 ig 35 (.load false 1 t34) 32 true 23,
 ig 36 (.l8 t35) 32 true 55,
 ig 37 (.bin .lss t33 t36) 32 true 127,
 i 38 (.pick t32 t37 (.c (.pv (.bool false)))) 255] false)
 (.cond t38
 (.seq (.b6 [i 39 (.b0 x6 4) 0,
 i 40 (.load false 1 t39) 1,
 i 41 (mv B7) 0,
 i 42 (.load true 7 t7) 0,
 i 43 (.G6 7 1 z0 [(0,t42)]) 8,
 i 44 (.call (.f y7) [t40,t41,t43]) 31,
 i 45 (.b0 x6 4) 63,
 iz (.store 1 t45 t44) 127] false)
 (.seq (.b6 [i 46 (.load true 8 r9) 0,
 i 47 (.load true 7 x6) 0,
 i 48 (.call (.f u9) [t46,t47]) 3,
 i 8 (mv t48) 7,
 i 9 (.mv (.c (I 0))) 15] false)
 .ret))
 .skip)))
 (.seq (.seq (.b6 [i 49 (.b0 x6 3) 0,
 i 50 (.load false 1 t49) 1,
 i 51 (.l8 t50) 3,
 i 52 (.b0 x6 5) 0,
 i 53 (.load false 1 t52) 8,
 i 54 (.bin .geq t51 t53) 31] false)
 (.cond t54
 (.seq (.b6 [i 8 (.mv (.c (.emp 7))) 0,
 i 9 (.mv (.c (I 30))) 1] false)
 .ret)
 .skip))
 (.seq (.b6 [i 55 (.b0 x6 3) 0,
 i 56 (.load false 1 t55) 1,
 i 57 (.b0 x6 3) 0,
 i 58 (.load false 1 t57) 4,
 i 59 (.l8 t58) 12,
 i 60 (.b0 x6 3) 0,
 i 61 (.load false 1 t60) 32,
 i 62 (.l8 t61) 96,
 i 63 (.slice 7 t56 none (some t59) (some t62)) 255,
 i 64 (.load true 7 t6) 0,
 i 65 (.G6 7 1 z0 [(0,t64)]) 512,
 i 66 (.append 7 64 t63 t65) 2047,
 i 67 (.b0 x6 3) 4095,
 iz (.store 1 t67 t66) 8191] true)
 (.seq (.b6 [i 68 (.b0 x6 4) 0,
 i 69 (.load false 1 t68) 1,
 i 70 (.b0 x6 4) 0,
 i 71 (.load false 1 t70) 4,
 i 72 (.l8 t71) 12,
 i 73 (.b0 x6 4) 0,
 i 74 (.load false 1 t73) 32,
 i 75 (.l8 t74) 96,
 i 76 (.slice 7 t69 none (some t72) (some t75)) 255,
 i 77 (.load true 7 t7) 0,
 i 78 (.G6 7 1 z0 [(0,t77)]) 512,
 i 79 (.append 7 64 t76 t78) 2047,
 i 80 (.b0 x6 4) 4095,
 iz (.store 1 t80 t79) 8191] true)
 (.seq (.b6 [i 81 (.load true 8 r9) 0,
 i 82 (.load true 7 x6) 0,
 i 83 (.call (.f u9) [t81,t82]) 3,
 i 8 (mv t83) 7,
 i 9 (.mv (.c (I 0))) 15] false)
 .ret))))))))⟩
def K8:n6:=⟨4,40,[.cell 8 true 67,.tmp 9],
 .seq (.b6 [i 4 (.box 67 t0) 0,
 i 5 (.box 29 t1) 0,
 i 8 (.alloc z1) 0,
 i 9 (.mv (.c (I 0))) 0] false)
 (.seq (.b6 [i 14 (.b0 t4 0) 0,
 i 15 (.load true 67 D2) 1,
 i 16 (.b0 t5 28) 0,
 i 17 (.load false 1 G1) 4,
 i 18 (.call (.f H9) [G0,E0]) 15,
 i 13 (mv J6) 31,
 i 19 (.extract B7 0) 63,
 i 20 (.extract B7 1) 63,
 i 10 (.alloc z1) 0,
 iz (.store 67 r9 L9) 383,
 i 11 (mv K5) 1023] false)
 (.seq (.seq (.b6 [i 21 (mv x4) 0,
 i 22 (.bin .neq J5 (.c (I 0))) 1] false)
 (.cond P8
 (.seq (.b6 [i 23 (.b0 t4 0) 0,
 i 24 (.load true 67 T9) 1,
 i 25 (mv x4) 0,
 iz (.store 67 t8 Y5) 3,
 i 9 (mv X3) 15] false)
 .ret)
 .skip))
 (.seq (.b6 [i 27 (.load true 67 r9) 0,
 i 28 (mv t3) 0,
 i 29 (.call (.f y5) [t27,t28]) 3,
 i 26 (mv t29) 7,
 i 30 (.extract t26 0) 15,
 i 31 (.extract t26 1) 15,
 i 12 (.alloc z1) 0,
 iz (.store 67 x6 t30) 95,
 i 11 (mv t31) 255] false)
 (.seq (.seq (.b6 [i 32 (mv x4) 0,
 i 33 (.bin .neq t32 (.c (I 0))) 1] false)
 (.cond t33
 (.seq (.b6 [i 34 (.b0 t4 0) 0,
 i 35 (.load true 67 t34) 1,
 i 36 (mv x4) 0,
 iz (.store 67 t8 t35) 3,
 i 9 (mv t36) 15] false)
 .ret)
 .skip))
 (.seq (.b6 [i 37 (mv t2) 0,
 i 38 (.b0 x6 2) 1,
 iz (.store 1 t38 t37) 3] false)
 (.seq (.b6 [i 39 (.load true 67 x6) 0,
 iz (.store 67 t8 t39) 1,
 i 9 (.mv (.c (I 0))) 3] false)
 .ret))))))⟩
def a1H:n6:=⟨3,57,[.tmp 6,.tmp 7],
 .seq (.b6 [i 4 (.box 7 t1) 0,
 i 5 (.box 7 t2) 0,
 i 6 (.mv (.c (.emp 7))) 0,
 i 7 (.mv (.c (I 0))) 4] false)
 (.seq (.b6 [i 13 (mv t0) 0,
 i 14 (.load true 7 t4) 0,
 i 15 (.G6 1 1 [I 0] [(0,.c (I 9))]) 0,
 i 16 (.call (.f y1) [B7,D2,G0]) 7,
 i 12 (mv G1) 15,
 i 17 (.extract x6 0) 31,
 i 18 (.extract x6 1) 31,
 i 8 (.alloc [.emp 7,I 0,.pv (.bool false),I 0,.pv (.str []),I 0,I 0,I 0]) 0,
 iz (.store 8 t8 E0) 191,
 i 9 (mv J6) 511] false)
 (.seq (.seq (.b6 [i 19 (mv t9) 0,
 i 20 (.bin .neq L9 (.c (I 0))) 1] false)
 (.cond K5
 (.seq (.b6 [i 21 (mv t9) 0,
 i 6 (.mv (.c (.emp 7))) 0,
 i 7 (mv J5) 3] false)
 .ret)
 .skip))
 (.seq (.b6 [i 22 (.load true 8 t8) 0,
 i 23 (.call (.f u7) [P8]) 1,
 i 10 (.alloc z2) 0,
 iz (.store 7 r9 T9) 7] false)
 (.seq (.b6 [i 24 (.b0 r9 3) 0,
 i 25 (.load false 1 Y5) 1,
 i 26 (.load true 7 t5) 0,
 i 27 (.call (.f u4) [X3,t26]) 7,
 i 11 (mv t27) 15] false)
 (.seq (.seq (.b6 [i 28 (mv x4) 0,
 i 29 (.bin .lss t28 (.c (I 0))) 1,
 i 30 (mv t29) 3,
 ig 31 (mv x4) 30 false 7,
 ig 32 (.b0 r9 4) 30 false 7,
 ig 33 (.load false 1 t32) 30 false 23,
 ig 34 (.l8 t33) 30 false 55,
 ig 35 (.bin .geq t31 t34) 30 false 127,
 i 36 (.pick t30 (.c (.pv (.bool true))) t35) 255] false)
 (.cond t36
 (.seq (.b6 [i 37 (mv t0) 0,
 i 6 (mv t37) 1,
 i 7 (.mv (.c (I 0))) 3] false)
 .ret)
 .skip))
 (.seq (.b6 [i 38 (.b0 r9 3) 0,
 i 39 (.load false 1 t38) 1,
 i 40 (.call (.f u3) [t39]) 3,
 i 41 (mv x4) 0,
 i 42 (mv x4) 0,
 i 43 (.bin .add t42 (.c (I 1))) 16,
 i 44 (.call (.f y9) [t40,t41,t43]) 63,
 i 45 (.b0 r9 4) 0,
 i 46 (.load false 1 t45) 128,
 i 47 (.call (.f u3) [t46]) 511,
 i 48 (mv x4) 0,
 i 49 (mv x4) 0,
 i 50 (.bin .add t49 (.c (I 1))) 2048,
 i 51 (.call (.f y9) [t47,t48,t50]) 8191,
 i 52 (.b0 r9 3) 511,
 iz (.store 1 t52 t44) 32767,
 i 53 (.b0 r9 4) 65535,
 iz (.store 1 t53 t51) 131071] true)
 (.seq (.b6 [i 54 (.load true 8 t8) 0,
 i 55 (.load true 7 r9) 0,
 i 56 (.call (.f u9) [t54,t55]) 3,
 i 6 (mv t56) 7,
 i 7 (.mv (.c (I 0))) 15] false)
 .ret)))))))⟩
def a6m:n6:=⟨1,20,[.tmp 2],
 .seq (.b6 [i 1 (.box 7 t0) 0,
 i 2 (.mv (.c (I 0))) 0] false)
 (.seq (.seq (.b6 [i 3 (.b0 t1 0) 0,
 i 4 (.load false 1 t3) 1,
 i 5 (.bin .eql t4 (.c (I 3))) 3] false)
 (.cond t5
 (.seq (.b6 [i 6 (.b0 t1 5) 0,
 i 7 (.load false 1 t6) 1,
 i 8 (.mm false [t7,.c (I 200)]) 3,
 i 9 (.mm true [.c (I 0),t8]) 7,
 i 10 (.bin .mul (.c (I 2)) t9) 15,
 i 11 (.bin .add (.c (I 1)) r9) 31,
 i 2 (mv x4) 63] false)
 .ret)
 .skip))
 (.seq (.b6 [i 12 (.b0 t1 1) 0,
 i 13 (.load false 1 x6) 1,
 i 14 (.a0m B7) 3,
 i 15 (.bin .add (.c (I 1)) D2) 7,
 i 16 (.b0 t1 2) 0,
 i 17 (.load false 1 G1) 16,
 i 18 (.l8 E0) 48,
 i 19 (.bin .add G0 J6) 127,
 i 2 (mv L9) 255] false)
 .ret))⟩
def c_heap_objects:n6:=⟨1,4,[.tmp 2],
 .seq (.b6 [i 1 (.box 7 t0) 0,
 i 2 (.mv (.c (.pv .nilFunc))) 0] false)
 (.seq (.b6 [i 3 (.mkf (.func L3) [] [t1]) 0,
 i 2 (mv t3) 1] false)
 .ret)⟩
def c_slices_Contains_Obj:n6:=⟨2,9,[.tmp 4],
 .seq (.b6 [i 3 (.box 7 t1) 0,
 i 4 (.mv (.c (.pv (.bool false)))) 0] false)
 (.seq (.b6 [i 5 (mv t0) 0,
 i 6 (.load true 7 t3) 0,
 i 7 (.call (.f u4) [t5,t6]) 3,
 i 8 (.bin .geq t7 (.c (I 0))) 7,
 i 4 (mv t8) 15] false)
 .ret)⟩
def S5:n6:=⟨1,4,[.tmp 2],
 .seq (.b6 [i 1 (.box 67 t0) 0,
 i 2 (.mv (.c (.pv .nilFunc))) 0] false)
 (.seq (.b6 [i 3 (.mkf (.func l9) [] [t1]) 0,
 i 2 (mv t3) 1] false)
 .ret)⟩
def a3J:n6:=⟨3,45,[.cell 6 true 7,.tmp 7,.tmp 8],
 .seq (.b6 [i 4 (.box 7 t1) 0,
 i 5 (.box 7 t2) 0,
 i 6 (.alloc z0) 0,
 i 7 (.mv (.c (.pv (.bool false)))) 0,
 i 8 (.mv (.c (I 0))) 8] false)
 (.seq (.b6 [i 14 (mv t0) 0,
 i 15 (.load true 7 t4) 0,
 i 16 (.G6 1 1 [I 0] [(0,.c (I 9))]) 0,
 i 17 (.call (.f y1) [D2,G0,G1]) 7,
 i 13 (mv E0) 15,
 i 18 (.extract B7 0) 31,
 i 19 (.extract B7 1) 31,
 i 9 (.alloc [.emp 7,I 0,.pv (.bool false),I 0,.pv (.str []),I 0,I 0,I 0]) 0,
 iz (.store 8 t9 J6) 191,
 i 10 (mv L9) 511] false)
 (.seq (.seq (.b6 [i 20 (mv r9) 0,
 i 21 (.bin .neq K5 (.c (I 0))) 1] false)
 (.cond J5
 (.seq (.b6 [i 22 (.build z0 []) 0,
 i 23 (mv r9) 0,
 iz (.store 7 t6 P8) 1,
 i 7 (.mv (.c (.pv (.bool false)))) 5,
 i 8 (mv T9) 15] false)
 .ret)
 .skip))
 (.seq (.b6 [i 24 (.load true 8 t9) 0,
 i 25 (.call (.f u7) [Y5]) 1,
 i 11 (.alloc z2) 0,
 iz (.store 7 x4 X3) 7] false)
 (.seq (.b6 [i 26 (.b0 x4 3) 0,
 i 27 (.load false 1 t26) 1,
 i 28 (.load true 7 t5) 0,
 i 29 (.call (.f u4) [t27,t28]) 7,
 i 12 (mv t29) 15] false)
 (.seq (.seq (.b6 [i 30 (mv x6) 0,
 i 31 (.bin .lss t30 (.c (I 0))) 1,
 i 32 (mv t31) 3,
 ig 33 (mv x6) 32 false 7,
 ig 34 (.b0 x4 4) 32 false 7,
 ig 35 (.load false 1 t34) 32 false 23,
 ig 36 (.l8 t35) 32 false 55,
 ig 37 (.bin .geq t33 t36) 32 false 127,
 i 38 (.pick t32 (.c (.pv (.bool true))) t37) 255] false)
 (.cond t38
 (.seq (.b6 [i 39 (.build z0 []) 0,
 iz (.store 7 t6 t39) 1,
 i 7 (.mv (.c (.pv (.bool false)))) 3,
 i 8 (.mv (.c (I 0))) 7] false)
 .ret)
 .skip))
 (.seq (.b6 [i 40 (.b0 x4 4) 0,
 i 41 (.load false 1 t40) 1,
 i 42 (mv x6) 0,
 i 43 (.i6 7 t41 t42) 7,
 i 44 (.load true 7 t43) 15,
 iz (.store 7 t6 t44) 31,
 i 7 (.mv (.c (.pv (.bool true)))) 63,
 i 8 (.mv (.c (I 0))) 127] false)
 .ret))))))⟩
def Q1:n6:=⟨4,55,[.tmp 8,.cell 9 true 7,.tmp 10],
 .seq (.b6 [i 4 (.box 67 t0) 0,
 i 8 (.mv (.c (.emp 7))) 0,
 i 9 (.alloc z0) 0,
 i 10 (.mv (.c (I 0))) 2] false)
 (.seq (.seq (.b6 [i 14 (.b0 t4 0) 0,
 i 15 (.load true 67 D2) 1,
 i 16 (mv t1) 0,
 i 17 (.call (.f M3) [G0,G1]) 7,
 i 13 (mv E0) 15,
 i 18 (.extract B7 0) 31,
 i 19 (.extract B7 1) 31,
 i 8 (mv J6) 63,
 i 10 (mv L9) 255] false)
 (.seq (.b6 [i 20 (mv r9) 0,
 i 21 (.bin .neq K5 (.c (I 0))) 1] false)
 (.cond J5
 (.seq (.b6 [i 22 (.load true 7 t9) 0,
 i 23 (mv r9) 0,
 i 8 (.mv (.c (.emp 7))) 0,
 iz (.store 7 t9 P8) 5,
 i 10 (mv T9) 15] true)
 .ret)
 .skip)))
 (.seq (.seq (.b6 [i 24 (mv t8) 0,
 i 25 (mv t2) 0,
 i 26 (.slice 7 Y5 none (some X3) none) 3,
 i 27 (.l8 t26) 7,
 i 28 (.mv (.c (I 0))) 0] false)
 (.block 0
 (.loop [2,3,4,8,9,26,27,28]
 (.seq (.b6 [i 29 (.bin .lss t28 t27) 0] false)
 (.seq (.cond t29
 .skip
 (.exit 0))
 (.seq (.block 1
 (.seq (.b6 [i 30 (.i6 7 t26 t28) 0,
 i 31 (.load true 7 t30) 1,
 i 12 (.alloc z0) 0,
 iz (.store 7 x6 t31) 7] false)
 (.seq (.b6 [i 32 (.b0 x6 0) 0,
 i 33 (.load false 1 t32) 1,
 i 34 (.bin .neq t33 (.c (I 9))) 3] false)
 (.cond t34
 (.seq (.b6 [i 35 (.load true 7 t9) 0,
 i 8 (.mv (.c (.emp 7))) 0,
 iz (.store 7 t9 t35) 3,
 i 10 (.mv (.c (I 22))) 7] true)
 .ret)
 .skip))))
 (.b6 [i 36 (.bin .add t28 (.c (I 1))) 0,
 i 28 (mv t36) 1] false)))))))
 (.seq (.seq (.b6 [i 37 (mv t3) 0] false)
 (.cond t37
 (.seq (.b6 [i 39 (.b0 t4 0) 0,
 i 40 (.b0 t39 2) 1,
 i 41 (.load false 1 t40) 3,
 i 42 (mv t8) 0,
 i 43 (mv t2) 0,
 i 44 (.i6 7 t42 t43) 24,
 i 45 (.load true 7 t44) 56,
 i 46 (.call (.f O0) [t41,t45]) 127,
 i 38 (mv t46) 255,
 i 47 (.extract t38 0) 511,
 i 48 (.extract t38 1) 511,
 iz (.store 7 t9 t47) 1023,
 i 10 (mv t48) 4095] true)
 (.seq (.b6 [i 49 (mv r9) 0,
 i 50 (.bin .neq t49 (.c (I 0))) 1] false)
 (.cond t50
 (.seq (.b6 [i 51 (.load true 7 t9) 0,
 i 52 (mv r9) 0,
 i 8 (.mv (.c (.emp 7))) 0,
 iz (.store 7 t9 t51) 5,
 i 10 (mv t52) 15] true)
 .ret)
 .skip)))
 .skip))
 (.seq (.b6 [i 53 (mv t8) 0,
 i 54 (.load true 7 t9) 0,
 i 8 (mv t53) 1,
 iz (.store 7 t9 t54) 7,
 i 10 (.mv (.c (I 0))) 15] true)
 .ret))))⟩
def a7Q:n6:=⟨2,24,[.tmp 4,.tmp 5,.tmp 6],
 .seq (.b6 [i 3 (.box 7 t1) 0,
 i 4 (.mv (.c (.emp 7))) 0,
 i 5 (.mv (.c (I 0))) 2,
 i 6 (.mv (.c (I 0))) 6] false)
 (.seq (.seq (.b6 [i 7 (mv t0) 0,
 i 8 (.call (.f a2R) [t7]) 1,
 i 9 (.load true 7 t3) 0,
 i 10 (.call (.f a2e) [t9]) 7,
 i 11 (.bin .add t8 r9) 15,
 i 12 (.bin .gtr x4 (.c (I 20000))) 31] true)
 (.cond x6
 (.seq (.b6 [i 4 (.mv (.c (.emp 7))) 0,
 i 5 (.mv (.c (I 0))) 1,
 i 6 (.mv (.c (I 27))) 3] false)
 .ret)
 .skip))
 (.seq (.b6 [i 13 (mv t0) 0,
 i 14 (mv t0) 0,
 i 15 (.l8 D2) 2,
 i 16 (mv t0) 0,
 i 17 (.l8 G1) 8,
 i 18 (.slice 7 B7 none (some G0) (some E0)) 31,
 i 19 (.load true 7 t3) 0,
 i 20 (.G6 7 1 z2 [(0,L9)]) 64,
 i 21 (.append 7 112 J6 K5) 255,
 i 22 (mv t0) 0,
 i 23 (.l8 P8) 512,
 i 4 (mv J5) 511,
 i 5 (mv T9) 4095,
 i 6 (.mv (.c (I 0))) 8191] true)
 .ret))⟩
def a0y:n6:=⟨4,39,[.cell 8 true 67,.tmp 9],
 .seq (.b6 [i 4 (.box 67 t0) 0,
 i 8 (.alloc z1) 0,
 i 9 (.mv (.c (I 0))) 0] false)
 (.seq (.b6 [i 14 (.b0 t4 0) 0,
 i 15 (.load true 67 D2) 1,
 i 16 (mv t1) 0,
 i 17 (.call (.f H9) [G0,G1]) 7,
 i 13 (mv E0) 15,
 i 18 (.extract B7 0) 31,
 i 19 (.extract B7 1) 31,
 i 10 (.alloc z1) 0,
 iz (.store 67 r9 J6) 191,
 i 11 (mv L9) 511] false)
 (.seq (.seq (.b6 [i 20 (mv x4) 0,
 i 21 (.bin .neq K5 (.c (I 0))) 1] false)
 (.cond J5
 (.seq (.b6 [i 22 (.b0 t4 0) 0,
 i 23 (.load true 67 P8) 1,
 i 24 (mv x4) 0,
 iz (.store 67 t8 T9) 3,
 i 9 (mv Y5) 15] false)
 .ret)
 .skip))
 (.seq (.b6 [i 26 (.load true 67 r9) 0,
 i 27 (mv t3) 0,
 i 28 (.call (.f y5) [t26,t27]) 3,
 i 25 (mv t28) 7,
 i 29 (.extract X3 0) 15,
 i 30 (.extract X3 1) 15,
 i 12 (.alloc z1) 0,
 iz (.store 67 x6 t29) 95,
 i 11 (mv t30) 255] false)
 (.seq (.seq (.b6 [i 31 (mv x4) 0,
 i 32 (.bin .neq t31 (.c (I 0))) 1] false)
 (.cond t32
 (.seq (.b6 [i 33 (.b0 t4 0) 0,
 i 34 (.load true 67 t33) 1,
 i 35 (mv x4) 0,
 iz (.store 67 t8 t34) 3,
 i 9 (mv t35) 15] false)
 .ret)
 .skip))
 (.seq (.b6 [i 36 (mv t2) 0,
 i 37 (.b0 x6 2) 1,
 iz (.store 1 t37 t36) 3] false)
 (.seq (.b6 [i 38 (.load true 67 x6) 0,
 iz (.store 67 t8 t38) 1,
 i 9 (.mv (.c (I 0))) 3] false)
 .ret))))))⟩
def W3:n6:=⟨5,35,[.cell 10 true 67,.tmp 11],
 .seq (.b6 [i 5 (.box 67 t0) 0,
 i 7 (.box 7 t2) 0,
 i 8 (.box 7 t3) 0,
 i 9 (.box 7 t4) 0,
 i 10 (.alloc z1) 0,
 i 11 (.mv (.c (I 0))) 0] false)
 (.seq (.b6 [i 15 (.b0 t5 0) 0,
 i 16 (.b0 G0 2) 1,
 i 17 (.load false 1 G1) 3,
 i 18 (.load true 7 t7) 0,
 i 19 (.load true 7 t8) 0,
 i 20 (.load true 7 t9) 0,
 i 21 (.call (.f y3) [E0,J6,L9,K5]) 63,
 i 14 (mv J5) 127,
 i 22 (.extract D2 0) 255,
 i 23 (.extract D2 1) 255,
 i 12 (mv P8) 511,
 i 13 (mv T9) 2047] false)
 (.seq (.seq (.b6 [i 24 (mv B7) 0,
 i 25 (.bin .neq Y5 (.c (I 0))) 1] false)
 (.cond X3
 (.seq (.b6 [i 26 (.b0 t5 0) 0,
 i 27 (.load true 67 t26) 1,
 i 28 (mv B7) 0,
 iz (.store 67 r9 t27) 3,
 i 11 (mv t28) 15] false)
 .ret)
 .skip))
 (.seq (.b6 [i 29 (.load true 67 t5) 0,
 i 30 (mv t1) 0,
 i 31 (mv x6) 0,
 i 32 (.call (.f g8) [t29,t30,t31,.c (.emp 7)]) 7,
 i 33 (.extract t32 0) 15,
 i 34 (.extract t32 1) 15,
 iz (.store 67 r9 t33) 63,
 i 11 (mv t34) 127] false)
 .ret)))⟩
def S4:n6:=⟨1,19,[.cell 2 true 7],
 .seq (.b6 [i 1 (.box 67 t0) 0,
 i 2 (.alloc z0) 0] false)
 (.seq (.seq (.b6 [i 3 (.b0 t1 0) 0,
 i 4 (.b0 t3 1) 1,
 i 5 (.load false 1 t4) 3,
 i 6 (.l8 t5) 7,
 i 7 (.bin .eql t6 (.c (I 0))) 15] false)
 (.cond t7
 (.seq (.b6 [i 8 (.build z0 []) 0,
 iz (.store 7 t2 t8) 1] false)
 .ret)
 .skip))
 (.seq (.b6 [i 9 (.b0 t1 0) 0,
 i 10 (.b0 t9 1) 1,
 i 11 (.load false 1 r9) 3,
 i 12 (.b0 t1 0) 0,
 i 13 (.b0 x6 1) 8,
 i 14 (.load false 1 B7) 24,
 i 15 (.l8 D2) 56,
 i 16 (.bin .sub G0 (.c (I 1))) 120,
 i 17 (.i6 7 x4 G1) 255,
 i 18 (.load true 7 E0) 511,
 iz (.store 7 t2 J6) 1023] false)
 .ret))⟩
def a5l:n6:=⟨1,8,[.cell 2 true 7],
 .seq (.b6 [i 2 (.alloc z0) 0] false)
 (.seq (.b6 [i 4 (.build z0 [(0,1,.c (I 2))]) 0,
 i 3 (.alloc z0) 0,
 iz (.store 7 t3 t4) 3] false)
 (.seq (.seq (.b6 [i 5 (mv t0) 0] false)
 (.cond t5
 (.b6 [i 6 (.b0 t3 2) 0,
 iz (.store 1 t6 (.c (I 1))) 1] false)
 .skip))
 (.seq (.b6 [i 7 (.load true 7 t3) 0,
 iz (.store 7 t2 t7) 1] false)
 .ret)))⟩
def a2J:n6:=⟨2,27,[.cell 4 true 67,.tmp 5],
 .seq (.b6 [i 2 (.box 67 t0) 0,
 i 4 (.alloc z1) 0,
 i 5 (.mv (.c (I 0))) 0] false)
 (.seq (.seq (.b6 [i 6 (.b0 t2 0) 0,
 i 7 (.load false 1 t6) 1,
 i 8 (.l8 t7) 3,
 i 9 (mv t1) 0,
 i 10 (.l8 t9) 8,
 i 11 (.bin .add t8 r9) 31,
 i 12 (.bin .gtr x4 (.c (I 100))) 63] false)
 (.cond x6
 (.seq (.b6 [i 13 (.load true 67 t2) 0,
 iz (.store 67 t4 B7) 1,
 i 5 (.mv (.c (I 21))) 3] false)
 .ret)
 .skip))
 (.seq (.b6 [i 14 (.b0 t2 0) 0,
 i 15 (.load false 1 D2) 1,
 i 16 (.b0 t2 0) 0,
 i 17 (.load false 1 G1) 4,
 i 18 (.l8 E0) 12,
 i 19 (.b0 t2 0) 0,
 i 20 (.load false 1 L9) 32,
 i 21 (.l8 K5) 96,
 i 22 (.slice 7 G0 none (some J6) (some J5)) 255,
 i 23 (mv t1) 0,
 i 24 (.append 7 64 P8 T9) 1023,
 i 25 (.b0 t2 0) 2047,
 iz (.store 1 X3 Y5) 4095] false)
 (.seq (.b6 [i 26 (.load true 67 t2) 0,
 iz (.store 67 t4 t26) 1,
 i 5 (.mv (.c (I 0))) 3] false)
 .ret)))⟩
def a7P:n6:=⟨1,5,[.cell 2 true 7],
 .seq (.b6 [i 2 (.alloc z0) 0] false)
 (.seq (.b6 [i 3 (mv t0) 0,
 i 4 (.build z0 [(0,1,.c (I 3)),(2,1,t3)]) 1,
 iz (.store 7 t2 t4) 3] false)
 .ret)⟩
def R9:n6:=⟨2,50,[.cell 4 true 67,.tmp 5],
 .seq (.b6 [i 2 (.box 67 t0) 0,
 i 4 (.alloc z1) 0,
 i 5 (.mv (.c (I 0))) 0] false)
 (.seq (.b6 [i 10 (.load true 67 t2) 0,
 i 11 (.call (.f e6) [r9,.c (I 1),.c (I 1),.c (.pv (.bool false))]) 1,
 i 9 (mv x4) 3,
 i 12 (.extract t9 0) 7,
 i 13 (.extract t9 1) 7,
 i 14 (.extract t9 2) 7,
 i 7 (.alloc z0) 0,
 i 6 (mv x6) 79,
 iz (.store 7 t7 B7) 223,
 i 8 (mv D2) 511] false)
 (.seq (.seq (.b6 [i 15 (mv t8) 0,
 i 16 (.bin .neq G0 (.c (I 0))) 1] false)
 (.cond G1
 (.seq (.b6 [i 17 (.b0 t2 0) 0,
 i 18 (.load true 67 E0) 1,
 i 19 (mv t8) 0,
 iz (.store 67 t4 J6) 3,
 i 5 (mv L9) 15] false)
 .ret)
 .skip))
 (.seq (.seq (.b6 [i 20 (.b0 t2 0) 0,
 i 21 (.b0 K5 2) 1,
 i 22 (.load false 1 J5) 3,
 i 23 (mv t6) 0,
 i 24 (.i6 7 T9 (.c (I 0))) 8,
 i 25 (.load true 7 Y5) 24,
 i 26 (.call (.f E2) [P8,X3]) 63,
 i 27 (.not t26) 127] true)
 (.cond t27
 (.seq (.b6 [i 28 (.b0 t2 0) 0,
 i 29 (.load true 67 t28) 1,
 iz (.store 67 t4 t29) 3,
 i 5 (.mv (.c (I 22))) 7] false)
 .ret)
 .skip))
 (.seq (.b6 [i 30 (.load true 67 t2) 0,
 i 31 (.b0 t2 0) 0,
 i 32 (.b0 t31 2) 2,
 i 33 (.load false 1 t32) 6,
 i 34 (mv t1) 0,
 i 35 (.b0 t2 0) 0,
 i 36 (.b0 t35 2) 32,
 i 37 (.load false 1 t36) 96,
 i 38 (mv t6) 0,
 i 39 (.i6 7 t38 (.c (I 0))) 256,
 i 40 (.b0 t39 4) 768,
 i 41 (.load false 1 t40) 1792,
 i 42 (.i6 7 t37 t41) 4064,
 i 43 (.load true 7 t42) 8160,
 i 44 (.call t34 [t43]) 16368,
 i 45 (.call (.f a3r) [t44]) 32752,
 i 46 (.G6 7 1 z0 [(0,t45)]) 65520,
 i 47 (.call (.f g8) [t30,.c (I 1),t33,t46]) 131071,
 i 48 (.extract t47 0) 262143,
 i 49 (.extract t47 1) 262143,
 iz (.store 67 t4 t48) 1048575,
 i 5 (mv t49) 2097151] true)
 .ret))))⟩
def I6:n6:=⟨1,5,[.tmp 2],
 .seq (.b6 [i 1 (.box 7 t0) 0,
 i 2 (.mv (.c (I 0))) 0] false)
 (.seq (.b6 [i 3 (.b0 t1 5) 0,
 i 4 (.load false 1 t3) 1,
 i 2 (mv t4) 3] false)
 .ret)⟩
def Q0:n6:=⟨1,6,[.tmp 2],
 .seq (.b6 [i 1 (.box 7 t0) 0,
 i 2 (.mv (.c (I 0))) 0] false)
 (.seq (.b6 [i 3 (.b0 t1 3) 0,
 i 4 (.load false 1 t3) 1,
 i 5 (.l8 t4) 3,
 i 2 (mv t5) 7] false)
 .ret)⟩
def a4f:n6:=⟨4,33,[.tmp 8,.tmp 9],
 .seq (.b6 [i 4 (.box 1 t0) 0,
 i 5 (.box 7 t1) 0,
 i 8 (.mv (.c (.emp 7))) 0,
 i 9 (.mv (.c (I 0))) 4] false)
 (.seq (.b6 [i 10 (.alloc [I 0]) 0,
 iz (.store 1 r9 (.c (I 0))) 1] false)
 (.seq (.b6 [i 14 (.mkf (.func O7) [] [t4,t5,r9]) 0,
 i 11 (mv D2) 1] false)
 (.seq (.seq (.b6 [i 15 (mv t2) 0,
 i 16 (.l8 G0) 1,
 i 17 (.mv (.c (I 0))) 0] false)
 (.block 0
 (.loop [3,4,10,11,15,16,17]
 (.seq (.b6 [i 18 (.bin .lss E0 G1) 0] false)
 (.seq (.cond J6
 .skip
 (.exit 0))
 (.seq (.block 1
 (.seq (.b6 [i 19 (mv E0) 0,
 i 20 (.i6 7 G0 E0) 0,
 i 21 (.load true 7 K5) 2,
 i 13 (.alloc z0) 0,
 i 12 (mv L9) 15,
 iz (.store 7 B7 J5) 31] false)
 (.seq (.b6 [i 22 (mv x4) 0,
 i 23 (.load true 7 B7) 0,
 i 24 (mv t3) 0,
 i 25 (mv x6) 0,
 i 26 (.i6 7 Y5 X3) 12,
 i 27 (.load true 7 t26) 28,
 i 28 (.call P8 [T9,t27]) 63,
 i 29 (.not t28) 127] false)
 (.cond t29
 (.seq (.b6 [i 30 (.load false 1 r9) 0,
 i 8 (.mv (.c (.emp 7))) 0,
 i 9 (mv t30) 3] false)
 .ret)
 .skip))))
 (.b6 [i 31 (.bin .add E0 (.c (I 1))) 0,
 i 17 (mv t31) 1] false)))))))
 (.seq (.b6 [i 32 (.load false 1 t4) 0,
 i 8 (mv t32) 1,
 i 9 (.mv (.c (I 0))) 3] false)
 .ret))))⟩
def a0E:n6:=⟨1,30,[.tmp 2],
 .seq (.b6 [i 1 (.box 7 t0) 0,
 i 2 (.mv (.c (I 0))) 0] false)
 (.scope
 (.seq (.seq (.b6 [i 7 (.b0 t1 0) 0,
 i 8 (.load false 1 t7) 1,
 i 9 (.bin .lss t8 (.c (I 0))) 3,
 i 10 (mv t9) 7,
 ig 11 (.b0 t1 0) 10 false 15,
 ig 12 (.load false 1 x4) 10 false 31,
 ig 13 (.bin .geq x6 (.c (I 13))) 10 false 63,
 i 14 (.pick r9 (.c (.pv (.bool true))) B7) 127] false)
 (.cond D2
 (.seq (.b6 [i 2 (.mv (.c (I 200))) 0] false)
 .ret)
 .skip))
 (.seq (.b6 [i 15 (.call (.f L7) []) 0,
 i 16 (.b0 t1 0) 0,
 i 17 (.load false 1 G1) 2,
 i 18 (.index true 13 6 G0 E0) 7,
 i 3 (.alloc [.pv (.str []),I 0,I 0,I 0,I 0,I 0]) 0,
 iz (.store 6 t3 J6) 31] true)
 (.seq (.b6 [i 4 (.mv (.c (I 0))) 0] false)
 (.seq .skip
 (.seq (.seq (.b6 [i 19 (.build [.pv .nilFunc,.pv .nilFunc,.pv .nilFunc] [(0,1,.f u2),(1,1,.f v7),(2,1,.f o4)]) 0,
 i 20 (.mv (.c (I 0))) 0] false)
 (.block 0
 (.loop [1,3,4,19,20]
 (.seq (.b6 [i 21 (.bin .lss K5 (.c (I 3))) 0] false)
 (.seq (.cond J5
 .skip
 (.exit 0))
 (.seq (.block 1
 (.seq (.b6 [i 22 (.index false 3 1 L9 K5) 0,
 i 6 (mv P8) 1] false)
 (.seq (.b6 [i 23 (mv t6) 0,
 i 24 (.load true 6 t3) 0,
 i 25 (.load true 7 t1) 0,
 i 26 (.call T9 [Y5,X3]) 7,
 i 27 (.not t26) 15] false)
 (.cond t27
 (.seq (.b6 [i 4 (.mv (.c (I 200))) 0] false)
 (.exit 0))
 .skip))))
 (.b6 [i 28 (.bin .add K5 (.c (I 1))) 0,
 i 20 (mv t28) 1] false)))))))
 (.seq (.b6 [i 29 (mv t4) 0,
 i 2 (mv t29) 1] false)
 .ret)))))))⟩
def Y7:n6:=⟨1,6,[.tmp 2],
 .seq (.b6 [i 2 (.mv (.c (I 0))) 0] false)
 (.seq (.b6 [i 3 (.build [I 0,I 0,I 0,I 0,I 0,I 0,I 0,I 0,I 0,I 0,I 0,I 0,I 0,I 0] [(6,1,.c (I 1)),(7,1,.c (I 2)),(8,1,.c (I 2)),(9,1,.c (I 3)),(11,1,.c (I 4)),(13,1,.c (I 0))]) 0,
 i 4 (mv t0) 0,
 i 5 (.index false 14 1 t3 t4) 3,
 i 2 (mv t5) 7] false)
 .ret)⟩
def a1I:n6:=⟨1,12,[.tmp 2],
 .seq (.b6 [i 1 (.box 7 t0) 0,
 i 2 (.mv (.c (I 0))) 0] false)
 (.seq (.seq (.b6 [i 3 (.b0 t1 0) 0,
 i 4 (.load false 1 t3) 1,
 i 5 (.bin .eql t4 (.c (I 1))) 3] false)
 (.cond t5
 (.seq (.b6 [i 6 (.b0 t1 1) 0,
 i 7 (.load false 1 t6) 1,
 i 8 (.a0m t7) 3,
 i 2 (mv t8) 7] false)
 .ret)
 .skip))
 (.seq (.b6 [i 9 (.b0 t1 2) 0,
 i 10 (.load false 1 t9) 1,
 i 11 (.l8 r9) 3,
 i 2 (mv x4) 7] false)
 .ret))⟩
def a0G:n6:=⟨1,20,[.cell 2 true 7,.tmp 3],
 .seq (.b6 [i 1 (.box 7 t0) 0,
 i 2 (.alloc z0) 0,
 i 3 (.mv (.c (I 0))) 0] false)
 (.seq (.b6 [i 7 (.load true 7 t1) 0,
 i 8 (.call (.f L6) [t7]) 1,
 i 6 (mv t8) 3,
 i 9 (.extract t6 0) 7,
 i 10 (.extract t6 1) 7,
 i 4 (mv t9) 15,
 i 5 (mv r9) 63] false)
 (.seq (.seq (.b6 [i 11 (mv t5) 0,
 i 12 (.bin .neq x4 (.c (I 0))) 1] false)
 (.cond x6
 (.seq (.b6 [i 13 (.build z0 []) 0,
 i 14 (mv t5) 0,
 iz (.store 7 t2 B7) 1,
 i 3 (mv D2) 7] false)
 .ret)
 .skip))
 (.seq (.b6 [i 15 (mv t4) 0,
 i 16 (.bin .quo G0 (.c (I 65536))) 1,
 i 17 (.call (.f V4) [G1]) 3,
 i 18 (.extract E0 0) 7,
 i 19 (.extract E0 1) 7,
 iz (.store 7 t2 J6) 31,
 i 3 (mv L9) 63] false)
 .ret)))⟩
def a1J:n6:=⟨3,23,[.cell 6 true 8,.tmp 7],
 .seq (.b6 [i 4 (.box 7 t1) 0,
 i 6 (.alloc [.emp 7,I 0,.pv (.bool false),I 0,.pv (.str []),I 0,I 0,I 0]) 0,
 i 7 (.mv (.c (I 0))) 0] false)
 (.seq (.seq (.b6 [i 8 (mv t0) 0,
 i 9 (.load true 7 t4) 0,
 i 10 (.call (.f E2) [t8,t9]) 3,
 i 11 (.not r9) 7] false)
 (.cond x4
 (.seq (.b6 [i 12 (.build [.emp 7,I 0,.pv (.bool false),I 0,.pv (.str []),I 0,I 0,I 0] []) 0,
 iz (.store 8 t6 x6) 1,
 i 7 (.mv (.c (I 2))) 3] false)
 .ret)
 .skip))
 (.seq (.seq (.b6 [i 13 (mv t2) 0,
 i 14 (.b0 t4 0) 0,
 i 15 (.load false 1 D2) 2,
 i 16 (.call (.f x2) [B7,G0]) 7,
 i 17 (.not G1) 15] false)
 (.cond E0
 (.seq (.b6 [i 18 (.build [.emp 7,I 0,.pv (.bool false),I 0,.pv (.str []),I 0,I 0,I 0] []) 0,
 iz (.store 8 t6 J6) 1,
 i 7 (.mv (.c (I 22))) 3] false)
 .ret)
 .skip))
 (.seq (.b6 [i 19 (mv t0) 0,
 i 20 (.build [.emp 7] [(0,1,L9)]) 1,
 i 21 (.load true 7 t4) 0,
 i 22 (.build [.emp 7,I 0,.pv (.bool false),I 0,.pv (.str []),I 0,I 0,I 0] [(0,1,K5),(1,7,J5)]) 7,
 iz (.store 8 t6 P8) 15,
 i 7 (.mv (.c (I 0))) 31] false)
 .ret)))⟩
def U1:n6:=⟨1,11,[.cell 2 true 7],
 .seq (.b6 [i 1 (.box 8 t0) 0,
 i 2 (.alloc z2) 0] false)
 (.seq (.b6 [i 3 (.b0 t1 0) 0,
 i 4 (.b0 t3 0) 1,
 i 5 (.load false 1 t4) 3,
 i 6 (.b0 t1 1) 0,
 i 7 (.b0 t6 4) 8,
 i 8 (.load false 1 t7) 24,
 i 9 (.i6 7 t5 t8) 63,
 i 10 (.load true 7 t9) 127,
 iz (.store 7 t2 r9) 255] false)
 .ret)⟩
def H3:n6:=⟨2,15,[.cell 4 true 7,.tmp 5],
 .seq (.b6 [i 4 (.alloc z0) 0,
 i 5 (.mv (.c (I 0))) 0] false)
 (.seq (.b6 [i 7 (mv t1) 0,
 i 8 (mv t0) 0,
 i 9 (.call t7 [t8]) 3,
 i 6 (.alloc z0) 0,
 iz (.store 7 t6 t9) 15] false)
 (.seq (.seq (.b6 [i 10 (.load true 7 t6) 0,
 i 11 (.call (.f u1) [r9]) 1,
 i 12 (.bin .neq x4 (.c (I 0))) 3] false)
 (.cond x6
 (.seq (.b6 [i 13 (.build z0 []) 0,
 iz (.store 7 t4 B7) 1,
 i 5 (.mv (.c (I 2))) 3] false)
 .ret)
 .skip))
 (.seq (.b6 [i 14 (.load true 7 t6) 0,
 iz (.store 7 t4 D2) 1,
 i 5 (.mv (.c (I 0))) 3] false)
 .ret)))⟩
def Y8:n6:=⟨2,7,[.cell 3 true 7],
 .seq (.b6 [i 3 (.alloc z0) 0] false)
 (.seq (.b6 [i 4 (mv t0) 0,
 i 5 (.load false 1 t1) 0,
 i 6 (.build z0 [(0,1,.c (I 5)),(3,1,t4),(1,1,t5)]) 3,
 iz (.store 7 t3 t6) 7] false)
 .ret)⟩
def a0J:n6:=⟨1,5,[.cell 2 true 7],
 .seq (.b6 [i 2 (.alloc z2) 0] false)
 (.seq (.b6 [i 3 (mv t0) 0,
 i 4 (.build z2 [(0,1,.c (I 3)),(5,1,t3)]) 1,
 iz (.store 7 t2 t4) 3] false)
 .ret)⟩
def a2H:n6:=⟨1,5,[.cell 2 true 7],
 .seq (.b6 [i 2 (.alloc z0) 0] false)
 (.seq (.b6 [i 3 (mv t0) 0,
 i 4 (.build z0 [(0,1,.c (I 5)),(3,1,t3)]) 1,
 iz (.store 7 t2 t4) 3] false)
 .ret)⟩
def a0K:n6:=⟨1,6,[.tmp 2],
 .seq (.b6 [i 1 (.box 7 t0) 0,
 i 2 (.mv (.c (.pv (.bool false)))) 0] false)
 (.seq (.b6 [i 3 (.b0 t1 0) 0,
 i 4 (.load false 1 t3) 1,
 i 5 (.bin .eql t4 (.c (I 9))) 3,
 i 2 (mv t5) 7] false)
 .ret)⟩
def a0b:n6:=⟨1,11,[.tmp 2],
 .seq (.b6 [i 1 (.box 7 t0) 0,
 i 2 (.mv (.c (.pv (.bool false)))) 0] false)
 (.seq (.b6 [i 3 (.b0 t1 0) 0,
 i 4 (.load false 1 t3) 1,
 i 5 (.bin .eql t4 (.c (I 7))) 3,
 i 6 (mv t5) 7,
 ig 7 (.b0 t1 0) 6 false 15,
 ig 8 (.load false 1 t7) 6 false 31,
 ig 9 (.bin .eql t8 (.c (I 8))) 6 false 63,
 i 10 (.pick t6 (.c (.pv (.bool true))) t9) 127,
 i 2 (mv r9) 255] false)
 .ret)⟩
def J7:n6:=⟨3,20,[.tmp 6],
 .seq (.b6 [i 6 (.mv (.c (.emp 7))) 0] false)
 (.seq (.b6 [i 8 (mv t0) 0,
 i 9 (.l8 t8) 1,
 i 10 (.b3a 7 64 [.int .i64 (0),.bool false,.int .i64 (0),.str [],.int .i64 (0),.int .i64 (0),.int .i64 (0)] t9) 3,
 i 7 (mv r9) 7] false)
 (.seq (.b6 [i 11 (mv t7) 0,
 i 12 (mv t0) 0,
 i 13 (.copy 7 x4 x6) 3] false)
 (.seq (.b6 [i 14 (mv t7) 0,
 i 15 (mv t1) 0,
 i 16 (.slice 7 D2 (some G0) none none) 3,
 i 17 (mv t2) 0,
 i 18 (.copy 7 G1 E0) 15] false)
 (.seq (.b6 [i 19 (mv t7) 0,
 i 6 (mv L9) 1] false)
 .ret))))⟩
def U2:n6:=⟨2,23,[.tmp 4],
 .seq (.b6 [i 2 (.box 8 t0) 0,
 i 3 (.box 7 t1) 0,
 i 4 (.mv (.c (.emp 7))) 0] false)
 (.seq (.b6 [i 6 (.b0 t2 0) 0,
 i 7 (.b0 t6 0) 1,
 i 8 (.load false 1 t7) 3,
 i 9 (.l8 t8) 7,
 i 10 (.b3a 7 112 [.int .i64 (0),.str [],.sl 7 [],.sl 7 [],.sl 7 [],.int .i64 (0),.int .i64 (0)] t9) 15,
 i 5 (mv r9) 31] false)
 (.seq (.b6 [i 11 (mv t5) 0,
 i 12 (.b0 t2 0) 0,
 i 13 (.b0 x6 0) 2,
 i 14 (.load false 1 B7) 6,
 i 15 (.copy 7 x4 D2) 15] false)
 (.seq (.b6 [i 16 (mv t5) 0,
 i 17 (.b0 t2 1) 0,
 i 18 (.b0 E0 4) 2,
 i 19 (.load false 1 J6) 6,
 i 20 (.load true 7 t3) 0,
 i 21 (.i6 7 G1 L9) 31,
 iz (.store 7 J5 K5) 63] false)
 (.seq (.b6 [i 22 (mv t5) 0,
 i 4 (mv P8) 1] false)
 .ret))))⟩
def a2I:n6:=⟨2,30,[.cell 4 true 67,.tmp 5],
 .seq (.b6 [i 2 (.box 67 t0) 0,
 i 4 (.alloc z1) 0,
 i 5 (.mv (.c (I 0))) 0] false)
 (.seq (.seq (.b6 [i 6 (mv t1) 0,
 i 7 (.bin .lss t6 (.c (I 0))) 1] false)
 (.cond t7
 (.seq (.b6 [i 8 (.load true 67 t2) 0,
 iz (.store 67 t4 t8) 1,
 i 5 (.mv (.c (I 2))) 3] false)
 .ret)
 .skip))
 (.seq (.seq (.b6 [i 9 (mv t1) 0,
 i 10 (.b0 t2 0) 0,
 i 11 (.load false 1 r9) 2,
 i 12 (.l8 x4) 6,
 i 13 (.bin .gtr t9 x6) 15] false)
 (.cond B7
 (.seq (.b6 [i 14 (.load true 67 t2) 0,
 iz (.store 67 t4 D2) 1,
 i 5 (.mv (.c (I 20))) 3] false)
 .ret)
 .skip))
 (.seq (.b6 [i 15 (.b0 t2 0) 0,
 i 16 (.load false 1 G0) 1,
 i 17 (.b0 t2 0) 0,
 i 18 (.load false 1 E0) 4,
 i 19 (.l8 J6) 12,
 i 20 (mv t1) 0,
 i 21 (.bin .sub L9 K5) 60,
 i 22 (.b0 t2 0) 0,
 i 23 (.load false 1 P8) 128,
 i 24 (.l8 T9) 384,
 i 25 (mv t1) 0,
 i 26 (.bin .sub Y5 X3) 1920,
 i 27 (.slice 7 G1 none (some J5) (some t26)) 4095,
 i 28 (.b0 t2 0) 8191,
 iz (.store 1 t28 t27) 16383] false)
 (.seq (.b6 [i 29 (.load true 67 t2) 0,
 iz (.store 67 t4 t29) 1,
 i 5 (.mv (.c (I 0))) 3] false)
 .ret))))⟩
def J9:n6:=⟨3,33,[.tmp 6],
 .seq (.b6 [i 6 (.mv (.c (.emp 7))) 0] false)
 (.seq (.b6 [i 8 (mv t0) 0,
 i 9 (mv t1) 0,
 i 10 (mv t2) 0,
 i 11 (mv t0) 0,
 i 12 (.l8 x4) 8,
 i 13 (.slice 7 t8 (some t9) (some r9) (some x6)) 31] false)
 (.seq (.seq (.b6 [i 14 (mv t1) 0,
 i 15 (mv t2) 0,
 i 16 (.bin .eql D2 G0) 3] false)
 (.cond G1
 (.seq (.b6 [i 17 (mv t0) 0,
 i 6 (mv E0) 1] false)
 .ret)
 .skip))
 (.seq (.b6 [i 18 (mv t0) 0,
 i 19 (.l8 J6) 1,
 i 7 (mv L9) 3] false)
 (.seq (.b6 [i 20 (mv t0) 0,
 i 21 (mv t1) 0,
 i 22 (.slice 7 K5 none (some J5) none) 3,
 i 23 (mv t0) 0,
 i 24 (mv t2) 0,
 i 25 (.slice 7 T9 (some Y5) none none) 24,
 i 26 (.append 7 64 P8 X3) 63,
 i 0 (mv t26) 127] true)
 (.seq (.b6 [i 27 (mv t0) 0,
 i 28 (mv t0) 0,
 i 29 (.l8 t28) 2,
 i 30 (mv t7) 0,
 i 31 (.slice 7 t27 (some t29) (some t30) none) 15,
 iz (.clear 7 [.int .i64 (0),.bool false,.int .i64 (0),.str [],.int .i64 (0),.int .i64 (0),.int .i64 (0)] t31) 31] false)
 (.seq (.b6 [i 32 (mv t0) 0,
 i 6 (mv t32) 1] false)
 .ret))))))⟩
def K7:n6:=⟨2,29,[],
 .seq (.b6 [i 7 (.b0 t1 2) 0,
 i 8 (.load false 1 t7) 1,
 i 9 (.b0 t1 3) 0,
 i 10 (.load false 1 t9) 4,
 i 11 (.b0 t1 4) 0,
 i 12 (.load false 1 x4) 16,
 i 13 (.build [.emp 7,.emp 7,.emp 7] [(0,1,t8),(1,1,r9),(2,1,x6)]) 63,
 i 14 (.mv (.c (I 0))) 0] false)
 (.block 0
 (.loop [0,13,14]
 (.seq (.b6 [i 15 (.bin .lss D2 (.c (I 3))) 0] false)
 (.seq (.cond G0
 .skip
 (.exit 0))
 (.seq (.block 1
 (.seq (.b6 [i 16 (.index false 3 1 B7 D2) 0,
 i 4 (mv G1) 1] false)
 (.seq (.b6 [i 17 (mv t4) 0,
 i 18 (.l8 E0) 1,
 i 19 (.mv (.c (I 0))) 0] false)
 (.block 2
 (.loop [0,13,14,17,18,19]
 (.seq (.b6 [i 20 (.bin .lss L9 J6) 0] false)
 (.seq (.cond K5
 .skip
 (.exit 2))
 (.seq (.block 3
 (.seq (.b6 [i 21 (.i6 7 E0 L9) 0,
 i 22 (.load true 7 J5) 1,
 i 6 (.alloc z0) 0,
 iz (.store 7 t6 P8) 7] false)
 (.seq (.b6 [i 23 (mv t0) 0,
 i 24 (.load true 7 t6) 0,
 i 25 (.call T9 [Y5]) 3,
 i 26 (.not X3) 7] false)
 (.cond t26
 .ret
 .skip))))
 (.b6 [i 27 (.bin .add L9 (.c (I 1))) 0,
 i 19 (mv t27) 1] false)))))))))
 (.b6 [i 28 (.bin .add D2 (.c (I 1))) 0,
 i 14 (mv t28) 1] false))))))⟩
def p7:n6:=⟨2,22,[],
 .seq (.b6 [i 4 (.b0 t1 0) 0,
 i 5 (.b0 t4 1) 1,
 i 6 (.load false 1 t5) 3,
 i 7 (.l8 t6) 7,
 i 8 (.bin .sub t7 (.c (I 1))) 15,
 i 3 (mv t8) 31] false)
 (.block 0
 (.loop [0,1,3]
 (.seq (.seq (.b6 [i 9 (mv t3) 0,
 i 10 (.bin .geq t9 (.c (I 0))) 1] false)
 (.cond r9
 .skip
 (.exit 0)))
 (.seq (.block 1
 (.seq (.b6 [i 13 (mv t0) 0,
 i 14 (.b0 t1 0) 0,
 i 15 (.b0 D2 1) 2,
 i 16 (.load false 1 G0) 6,
 i 17 (mv t3) 0,
 i 18 (.i6 7 G1 E0) 30,
 i 19 (.load true 7 J6) 62,
 i 20 (.call B7 [L9]) 127,
 i 21 (.not K5) 255] false)
 (.cond J5
 .ret
 .skip)))
 (.b6 [i 11 (mv t3) 0,
 i 12 (.bin .sub x4 (.c (I 1))) 1,
 i 3 (mv x6) 3] false)))))⟩
def Y6:n6:=⟨5,20,[.tmp 7],
 .seq (.b6 [i 5 (.box 7 t0) 0,
 i 6 (.box 7 t1) 0,
 i 7 (.mv (.c (.pv (.bool false)))) 0] false)
 (.seq (.b6 [i 8 (.mv (.c (.emp 7))) 0] false)
 (.seq (.seq (.b6 [i 10 (.load false 1 t2) 0,
 i 11 (.load true 7 t3) 0,
 i 12 (.load true 7 t5) 0,
 i 13 (.load true 7 t6) 0,
 i 14 (.call (.f y3) [r9,x4,x6,B7]) 15,
 i 9 (mv D2) 31,
 i 15 (.extract t9 0) 63,
 i 16 (.extract t9 1) 63,
 i 8 (mv G0) 127,
 iz (.store 1 t4 G1) 511] false)
 (.seq (.b6 [i 17 (.load false 1 t4) 0,
 i 18 (.bin .neq E0 (.c (I 0))) 1] false)
 (.cond J6
 (.seq (.b6 [i 7 (.mv (.c (.pv (.bool false)))) 0] false)
 .ret)
 .skip)))
 (.seq (.b6 [i 19 (mv t8) 0,
 iz (.store 1 t2 L9) 1] false)
 (.seq (.b6 [i 7 (.mv (.c (.pv (.bool true)))) 0] false)
 .ret))))⟩
def a0I:n6:=⟨0,15,[.cell 0 true 78],
 .seq (.b6 [i 0 (.alloc z4) 0] false)
 (.seq (.b6 [i 1 (.build [.pv (.str []),I 0,I 0,I 0,I 0,I 0] [(0,1,.c (.pv (.str [110,117,108,108,116,121,112,101])))]) 0,
 i 2 (.build [.pv (.str []),I 0,I 0,I 0,I 0,I 0] [(0,1,.c (.pv (.str [109,97,114,107,116,121,112,101])))]) 0,
 i 3 (.build [.pv (.str []),I 0,I 0,I 0,I 0,I 0] [(0,1,.c (.pv (.str [98,111,111,108,101,97,110,116,121,112,101]))),(2,1,.c (I 1))]) 0,
 i 4 (.build [.pv (.str []),I 0,I 0,I 0,I 0,I 0] [(0,1,.c (.pv (.str [105,110,116,101,103,101,114,116,121,112,101]))),(1,1,.c (I (-2147483648))),(2,1,.c (I 2147483647))]) 0,
 i 5 (.build [.pv (.str []),I 0,I 0,I 0,I 0,I 0] [(0,1,.c (.pv (.str [114,101,97,108,116,121,112,101]))),(1,1,.c (I (-2147483648))),(2,1,.c (I 2147483648))]) 0,
 i 6 (.build [.pv (.str []),I 0,I 0,I 0,I 0,I 0] [(0,1,.c (.pv (.str [110,97,109,101,116,121,112,101]))),(4,1,.c (I 100))]) 0,
 i 7 (.build [.pv (.str []),I 0,I 0,I 0,I 0,I 0] [(0,1,.c (.pv (.str [115,116,114,105,110,103,116,121,112,101]))),(5,1,.c (I 1))]) 0,
 i 8 (.build [.pv (.str []),I 0,I 0,I 0,I 0,I 0] [(0,1,.c (.pv (.str [97,114,114,97,121,116,121,112,101]))),(5,1,.c (I 2))]) 0,
 i 9 (.build [.pv (.str []),I 0,I 0,I 0,I 0,I 0] [(0,1,.c (.pv (.str [112,97,99,107,101,100,97,114,114,97,121,116,121,112,101]))),(5,1,.c (I 2))]) 0,
 i 10 (.build [.pv (.str []),I 0,I 0,I 0,I 0,I 0] [(0,1,.c (.pv (.str [100,105,99,116,116,121,112,101]))),(5,1,.c (I 3))]) 0,
 i 11 (.build [.pv (.str []),I 0,I 0,I 0,I 0,I 0] [(0,1,.c (.pv (.str [111,112,101,114,97,116,111,114,116,121,112,101]))),(3,1,.c (I 1)),(4,1,.c (I 100))]) 0,
 i 12 (.build [.pv (.str []),I 0,I 0,I 0,I 0,I 0] [(0,1,.c (.pv (.str [102,105,108,101,116,121,112,101]))),(5,1,.c (I 3))]) 0,
 i 13 (.build [.pv (.str []),I 0,I 0,I 0,I 0,I 0] [(0,1,.c (.pv (.str [115,97,118,101,116,121,112,101]))),(1,1,.c (I 1)),(2,1,.c (I 9223372036854775807))]) 0,
 i 14 (.build z4 [(0,6,t1),(6,6,t2),(12,6,t3),(18,6,t4),(24,6,t5),(30,6,t6),(36,6,t7),(42,6,t8),(48,6,t9),(54,6,r9),(60,6,x4),(66,6,x6),(72,6,B7)]) 8191,
 iz (.store 78 t0 D2) 16383] false)
 .ret)⟩
def H2:n6:=⟨2,17,[.tmp 4],
 .seq (.b6 [i 2 (.box 6 t0) 0,
 i 3 (.box 7 t1) 0,
 i 4 (.mv (.c (.pv (.bool false)))) 0] false)
 (.seq (.b6 [i 5 (.b0 t3 2) 0,
 i 6 (.load false 1 t5) 1,
 i 7 (.b0 t2 1) 0,
 i 8 (.load false 1 t7) 4,
 i 9 (.bin .geq t6 t8) 15,
 i 10 (mv t9) 31,
 ig 11 (.b0 t3 2) 10 true 63,
 ig 12 (.load false 1 x4) 10 true 127,
 ig 13 (.b0 t2 2) 10 true 63,
 ig 14 (.load false 1 B7) 10 true 319,
 ig 15 (.bin .leq x6 D2) 10 true 1023,
 i 16 (.pick r9 G0 (.c (.pv (.bool false)))) 2047,
 i 4 (mv G1) 4095] false)
 .ret)⟩
def J8:n6:=⟨2,19,[.tmp 4],
 .seq (.b6 [i 2 (.box 6 t0) 0,
 i 3 (.box 7 t1) 0,
 i 4 (.mv (.c (.pv (.bool false)))) 0] false)
 (.seq (.b6 [i 5 (.b0 t3 3) 0,
 i 6 (.load false 1 t5) 1,
 i 7 (.a0m t6) 3,
 i 8 (.b0 t2 3) 0,
 i 9 (.load false 1 t8) 8,
 i 10 (.bin .geq t7 t9) 31,
 i 11 (mv r9) 63,
 ig 12 (.b0 t3 3) 11 true 127,
 ig 13 (.load false 1 x6) 11 true 255,
 ig 14 (.a0m B7) 11 true 511,
 ig 15 (.b0 t2 4) 11 true 127,
 ig 16 (.load false 1 G0) 11 true 1151,
 ig 17 (.bin .leq D2 G1) 11 true 4095,
 i 18 (.pick x4 E0 (.c (.pv (.bool false)))) 8191,
 i 4 (mv J6) 16383] false)
 .ret)⟩
def C4:n6:=⟨2,57,[.tmp 4],
 .seq (.b6 [i 2 (.box 6 t0) 0,
 i 3 (.box 7 t1) 0,
 i 4 (.mv (.c (.pv (.bool false)))) 0] false)
 (.seq (.seq (.b6 [i 6 (.b0 t2 5) 0,
 i 7 (.load false 1 t6) 1,
 i 8 (.bin .eql t7 (.c (I 0))) 3] false)
 (.cond t8
 (.seq (.b6 [i 9 (.b0 t3 4) 0,
 i 10 (.load false 1 t9) 1,
 i 11 (.bin .eql r9 (.c (I 0))) 3,
 i 12 (mv x4) 7,
 ig 13 (.b0 t3 5) 12 true 15,
 ig 14 (.load false 1 B7) 12 true 31,
 ig 15 (.bin .eql D2 (.c (I 0))) 12 true 63,
 i 16 (.pick x6 G0 (.c (.pv (.bool false)))) 127,
 i 17 (mv G1) 255,
 ig 18 (.b0 t3 6) 17 true 511,
 ig 19 (.load false 1 J6) 17 true 1023,
 ig 20 (.bin .eql L9 (.c (I 0))) 17 true 2047,
 i 21 (.pick E0 K5 (.c (.pv (.bool false)))) 4095,
 i 4 (mv J5) 8191] false)
 .ret)
 .skip))
 (.seq (.b6 [i 22 (.load true 6 t2) 0,
 i 23 (.call (.f x1) [P8]) 1,
 i 5 (mv T9) 3] false)
 (.seq (.b6 [i 24 (.b0 t3 4) 0,
 i 25 (.load false 1 Y5) 1,
 i 26 (.bin .geq X3 (.c (I 0))) 3,
 i 27 (mv t26) 7,
 ig 28 (.b0 t3 4) 27 true 15,
 ig 29 (.load false 1 t28) 27 true 31,
 ig 30 (.bin .leq t29 (.c (I 20000))) 27 true 63,
 i 31 (.pick t27 t30 (.c (.pv (.bool false)))) 127,
 i 32 (mv t31) 255,
 ig 33 (.b0 t3 5) 32 true 511,
 ig 34 (.load false 1 t33) 32 true 1023,
 ig 35 (.bin .geq t34 (.c (I 0))) 32 true 2047,
 i 36 (.pick t32 t35 (.c (.pv (.bool false)))) 4095,
 i 37 (mv t36) 8191,
 ig 38 (.b0 t3 6) 37 true 16383,
 ig 39 (.load false 1 t38) 37 true 32767,
 ig 40 (.bin .geq t39 (.c (I 0))) 37 true 65535,
 i 41 (.pick t37 t40 (.c (.pv (.bool false)))) 131071,
 i 42 (mv t41) 262143,
 ig 43 (.b0 t3 5) 42 true 524287,
 ig 44 (.load false 1 t43) 42 true 1048575,
 ig 45 (mv t5) 42 true 524287,
 ig 46 (.bin .leq t44 t45) 42 true 4194303,
 i 47 (.pick t42 t46 (.c (.pv (.bool false)))) 8388607,
 i 48 (mv t47) 16777215,
 ig 49 (.b0 t3 6) 48 true 33554431,
 ig 50 (.load false 1 t49) 48 true 67108863,
 ig 51 (mv t5) 48 true 33554431,
 ig 52 (.b0 t3 5) 48 true 33554431,
 ig 53 (.load false 1 t52) 48 true 301989887,
 ig 54 (.bin .sub t51 t53) 48 true 973078527,
 ig 55 (.bin .leq t50 t54) 48 true 2147483647,
 i 56 (.pick t48 t55 (.c (.pv (.bool false)))) 4294967295,
 i 4 (mv t56) 8589934591] false)
 .ret)))⟩
def a0H:n6:=⟨1,16,[.tmp 2,.tmp 3],
 .seq (.b6 [i 1 (.box 7 t0) 0,
 i 2 (.mv (.c (I 0))) 0,
 i 3 (.mv (.c (I 0))) 2] false)
 (.seq (.b6 [i 7 (.load true 7 t1) 0,
 i 8 (.call (.f y4) [t7]) 1,
 i 6 (mv t8) 3,
 i 9 (.extract t6 0) 7,
 i 10 (.extract t6 1) 7,
 i 4 (.alloc z0) 0,
 iz (.store 7 t4 t9) 47,
 i 5 (mv r9) 127] false)
 (.seq (.seq (.b6 [i 11 (mv t5) 0,
 i 12 (.bin .neq x4 (.c (I 0))) 1] false)
 (.cond x6
 (.seq (.b6 [i 13 (mv t5) 0,
 i 2 (.mv (.c (I 0))) 0,
 i 3 (mv B7) 3] false)
 .ret)
 .skip))
 (.seq (.b6 [i 14 (.load true 7 t4) 0,
 i 15 (.call (.f r6) [D2]) 1,
 i 2 (mv G0) 3,
 i 3 (.mv (.c (I 0))) 7] false)
 .ret)))⟩
def a2E:n6:=⟨1,8,[.cell 2 true 7,.tmp 3],
 .seq (.b6 [i 2 (.alloc z0) 0,
 i 3 (.mv (.c (I 0))) 0] false)
 (.seq (.b6 [i 4 (mv t0) 0,
 i 5 (.call (.f C7) [t4,.f E9]) 1,
 i 6 (.extract t5 0) 3,
 i 7 (.extract t5 1) 3,
 iz (.store 7 t2 t6) 15,
 i 3 (mv t7) 31] false)
 .ret)⟩
def F6:n6:=⟨2,9,[.tmp 4],
 .seq (.b6 [i 4 (.mv (.c (.pv (.bool false)))) 0] false)
 (.seq (.b6 [i 5 (mv t0) 0,
 i 6 (mv t1) 0,
 i 7 (.call (.f A7) [t5,t6]) 3,
 i 8 (.bin .geq t7 (.c (I 0))) 7,
 i 4 (mv t8) 15] false)
 .ret)⟩
def F4:n6:=⟨1,7,[.tmp 2],
 .seq (.b6 [i 1 (.box 6 t0) 0,
 i 2 (.mv (.c (I 0))) 0] false)
 (.seq (.b6 [i 3 (.build [I 0,I 0,I 0,I 0] [(0,1,.c (I 0)),(1,1,.c (I 1000)),(2,1,.c (I 1000)),(3,1,.c (I 0))]) 0,
 i 4 (.b0 t1 5) 0,
 i 5 (.load false 1 t4) 2,
 i 6 (.index false 4 1 t3 t5) 7,
 i 2 (mv t6) 15] false)
 .ret)⟩
def R0:n6:=⟨1,22,[.cell 2 true 7,.tmp 3],
 .seq (.b6 [i 1 (.box 7 t0) 0,
 i 2 (.alloc z0) 0,
 i 3 (.mv (.c (I 0))) 0] false)
 (.seq (.seq (.b6 [i 5 (.load true 7 t1) 0,
 i 6 (.call (.f u1) [t5]) 1,
 i 4 (mv t6) 3] false)
 (.seq (.b6 [i 7 (mv t4) 0,
 i 8 (.bin .neq t7 (.c (I 0))) 1] false)
 (.cond t8
 (.seq (.b6 [i 9 (.build z0 []) 0,
 i 10 (mv t4) 0,
 iz (.store 7 t2 t9) 1,
 i 3 (mv r9) 7] false)
 .ret)
 .skip)))
 (.seq (.seq (.b6 [i 11 (.b0 t1 0) 0,
 i 12 (.load false 1 x4) 1,
 i 13 (.bin .neq x6 (.c (I 3))) 3,
 i 14 (mv B7) 7,
 ig 15 (.b0 t1 0) 14 true 15,
 ig 16 (.load false 1 G0) 14 true 31,
 ig 17 (.bin .neq G1 (.c (I 4))) 14 true 63,
 i 18 (.pick D2 E0 (.c (.pv (.bool false)))) 127] false)
 (.cond J6
 (.seq (.b6 [i 19 (.build z0 []) 0,
 iz (.store 7 t2 L9) 1,
 i 3 (.mv (.c (I 22))) 3] false)
 .ret)
 .skip))
 (.seq (.b6 [i 20 (.load true 7 t1) 0,
 i 21 (.build z0 [(0,7,K5)]) 1,
 iz (.store 7 t2 J5) 3,
 i 3 (.mv (.c (I 0))) 7] false)
 .ret)))⟩
def F5:n6:=⟨1,14,[.tmp 2],
 .seq (.b6 [i 1 (.box 7 t0) 0,
 i 2 (.mv (.c (I 0))) 0] false)
 (.seq (.seq (.b6 [i 3 (.b0 t1 0) 0,
 i 4 (.b0 t3 0) 1,
 i 5 (.load false 1 t4) 3,
 i 6 (.bin .eql t5 (.c (I 3))) 7] false)
 (.cond t6
 (.seq (.b6 [i 7 (.b0 t1 0) 0,
 i 8 (.b0 t7 2) 1,
 i 9 (.load false 1 t8) 3,
 i 10 (.bin .mul t9 (.c (I 65536))) 7,
 i 2 (mv r9) 15] false)
 .ret)
 .skip))
 (.seq (.b6 [i 11 (.b0 t1 0) 0,
 i 12 (.b0 x4 2) 1,
 i 13 (.load false 1 x6) 3,
 i 2 (mv B7) 7] false)
 .ret))⟩
def Q9:n6:=⟨2,15,[.cell 4 true 7,.tmp 5],
 .seq (.b6 [i 4 (.alloc z0) 0,
 i 5 (.mv (.c (I 0))) 0] false)
 (.seq (.b6 [i 7 (mv t1) 0,
 i 8 (mv t0) 0,
 i 9 (.call t7 [t8]) 3,
 i 6 (.alloc z0) 0,
 iz (.store 7 t6 t9) 15] false)
 (.seq (.seq (.b6 [i 10 (.load true 7 t6) 0,
 i 11 (.call (.f u1) [r9]) 1,
 i 12 (.bin .neq x4 (.c (I 0))) 3] false)
 (.cond x6
 (.seq (.b6 [i 13 (.build z0 []) 0,
 iz (.store 7 t4 B7) 1,
 i 5 (.mv (.c (I 2))) 3] false)
 .ret)
 .skip))
 (.seq (.b6 [i 14 (.load true 7 t6) 0,
 iz (.store 7 t4 D2) 1,
 i 5 (.mv (.c (I 0))) 3] false)
 .ret)))⟩
def a0F:n6:=⟨1,5,[.cell 2 true 7],
 .seq (.b6 [i 2 (.alloc z0) 0] false)
 (.seq (.b6 [i 3 (mv t0) 0,
 i 4 (.build z0 [(0,1,.c (I 3)),(2,1,t3)]) 1,
 iz (.store 7 t2 t4) 3] false)
 .ret)⟩
def M8:n6:=⟨2,19,[.tmp 4],
 .seq (.b6 [i 4 (.mv (.c (I 0))) 0] false)
 (.seq (.seq (.b6 [i 6 (mv t0) 0,
 i 7 (.l8 t6) 1,
 i 8 (.mv (.c (I 0))) 0] false)
 (.block 0
 (.loop [0,1,7,8]
 (.seq (.b6 [i 9 (.bin .lss t8 t7) 0] false)
 (.seq (.cond t9
 .skip
 (.exit 0))
 (.seq (.block 1
 (.seq (.b6 [i 10 (mv t8) 0,
 i 5 (mv r9) 1] false)
 (.seq (.b6 [i 11 (mv t1) 0,
 i 12 (mv t0) 0,
 i 13 (mv t5) 0,
 i 14 (.i6 1 x6 B7) 6,
 i 15 (.load false 1 D2) 14,
 i 16 (.bin .eql x4 G0) 31] false)
 (.cond G1
 (.seq (.b6 [i 17 (mv t5) 0,
 i 4 (mv E0) 1] false)
 .ret)
 .skip))))
 (.b6 [i 18 (.bin .add t8 (.c (I 1))) 0,
 i 8 (mv J6) 1] false)))))))
 (.seq (.b6 [i 4 (.mv (.c (I (-1)))) 0] false)
 .ret))⟩
end Go.Ab.Td
namespace Go.Ab.Td
open Go.Ab
def c7W:TF:=(.node (.node (.node (.node (.node .nil (.node (.leaf F0 M5) (.leaf H6 a8G))) (.node (.node (.leaf n_law16_DictDefines c_law16_DictDefines) (.leaf O9 a2m)) .nil)) (.node (.node (.leaf u4 M7) (.leaf w8 R1)) (.node (.node (.leaf y8 W4) (.leaf X8 a4k)) .nil))) (.node (.node (.node (.leaf O0 a5m) (.leaf P5 a4n)) (.node (.leaf V3 a2D) (.leaf m6 M6))) (.node (.node (.leaf J3 a1K) (.leaf J2 a4j)) (.node (.node (.leaf j1 a4M) (.leaf F1 a0a)) .nil)))) (.node (.node (.node (.node .nil (.node (.leaf u3 E7) (.leaf B6 I7))) (.node (.node (.leaf n_law16_DictUndoes c_law16_DictUndoes) (.leaf a3t a7R)) (.leaf u0 b1D))) (.node (.node (.leaf O1 a2G) (.leaf n_heap_Check c_heap_Check)) (.node (.leaf a7c a9P) (.leaf C5 a9L)))) (.node (.node (.leaf L4 a9N) (.node (.node (.leaf X9 a4m) (.leaf a1Q a4l)) (.leaf J1 a4i))) (.node (.node (.leaf V2 a9O) (.leaf I8 a4e)) (.node (.node (.leaf p9 a5p) (.leaf H7 a5q)) .nil)))))
def c7X:TF:=(.node (.node (.node (.node (.leaf U7 a1o) (.node (.leaf r7 a5o) (.leaf y0 D7))) (.node (.node (.leaf n_heap_store_bare c_heap_store_bare) (.node (.leaf N7 Z6) (.leaf A2 G2))) (.node (.leaf k7 a0z) (.leaf U9 a1q)))) (.node (.node (.node (.leaf J4 a1M) (.node (.leaf C6 a0A) (.leaf O8 Y9))) (.node (.leaf J0 a4h) (.leaf K3 W2))) (.node (.node (.leaf n_heap_store_keyed c_heap_store_keyed) (.node (.leaf s9 Z9) (.leaf A4 G4))) (.leaf R4 a0x)))) (.node (.node (.node (.node (.leaf q9 U4) (.leaf U6 a1n)) (.node (.leaf V1 a9M) (.leaf D8 M4))) (.node (.node (.leaf n_heap_store_limited c_heap_store_limited) (.node (.leaf N8 Z8) (.leaf A3 G3))) .nil)) (.node (.node (.node (.leaf a2R a5n) (.node (.leaf s8 Z7) (.leaf H8 R2))) (.node (.leaf X7 a4g) (.leaf U8 a1p))) (.node (.node (.leaf x3 a0D) (.node (.leaf B4 I5) (.leaf A5 G5))) (.leaf N6 Z5)))))
def c7Y:TF:=(.node (.node (.node (.node (.node (.leaf g8 a0y) (.leaf M3 a3M)) (.node (.node (.leaf F7 Q0) (.leaf V5 a2F)) .nil)) (.node (.node (.leaf y5 a2J) (.leaf P3 a1H)) (.node (.leaf y2 X5) (.leaf C2 S5)))) (.node (.node (.node (.leaf o8 S4) (.leaf y3 a2C)) (.node (.leaf P4 a1L) (.leaf n_heap_objects c_heap_objects))) (.node (.leaf C1 R9) (.node (.leaf s0 K9) (.node (.leaf R5 a0B) (.leaf e6 Q1)))))) (.node (.node (.node (.node (.leaf m8 W3) (.leaf V6 a1r)) (.node (.leaf V0 a2B) (.leaf a2e a6m))) (.node (.leaf a3r a7P) (.node (.leaf o9 B9) (.node (.leaf K2 W1) (.leaf E1 a3J))))) (.node (.node (.node (.leaf N9 a5l) (.leaf o5 K8)) (.node (.leaf E4 U3) (.leaf n_slices_Contains_Obj c_slices_Contains_Obj))) (.node (.node (.node (.leaf B5 I6) (.leaf E2 a3K)) .nil) (.node (.leaf C8 w7) (.node (.leaf R6 a0C) (.leaf a3s a7Q)))))))
def c7Z:TF:=(.node (.node (.node (.node (.node .nil (.node (.leaf u1 a0E) (.leaf E9 a0F))) (.node (.leaf L6 a0H) (.leaf n5 a0J))) (.node (.node (.leaf L7 a0I) (.leaf y1 a1J)) (.node (.leaf x1 F4) (.leaf y7 J7)))) (.node (.node (.node (.leaf l9 p7) (.leaf I9 a1I)) (.node (.leaf x2 F6) (.leaf C9 a0K))) (.node (.node (.leaf v7 J8) (.leaf x7 H3)) (.node (.leaf r6 F5) (.leaf H9 a2I))))) (.node (.node (.node (.node (.leaf L3 K7) (.node (.leaf G7 Y7) (.leaf A7 M8))) (.node (.node (.leaf X6 a4f) (.leaf V4 a2E)) (.leaf x5 a2H))) (.node (.node (.leaf u2 H2) (.leaf u7 U1)) (.node (.leaf y4 R0) (.leaf u9 U2)))) (.node (.node (.node (.leaf O7 Y6) (.leaf L5 a0G)) (.leaf O2 a0b)) (.node (.node (.leaf o4 C4) (.leaf D4 Y8)) (.node (.leaf C7 Q9) (.leaf y9 J9))))))
structure Laid (P:Program):Prop where
 mixed:P.follows .mixedOrders=true
 t0:c7W.all (d8 P)=true
 t1:c7X.all (d8 P)=true
 t2:c7Y.all (d8 P)=true
 t3:c7Z.all (d8 P)=true
variable {P:Program} (C:Laid P)
include C
theorem k_law16_DictDefines:d8 P n_law16_DictDefines c_law16_DictDefines=true:=TF.d6 C.t0 _ _ rfl
theorem k_law16_DictUndoes:d8 P n_law16_DictUndoes c_law16_DictUndoes=true:=TF.d6 C.t0 _ _ rfl
theorem b2X:d8 P X9 a4m=true:=TF.d6 C.t0 _ _ rfl
theorem a7p:d8 P y8 W4=true:=TF.d6 C.t0 _ _ rfl
theorem b0g:d8 P j1 a4M=true:=TF.d6 C.t0 _ _ rfl
theorem b4x:d8 P p9 a5p=true:=TF.d6 C.t0 _ _ rfl
theorem a3p:d8 P F0 M5=true:=TF.d6 C.t0 _ _ rfl
theorem a0f:d8 P u3 E7=true:=TF.d6 C.t0 _ _ rfl
theorem b2Z:d8 P P5 a4n=true:=TF.d6 C.t0 _ _ rfl
theorem a0T:d8 P w8 R1=true:=TF.d6 C.t0 _ _ rfl
theorem k_heap_Check:d8 P n_heap_Check c_heap_Check=true:=TF.d6 C.t0 _ _ rfl
theorem b2U:d8 P J2 a4j=true:=TF.d6 C.t0 _ _ rfl
theorem a4q:d8 P I8 a4e=true:=TF.d6 C.t0 _ _ rfl
theorem b6F:d8 P u0 b1D=true:=TF.d6 C.t0 _ _ rfl
theorem a0g:d8 P m6 M6=true:=TF.d6 C.t0 _ _ rfl
theorem a7C:d8 P J1 a4i=true:=TF.d6 C.t0 _ _ rfl
theorem a6Z:d8 P C5 a9L=true:=TF.d6 C.t0 _ _ rfl
theorem a8a:d8 P O0 a5m=true:=TF.d6 C.t0 _ _ rfl
theorem b8F:d8 P L4 a9N=true:=TF.d6 C.t0 _ _ rfl
theorem a0h:d8 P u4 M7=true:=TF.d6 C.t0 _ _ rfl
theorem a5E:d8 P O1 a2G=true:=TF.d6 C.t0 _ _ rfl
theorem a7D:d8 P J3 a1K=true:=TF.d6 C.t0 _ _ rfl
theorem b8G:d8 P V2 a9O=true:=TF.d6 C.t0 _ _ rfl
theorem b0W:d8 P O9 a2m=true:=TF.d6 C.t0 _ _ rfl
theorem b6G:d8 P a3t a7R=true:=TF.d6 C.t0 _ _ rfl
theorem a9i:d8 P V3 a2D=true:=TF.d6 C.t0 _ _ rfl
theorem b2W:d8 P a1Q a4l=true:=TF.d6 C.t0 _ _ rfl
theorem b2V:d8 P X8 a4k=true:=TF.d6 C.t0 _ _ rfl
theorem b8H:d8 P a7c a9P=true:=TF.d6 C.t0 _ _ rfl
theorem a8c:d8 P F1 a0a=true:=TF.d6 C.t0 _ _ rfl
theorem a9k:d8 P H7 a5q=true:=TF.d6 C.t0 _ _ rfl
theorem b4z:d8 P H6 a8G=true:=TF.d6 C.t0 _ _ rfl
theorem a4x:d8 P B6 I7=true:=TF.d6 C.t0 _ _ rfl
theorem a5W:d8 P O8 Y9=true:=TF.d6 C.t1 _ _ rfl
theorem a3S:d8 P H8 R2=true:=TF.d6 C.t1 _ _ rfl
theorem a3C:d8 P A2 G2=true:=TF.d6 C.t1 _ _ rfl
theorem a3D:d8 P A3 G3=true:=TF.d6 C.t1 _ _ rfl
theorem a3E:d8 P A4 G4=true:=TF.d6 C.t1 _ _ rfl
theorem a3F:d8 P A5 G5=true:=TF.d6 C.t1 _ _ rfl
theorem a1B:d8 P q9 U4=true:=TF.d6 C.t1 _ _ rfl
theorem a4w:d8 P J4 a1M=true:=TF.d6 C.t1 _ _ rfl
theorem b4v:d8 P a2R a5n=true:=TF.d6 C.t1 _ _ rfl
theorem k_heap_store_bare:d8 P n_heap_store_bare c_heap_store_bare=true:=TF.d6 C.t1 _ _ rfl
theorem k_heap_store_limited:d8 P n_heap_store_limited c_heap_store_limited=true:=TF.d6 C.t1 _ _ rfl
theorem k_heap_store_keyed:d8 P n_heap_store_keyed c_heap_store_keyed=true:=TF.d6 C.t1 _ _ rfl
theorem a6B:d8 P x3 a0D=true:=TF.d6 C.t1 _ _ rfl
theorem b4w:d8 P r7 a5o=true:=TF.d6 C.t1 _ _ rfl
theorem b8E:d8 P V1 a9M=true:=TF.d6 C.t1 _ _ rfl
theorem b2T:d8 P J0 a4h=true:=TF.d6 C.t1 _ _ rfl
theorem b2S:d8 P X7 a4g=true:=TF.d6 C.t1 _ _ rfl
theorem a0Q:d8 P k7 a0z=true:=TF.d6 C.t1 _ _ rfl
theorem a9d:d8 P R4 a0x=true:=TF.d6 C.t1 _ _ rfl
theorem a7X:d8 P N6 Z5=true:=TF.d6 C.t1 _ _ rfl
theorem b0c:d8 P U7 a1o=true:=TF.d6 C.t1 _ _ rfl
theorem b0b:d8 P U6 a1n=true:=TF.d6 C.t1 _ _ rfl
theorem a3R:d8 P C6 a0A=true:=TF.d6 C.t1 _ _ rfl
theorem N3:d8 P s8 Z7=true:=TF.d6 C.t1 _ _ rfl
theorem a7Y:d8 P N7 Z6=true:=TF.d6 C.t1 _ _ rfl
theorem a7Z:d8 P N8 Z8=true:=TF.d6 C.t1 _ _ rfl
theorem N4:d8 P s9 Z9=true:=TF.d6 C.t1 _ _ rfl
theorem a4r:d8 P B4 I5=true:=TF.d6 C.t1 _ _ rfl
theorem a2O:d8 P y0 D7=true:=TF.d6 C.t1 _ _ rfl
theorem a5A:d8 P D8 M4=true:=TF.d6 C.t1 _ _ rfl
theorem a7o:d8 P K3 W2=true:=TF.d6 C.t1 _ _ rfl
theorem b0d:d8 P U8 a1p=true:=TF.d6 C.t1 _ _ rfl
theorem b0e:d8 P U9 a1q=true:=TF.d6 C.t1 _ _ rfl
theorem a7n:d8 P K2 W1=true:=TF.d6 C.t2 _ _ rfl
theorem a9e:d8 P R5 a0B=true:=TF.d6 C.t2 _ _ rfl
theorem a9f:d8 P R6 a0C=true:=TF.d6 C.t2 _ _ rfl
theorem a6A:d8 P E2 a3K=true:=TF.d6 C.t2 _ _ rfl
theorem a5D:d8 P V5 a2F=true:=TF.d6 C.t2 _ _ rfl
theorem a5B:d8 P V0 a2B=true:=TF.d6 C.t2 _ _ rfl
theorem a4u:d8 P P4 a1L=true:=TF.d6 C.t2 _ _ rfl
theorem a1A:d8 P E4 U3=true:=TF.d6 C.t2 _ _ rfl
theorem a4v:d8 P y2 X5=true:=TF.d6 C.t2 _ _ rfl
theorem a2d:d8 P o9 B9=true:=TF.d6 C.t2 _ _ rfl
theorem a4V:d8 P s0 K9=true:=TF.d6 C.t2 _ _ rfl
theorem a9j:d8 P C8 w7=true:=TF.d6 C.t2 _ _ rfl
theorem a6D:d8 P M3 a3M=true:=TF.d6 C.t2 _ _ rfl
theorem b0h:d8 P V6 a1r=true:=TF.d6 C.t2 _ _ rfl
theorem a2P:d8 P y3 a2C=true:=TF.d6 C.t2 _ _ rfl
theorem a4U:d8 P o5 K8=true:=TF.d6 C.t2 _ _ rfl
theorem a7B:d8 P P3 a1H=true:=TF.d6 C.t2 _ _ rfl
theorem b5s:d8 P a2e a6m=true:=TF.d6 C.t2 _ _ rfl
theorem k_heap_objects:d8 P n_heap_objects c_heap_objects=true:=TF.d6 C.t2 _ _ rfl
theorem k_slices_Contains_Obj:d8 P n_slices_Contains_Obj c_slices_Contains_Obj=true:=TF.d6 C.t2 _ _ rfl
theorem a2c:d8 P C2 S5=true:=TF.d6 C.t2 _ _ rfl
theorem a6z:d8 P E1 a3J=true:=TF.d6 C.t2 _ _ rfl
theorem Q3:d8 P e6 Q1=true:=TF.d6 C.t2 _ _ rfl
theorem b6E:d8 P a3s a7Q=true:=TF.d6 C.t2 _ _ rfl
theorem a3Q:d8 P g8 a0y=true:=TF.d6 C.t2 _ _ rfl
theorem W6:d8 P m8 W3=true:=TF.d6 C.t2 _ _ rfl
theorem a2b:d8 P o8 S4=true:=TF.d6 C.t2 _ _ rfl
theorem a9g:d8 P N9 a5l=true:=TF.d6 C.t2 _ _ rfl
theorem a5H:d8 P y5 a2J=true:=TF.d6 C.t2 _ _ rfl
theorem b6D:d8 P a3r a7P=true:=TF.d6 C.t2 _ _ rfl
theorem a6y:d8 P C1 R9=true:=TF.d6 C.t2 _ _ rfl
theorem a4s:d8 P B5 I6=true:=TF.d6 C.t2 _ _ rfl
theorem a6d:d8 P F7 Q0=true:=TF.d6 C.t2 _ _ rfl
theorem b2R:d8 P X6 a4f=true:=TF.d6 C.t3 _ _ rfl
theorem a3k:d8 P u1 a0E=true:=TF.d6 C.t3 _ _ rfl
theorem a2o:d8 P G7 Y7=true:=TF.d6 C.t3 _ _ rfl
theorem a4t:d8 P I9 a1I=true:=TF.d6 C.t3 _ _ rfl
theorem a3m:d8 P L5 a0G=true:=TF.d6 C.t3 _ _ rfl
theorem a1P:d8 P y1 a1J=true:=TF.d6 C.t3 _ _ rfl
theorem a1y:d8 P u7 U1=true:=TF.d6 C.t3 _ _ rfl
theorem T3:d8 P x7 H3=true:=TF.d6 C.t3 _ _ rfl
theorem a2p:d8 P D4 Y8=true:=TF.d6 C.t3 _ _ rfl
theorem a2Q:d8 P n5 a0J=true:=TF.d6 C.t3 _ _ rfl
theorem a5F:d8 P x5 a2H=true:=TF.d6 C.t3 _ _ rfl
theorem a9l:d8 P C9 a0K=true:=TF.d6 C.t3 _ _ rfl
theorem a8d:d8 P O2 a0b=true:=TF.d6 C.t3 _ _ rfl
theorem W7:d8 P y7 J7=true:=TF.d6 C.t3 _ _ rfl
theorem a1z:d8 P u9 U2=true:=TF.d6 C.t3 _ _ rfl
theorem a5G:d8 P H9 a2I=true:=TF.d6 C.t3 _ _ rfl
theorem a2x:d8 P y9 J9=true:=TF.d6 C.t3 _ _ rfl
theorem b0f:d8 P L3 K7=true:=TF.d6 C.t3 _ _ rfl
theorem N2:d8 P l9 p7=true:=TF.d6 C.t3 _ _ rfl
theorem a5V:d8 P O7 Y6=true:=TF.d6 C.t3 _ _ rfl
theorem a3o:d8 P L7 a0I=true:=TF.d6 C.t3 _ _ rfl
theorem T1:d8 P u2 H2=true:=TF.d6 C.t3 _ _ rfl
theorem W8:d8 P v7 J8=true:=TF.d6 C.t3 _ _ rfl
theorem L1:d8 P o4 C4=true:=TF.d6 C.t3 _ _ rfl
theorem a3n:d8 P L6 a0H=true:=TF.d6 C.t3 _ _ rfl
theorem a5C:d8 P V4 a2E=true:=TF.d6 C.t3 _ _ rfl
theorem Q6:d8 P x2 F6=true:=TF.d6 C.t3 _ _ rfl
theorem Q4:d8 P x1 F4=true:=TF.d6 C.t3 _ _ rfl
theorem a0S:d8 P y4 R0=true:=TF.d6 C.t3 _ _ rfl
theorem Q5:d8 P r6 F5=true:=TF.d6 C.t3 _ _ rfl
theorem a0R:d8 P C7 Q9=true:=TF.d6 C.t3 _ _ rfl
theorem a3l:d8 P E9 a0F=true:=TF.d6 C.t3 _ _ rfl
theorem a0i:d8 P A7 M8=true:=TF.d6 C.t3 _ _ rfl
end Go.Ab.Td
