import Derived.Test.YtoojnpjgnnpllaaProg
import Derived.Test.YtoojnpjgnnpllaaEv8
import Derived.KernelRfl
namespace Go.Ev.Gl
set_option maxRecDepth 100000
noncomputable def a4 : eJ :=
⟨389,[(.t 12)],(.seq (.reg [⟨(some 10),(.a (.box 40 (.t 4))),none,0⟩,
oq 12 (.mv (.c (.bool false)))])
(.seq (.seq (.reg [oc 42 14 [] 0,
oq 43 (.un .not (.t 42))])
(.cond (.t 43) (.seq (.reg [oq 12 (.mv (.c (.bool false)))])
.ret) .skip))
(.seq (.seq (.reg [mt 44 0,
oq 45 (.lenSl (.t 44)),
oq 46 (bi .gtr (.t 45) (ci 80)),
mt 47 46,
og 48 47 false 0 (.mv (.t 5)),
og 49 47 false 0 (.lenSl (.t 48)),
og 50 47 false 0 (bi .gtr (.t 49) (ci 20)),
oq 51 (.pick (.t 47) (.c (.bool true)) (.t 50))])
(.cond (.t 51) (.seq (.reg [oq 12 (.mv (.c (.bool true)))])
.ret) .skip))
(.seq (.reg [mt 53 0,
mt 54 1,
mt 55 2,
mt 56 3,
oc 57 15 [(.t 53),(.t 54),(.t 55),(.t 56)] 0,
mt 52 57,
oq 58 (.extract (.t 52) 0),
oq 59 (.extract (.t 52) 1),
oq 60 (.extract (.t 52) 2),
⟨(some 13),(.a (.alloc 28 [(.int .i64 (.ofNat 0)),.nilsl,.nilsl])),none,0⟩,
⟨none,(.x (.st 3 (.t 13) (.t 58))),none,0⟩,
mt 14 59,
mt 15 60])
(.seq (.seq (.reg [mt 61 15,
oq 62 (.un .not (.t 61))])
(.cond (.t 62) (.seq (.reg [oq 12 (.mv (.c (.bool false)))])
.ret) .skip))
(.seq (.drw [mt 63 14,
oq 64 (.iaddr (.arr 2 1) (.t 10) (ci 0)),
om 65 2 (ld 64),
mt 66 14,
om 67 8 (.lenSl (.t 66)),
oc 68 16 [(.t 65),(.t 67)] 30,
om 69 63 (.iaddr (.slice 1) (.t 63) (.t 68)),
om 70 127 (ld 69),
mt 71 14,
oq 72 (.iaddr (.arr 2 1) (.t 10) (ci 1)),
om 73 512 (ld 72),
mt 74 14,
om 75 2048 (.lenSl (.t 74)),
oc 76 16 [(.t 73),(.t 75)] 7742,
om 77 16190 (.iaddr (.slice 1) (.t 71) (.t 76)),
om 78 32574 (ld 77),
om 16 16127 (.mv (.t 70)),
om 17 131071 (.mv (.t 78))])
(.seq (.reg [oq 80 (.ld true 3 (.t 13)),
mt 81 16,
mt 82 17,
oc 83 17 [(.t 80),(.t 81),(.t 82)] 0,
mt 79 83,
oq 84 (.extract (.t 79) 0),
oq 85 (.extract (.t 79) 1),
mt 18 84,
mt 19 85])
(.seq (.reg [oq 87 (.ld true 3 (.t 13)),
mt 88 16,
oc 89 21 [(.t 87),(.t 88)] 0,
mt 86 89,
oq 90 (.extract (.t 86) 0),
oq 91 (.extract (.t 86) 1),
mt 20 90,
mt 21 91])
(.seq (.reg [oq 93 (.ld true 3 (.t 13)),
mt 94 17,
oc 95 21 [(.t 93),(.t 94)] 0,
mt 92 95,
oq 96 (.extract (.t 92) 0),
oq 97 (.extract (.t 92) 1),
mt 22 96,
mt 23 97])
(.seq (.reg [oq 99 (.ld true 3 (.t 13)),
mt 100 18,
oc 101 21 [(.t 99),(.t 100)] 0,
mt 98 101,
oq 102 (.extract (.t 98) 0),
oq 103 (.extract (.t 98) 1),
mt 24 102,
mt 25 103])
(.seq (.reg [oq 105 (.ld true 3 (.t 13)),
mt 106 16,
oc 107 22 [(.t 105),(.t 106)] 0,
mt 104 107,
oq 108 (.extract (.t 104) 0),
oq 109 (.extract (.t 104) 1),
mt 26 108,
mt 27 109])
(.seq (.reg [oq 111 (.ld true 3 (.t 13)),
mt 112 17,
oc 113 22 [(.t 111),(.t 112)] 0,
mt 110 113,
oq 114 (.extract (.t 110) 0),
oq 115 (.extract (.t 110) 1),
mt 28 114,
mt 29 115])
(.seq (.reg [oq 117 (.ld true 3 (.t 13)),
mt 118 18,
oc 119 22 [(.t 117),(.t 118)] 0,
mt 116 119,
oq 120 (.extract (.t 116) 0),
oq 121 (.extract (.t 116) 1),
mt 30 120,
mt 31 121])
(.seq (.reg [oq 122 (.faddr 2 (.t 13)),
oq 123 (ld 122),
oq 124 (.lenSl (.t 123)),
mt 32 124])
(.seq (.seq (.reg [mt 125 19,
oq 126 (bi .neq (.t 125) (ci 0)),
mt 127 126,
og 128 127 false 0 (.mv (.t 21)),
og 129 127 false 0 (bi .neq (.t 128) (ci 0)),
oq 130 (.pick (.t 127) (.c (.bool true)) (.t 129)),
mt 131 130,
og 132 131 false 0 (.mv (.t 23)),
og 133 131 false 0 (bi .neq (.t 132) (ci 0)),
oq 134 (.pick (.t 131) (.c (.bool true)) (.t 133)),
mt 135 134,
og 136 135 false 0 (.mv (.t 25)),
og 137 135 false 0 (bi .neq (.t 136) (ci 0)),
oq 138 (.pick (.t 135) (.c (.bool true)) (.t 137)),
mt 139 138,
og 140 139 false 0 (.mv (.t 27)),
og 141 139 false 0 (bi .neq (.t 140) (ci 0)),
oq 142 (.pick (.t 139) (.c (.bool true)) (.t 141)),
mt 143 142,
og 144 143 false 0 (.mv (.t 29)),
og 145 143 false 0 (bi .neq (.t 144) (ci 0)),
oq 146 (.pick (.t 143) (.c (.bool true)) (.t 145)),
mt 147 146,
og 148 147 false 0 (.mv (.t 31)),
og 149 147 false 0 (bi .neq (.t 148) (ci 0)),
oq 150 (.pick (.t 147) (.c (.bool true)) (.t 149)),
mt 151 150,
og 152 151 false 0 (.mv (.t 20)),
og 153 151 false 0 (.lenSl (.t 152)),
og 154 151 false 0 (.mv (.t 32)),
og 155 151 false 0 (bi .neq (.t 153) (.t 154)),
oq 156 (.pick (.t 151) (.c (.bool true)) (.t 155)),
mt 157 156,
og 158 157 false 0 (.mv (.t 22)),
og 159 157 false 0 (.lenSl (.t 158)),
og 160 157 false 0 (.mv (.t 32)),
og 161 157 false 0 (bi .neq (.t 159) (.t 160)),
oq 162 (.pick (.t 157) (.c (.bool true)) (.t 161)),
mt 163 162,
og 164 163 false 0 (.mv (.t 24)),
og 165 163 false 0 (.lenSl (.t 164)),
og 166 163 false 0 (.mv (.t 32)),
og 167 163 false 0 (bi .neq (.t 165) (.t 166)),
oq 168 (.pick (.t 163) (.c (.bool true)) (.t 167)),
mt 169 168,
og 170 169 false 0 (.mv (.t 26)),
og 171 169 false 0 (.lenSl (.t 170)),
og 172 169 false 0 (.mv (.t 32)),
og 173 169 false 0 (bi .neq (.t 171) (.t 172)),
oq 174 (.pick (.t 169) (.c (.bool true)) (.t 173)),
mt 175 174,
og 176 175 false 0 (.mv (.t 28)),
og 177 175 false 0 (.lenSl (.t 176)),
og 178 175 false 0 (.mv (.t 32)),
og 179 175 false 0 (bi .neq (.t 177) (.t 178)),
oq 180 (.pick (.t 175) (.c (.bool true)) (.t 179)),
mt 181 180,
og 182 181 false 0 (.mv (.t 30)),
og 183 181 false 0 (.lenSl (.t 182)),
og 184 181 false 0 (.mv (.t 32)),
og 185 181 false 0 (bi .neq (.t 183) (.t 184)),
oq 186 (.pick (.t 181) (.c (.bool true)) (.t 185))])
(.cond (.t 186) (.seq (.reg [oq 12 (.mv (.c (.bool false)))])
.ret) .skip))
(.seq (.reg [mt 187 5,
oq 188 (.build [.nilsl,(.int .i64 (.ofNat 0))] [(0,1,(.t 187))]),
⟨(some 189),(.a (.box 46 (.t 188))),none,0⟩,
oq 190 (.ld true 3 (.t 13)),
oc 191 23 [(.t 189),(.t 190)] 0,
mt 33 191])
(.seq (.reg [mt 192 32,
⟨(some 193),(.a (.mkSlice 3 1 8 [(.int .i64 (.ofNat 0))] (.t 192) (.t 192))),none,0⟩,
mt 34 193])
(.seq (.seq (.reg [oq 35 (.mv (ci 0))])
(.block 0 (.loop (.seq (.seq (.reg [mt 194 35,
mt 195 32,
oq 196 (bi .lss (.t 194) (.t 195))])
(.cond (.t 196) .skip (.exit 0)))
(.seq (.block 1 (.seq (.drw [mt 199 20,
mt 200 35,
om 201 3 (.iaddr (.slice 1) (.t 199) (.t 200)),
om 202 7 (ld 201),
om 203 15 (bi .lss (.t 202) (ci 0)),
om 204 31 (.mv (.t 203)),
og 205 204 false 63 (.mv (.t 20)),
og 206 204 false 63 (.mv (.t 35)),
og 207 204 false 255 (.iaddr (.slice 1) (.t 205) (.t 206)),
og 208 204 false 511 (ld 207),
og 209 204 false 63 (.mv (.t 32)),
og 210 204 false 2047 (bi .geq (.t 208) (.t 209)),
om 211 4095 (.pick (.t 204) (.c (.bool true)) (.t 210)),
om 212 8191 (.mv (.t 211)),
og 213 212 false 16383 (.mv (.t 22)),
og 214 212 false 16383 (.mv (.t 35)),
og 215 212 false 65535 (.iaddr (.slice 1) (.t 213) (.t 214)),
og 216 212 false 131071 (ld 215),
og 217 212 false 262143 (bi .lss (.t 216) (ci 0)),
om 218 524287 (.pick (.t 212) (.c (.bool true)) (.t 217)),
om 219 1048575 (.mv (.t 218)),
og 220 219 false 2097151 (.mv (.t 22)),
og 221 219 false 2097151 (.mv (.t 35)),
og 222 219 false 8388607 (.iaddr (.slice 1) (.t 220) (.t 221)),
og 223 219 false 16777215 (ld 222),
og 224 219 false 2097151 (.mv (.t 32)),
og 225 219 false 67108863 (bi .geq (.t 223) (.t 224)),
om 226 134217727 (.pick (.t 219) (.c (.bool true)) (.t 225)),
om 227 268435455 (.mv (.t 226)),
og 228 227 false 536870911 (.mv (.t 26)),
og 229 227 false 536870911 (.mv (.t 35)),
og 230 227 false 2147483647 (.iaddr (.slice 1) (.t 228) (.t 229)),
og 231 227 false 4294967295 (ld 230),
og 232 227 false 8589934591 (.lenSl (.t 231)),
og 233 227 false 536870911 (.faddr 2 (.t 13)),
og 234 227 false 17716740095 (ld 233),
og 235 227 false 536870911 (.mv (.t 35)),
og 236 227 false 120795955199 (.iaddr (.slice 2) (.t 234) (.t 235)),
og 237 227 false 258234908671 (.faddr 1 (.t 236)),
og 238 227 false 533112815615 (ld 237),
og 239 227 false 1099511627775 (bi .neq (.t 232) (.t 238)),
om 240 2199023255551 (.pick (.t 227) (.c (.bool true)) (.t 239)),
om 241 4398046511103 (.mv (.t 240)),
og 242 241 false 8796093022207 (.mv (.t 28)),
og 243 241 false 8796093022207 (.mv (.t 35)),
og 244 241 false 35184372088831 (.iaddr (.slice 1) (.t 242) (.t 243)),
og 245 241 false 70368744177663 (ld 244),
og 246 241 false 140737488355327 (.lenSl (.t 245)),
og 247 241 false 8796093022207 (.faddr 2 (.t 13)),
og 248 241 false 290271069732863 (ld 247),
og 249 241 false 8796093022207 (.mv (.t 35)),
og 250 241 false 1979120929996799 (.iaddr (.slice 2) (.t 248) (.t 249)),
og 251 241 false 4230920743682047 (.faddr 1 (.t 250)),
og 252 241 false 8734520371052543 (ld 251),
og 253 241 false 18014398509481983 (bi .neq (.t 246) (.t 252)),
om 254 36028797018963967 (.pick (.t 241) (.c (.bool true)) (.t 253)),
om 255 72057594037927935 (.mv (.t 254)),
og 256 255 false 144115188075855871 (.mv (.t 30)),
og 257 255 false 144115188075855871 (.mv (.t 35)),
og 258 255 false 576460752303423487 (.iaddr (.slice 1) (.t 256) (.t 257)),
og 259 255 false 1152921504606846975 (ld 258),
og 260 255 false 2305843009213693951 (.lenSl (.t 259)),
og 261 255 false 144115188075855871 (.faddr 2 (.t 13)),
og 262 255 false 4755801206503243775 (ld 261),
og 263 255 false 144115188075855871 (.mv (.t 35)),
og 264 255 false 32425917317067571199 (.iaddr (.slice 2) (.t 262) (.t 263)),
og 265 255 false 69319405464486674431 (.faddr 1 (.t 264)),
og 266 255 false 143106381759324880895 (ld 265),
og 267 255 false 295147905179352825855 (bi .neq (.t 260) (.t 266)),
om 268 590295810358705651711 (.pick (.t 255) (.c (.bool true)) (.t 267))])
(.cond (.t 268) (.seq (.reg [oq 12 (.mv (.c (.bool false)))])
.ret) .skip)))
(.reg [mt 197 35,
oq 198 (bi .add (.t 197) (ci 1)),
mt 35 198]))))))
(.seq (.seq (.reg [oq 36 (.mv (ci 0))])
(.block 2 (.loop (.seq (.seq (.reg [mt 269 36,
mt 270 32,
oq 271 (bi .lss (.t 269) (.t 270))])
(.cond (.t 271) .skip (.exit 2)))
(.seq (.block 3 (.seq (.seq (.drw [mt 274 24,
mt 275 36,
om 276 3 (.iaddr (.slice 1) (.t 274) (.t 275)),
om 277 7 (ld 276),
mt 278 22,
mt 279 20,
mt 280 36,
om 281 96 (.iaddr (.slice 1) (.t 279) (.t 280)),
om 282 224 (ld 281),
om 283 496 (.iaddr (.slice 1) (.t 278) (.t 282)),
om 284 1008 (ld 283),
om 285 2047 (bi .neq (.t 277) (.t 284))])
(.cond (.t 285) (.seq (.reg [oq 12 (.mv (.c (.bool false)))])
.ret) .skip))
(.seq (.seq (.reg [oq 37 (.mv (ci 0))])
(.block 4 (.loop (.seq (.seq (.reg [mt 286 37,
mt 287 26,
mt 288 36,
oq 289 (.iaddr (.slice 1) (.t 287) (.t 288)),
oq 290 (ld 289),
oq 291 (.lenSl (.t 290)),
oq 292 (bi .lss (.t 286) (.t 291))])
(.cond (.t 292) .skip (.exit 4)))
(.seq (.block 5 (.seq (.drw [mt 295 26,
mt 296 36,
om 297 3 (.iaddr (.slice 1) (.t 295) (.t 296)),
om 298 7 (ld 297),
mt 299 37,
om 300 31 (.iaddr (.slice 1) (.t 298) (.t 299)),
om 301 63 (ld 300),
om 302 127 (bi .lss (.t 301) (ci 0)),
om 303 255 (.mv (.t 302)),
og 304 303 false 511 (.mv (.t 26)),
og 305 303 false 511 (.mv (.t 36)),
og 306 303 false 2047 (.iaddr (.slice 1) (.t 304) (.t 305)),
og 307 303 false 4095 (ld 306),
og 308 303 false 511 (.mv (.t 37)),
og 309 303 false 16383 (.iaddr (.slice 1) (.t 307) (.t 308)),
og 310 303 false 32767 (ld 309),
og 311 303 false 511 (.mv (.t 28)),
og 312 303 false 511 (.mv (.t 20)),
og 313 303 false 511 (.mv (.t 36)),
og 314 303 false 393727 (.iaddr (.slice 1) (.t 312) (.t 313)),
og 315 303 false 918015 (ld 314),
og 316 303 false 2032127 (.iaddr (.slice 1) (.t 311) (.t 315)),
og 317 303 false 4129279 (ld 316),
og 318 303 false 8323583 (.lenSl (.t 317)),
og 319 303 false 16777215 (bi .geq (.t 310) (.t 318)),
om 320 33554431 (.pick (.t 303) (.c (.bool true)) (.t 319)),
om 321 67108863 (.mv (.t 320)),
og 322 321 false 134217727 (.mv (.t 30)),
og 323 321 false 134217727 (.mv (.t 36)),
og 324 321 false 536870911 (.iaddr (.slice 1) (.t 322) (.t 323)),
og 325 321 false 1073741823 (ld 324),
og 326 321 false 134217727 (.mv (.t 37)),
og 327 321 false 4294967295 (.iaddr (.slice 1) (.t 325) (.t 326)),
og 328 321 false 8589934591 (ld 327),
og 329 321 false 134217727 (.mv (.t 28)),
og 330 321 false 134217727 (.mv (.t 20)),
og 331 321 false 134217727 (.mv (.t 36)),
og 332 321 false 103213432831 (.iaddr (.slice 1) (.t 330) (.t 331)),
og 333 321 false 240652386303 (ld 332),
og 334 321 false 532710162431 (.iaddr (.slice 1) (.t 329) (.t 333)),
og 335 321 false 1082465976319 (ld 334),
og 336 321 false 134217727 (.mv (.t 26)),
og 337 321 false 134217727 (.mv (.t 36)),
og 338 321 false 6597203984383 (.iaddr (.slice 1) (.t 336) (.t 337)),
og 339 321 false 15393297006591 (ld 338),
og 340 321 false 134217727 (.mv (.t 37)),
og 341 321 false 68169855139839 (.iaddr (.slice 1) (.t 339) (.t 340)),
og 342 321 false 138538599317503 (ld 341),
og 343 321 false 281457931059199 (.iaddr (.slice 1) (.t 335) (.t 342)),
og 344 321 false 562932907769855 (ld 343),
og 345 321 false 1125899906842623 (bi .neq (.t 328) (.t 344)),
om 346 2251799813685247 (.pick (.t 321) (.c (.bool true)) (.t 345))])
(.cond (.t 346) (.seq (.reg [oq 12 (.mv (.c (.bool false)))])
.ret) .skip)))
(.reg [mt 293 37,
oq 294 (bi .add (.t 293) (ci 1)),
mt 37 294]))))))
(.drw [mt 347 34,
mt 348 20,
mt 349 36,
om 350 6 (.iaddr (.slice 1) (.t 348) (.t 349)),
om 351 14 (ld 350),
mt 352 26,
mt 353 36,
om 354 96 (.iaddr (.slice 1) (.t 352) (.t 353)),
om 355 224 (ld 354),
mt 356 33,
mt 357 36,
om 358 1536 (.iaddr (.slice 1) (.t 356) (.t 357)),
om 359 3584 (ld 358),
om 360 8160 (.iaddr (.slice 1) (.t 355) (.t 359)),
om 361 16352 (ld 360),
om 362 32767 (.iaddr (.slice 1) (.t 347) (.t 351)),
⟨none,(.x (.st 1 (.t 362) (.t 361))),none,65535⟩]))))
(.reg [mt 272 36,
oq 273 (bi .add (.t 272) (ci 1)),
mt 36 273]))))))
(.seq (.reg [oq 364 (.faddr 1 (.t 13)),
oq 365 (ld 364),
oq 366 (.faddr 0 (.t 13)),
oq 367 (ld 366),
mt 368 33,
oc 369 24 [(.t 365),(ci 0),(.t 367),(.t 368)] 0,
mt 363 369,
oq 370 (.extract (.t 363) 0),
oq 371 (.extract (.t 363) 1),
mt 38 370,
mt 39 371])
(.seq (.reg [oq 373 (.faddr 1 (.t 13)),
oq 374 (ld 373),
oq 375 (.faddr 0 (.t 13)),
oq 376 (ld 375),
mt 377 34,
oc 378 24 [(.t 374),(ci 0),(.t 376),(.t 377)] 0,
mt 372 378,
oq 379 (.extract (.t 372) 0),
oq 380 (.extract (.t 372) 1),
mt 40 379,
mt 41 380])
(.seq (.reg [mt 381 38,
mt 382 40,
oc 383 19 [(.t 381),(.t 382)] 0,
mt 384 383,
og 385 384 true 0 (.mv (.t 39)),
og 386 384 true 0 (.mv (.t 41)),
og 387 384 true 0 (bi .eql (.t 385) (.t 386)),
oq 388 (.pick (.t 384) (.t 387) (.c (.bool false))),
mt 12 388])
.ret))))))))))))))))))))))⟩
theorem row4 : Row Go.Proofs.Try.prog (4, a4) := ⟨Go.Proofs.Try.f4, Go.Proofs.Try.func4, by kernel_rfl⟩
noncomputable def a15 : eJ :=
⟨43,[(.cell 8 true 3),(.t 9),(.t 10)],(.seq (.reg [⟨(some 8),(.a (.alloc 28 [(.int .i64 (.ofNat 0)),.nilsl,.nilsl])),none,0⟩,
oq 9 (.mv (.c .nilsl)),
oq 10 (.mv (.c (.bool false)))])
(.seq (.reg [mt 14 0,
mt 15 1,
oc 16 16 [(.t 15),(ci 3)] 0,
oq 17 (bi .add (ci 1) (.t 16)),
mt 18 2,
oc 19 16 [(.t 18),(ci 2)] 0,
oq 20 (bi .add (ci 2) (.t 19)),
mt 21 3,
oc 22 67 [(.t 14),(.t 17),(ci 30),(.t 20),(.t 21),(.c (.bool false))] 0,
⟨(some 11),(.a (.alloc 28 [(.int .i64 (.ofNat 0)),.nilsl,.nilsl])),none,0⟩,
⟨none,(.x (.st 3 (.t 11) (.t 22))),none,0⟩])
(.seq (.reg [oq 24 (.ld true 3 (.t 11)),
oc 25 63 [(.t 24)] 0,
mt 23 25,
oq 26 (.extract (.t 23) 0),
oq 27 (.extract (.t 23) 1),
mt 12 26,
mt 13 27])
(.seq (.seq (.reg [mt 28 13,
oq 29 (bi .neq (.t 28) (ci 0)),
mt 30 29,
og 31 30 false 0 (.mv (.t 12)),
og 32 30 false 0 (.lenSl (.t 31)),
og 33 30 false 0 (bi .lss (.t 32) (ci 1)),
oq 34 (.pick (.t 30) (.c (.bool true)) (.t 33))])
(.cond (.t 34) (.seq (.reg [oq 35 (.ld true 3 (.t 11)),
⟨none,(.x (.st 3 (.t 8) (.t 35))),none,0⟩,
oq 9 (.mv (.c .nilsl)),
oq 10 (.mv (.c (.bool false)))])
.ret) .skip))
(.seq (.seq (.reg [mt 36 12,
oq 37 (.lenSl (.t 36)),
oq 38 (bi .gtr (.t 37) (ci 5))])
(.cond (.t 38) (.reg [mt 39 12,
oq 40 (.slc (.slice 1) (.t 39) none (some (ci 5)) none),
mt 12 40]) .skip))
(.seq (.reg [oq 41 (.ld true 3 (.t 11)),
mt 42 12,
⟨none,(.x (.st 3 (.t 8) (.t 41))),none,0⟩,
mt 9 42,
oq 10 (.mv (.c (.bool true)))])
.ret))))))⟩
theorem row15 : Row Go.Proofs.Try.prog (15, a15) := ⟨Go.Proofs.Try.f15, Go.Proofs.Try.func15, by kernel_rfl⟩
noncomputable def a16 : eJ :=
⟨14,[(.t 4)],(.seq (.reg [oq 4 (.mv (ci 0))])
(.seq (.reg [mt 5 0,
mt 6 1,
oq 7 (bi .rem (.t 5) (.t 6)),
mt 0 7])
(.seq (.seq (.reg [mt 8 0,
oq 9 (bi .lss (.t 8) (ci 0))])
(.cond (.t 9) (.reg [mt 10 0,
mt 11 1,
oq 12 (bi .add (.t 10) (.t 11)),
mt 0 12]) .skip))
(.seq (.reg [mt 13 0,
mt 4 13])
.ret))))⟩
theorem row16 : Row Go.Proofs.Try.prog (16, a16) := ⟨Go.Proofs.Try.f16, Go.Proofs.Try.func16, by kernel_rfl⟩
noncomputable def a17 : eJ :=
⟨39,[(.t 6),(.t 7)],(.seq (.reg [⟨(some 3),(.a (.box 28 (.t 0))),none,0⟩,
oq 6 (.mv (.c .nilsl)),
oq 7 (.mv (ci 0))])
(.seq (.reg [oq 11 (.ld true 3 (.t 3)),
oc 12 68 [(.t 11)] 0,
mt 10 12,
oq 13 (.extract (.t 10) 0),
oq 14 (.extract (.t 10) 1),
mt 8 13,
mt 9 14])
(.seq (.seq (.reg [mt 15 9,
oq 16 (bi .neq (.t 15) (ci 0))])
(.cond (.t 16) (.seq (.reg [mt 17 9,
oq 6 (.mv (.c .nilsl)),
mt 7 17])
.ret) .skip))
(.seq (.seq (.reg [mt 19 8,
mt 20 1,
oc 21 69 [(.t 19),(.t 20)] 0,
mt 18 21,
oq 22 (.extract (.t 18) 0),
oq 23 (.extract (.t 18) 1),
mt 9 23])
(.seq (.reg [mt 24 9,
oq 25 (bi .neq (.t 24) (ci 0))])
(.cond (.t 25) (.seq (.reg [mt 26 9,
oq 6 (.mv (.c .nilsl)),
mt 7 26])
.ret) .skip)))
(.seq (.seq (.reg [mt 28 8,
mt 29 2,
oc 30 69 [(.t 28),(.t 29)] 0,
mt 27 30,
oq 31 (.extract (.t 27) 0),
oq 32 (.extract (.t 27) 1),
mt 9 32])
(.seq (.reg [mt 33 9,
oq 34 (bi .neq (.t 33) (ci 0))])
(.cond (.t 34) (.seq (.reg [mt 35 9,
oq 6 (.mv (.c .nilsl)),
mt 7 35])
.ret) .skip)))
(.seq (.reg [mt 36 1,
mt 37 2,
oc 38 70 [(.t 36),(.t 37)] 0,
mt 6 38,
oq 7 (.mv (ci 0))])
.ret))))))⟩
theorem row17 : Row Go.Proofs.Try.prog (17, a17) := ⟨Go.Proofs.Try.f17, Go.Proofs.Try.func17, by kernel_rfl⟩
noncomputable def a19 : eJ :=
⟨26,[(.t 4)],(.seq (.reg [oq 4 (.mv (.c (.bool false)))])
(.seq (.seq (.reg [mt 6 0,
oq 7 (.lenSl (.t 6)),
mt 8 1,
oq 9 (.lenSl (.t 8)),
oq 10 (bi .neq (.t 7) (.t 9))])
(.cond (.t 10) (.seq (.reg [oq 4 (.mv (.c (.bool false)))])
.ret) .skip))
(.seq (.seq (.reg [oq 5 (.mv (ci 0))])
(.block 0 (.loop (.seq (.seq (.reg [mt 11 5,
mt 12 0,
oq 13 (.lenSl (.t 12)),
oq 14 (bi .lss (.t 11) (.t 13))])
(.cond (.t 14) .skip (.exit 0)))
(.seq (.block 1 (.seq (.drw [mt 17 0,
mt 18 5,
om 19 3 (.iaddr (.slice 1) (.t 17) (.t 18)),
om 20 7 (ld 19),
mt 21 1,
mt 22 5,
om 23 48 (.iaddr (.slice 1) (.t 21) (.t 22)),
om 24 112 (ld 23),
om 25 255 (bi .neq (.t 20) (.t 24))])
(.cond (.t 25) (.seq (.reg [oq 4 (.mv (.c (.bool false)))])
.ret) .skip)))
(.reg [mt 15 5,
oq 16 (bi .add (.t 15) (ci 1)),
mt 5 16]))))))
(.seq (.reg [oq 4 (.mv (.c (.bool true)))])
.ret))))⟩
theorem row19 : Row Go.Proofs.Try.prog (19, a19) := ⟨Go.Proofs.Try.f19, Go.Proofs.Try.func19, by kernel_rfl⟩
noncomputable def a21 : eJ :=
⟨26,[(.t 4),(.t 5)],(.seq (.reg [⟨(some 2),(.a (.box 28 (.t 0))),none,0⟩,
oq 4 (.mv (.c .nilsl)),
oq 5 (.mv (ci 0))])
(.seq (.reg [oq 10 (.ld true 3 (.t 2)),
oc 11 68 [(.t 10)] 0,
mt 9 11,
oq 12 (.extract (.t 9) 0),
oq 13 (.extract (.t 9) 1),
mt 6 12,
mt 7 13])
(.seq (.seq (.reg [mt 14 7,
oq 15 (bi .neq (.t 14) (ci 0))])
(.cond (.t 15) (.seq (.reg [mt 16 7,
oq 4 (.mv (.c .nilsl)),
mt 5 16])
.ret) .skip))
(.seq (.reg [mt 18 6,
mt 19 1,
oc 20 69 [(.t 18),(.t 19)] 0,
mt 17 20,
oq 21 (.extract (.t 17) 0),
oq 22 (.extract (.t 17) 1),
⟨(some 8),(.a (.alloc 108 [.nilsl,.nilsl])),none,0⟩,
⟨none,(.x (.st 2 (.t 8) (.t 21))),none,0⟩,
mt 7 22])
(.seq (.reg [oq 23 (.faddr 0 (.t 8)),
oq 24 (ld 23),
mt 25 7,
mt 4 24,
mt 5 25])
.ret)))))⟩
theorem row21 : Row Go.Proofs.Try.prog (21, a21) := ⟨Go.Proofs.Try.f21, Go.Proofs.Try.func21, by kernel_rfl⟩
noncomputable def a22 : eJ :=
⟨26,[(.t 4),(.t 5)],(.seq (.reg [⟨(some 2),(.a (.box 28 (.t 0))),none,0⟩,
oq 4 (.mv (.c .nilsl)),
oq 5 (.mv (ci 0))])
(.seq (.reg [oq 10 (.ld true 3 (.t 2)),
oc 11 68 [(.t 10)] 0,
mt 9 11,
oq 12 (.extract (.t 9) 0),
oq 13 (.extract (.t 9) 1),
mt 6 12,
mt 7 13])
(.seq (.seq (.reg [mt 14 7,
oq 15 (bi .neq (.t 14) (ci 0))])
(.cond (.t 15) (.seq (.reg [mt 16 7,
oq 4 (.mv (.c .nilsl)),
mt 5 16])
.ret) .skip))
(.seq (.reg [mt 18 6,
mt 19 1,
oc 20 69 [(.t 18),(.t 19)] 0,
mt 17 20,
oq 21 (.extract (.t 17) 0),
oq 22 (.extract (.t 17) 1),
⟨(some 8),(.a (.alloc 108 [.nilsl,.nilsl])),none,0⟩,
⟨none,(.x (.st 2 (.t 8) (.t 21))),none,0⟩,
mt 7 22])
(.seq (.reg [oq 23 (.faddr 1 (.t 8)),
oq 24 (ld 23),
mt 25 7,
mt 4 24,
mt 5 25])
.ret)))))⟩
theorem row22 : Row Go.Proofs.Try.prog (22, a22) := ⟨Go.Proofs.Try.f22, Go.Proofs.Try.func22, by kernel_rfl⟩
noncomputable def a23 : eJ :=
⟨26,[(.t 4)],(.seq (.reg [⟨(some 3),(.a (.box 28 (.t 1))),none,0⟩,
oq 4 (.mv (.c .nilsl))])
(.seq (.reg [oq 5 (.mv (.c .nilsl))])
(.seq (.seq (.reg [oq 6 (.mv (ci 0))])
(.block 0 (.loop (.seq (.seq (.reg [mt 7 6,
oq 8 (.faddr 2 (.t 3)),
oq 9 (ld 8),
oq 10 (.lenSl (.t 9)),
oq 11 (bi .lss (.t 7) (.t 10))])
(.cond (.t 11) .skip (.exit 0)))
(.seq (.block 1 (.reg [mt 14 5,
mt 15 0,
oq 16 (.faddr 2 (.t 3)),
oq 17 (ld 16),
mt 18 6,
oq 19 (.iaddr (.slice 2) (.t 17) (.t 18)),
oq 20 (.faddr 1 (.t 19)),
oq 21 (ld 20),
oc 22 38 [(.t 15),(.t 21)] 0,
⟨(some 23),(.a (.bslice 3 1 1 [(.int .i64 (.ofNat 0))] [(0,(.t 22))])),none,0⟩,
⟨(some 24),(.x (.app 3 1 8 (.t 14) (.t 23))),none,0⟩,
mt 5 24]))
(.reg [mt 12 6,
oq 13 (bi .add (.t 12) (ci 1)),
mt 6 13]))))))
(.seq (.reg [mt 25 5,
mt 4 25])
.ret))))⟩
theorem row23 : Row Go.Proofs.Try.prog (23, a23) := ⟨Go.Proofs.Try.f23, Go.Proofs.Try.func23, by kernel_rfl⟩
noncomputable def a24 : eJ :=
⟨175,[(.t 8),(.t 9)],(.seq (.reg [oq 8 (.mv (.c .nilsl)),
oq 9 (.mv (ci 0))])
(.seq (.reg [mt 21 0,
mt 22 1,
oq 23 (.iaddr (.slice 6) (.t 21) (.t 22)),
oq 24 (.ld true 6 (.t 23)),
⟨(some 10),(.a (.alloc 64 [(.int .i64 (.ofNat 0)),(.int .i64 (.ofNat 0)),(.int .i64 (.ofNat 0)),.nilsl,.nilsl,.nilsl])),none,0⟩,
⟨none,(.x (.st 6 (.t 10) (.t 24))),none,0⟩])
(.seq (.seq (.reg [oq 25 (.faddr 0 (.t 10)),
oq 26 (ld 25)])
(.block 0 (.seq (.reg [oq 28 (bi .eql (.t 26) (ci 3)),
mt 27 28])
(.cond (.t 27) (.seq (.reg [⟨(some 29),(.a (.bslice 3 1 0 [(.int .i64 (.ofNat 0))] [])),none,0⟩,
oq 30 (.faddr 5 (.t 10)),
oq 31 (ld 30),
⟨(some 32),(.x (.app 3 1 8 (.t 29) (.t 31))),none,0⟩,
mt 8 32,
oq 9 (.mv (ci 1))])
.ret) (.seq (.reg [oq 34 (bi .eql (.t 26) (ci 2)),
mt 33 34])
(.cond (.t 33) (.seq (.reg [oq 11 (.mv (ci 0))])
(.seq (.seq (.drw [oq 35 (.faddr 2 (.t 10)),
om 36 1 (ld 35),
mt 37 3,
om 38 4 (.lenSl (.t 37)),
om 39 15 (bi .lss (.t 36) (.t 38)),
om 40 31 (.mv (.t 39)),
og 41 40 true 63 (.mv (.t 3)),
og 42 40 true 63 (.faddr 2 (.t 10)),
og 43 40 true 191 (ld 42),
og 44 40 true 511 (.iaddr (.slice 1) (.t 41) (.t 43)),
og 45 40 true 1023 (ld 44),
og 46 40 true 2047 (bi .geq (.t 45) (ci 0)),
om 47 4095 (.pick (.t 40) (.t 46) (.c (.bool false))),
om 48 8191 (.mv (.t 47)),
og 49 48 true 16383 (.mv (.t 3)),
og 50 48 true 16383 (.faddr 2 (.t 10)),
og 51 48 true 49151 (ld 50),
og 52 48 true 131071 (.iaddr (.slice 1) (.t 49) (.t 51)),
og 53 48 true 262143 (ld 52),
og 54 48 true 16383 (.faddr 3 (.t 10)),
og 55 48 true 540671 (ld 54),
og 56 48 true 1589247 (.lenSl (.t 55)),
og 57 48 true 4194303 (bi .lss (.t 53) (.t 56)),
om 58 8388607 (.pick (.t 48) (.t 57) (.c (.bool false)))])
(.cond (.t 58) (.reg [mt 59 3,
oq 60 (.faddr 2 (.t 10)),
oq 61 (ld 60),
oq 62 (.iaddr (.slice 1) (.t 59) (.t 61)),
oq 63 (ld 62),
mt 11 63]) .skip))
(.seq (.reg [mt 64 0,
oq 65 (.faddr 3 (.t 10)),
oq 66 (ld 65),
mt 67 11,
oq 68 (.iaddr (.slice 1) (.t 66) (.t 67)),
oq 69 (ld 68),
mt 70 2,
mt 71 3,
oc 72 24 [(.t 64),(.t 69),(.t 70),(.t 71)] 0,
oq 73 (.extract (.t 72) 0),
oq 74 (.extract (.t 72) 1),
mt 8 73,
mt 9 74])
.ret))) .skip))))))
(.seq (.reg [mt 75 2,
⟨(some 76),(.a (.mkSlice 3 1 8 [(.int .i64 (.ofNat 0))] (.t 75) (.t 75))),none,0⟩,
mt 8 76,
oq 9 (.mv (ci 1))])
(.seq (.reg [oq 12 (.mv (ci 0))])
(.seq (.seq (.reg [oq 13 (.mv (ci 0))])
(.block 1 (.loop (.seq (.seq (.reg [mt 77 13,
oq 78 (.faddr 3 (.t 10)),
oq 79 (ld 78),
oq 80 (.lenSl (.t 79)),
oq 81 (bi .lss (.t 77) (.t 80))])
(.cond (.t 81) .skip (.exit 1)))
(.seq (.block 2 (.seq (.reg [mt 85 0,
oq 86 (.faddr 3 (.t 10)),
oq 87 (ld 86),
mt 88 13,
oq 89 (.iaddr (.slice 1) (.t 87) (.t 88)),
oq 90 (ld 89),
mt 91 2,
mt 92 3,
oc 93 24 [(.t 85),(.t 90),(.t 91),(.t 92)] 0,
mt 84 93,
oq 94 (.extract (.t 84) 0),
oq 95 (.extract (.t 84) 1),
mt 14 94,
mt 15 95])
(.seq (.reg [mt 96 9,
mt 97 15,
oc 98 71 [(.t 96),(.t 97)] 0,
mt 16 98])
(.seq (.seq (.reg [oq 17 (.mv (ci 0))])
(.block 3 (.loop (.seq (.seq (.reg [mt 99 17,
mt 100 2,
oq 101 (bi .lss (.t 99) (.t 100))])
(.cond (.t 101) .skip (.exit 3)))
(.seq (.block 4 (.drw [mt 104 8,
mt 105 17,
mt 106 8,
mt 107 17,
om 108 12 (.iaddr (.slice 1) (.t 106) (.t 107)),
om 109 28 (ld 108),
mt 110 15,
mt 111 16,
om 112 192 (bi .quo (.t 110) (.t 111)),
om 113 508 (bi .mul (.t 109) (.t 112)),
oq 114 (.faddr 4 (.t 10)),
om 115 1024 (ld 114),
mt 116 13,
om 117 7168 (.iaddr (.slice 1) (.t 115) (.t 116)),
om 118 15360 (ld 117),
mt 119 14,
mt 120 17,
om 121 98304 (.iaddr (.slice 1) (.t 119) (.t 120)),
om 122 229376 (ld 121),
om 123 523264 (bi .mul (.t 118) (.t 122)),
mt 124 9,
mt 125 16,
om 126 3145728 (bi .quo (.t 124) (.t 125)),
om 127 8387584 (bi .mul (.t 123) (.t 126)),
om 128 16777212 (bi .add (.t 113) (.t 127)),
om 129 33554431 (.iaddr (.slice 1) (.t 104) (.t 105)),
⟨none,(.x (.st 1 (.t 129) (.t 128))),none,67108863⟩]))
(.reg [mt 102 17,
oq 103 (bi .add (.t 102) (ci 1)),
mt 17 103]))))))
(.seq (.reg [mt 130 9,
mt 131 16,
oq 132 (bi .quo (.t 130) (.t 131)),
mt 133 15,
oq 134 (bi .mul (.t 132) (.t 133)),
mt 9 134])
(.reg [mt 135 12,
oq 136 (.faddr 4 (.t 10)),
oq 137 (ld 136),
mt 138 13,
oq 139 (.iaddr (.slice 1) (.t 137) (.t 138)),
oq 140 (ld 139),
oq 141 (bi .add (.t 135) (.t 140)),
mt 12 141]))))))
(.reg [mt 82 13,
oq 83 (bi .add (.t 82) (ci 1)),
mt 13 83]))))))
(.seq (.reg [mt 142 9,
mt 143 12,
oq 144 (bi .mul (.t 142) (.t 143)),
mt 9 144])
(.seq (.reg [mt 145 9,
mt 18 145])
(.seq (.seq (.reg [oq 19 (.mv (ci 0))])
(.block 5 (.loop (.seq (.seq (.reg [mt 146 19,
mt 147 2,
oq 148 (bi .lss (.t 146) (.t 147))])
(.cond (.t 148) .skip (.exit 5)))
(.seq (.block 6 (.reg [mt 151 18,
mt 152 8,
mt 153 19,
oq 154 (.iaddr (.slice 1) (.t 152) (.t 153)),
oq 155 (ld 154),
oc 156 71 [(.t 151),(.t 155)] 0,
mt 18 156]))
(.reg [mt 149 19,
oq 150 (bi .add (.t 149) (ci 1)),
mt 19 150]))))))
(.seq (.seq (.reg [oq 20 (.mv (ci 0))])
(.block 7 (.loop (.seq (.seq (.reg [mt 157 20,
mt 158 2,
oq 159 (bi .lss (.t 157) (.t 158))])
(.cond (.t 159) .skip (.exit 7)))
(.seq (.block 8 (.reg [mt 162 8,
mt 163 20,
mt 164 8,
mt 165 20,
oq 166 (.iaddr (.slice 1) (.t 164) (.t 165)),
oq 167 (ld 166),
mt 168 18,
oq 169 (bi .quo (.t 167) (.t 168)),
oq 170 (.iaddr (.slice 1) (.t 162) (.t 163)),
⟨none,(.x (.st 1 (.t 170) (.t 169))),none,0⟩]))
(.reg [mt 160 20,
oq 161 (bi .add (.t 160) (ci 1)),
mt 20 161]))))))
(.seq (.drw [mt 171 8,
mt 172 9,
mt 173 18,
om 174 6 (bi .quo (.t 172) (.t 173)),
om 8 1 (.mv (.t 171)),
om 9 31 (.mv (.t 174))])
.ret)))))))))))⟩
theorem row24 : Row Go.Proofs.Try.prog (24, a24) := ⟨Go.Proofs.Try.f24, Go.Proofs.Try.func24, by kernel_rfl⟩
end Go.Ev.Gl
