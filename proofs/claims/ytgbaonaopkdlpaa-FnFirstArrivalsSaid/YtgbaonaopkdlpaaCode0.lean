/- The code of this seat's functions, resolved, written by a program of mine; each is held against the given program by the kernel. Condition: none. -/
import Derived.Test.YtgbaonaopkdlpaaProg
import Derived.Test.YtgbaonaopkdlpaaBase9
import Derived.KernelRfl
namespace Go.Proofs.Ytgbaonaopkdlpaa
open Go.Vc

/- loop.example/g00940/laws.FnWays -/
/- loop.example/g00940/laws.FnFirstArrivals -/
abbrev f_laws_FnFirstArrivals : Nat := 4
def c_laws_FnFirstArrivals : MFun := ⟨475, .seq (.ops [ o_p 4 (.mv (.const (.bool false)))])
(.seq (.seq (.ops [ o_m 61 0, o_p 62 (.len (.tmp 61)), o_m 63 1, o_p 64 (.len (.tmp 63)), o_p 65 (.bin .add (.tmp 62) (.tmp 64)), o_p 66 (.bin .gtr (.tmp 65) (.const (.int .i64 (1048576))))])
(.cond (.tmp 66)
(.seq (.ops [ o_p 4 (.mv (.const (.bool true)))])
(.ret))
(.skip)))
(.seq (.ops [ o_m 68 0, o_e 69 (.call 22 [(.tmp 68)]), o_m 67 69, o_p 70 (.ext 0 (.tmp 67)), o_p 71 (.ext 1 (.tmp 67)), o_p 72 (.ext 2 (.tmp 67)), o_p 73 (.ext 3 (.tmp 67)), o_p 74 (.ext 4 (.tmp 67)), o_e 5 (.new 26 [(.slice none 0 0), (.slice none 0 0)]),
.op ⟨none, (.eff (.store 2 (.tmp 5) (.tmp 70))), none⟩, o_m 6 71, o_m 7 72, o_m 8 73, o_m 9 74])
(.seq (.ops [
.op ⟨(some 76), (.load (some 2) (.tmp 5)), none⟩, o_m 77 6, o_m 78 7, o_m 79 8, o_m 80 9, o_e 81 (.call 23 [(.tmp 76), (.tmp 77), (.tmp 78), (.tmp 79), (.tmp 80)]), o_m 75 81, o_p 82 (.ext 0 (.tmp 75)), o_p 83 (.ext 1 (.tmp 75)), o_m 10 82, o_m 11 83])
(.seq (.ops [
.op ⟨(some 85), (.load (some 2) (.tmp 5)), none⟩, o_m 86 6, o_m 87 7, o_m 88 8, o_m 89 9, o_e 90 (.call 24 [(.tmp 85), (.tmp 86), (.tmp 87), (.tmp 88), (.tmp 89)]), o_m 84 90, o_p 91 (.ext 0 (.tmp 84)), o_p 92 (.ext 1 (.tmp 84)), o_m 12 91, o_m 13 92])
(.seq (.ops [
.op ⟨(some 94), (.load (some 2) (.tmp 5)), none⟩, o_m 95 6, o_m 96 7, o_m 97 8, o_m 98 9, o_e 99 (.call 21 [(.tmp 94), (.tmp 95), (.tmp 96), (.tmp 97), (.tmp 98)]), o_m 93 99, o_p 100 (.ext 0 (.tmp 93)), o_p 101 (.ext 1 (.tmp 93)), o_m 14 100, o_m 15 101])
(.seq (.ops [
.op ⟨(some 103), (.load (some 2) (.tmp 5)), none⟩, o_m 104 6, o_m 105 7, o_m 106 8, o_m 107 9, o_e 108 (.call 25 [(.tmp 103), (.tmp 104), (.tmp 105), (.tmp 106), (.tmp 107)]), o_m 102 108, o_p 109 (.ext 0 (.tmp 102)), o_p 110 (.ext 1 (.tmp 102)), o_m 16 109, o_m 17 110])
(.seq (.ops [
.op ⟨(some 112), (.load (some 2) (.tmp 5)), none⟩, o_m 113 6, o_m 114 7, o_m 115 8, o_m 116 9, o_e 117 (.call 26 [(.tmp 112), (.tmp 113), (.tmp 114), (.tmp 115), (.tmp 116)]), o_m 111 117, o_p 118 (.ext 0 (.tmp 111)), o_p 119 (.ext 1 (.tmp 111)), o_m 18 118, o_m 19 119])
(.seq (.ops [
.op ⟨(some 121), (.load (some 2) (.tmp 5)), none⟩, o_m 122 6, o_m 123 7, o_m 124 8, o_m 125 9, o_e 126 (.call 27 [(.tmp 121), (.tmp 122), (.tmp 123), (.tmp 124), (.tmp 125)]), o_m 120 126, o_p 127 (.ext 0 (.tmp 120)), o_p 128 (.ext 1 (.tmp 120)), o_m 20 127, o_m 21 128])
(.seq (.ops [ o_m 130 1, o_e 131 (.call 28 [(.tmp 130)]), o_m 129 131, o_p 132 (.ext 0 (.tmp 129)), o_p 133 (.ext 1 (.tmp 129)), o_p 134 (.ext 2 (.tmp 129)), o_p 135 (.ext 3 (.tmp 129)), o_p 136 (.ext 4 (.tmp 129)), o_e 22 (.new 26 [(.slice none 0 0), (.slice none 0 0)]),
.op ⟨none, (.eff (.store 2 (.tmp 22) (.tmp 132))), none⟩, o_m 23 133, o_m 24 134, o_m 25 135, o_m 26 136])
(.seq (.ops [
.op ⟨(some 138), (.load (some 2) (.tmp 22)), none⟩, o_m 139 23, o_m 140 24, o_m 141 25, o_m 142 26, o_e 143 (.call 29 [(.tmp 138), (.tmp 139), (.tmp 140), (.tmp 141), (.tmp 142)]), o_m 137 143, o_p 144 (.ext 0 (.tmp 137)), o_p 145 (.ext 1 (.tmp 137)), o_m 27 144, o_m 28 145])
(.seq (.ops [
.op ⟨(some 147), (.load (some 2) (.tmp 22)), none⟩, o_m 148 23, o_m 149 24, o_m 150 25, o_m 151 26, o_e 152 (.call 30 [(.tmp 147), (.tmp 148), (.tmp 149), (.tmp 150), (.tmp 151)]), o_m 146 152, o_p 153 (.ext 0 (.tmp 146)), o_p 154 (.ext 1 (.tmp 146)), o_m 29 153, o_m 30 154])
(.seq (.ops [ o_m 156 1, o_e 157 (.call 31 [(.tmp 156)]), o_m 155 157, o_p 158 (.ext 0 (.tmp 155)), o_p 159 (.ext 1 (.tmp 155)), o_p 160 (.ext 2 (.tmp 155)), o_p 161 (.ext 3 (.tmp 155)), o_e 31 (.new 26 [(.slice none 0 0), (.slice none 0 0)]),
.op ⟨none, (.eff (.store 2 (.tmp 31) (.tmp 158))), none⟩, o_m 32 159, o_m 33 160, o_m 34 161])
(.seq (.ops [
.op ⟨(some 163), (.load (some 2) (.tmp 31)), none⟩, o_m 164 32, o_m 165 33, o_m 166 34, o_e 167 (.call 32 [(.tmp 163), (.tmp 164), (.tmp 165), (.tmp 166)]), o_m 162 167, o_p 168 (.ext 0 (.tmp 162)), o_p 169 (.ext 1 (.tmp 162)), o_m 35 168, o_m 36 169])
(.seq (.ops [
.op ⟨(some 171), (.load (some 2) (.tmp 31)), none⟩, o_m 172 32, o_m 173 33, o_m 174 34, o_e 175 (.call 33 [(.tmp 171), (.tmp 172), (.tmp 173), (.tmp 174)]), o_m 170 175, o_p 176 (.ext 0 (.tmp 170)), o_p 177 (.ext 1 (.tmp 170)), o_m 37 176, o_m 38 177])
(.seq (.seq (.ops [ o_m 178 11, o_m 179 13, o_p 180 (.eqb true (.tmp 178) (.tmp 179)), o_m 181 180,
.split 181,
.op ⟨(some 182), (.pure (.mv (.tmp 10))), (some (181, false))⟩,
.op ⟨(some 183), (.pure (.mv (.tmp 12))), (some (181, false))⟩,
.op ⟨(some 184), (.eff (.call 18 [(.tmp 182), (.tmp 183)])), (some (181, false))⟩,
.op ⟨(some 185), (.pure (.bnot (.tmp 184))), (some (181, false))⟩, o_p 186 (.pick (.tmp 181) (.const (.bool true)) (.tmp 185)), o_m 187 186,
.split 187,
.op ⟨(some 188), (.pure (.mv (.tmp 15))), (some (187, false))⟩,
.op ⟨(some 189), (.pure (.mv (.tmp 17))), (some (187, false))⟩,
.op ⟨(some 190), (.pure (.eqb true (.tmp 188) (.tmp 189))), (some (187, false))⟩, o_p 191 (.pick (.tmp 187) (.const (.bool true)) (.tmp 190)), o_m 192 191,
.split 192,
.op ⟨(some 193), (.pure (.mv (.tmp 14))), (some (192, false))⟩,
.op ⟨(some 194), (.pure (.mv (.tmp 16))), (some (192, false))⟩,
.op ⟨(some 195), (.pure (.bin .neq (.tmp 193) (.tmp 194))), (some (192, false))⟩, o_p 196 (.pick (.tmp 192) (.const (.bool true)) (.tmp 195)), o_m 197 196,
.split 197,
.op ⟨(some 198), (.pure (.mv (.tmp 19))), (some (197, false))⟩,
.op ⟨(some 199), (.pure (.mv (.tmp 21))), (some (197, false))⟩,
.op ⟨(some 200), (.pure (.eqb true (.tmp 198) (.tmp 199))), (some (197, false))⟩, o_p 201 (.pick (.tmp 197) (.const (.bool true)) (.tmp 200)), o_m 202 201,
.split 202,
.op ⟨(some 203), (.pure (.mv (.tmp 18))), (some (202, false))⟩,
.op ⟨(some 204), (.pure (.mv (.tmp 20))), (some (202, false))⟩,
.op ⟨(some 205), (.pure (.bin .neq (.tmp 203) (.tmp 204))), (some (202, false))⟩, o_p 206 (.pick (.tmp 202) (.const (.bool true)) (.tmp 205)), o_m 207 206,
.split 207,
.op ⟨(some 208), (.pure (.mv (.tmp 28))), (some (207, false))⟩,
.op ⟨(some 209), (.pure (.mv (.tmp 30))), (some (207, false))⟩,
.op ⟨(some 210), (.pure (.eqb true (.tmp 208) (.tmp 209))), (some (207, false))⟩, o_p 211 (.pick (.tmp 207) (.const (.bool true)) (.tmp 210)), o_m 212 211,
.split 212,
.op ⟨(some 213), (.pure (.mv (.tmp 27))), (some (212, false))⟩,
.op ⟨(some 214), (.pure (.mv (.tmp 29))), (some (212, false))⟩,
.op ⟨(some 215), (.pure (.bin .neq (.tmp 213) (.tmp 214))), (some (212, false))⟩, o_p 216 (.pick (.tmp 212) (.const (.bool true)) (.tmp 215)), o_m 217 216,
.split 217,
.op ⟨(some 218), (.pure (.mv (.tmp 36))), (some (217, false))⟩,
.op ⟨(some 219), (.pure (.mv (.tmp 38))), (some (217, false))⟩,
.op ⟨(some 220), (.pure (.eqb true (.tmp 218) (.tmp 219))), (some (217, false))⟩, o_p 221 (.pick (.tmp 217) (.const (.bool true)) (.tmp 220)), o_m 222 221,
.split 222,
.op ⟨(some 223), (.pure (.mv (.tmp 35))), (some (222, false))⟩,
.op ⟨(some 224), (.pure (.mv (.tmp 37))), (some (222, false))⟩,
.op ⟨(some 225), (.eff (.call 18 [(.tmp 223), (.tmp 224)])), (some (222, false))⟩,
.op ⟨(some 226), (.pure (.bnot (.tmp 225))), (some (222, false))⟩, o_p 227 (.pick (.tmp 222) (.const (.bool true)) (.tmp 226)), o_m 228 227,
.split 228,
.op ⟨(some 229), (.pure (.mv (.tmp 15))), (some (228, false))⟩,
.op ⟨(some 230), (.pure (.mv (.tmp 11))), (some (228, false))⟩,
.op ⟨(some 231), (.pure (.eqb true (.tmp 229) (.tmp 230))), (some (228, false))⟩, o_p 232 (.pick (.tmp 228) (.const (.bool true)) (.tmp 231)), o_m 233 232,
.split 233,
.op ⟨(some 234), (.pure (.mv (.tmp 19))), (some (233, false))⟩,
.op ⟨(some 235), (.pure (.mv (.tmp 11))), (some (233, false))⟩,
.op ⟨(some 236), (.pure (.eqb true (.tmp 234) (.tmp 235))), (some (233, false))⟩, o_p 237 (.pick (.tmp 233) (.const (.bool true)) (.tmp 236))])
(.cond (.tmp 237)
(.seq (.ops [ o_p 4 (.mv (.const (.bool false)))])
(.ret))
(.skip)))
(.seq (.seq (.ops [ o_m 238 28])
(.cond (.tmp 238)
(.seq (.ops [
.op ⟨(some 240), (.load (some 2) (.tmp 22)), none⟩, o_m 241 23, o_m 242 24, o_m 243 25, o_m 244 29, o_e 245 (.call 21 [(.tmp 240), (.tmp 241), (.tmp 242), (.tmp 243), (.tmp 244)]), o_m 239 245, o_p 246 (.ext 0 (.tmp 239)), o_p 247 (.ext 1 (.tmp 239)), o_m 39 246, o_m 40 247])
(.seq (.seq (.ops [ o_m 248 40, o_p 249 (.bnot (.tmp 248)), o_m 250 249,
.split 250,
.op ⟨(some 251), (.pure (.mv (.tmp 39))), (some (250, false))⟩,
.op ⟨(some 252), (.pure (.mv (.tmp 26))), (some (250, false))⟩,
.op ⟨(some 253), (.pure (.bin .gtr (.tmp 251) (.tmp 252))), (some (250, false))⟩, o_p 254 (.pick (.tmp 250) (.const (.bool true)) (.tmp 253)), o_m 255 254,
.split 255,
.op ⟨(some 256), (.pure (.mv (.tmp 29))), (some (255, false))⟩,
.op ⟨(some 257), (.pure (.mv (.tmp 26))), (some (255, false))⟩,
.op ⟨(some 258), (.pure (.bin .gtr (.tmp 256) (.tmp 257))), (some (255, false))⟩, o_p 259 (.pick (.tmp 255) (.const (.bool true)) (.tmp 258))])
(.cond (.tmp 259)
(.seq (.ops [ o_p 4 (.mv (.const (.bool false)))])
(.ret))
(.skip)))
(.seq (.ops [ o_m 260 29, o_m 261 26, o_p 262 (.bin .lss (.tmp 260) (.tmp 261))])
(.cond (.tmp 262)
(.seq (.ops [
.op ⟨(some 264), (.load (some 2) (.tmp 22)), none⟩, o_m 265 23, o_m 266 24, o_m 267 25, o_m 268 29, o_p 269 (.bin .add (.tmp 268) (.const (.int .i64 (1)))), o_e 270 (.call 21 [(.tmp 264), (.tmp 265), (.tmp 266), (.tmp 267), (.tmp 269)]), o_m 263 270, o_p 271 (.ext 0 (.tmp 263)), o_p 272 (.ext 1 (.tmp 263)), o_m 41 271, o_m 42 272])
(.seq (.ops [ o_m 273 42, o_p 274 (.bnot (.tmp 273)), o_m 275 274,
.split 275,
.op ⟨(some 276), (.pure (.mv (.tmp 41))), (some (275, false))⟩,
.op ⟨(some 277), (.pure (.mv (.tmp 26))), (some (275, false))⟩,
.op ⟨(some 278), (.pure (.bin .leq (.tmp 276) (.tmp 277))), (some (275, false))⟩, o_p 279 (.pick (.tmp 275) (.const (.bool true)) (.tmp 278))])
(.cond (.tmp 279)
(.seq (.ops [ o_p 4 (.mv (.const (.bool false)))])
(.ret))
(.skip))))
(.skip)))))
(.skip)))
(.seq (.seq (.ops [ o_m 280 36])
(.cond (.tmp 280)
(.seq (.ops [ o_m 281 37, o_p 282 (.len (.tmp 281)), o_p 283 (.mv (.const (.int .i64 (0))))])
(.block 0 (.loop (.seq (.ops [ o_p 284 (.bin .lss (.tmp 283) (.tmp 282))])
(.seq (.cond (.tmp 284)
(.skip)
(.exit 0))
(.seq (.block 1 (.seq (.ops [ o_m 285 283, o_p 286 (.idx 1 (.tmp 281) (.tmp 283)), o_l 287 286, o_m 43 285, o_m 44 287])
(.seq (.ops [
.op ⟨(some 289), (.load (some 2) (.tmp 31)), none⟩, o_m 290 32, o_m 291 33, o_m 292 43, o_m 293 34, o_e 294 (.call 21 [(.tmp 289), (.tmp 290), (.tmp 291), (.tmp 292), (.tmp 293)]), o_m 288 294, o_p 295 (.ext 0 (.tmp 288)), o_p 296 (.ext 1 (.tmp 288)), o_m 45 295, o_m 46 296])
(.seq (.ops [ o_m 297 46, o_m 298 44, o_p 299 (.bin .geq (.tmp 298) (.const (.int .i64 (0)))), o_p 300 (.eqb true (.tmp 297) (.tmp 299)), o_m 301 300,
.split 301,
.op ⟨(some 302), (.pure (.mv (.tmp 46))), (some (301, false))⟩,
.op ⟨(some 303), (.pure (.mv (.tmp 302))), (some (301, false))⟩,
.split 303,
.op ⟨(some 304), (.pure (.mv (.tmp 45))), (some (303, true))⟩,
.op ⟨(some 305), (.pure (.mv (.tmp 44))), (some (303, true))⟩,
.op ⟨(some 306), (.pure (.bin .neq (.tmp 304) (.tmp 305))), (some (303, true))⟩,
.op ⟨(some 307), (.pure (.pick (.tmp 303) (.tmp 306) (.const (.bool false)))), (some (301, false))⟩, o_p 308 (.pick (.tmp 301) (.const (.bool true)) (.tmp 307)), o_m 309 308,
.split 309,
.op ⟨(some 310), (.pure (.mv (.tmp 46))), (some (309, false))⟩,
.op ⟨(some 311), (.pure (.mv (.tmp 310))), (some (309, false))⟩,
.split 311,
.op ⟨(some 312), (.pure (.mv (.tmp 44))), (some (311, true))⟩,
.op ⟨(some 313), (.pure (.mv (.tmp 34))), (some (311, true))⟩,
.op ⟨(some 314), (.pure (.bin .lss (.tmp 312) (.tmp 313))), (some (311, true))⟩,
.op ⟨(some 315), (.pure (.pick (.tmp 311) (.tmp 314) (.const (.bool false)))), (some (309, false))⟩, o_p 316 (.pick (.tmp 309) (.const (.bool true)) (.tmp 315)), o_m 317 316,
.split 317,
.op ⟨(some 318), (.pure (.mv (.tmp 43))), (some (317, false))⟩,
.op ⟨(some 319), (.pure (.mv (.tmp 33))), (some (317, false))⟩,
.op ⟨(some 320), (.pure (.bin .eql (.tmp 318) (.tmp 319))), (some (317, false))⟩,
.op ⟨(some 321), (.pure (.mv (.tmp 320))), (some (317, false))⟩,
.split 321,
.op ⟨(some 322), (.pure (.mv (.tmp 44))), (some (321, true))⟩,
.op ⟨(some 323), (.pure (.mv (.tmp 34))), (some (321, true))⟩,
.op ⟨(some 324), (.pure (.bin .neq (.tmp 322) (.tmp 323))), (some (321, true))⟩,
.op ⟨(some 325), (.pure (.pick (.tmp 321) (.tmp 324) (.const (.bool false)))), (some (317, false))⟩, o_p 326 (.pick (.tmp 317) (.const (.bool true)) (.tmp 325))])
(.cond (.tmp 326)
(.seq (.ops [ o_p 4 (.mv (.const (.bool false)))])
(.ret))
(.skip))))))
(.ops [ o_p 327 (.bin .add (.tmp 283) (.const (.int .i64 (1)))), o_m 283 327])))))))
(.skip)))
(.seq (.seq (.ops [ o_m 328 11, o_p 329 (.bnot (.tmp 328))])
(.cond (.tmp 329)
(.seq (.ops [ o_p 4 (.mv (.const (.bool true)))])
(.ret))
(.skip)))
(.seq (.ops [
.op ⟨(some 331), (.load (some 2) (.tmp 5)), none⟩, o_m 332 7, o_m 333 8, o_e 334 (.call 13 [(.tmp 331), (.tmp 332), (.tmp 333)]), o_m 330 334, o_p 335 (.ext 0 (.tmp 330)), o_p 336 (.ext 1 (.tmp 330)), o_m 47 335, o_m 48 336])
(.seq (.ops [
.op ⟨(some 338), (.load (some 2) (.tmp 5)), none⟩, o_m 339 7, o_m 340 8, o_e 341 (.call 14 [(.tmp 338), (.tmp 339), (.tmp 340)]), o_m 337 341, o_p 342 (.ext 0 (.tmp 337)), o_p 343 (.ext 1 (.tmp 337)), o_m 49 342, o_m 50 343])
(.seq (.ops [
.op ⟨(some 345), (.load (some 2) (.tmp 5)), none⟩, o_m 346 6, o_m 347 10, o_m 348 9, o_e 349 (.call 8 [(.tmp 345), (.tmp 346), (.tmp 347), (.tmp 348)]), o_m 344 349, o_p 350 (.ext 0 (.tmp 344)), o_p 351 (.ext 1 (.tmp 344)), o_m 51 350, o_m 52 351])
(.seq (.ops [
.op ⟨(some 353), (.load (some 2) (.tmp 5)), none⟩, o_m 354 6, o_m 355 10, o_m 356 9, o_e 357 (.call 6 [(.tmp 353), (.tmp 354), (.tmp 355), (.tmp 356)]), o_m 352 357, o_p 358 (.ext 0 (.tmp 352)), o_p 359 (.ext 1 (.tmp 352)), o_m 53 358, o_m 54 359])
(.seq (.ops [
.op ⟨(some 361), (.load (some 2) (.tmp 5)), none⟩, o_m 362 6, o_m 363 12, o_m 364 9, o_e 365 (.call 7 [(.tmp 361), (.tmp 362), (.tmp 363), (.tmp 364)]), o_m 360 365, o_p 366 (.ext 0 (.tmp 360)), o_p 367 (.ext 1 (.tmp 360)), o_m 55 366, o_m 56 367])
(.seq (.seq (.ops [ o_m 368 48, o_p 369 (.bnot (.tmp 368)), o_m 370 369,
.split 370,
.op ⟨(some 371), (.pure (.mv (.tmp 50))), (some (370, false))⟩,
.op ⟨(some 372), (.pure (.bnot (.tmp 371))), (some (370, false))⟩, o_p 373 (.pick (.tmp 370) (.const (.bool true)) (.tmp 372)), o_m 374 373,
.split 374,
.op ⟨(some 375), (.pure (.mv (.tmp 47))), (some (374, false))⟩,
.op ⟨(some 376), (.pure (.mv (.tmp 49))), (some (374, false))⟩,
.op ⟨(some 377), (.pure (.bin .neq (.tmp 375) (.tmp 376))), (some (374, false))⟩, o_p 378 (.pick (.tmp 374) (.const (.bool true)) (.tmp 377)), o_m 379 378,
.split 379,
.op ⟨(some 380), (.pure (.mv (.tmp 52))), (some (379, false))⟩,
.op ⟨(some 381), (.pure (.bnot (.tmp 380))), (some (379, false))⟩, o_p 382 (.pick (.tmp 379) (.const (.bool true)) (.tmp 381)), o_m 383 382,
.split 383,
.op ⟨(some 384), (.pure (.mv (.tmp 51))), (some (383, false))⟩,
.op ⟨(some 385), (.pure (.mv (.tmp 16))), (some (383, false))⟩,
.op ⟨(some 386), (.pure (.bin .neq (.tmp 384) (.tmp 385))), (some (383, false))⟩, o_p 387 (.pick (.tmp 383) (.const (.bool true)) (.tmp 386)), o_m 388 387,
.split 388,
.op ⟨(some 389), (.pure (.mv (.tmp 54))), (some (388, false))⟩,
.op ⟨(some 390), (.pure (.bnot (.tmp 389))), (some (388, false))⟩, o_p 391 (.pick (.tmp 388) (.const (.bool true)) (.tmp 390)), o_m 392 391,
.split 392,
.op ⟨(some 393), (.pure (.mv (.tmp 56))), (some (392, false))⟩,
.op ⟨(some 394), (.pure (.bnot (.tmp 393))), (some (392, false))⟩, o_p 395 (.pick (.tmp 392) (.const (.bool true)) (.tmp 394)), o_m 396 395,
.split 396,
.op ⟨(some 397), (.pure (.mv (.tmp 53))), (some (396, false))⟩,
.op ⟨(some 398), (.pure (.mv (.tmp 55))), (some (396, false))⟩,
.op ⟨(some 399), (.eff (.call 18 [(.tmp 397), (.tmp 398)])), (some (396, false))⟩,
.op ⟨(some 400), (.pure (.bnot (.tmp 399))), (some (396, false))⟩, o_p 401 (.pick (.tmp 396) (.const (.bool true)) (.tmp 400)), o_m 402 401,
.split 402,
.op ⟨(some 403), (.pure (.mv (.tmp 20))), (some (402, false))⟩,
.op ⟨(some 404), (.pure (.mv (.tmp 16))), (some (402, false))⟩,
.op ⟨(some 405), (.pure (.mv (.tmp 9))), (some (402, false))⟩,
.op ⟨(some 406), (.pure (.bin .sub (.tmp 404) (.tmp 405))), (some (402, false))⟩,
.op ⟨(some 407), (.pure (.mv (.tmp 49))), (some (402, false))⟩,
.op ⟨(some 408), (.pure (.bin .sub (.tmp 406) (.tmp 407))), (some (402, false))⟩,
.op ⟨(some 409), (.pure (.bin .neq (.tmp 403) (.tmp 408))), (some (402, false))⟩, o_p 410 (.pick (.tmp 402) (.const (.bool true)) (.tmp 409)), o_m 411 410,
.split 411,
.op ⟨(some 412), (.pure (.mv (.tmp 20))), (some (411, false))⟩,
.op ⟨(some 413), (.pure (.bin .lss (.tmp 412) (.const (.int .i64 (0))))), (some (411, false))⟩, o_p 414 (.pick (.tmp 411) (.const (.bool true)) (.tmp 413)), o_m 415 414,
.split 415,
.op ⟨(some 416), (.pure (.mv (.tmp 12))), (some (415, false))⟩,
.op ⟨(some 417), (.pure (.len (.tmp 416))), (some (415, false))⟩,
.op ⟨(some 418), (.pure (.bin .eql (.tmp 417) (.const (.int .i64 (0))))), (some (415, false))⟩, o_p 419 (.pick (.tmp 415) (.const (.bool true)) (.tmp 418)), o_m 420 419,
.split 420,
.op ⟨(some 421), (.pure (.mv (.tmp 12))), (some (420, false))⟩,
.op ⟨(some 422), (.pure (.idx 1 (.tmp 421) (.const (.int .i64 (0))))), (some (420, false))⟩,
.op ⟨(some 423), (.load none (.tmp 422)), (some (420, false))⟩,
.op ⟨(some 424), (.pure (.mv (.tmp 7))), (some (420, false))⟩,
.op ⟨(some 425), (.pure (.bin .neq (.tmp 423) (.tmp 424))), (some (420, false))⟩, o_p 426 (.pick (.tmp 420) (.const (.bool true)) (.tmp 425)), o_m 427 426,
.split 427,
.op ⟨(some 428), (.pure (.mv (.tmp 12))), (some (427, false))⟩,
.op ⟨(some 429), (.pure (.mv (.tmp 12))), (some (427, false))⟩,
.op ⟨(some 430), (.pure (.len (.tmp 429))), (some (427, false))⟩,
.op ⟨(some 431), (.pure (.bin .sub (.tmp 430) (.const (.int .i64 (1))))), (some (427, false))⟩,
.op ⟨(some 432), (.pure (.idx 1 (.tmp 428) (.tmp 431))), (some (427, false))⟩,
.op ⟨(some 433), (.load none (.tmp 432)), (some (427, false))⟩,
.op ⟨(some 434), (.pure (.mv (.tmp 8))), (some (427, false))⟩,
.op ⟨(some 435), (.pure (.bin .neq (.tmp 433) (.tmp 434))), (some (427, false))⟩, o_p 436 (.pick (.tmp 427) (.const (.bool true)) (.tmp 435))])
(.cond (.tmp 436)
(.seq (.ops [ o_p 4 (.mv (.const (.bool false)))])
(.ret))
(.skip)))
(.seq (.ops [ o_p 57 (.mv (.const (.int .i64 (0))))])
(.seq (.seq (.ops [ o_p 58 (.mv (.const (.int .i64 (1))))])
(.block 2 (.loop (.seq (.seq (.ops [ o_m 437 58, o_m 438 12, o_p 439 (.len (.tmp 438)), o_p 440 (.bin .lss (.tmp 437) (.tmp 439))])
(.cond (.tmp 440)
(.skip)
(.exit 2)))
(.seq (.block 3 (.seq (.draw false
(.take (t_m 445 12)
(.take (t_m 446 58)
(.take (t_p 447 (.bin .sub (.tmp 446) (.const (.int .i64 (1)))))
(.take (t_p 448 (.idx 1 (.tmp 445) (.tmp 447)))
(.take (t_m 450 12)
(.take (t_m 451 58)
(.take (t_p 452 (.idx 1 (.tmp 450) (.tmp 451)))
(.only false ⟨(some 444), (.load (some 2) (.tmp 5)), none⟩
(.only false (t_l 449 448)
(.only false (t_l 453 452)
(.only true (t_e 454 (.call 20 [(.tmp 444), (.tmp 449), (.tmp 453)]))
(.take (t_m 443 454)
(.take (t_p 455 (.ext 0 (.tmp 443)))
(.take (t_p 456 (.ext 1 (.tmp 443)))
(.take (t_m 59 455)
(.take (t_m 60 456)
(.done))))))))))))))))))
(.seq (.seq (.ops [ o_m 457 60, o_p 458 (.bnot (.tmp 457))])
(.cond (.tmp 458)
(.seq (.ops [ o_p 4 (.mv (.const (.bool false)))])
(.ret))
(.skip)))
(.ops [ o_m 459 57, o_p 460 (.fieldAddr 1 (.tmp 5)), o_l 461 460, o_m 462 59, o_p 463 (.idx 3 (.tmp 461) (.tmp 462)), o_p 464 (.fieldAddr 2 (.tmp 463)), o_l 465 464, o_p 466 (.bin .add (.tmp 459) (.tmp 465)), o_m 57 466]))))
(.ops [ o_m 441 58, o_p 442 (.bin .add (.tmp 441) (.const (.int .i64 (1)))), o_m 58 442]))))))
(.seq (.ops [ o_m 467 16, o_m 468 9, o_m 469 57, o_p 470 (.bin .add (.tmp 468) (.tmp 469)), o_m 471 55, o_e 472 (.call 34 [(.tmp 471)]), o_p 473 (.bin .add (.tmp 470) (.tmp 472)), o_p 474 (.bin .eql (.tmp 467) (.tmp 473)), o_m 4 474])
(.ret)))))))))))))))))))))))))))),
[.tmp 4]⟩
theorem r_laws_FnFirstArrivals : resFun Try.prog f_laws_FnFirstArrivals = some c_laws_FnFirstArrivals := by kernel_rfl

/- loop.example/g00940/spec.DrawWaitsAlong -/
/- loop.example/g00940/impl.WaitsAlong -/
abbrev f_impl_WaitsAlong : Nat := 6
def c_impl_WaitsAlong : MFun := ⟨72, .seq (.ops [ o_e 4 (.box 26 (.tmp 0)), o_p 8 (.mv (.const (.slice none 0 0))), o_p 9 (.mv (.const (.bool false)))])
(.seq (.seq (.ops [
.op ⟨(some 14), (.load (some 2) (.tmp 4)), none⟩, o_e 15 (.call 36 [(.tmp 14)]), o_p 16 (.bnot (.tmp 15)), o_m 17 16,
.split 17,
.op ⟨(some 18), (.load (some 2) (.tmp 4)), (some (17, false))⟩,
.op ⟨(some 19), (.pure (.mv (.tmp 1))), (some (17, false))⟩,
.op ⟨(some 20), (.eff (.call 37 [(.tmp 18), (.tmp 19)])), (some (17, false))⟩,
.op ⟨(some 21), (.pure (.bnot (.tmp 20))), (some (17, false))⟩, o_p 22 (.pick (.tmp 17) (.const (.bool true)) (.tmp 21)), o_m 23 22,
.split 23,
.op ⟨(some 24), (.pure (.mv (.tmp 3))), (some (23, false))⟩,
.op ⟨(some 25), (.eff (.call 38 [(.tmp 24), (.const (.int .i64 (0))), (.const (.int .i64 (10000)))])), (some (23, false))⟩,
.op ⟨(some 26), (.pure (.bnot (.tmp 25))), (some (23, false))⟩, o_p 27 (.pick (.tmp 23) (.const (.bool true)) (.tmp 26)), o_m 28 27,
.split 28,
.op ⟨(some 29), (.load (some 2) (.tmp 4)), (some (28, false))⟩,
.op ⟨(some 30), (.pure (.mv (.tmp 2))), (some (28, false))⟩,
.op ⟨(some 31), (.eff (.call 39 [(.tmp 29), (.tmp 30)])), (some (28, false))⟩,
.op ⟨(some 32), (.pure (.bnot (.tmp 31))), (some (28, false))⟩, o_p 33 (.pick (.tmp 28) (.const (.bool true)) (.tmp 32))])
(.cond (.tmp 33)
(.seq (.ops [ o_p 8 (.mv (.const (.slice none 0 0))), o_p 9 (.mv (.const (.bool false)))])
(.ret))
(.skip)))
(.seq (.ops [ o_p 10 (.mv (.const (.slice none 0 0)))])
(.seq (.seq (.ops [ o_m 34 2, o_p 35 (.len (.tmp 34)), o_p 36 (.bin .sub (.tmp 35) (.const (.int .i64 (1)))), o_p 37 (.mv (.const (.int .i64 (0))))])
(.block 0 (.loop (.seq (.ops [ o_p 38 (.bin .lss (.tmp 37) (.tmp 36))])
(.seq (.cond (.tmp 38)
(.skip)
(.exit 0))
(.seq (.block 1 (.seq (.ops [ o_m 39 37, o_m 11 39])
(.seq (.draw false
(.take (t_m 41 2)
(.take (t_m 42 11)
(.take (t_p 43 (.idx 1 (.tmp 41) (.tmp 42)))
(.take (t_m 45 2)
(.take (t_m 46 11)
(.take (t_p 47 (.bin .add (.tmp 46) (.const (.int .i64 (1)))))
(.take (t_p 48 (.idx 1 (.tmp 45) (.tmp 47)))
(.only false ⟨(some 40), (.load (some 2) (.tmp 4)), none⟩
(.only false (t_l 44 43)
(.only false (t_l 49 48)
(.only true (t_e 50 (.call 40 [(.tmp 40), (.tmp 44), (.tmp 49)]))
(.take (t_m 12 50)
(.done))))))))))))))
(.seq (.ops [
.op ⟨(some 51), (.load (some 2) (.tmp 4)), none⟩, o_m 52 1, o_m 53 12, o_m 54 3, o_e 55 (.call 41 [(.tmp 51), (.tmp 52), (.tmp 53), (.tmp 54)]), o_m 13 55])
(.seq (.ops [ o_m 56 10, o_m 57 13, o_m 58 3, o_p 59 (.bin .sub (.tmp 57) (.tmp 58)), o_p 60 (.fieldAddr 1 (.tmp 4)), o_l 61 60, o_m 62 12, o_p 63 (.idx 3 (.tmp 61) (.tmp 62)), o_p 64 (.fieldAddr 2 (.tmp 63)), o_l 65 64, o_p 66 (.bin .sub (.tmp 59) (.tmp 65)), o_e 67 (.row 3 1 [(.int .i64 (0))] [(0, 1, (.tmp 66))]), o_e 68 (.app 3 1 8 (.tmp 56) (.tmp 67)), o_m 10 68])
(.ops [ o_m 69 13, o_m 3 69]))))))
(.ops [ o_p 70 (.bin .add (.tmp 37) (.const (.int .i64 (1)))), o_m 37 70])))))))
(.seq (.ops [ o_m 71 10, o_m 8 71, o_p 9 (.mv (.const (.bool true)))])
(.ret))))),
[.tmp 8, .tmp 9]⟩
theorem r_impl_WaitsAlong : resFun Try.prog f_impl_WaitsAlong = some c_impl_WaitsAlong := by kernel_rfl
end Go.Proofs.Ytgbaonaopkdlpaa

