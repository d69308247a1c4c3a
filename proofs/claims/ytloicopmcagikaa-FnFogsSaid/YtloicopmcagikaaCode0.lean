/- The code of this seat's functions, resolved, written by a program of mine; each is held against the given program by the kernel. Condition: none. -/
import Derived.Test.YtloicopmcagikaaProg
import Derived.Test.YtloicopmcagikaaBase9
import Derived.KernelRfl
namespace Go.Proofs.Ytloicopmcagikaa
open Go.Vc

/- loop.example/g00940/laws.FnClearTimes -/
/- loop.example/g00940/laws.FnFogs -/
abbrev f_laws_FnFogs : Nat := 4
def c_laws_FnFogs : MFun := ⟨372, .seq (.ops [ o_p 4 (.mv (.const (.bool false)))])
(.seq (.seq (.ops [ o_m 51 0, o_m 52 1, o_e 53 (.call 5 [(.tmp 51), (.tmp 52)])])
(.cond (.tmp 53)
(.seq (.ops [ o_p 4 (.mv (.const (.bool true)))])
(.ret))
(.skip)))
(.seq (.ops [ o_m 55 0, o_e 56 (.call 25 [(.tmp 55)]), o_m 54 56, o_p 57 (.ext 0 (.tmp 54)), o_p 58 (.ext 1 (.tmp 54)), o_p 59 (.ext 2 (.tmp 54)), o_p 60 (.ext 3 (.tmp 54)), o_p 61 (.ext 4 (.tmp 54)), o_e 5 (.new 27 [(.slice none 0 0), (.slice none 0 0)]),
.op ⟨none, (.eff (.store 2 (.tmp 5) (.tmp 57))), none⟩, o_m 6 58, o_m 7 59, o_m 8 60, o_m 9 61])
(.seq (.ops [
.op ⟨(some 63), (.load (some 2) (.tmp 5)), none⟩, o_m 64 6, o_m 65 7, o_m 66 8, o_m 67 9, o_e 68 (.call 26 [(.tmp 63), (.tmp 64), (.tmp 65), (.tmp 66), (.tmp 67)]), o_m 62 68, o_p 69 (.ext 0 (.tmp 62)), o_p 70 (.ext 1 (.tmp 62)), o_m 10 69, o_m 11 70])
(.seq (.ops [
.op ⟨(some 72), (.load (some 2) (.tmp 5)), none⟩, o_m 73 6, o_m 74 7, o_m 75 8, o_m 76 9, o_e 77 (.call 27 [(.tmp 72), (.tmp 73), (.tmp 74), (.tmp 75), (.tmp 76)]), o_m 71 77, o_p 78 (.ext 0 (.tmp 71)), o_p 79 (.ext 1 (.tmp 71)), o_m 12 78, o_m 13 79])
(.seq (.ops [
.op ⟨(some 81), (.load (some 2) (.tmp 5)), none⟩, o_m 82 6, o_m 83 7, o_m 84 8, o_m 85 9, o_e 86 (.call 9 [(.tmp 81), (.tmp 82), (.tmp 83), (.tmp 84), (.tmp 85)]), o_m 80 86, o_p 87 (.ext 0 (.tmp 80)), o_p 88 (.ext 1 (.tmp 80)), o_m 14 87, o_m 15 88])
(.seq (.ops [
.op ⟨(some 90), (.load (some 2) (.tmp 5)), none⟩, o_m 91 6, o_m 92 7, o_m 93 8, o_m 94 9, o_e 95 (.call 28 [(.tmp 90), (.tmp 91), (.tmp 92), (.tmp 93), (.tmp 94)]), o_m 89 95, o_p 96 (.ext 0 (.tmp 89)), o_p 97 (.ext 1 (.tmp 89)), o_m 16 96, o_m 17 97])
(.seq (.seq (.ops [ o_m 98 11, o_m 99 13, o_p 100 (.eqb true (.tmp 98) (.tmp 99)), o_m 101 100,
.split 101,
.op ⟨(some 102), (.pure (.mv (.tmp 10))), (some (101, false))⟩,
.op ⟨(some 103), (.pure (.mv (.tmp 12))), (some (101, false))⟩,
.op ⟨(some 104), (.eff (.call 29 [(.tmp 102), (.tmp 103)])), (some (101, false))⟩,
.op ⟨(some 105), (.pure (.bnot (.tmp 104))), (some (101, false))⟩, o_p 106 (.pick (.tmp 101) (.const (.bool true)) (.tmp 105)), o_m 107 106,
.split 107,
.op ⟨(some 108), (.pure (.mv (.tmp 15))), (some (107, false))⟩,
.op ⟨(some 109), (.pure (.mv (.tmp 17))), (some (107, false))⟩,
.op ⟨(some 110), (.pure (.eqb true (.tmp 108) (.tmp 109))), (some (107, false))⟩, o_p 111 (.pick (.tmp 107) (.const (.bool true)) (.tmp 110)), o_m 112 111,
.split 112,
.op ⟨(some 113), (.pure (.mv (.tmp 14))), (some (112, false))⟩,
.op ⟨(some 114), (.pure (.mv (.tmp 16))), (some (112, false))⟩,
.op ⟨(some 115), (.pure (.bin .neq (.tmp 113) (.tmp 114))), (some (112, false))⟩, o_p 116 (.pick (.tmp 112) (.const (.bool true)) (.tmp 115)), o_m 117 116,
.split 117,
.op ⟨(some 118), (.pure (.mv (.tmp 15))), (some (117, false))⟩,
.op ⟨(some 119), (.pure (.mv (.tmp 11))), (some (117, false))⟩,
.op ⟨(some 120), (.pure (.eqb true (.tmp 118) (.tmp 119))), (some (117, false))⟩, o_p 121 (.pick (.tmp 117) (.const (.bool true)) (.tmp 120))])
(.cond (.tmp 121)
(.seq (.ops [ o_p 4 (.mv (.const (.bool false)))])
(.ret))
(.skip)))
(.seq (.seq (.ops [ o_m 122 11])
(.cond (.tmp 122)
(.seq (.ops [ o_m 123 8, o_p 124 (.bin .sub (.tmp 123) (.const (.int .i64 (1)))), o_p 18 (.mv (.const (.int .i64 (0)))), o_m 19 124])
(.seq (.seq (.ops [ o_m 125 12, o_p 126 (.len (.tmp 125)), o_p 127 (.mv (.const (.int .i64 (0))))])
(.block 0 (.loop (.seq (.ops [ o_p 128 (.bin .lss (.tmp 127) (.tmp 126))])
(.seq (.cond (.tmp 128)
(.skip)
(.exit 0))
(.seq (.block 1 (.seq (.ops [ o_p 129 (.idx 1 (.tmp 125) (.tmp 127)), o_l 130 129, o_m 21 130])
(.seq (.draw false
(.take (t_m 133 6)
(.take (t_m 134 7)
(.take (t_m 135 21)
(.take (t_p 136 (.idx 1 (.tmp 135) (.const (.int .i64 (0)))))
(.only false ⟨(some 132), (.load (some 2) (.tmp 5)), none⟩
(.only false (t_l 137 136)
(.only true (t_e 138 (.call 17 [(.tmp 132), (.tmp 133), (.tmp 134), (.tmp 137)]))
(.take (t_m 131 138)
(.take (t_p 139 (.ext 0 (.tmp 131)))
(.take (t_p 140 (.ext 1 (.tmp 131)))
(.take (t_m 22 139)
(.take (t_m 23 140)
(.done))))))))))))))
(.seq (.draw false
(.take (t_m 143 6)
(.take (t_m 144 7)
(.take (t_m 145 21)
(.take (t_p 146 (.idx 1 (.tmp 145) (.const (.int .i64 (1)))))
(.only false ⟨(some 142), (.load (some 2) (.tmp 5)), none⟩
(.only false (t_l 147 146)
(.take (t_p 148 (.bin .sub (.tmp 147) (.const (.int .i64 (1)))))
(.only true (t_e 149 (.call 17 [(.tmp 142), (.tmp 143), (.tmp 144), (.tmp 148)]))
(.take (t_m 141 149)
(.take (t_p 150 (.ext 0 (.tmp 141)))
(.take (t_p 151 (.ext 1 (.tmp 141)))
(.take (t_m 24 150)
(.take (t_m 25 151)
(.done)))))))))))))))
(.seq (.seq (.ops [ o_m 152 23, o_p 153 (.bnot (.tmp 152)), o_m 154 153,
.split 154,
.op ⟨(some 155), (.pure (.mv (.tmp 22))), (some (154, false))⟩,
.op ⟨(some 156), (.pure (.bnot (.tmp 155))), (some (154, false))⟩, o_p 157 (.pick (.tmp 154) (.const (.bool true)) (.tmp 156)), o_m 158 157,
.split 158,
.op ⟨(some 159), (.pure (.mv (.tmp 25))), (some (158, false))⟩,
.op ⟨(some 160), (.pure (.bnot (.tmp 159))), (some (158, false))⟩, o_p 161 (.pick (.tmp 158) (.const (.bool true)) (.tmp 160)), o_m 162 161,
.split 162,
.op ⟨(some 163), (.pure (.mv (.tmp 24))), (some (162, false))⟩,
.op ⟨(some 164), (.pure (.bnot (.tmp 163))), (some (162, false))⟩, o_p 165 (.pick (.tmp 162) (.const (.bool true)) (.tmp 164)), o_m 166 165,
.split 166,
.op ⟨(some 167), (.pure (.mv (.tmp 21))), (some (166, false))⟩,
.op ⟨(some 168), (.pure (.idx 1 (.tmp 167) (.const (.int .i64 (0))))), (some (166, false))⟩,
.op ⟨(some 170), (.pure (.mv (.tmp 19))), (some (166, false))⟩,
.op ⟨(some 169), (.load none (.tmp 168)), (some (166, false))⟩,
.op ⟨(some 171), (.pure (.bin .leq (.tmp 169) (.tmp 170))), (some (166, false))⟩, o_p 172 (.pick (.tmp 166) (.const (.bool true)) (.tmp 171)), o_m 173 172,
.split 173,
.op ⟨(some 174), (.pure (.mv (.tmp 21))), (some (173, false))⟩,
.op ⟨(some 175), (.pure (.idx 1 (.tmp 174) (.const (.int .i64 (0))))), (some (173, false))⟩,
.op ⟨(some 177), (.pure (.mv (.tmp 21))), (some (173, false))⟩,
.op ⟨(some 178), (.pure (.idx 1 (.tmp 177) (.const (.int .i64 (1))))), (some (173, false))⟩,
.op ⟨(some 176), (.load none (.tmp 175)), (some (173, false))⟩,
.op ⟨(some 179), (.load none (.tmp 178)), (some (173, false))⟩,
.op ⟨(some 180), (.pure (.bin .geq (.tmp 176) (.tmp 179))), (some (173, false))⟩, o_p 181 (.pick (.tmp 173) (.const (.bool true)) (.tmp 180)), o_m 182 181,
.split 182,
.op ⟨(some 183), (.pure (.mv (.tmp 21))), (some (182, false))⟩,
.op ⟨(some 184), (.pure (.idx 1 (.tmp 183) (.const (.int .i64 (1))))), (some (182, false))⟩,
.op ⟨(some 186), (.pure (.mv (.tmp 9))), (some (182, false))⟩,
.op ⟨(some 185), (.load none (.tmp 184)), (some (182, false))⟩,
.op ⟨(some 187), (.pure (.bin .gtr (.tmp 185) (.tmp 186))), (some (182, false))⟩, o_p 188 (.pick (.tmp 182) (.const (.bool true)) (.tmp 187))])
(.cond (.tmp 188)
(.seq (.ops [ o_p 4 (.mv (.const (.bool false)))])
(.ret))
(.skip)))
(.seq (.ops [ o_m 189 18, o_m 190 21, o_p 191 (.idx 1 (.tmp 190) (.const (.int .i64 (1)))), o_m 193 21, o_p 194 (.idx 1 (.tmp 193) (.const (.int .i64 (0)))), o_l 192 191, o_l 195 194, o_p 196 (.bin .sub (.tmp 192) (.tmp 195)), o_p 197 (.bin .add (.tmp 189) (.tmp 196)), o_m 18 197])
(.ops [ o_m 198 21, o_p 199 (.idx 1 (.tmp 198) (.const (.int .i64 (1)))), o_l 200 199, o_m 19 200])))))))
(.ops [ o_p 201 (.bin .add (.tmp 127) (.const (.int .i64 (1)))), o_m 127 201])))))))
(.seq (.ops [ o_m 202 18, o_m 203 16, o_p 204 (.bin .add (.tmp 202) (.tmp 203)), o_m 205 9, o_m 206 8, o_p 207 (.bin .sub (.tmp 205) (.tmp 206)), o_p 208 (.bin .neq (.tmp 204) (.tmp 207))])
(.cond (.tmp 208)
(.seq (.ops [ o_p 4 (.mv (.const (.bool false)))])
(.ret))
(.skip)))))
(.skip)))
(.seq (.ops [ o_m 210 1, o_e 211 (.call 30 [(.tmp 210)]), o_m 209 211, o_p 212 (.ext 0 (.tmp 209)), o_p 213 (.ext 1 (.tmp 209)), o_p 214 (.ext 2 (.tmp 209)), o_p 215 (.ext 3 (.tmp 209)), o_e 26 (.new 27 [(.slice none 0 0), (.slice none 0 0)]),
.op ⟨none, (.eff (.store 2 (.tmp 26) (.tmp 212))), none⟩, o_m 27 213, o_m 28 214, o_m 29 215])
(.seq (.ops [
.op ⟨(some 217), (.load (some 2) (.tmp 26)), none⟩, o_m 218 27, o_m 219 28, o_m 220 29, o_e 221 (.call 31 [(.tmp 217), (.tmp 218), (.tmp 219), (.tmp 220)]), o_m 216 221, o_p 222 (.ext 0 (.tmp 216)), o_p 223 (.ext 1 (.tmp 216)), o_m 30 222, o_m 31 223])
(.seq (.ops [
.op ⟨(some 225), (.load (some 2) (.tmp 26)), none⟩, o_m 226 27, o_m 227 28, o_m 228 29, o_e 229 (.call 32 [(.tmp 225), (.tmp 226), (.tmp 227), (.tmp 228)]), o_m 224 229, o_p 230 (.ext 0 (.tmp 224)), o_p 231 (.ext 1 (.tmp 224)), o_m 32 230, o_m 33 231])
(.seq (.ops [
.op ⟨(some 233), (.load (some 2) (.tmp 26)), none⟩, o_m 234 27, o_m 235 28, o_m 236 29, o_e 237 (.call 17 [(.tmp 233), (.tmp 234), (.tmp 235), (.tmp 236)]), o_m 232 237, o_p 238 (.ext 0 (.tmp 232)), o_p 239 (.ext 1 (.tmp 232)), o_m 34 238, o_m 35 239])
(.seq (.ops [
.op ⟨(some 241), (.load (some 2) (.tmp 26)), none⟩, o_m 242 27, o_m 243 28, o_m 244 29, o_e 245 (.call 33 [(.tmp 241), (.tmp 242), (.tmp 243), (.tmp 244)]), o_m 240 245, o_p 246 (.ext 0 (.tmp 240)), o_p 247 (.ext 1 (.tmp 240)), o_m 36 246, o_m 37 247])
(.seq (.seq (.ops [ o_m 248 31, o_m 249 33, o_p 250 (.eqb true (.tmp 248) (.tmp 249)), o_m 251 250,
.split 251,
.op ⟨(some 252), (.pure (.mv (.tmp 30))), (some (251, false))⟩,
.op ⟨(some 253), (.pure (.mv (.tmp 32))), (some (251, false))⟩,
.op ⟨(some 254), (.pure (.bin .neq (.tmp 252) (.tmp 253))), (some (251, false))⟩, o_p 255 (.pick (.tmp 251) (.const (.bool true)) (.tmp 254)), o_m 256 255,
.split 256,
.op ⟨(some 257), (.pure (.mv (.tmp 35))), (some (256, false))⟩,
.op ⟨(some 258), (.pure (.mv (.tmp 37))), (some (256, false))⟩,
.op ⟨(some 259), (.pure (.eqb true (.tmp 257) (.tmp 258))), (some (256, false))⟩, o_p 260 (.pick (.tmp 256) (.const (.bool true)) (.tmp 259)), o_m 261 260,
.split 261,
.op ⟨(some 262), (.pure (.mv (.tmp 34))), (some (261, false))⟩,
.op ⟨(some 263), (.pure (.mv (.tmp 36))), (some (261, false))⟩,
.op ⟨(some 264), (.pure (.eqb true (.tmp 262) (.tmp 263))), (some (261, false))⟩, o_p 265 (.pick (.tmp 261) (.const (.bool true)) (.tmp 264)), o_m 266 265,
.split 266,
.op ⟨(some 267), (.pure (.mv (.tmp 31))), (some (266, false))⟩,
.op ⟨(some 268), (.pure (.mv (.tmp 35))), (some (266, false))⟩,
.op ⟨(some 269), (.pure (.eqb true (.tmp 267) (.tmp 268))), (some (266, false))⟩, o_p 270 (.pick (.tmp 266) (.const (.bool true)) (.tmp 269)), o_m 271 270,
.split 271,
.op ⟨(some 272), (.pure (.mv (.tmp 31))), (some (271, false))⟩,
.op ⟨(some 273), (.pure (.mv (.tmp 272))), (some (271, false))⟩,
.split 273,
.op ⟨(some 274), (.pure (.mv (.tmp 32))), (some (273, true))⟩,
.op ⟨(some 275), (.pure (.mv (.tmp 29))), (some (273, true))⟩,
.op ⟨(some 276), (.pure (.bin .lss (.tmp 274) (.tmp 275))), (some (273, true))⟩,
.op ⟨(some 277), (.pure (.mv (.tmp 276))), (some (273, true))⟩,
.split 277,
.op ⟨(some 278), (.pure (.mv (.tmp 36))), (some (277, false))⟩,
.op ⟨(some 279), (.pure (.mv (.tmp 32))), (some (277, false))⟩,
.op ⟨(some 280), (.pure (.mv (.tmp 29))), (some (277, false))⟩,
.op ⟨(some 281), (.pure (.bin .eql (.tmp 279) (.tmp 280))), (some (277, false))⟩,
.op ⟨(some 282), (.pure (.eqb true (.tmp 278) (.tmp 281))), (some (277, false))⟩,
.op ⟨(some 283), (.pure (.pick (.tmp 277) (.const (.bool true)) (.tmp 282))), (some (273, true))⟩,
.op ⟨(some 284), (.pure (.pick (.tmp 273) (.tmp 283) (.const (.bool false)))), (some (271, false))⟩, o_p 285 (.pick (.tmp 271) (.const (.bool true)) (.tmp 284))])
(.cond (.tmp 285)
(.seq (.ops [ o_p 4 (.mv (.const (.bool false)))])
(.ret))
(.skip)))
(.seq (.seq (.ops [ o_m 286 31, o_m 287 286,
.split 287,
.op ⟨(some 288), (.pure (.mv (.tmp 32))), (some (287, true))⟩,
.op ⟨(some 289), (.pure (.bin .leq (.tmp 288) (.const (.int .i64 (10000))))), (some (287, true))⟩, o_p 290 (.pick (.tmp 287) (.tmp 289) (.const (.bool false)))])
(.cond (.tmp 290)
(.seq (.ops [
.op ⟨(some 292), (.load (some 2) (.tmp 26)), none⟩, o_m 293 27, o_m 294 28, o_m 295 32, o_e 296 (.call 17 [(.tmp 292), (.tmp 293), (.tmp 294), (.tmp 295)]), o_m 291 296, o_p 297 (.ext 0 (.tmp 291)), o_p 298 (.ext 1 (.tmp 291)), o_m 38 297, o_m 39 298])
(.seq (.ops [ o_m 299 39, o_p 300 (.bnot (.tmp 299)), o_m 301 300,
.split 301,
.op ⟨(some 302), (.pure (.mv (.tmp 38))), (some (301, false))⟩,
.op ⟨(some 303), (.pure (.bnot (.tmp 302))), (some (301, false))⟩, o_p 304 (.pick (.tmp 301) (.const (.bool true)) (.tmp 303))])
(.cond (.tmp 304)
(.seq (.ops [ o_p 4 (.mv (.const (.bool false)))])
(.ret))
(.skip))))
(.skip)))
(.seq (.ops [ o_m 306 1, o_e 307 (.call 34 [(.tmp 306)]), o_m 305 307, o_p 308 (.ext 0 (.tmp 305)), o_p 309 (.ext 1 (.tmp 305)), o_p 310 (.ext 2 (.tmp 305)), o_e 40 (.new 27 [(.slice none 0 0), (.slice none 0 0)]), o_e 42 (.new 57 [(.int .i64 (0)), (.int .i64 (0)), (.int .i64 (0))]),
.op ⟨none, (.eff (.store 2 (.tmp 40) (.tmp 308))), none⟩, o_m 41 309,
.op ⟨none, (.eff (.store 3 (.tmp 42) (.tmp 310))), none⟩])
(.seq (.ops [
.op ⟨(some 312), (.load (some 2) (.tmp 40)), none⟩, o_m 313 41,
.op ⟨(some 314), (.load (some 3) (.tmp 42)), none⟩, o_e 315 (.call 35 [(.tmp 312), (.tmp 313), (.tmp 314)]), o_m 311 315, o_p 316 (.ext 0 (.tmp 311)), o_p 317 (.ext 1 (.tmp 311)), o_m 43 316, o_m 44 317])
(.seq (.ops [
.op ⟨(some 319), (.load (some 2) (.tmp 40)), none⟩, o_m 320 41,
.op ⟨(some 321), (.load (some 3) (.tmp 42)), none⟩, o_e 322 (.call 36 [(.tmp 319), (.tmp 320), (.tmp 321)]), o_m 318 322, o_p 323 (.ext 0 (.tmp 318)), o_p 324 (.ext 1 (.tmp 318)), o_m 45 323, o_m 46 324])
(.seq (.seq (.ops [ o_m 325 44, o_m 326 46, o_p 327 (.eqb true (.tmp 325) (.tmp 326)), o_m 328 327,
.split 328,
.op ⟨(some 329), (.pure (.mv (.tmp 43))), (some (328, false))⟩,
.op ⟨(some 330), (.pure (.mv (.tmp 45))), (some (328, false))⟩,
.op ⟨(some 331), (.eff (.call 37 [(.tmp 329), (.tmp 330)])), (some (328, false))⟩,
.op ⟨(some 332), (.pure (.bnot (.tmp 331))), (some (328, false))⟩, o_p 333 (.pick (.tmp 328) (.const (.bool true)) (.tmp 332))])
(.cond (.tmp 333)
(.seq (.ops [ o_p 4 (.mv (.const (.bool false)))])
(.ret))
(.skip)))
(.seq (.seq (.ops [ o_m 334 44])
(.cond (.tmp 334)
(.seq (.ops [
.op ⟨(some 336), (.load (some 2) (.tmp 40)), none⟩, o_m 337 43, o_p 338 (.fieldAddr 0 (.tmp 42)), o_l 339 338, o_p 340 (.fieldAddr 1 (.tmp 42)), o_l 341 340, o_p 342 (.fieldAddr 2 (.tmp 42)), o_l 343 342, o_e 344 (.call 9 [(.tmp 336), (.tmp 337), (.tmp 339), (.tmp 341), (.tmp 343)]), o_m 335 344, o_p 345 (.ext 0 (.tmp 335)), o_p 346 (.ext 1 (.tmp 335)), o_m 47 345, o_m 48 346])
(.seq (.ops [
.op ⟨(some 348), (.load (some 2) (.tmp 40)), none⟩, o_m 349 43, o_e 350 (.call 23 [(.tmp 348), (.tmp 349)]), o_m 347 350, o_p 351 (.ext 0 (.tmp 347)), o_p 352 (.ext 1 (.tmp 347)), o_m 49 351, o_m 50 352])
(.seq (.ops [ o_m 353 48, o_p 354 (.bnot (.tmp 353)), o_m 355 354,
.split 355,
.op ⟨(some 356), (.pure (.mv (.tmp 47))), (some (355, false))⟩,
.op ⟨(some 357), (.pure (.fieldAddr 2 (.tmp 42))), (some (355, false))⟩,
.op ⟨(some 358), (.load none (.tmp 357)), (some (355, false))⟩,
.op ⟨(some 359), (.pure (.fieldAddr 1 (.tmp 42))), (some (355, false))⟩,
.op ⟨(some 360), (.load none (.tmp 359)), (some (355, false))⟩,
.op ⟨(some 361), (.pure (.bin .sub (.tmp 358) (.tmp 360))), (some (355, false))⟩,
.op ⟨(some 362), (.pure (.bin .neq (.tmp 356) (.tmp 361))), (some (355, false))⟩, o_p 363 (.pick (.tmp 355) (.const (.bool true)) (.tmp 362)), o_m 364 363,
.split 364,
.op ⟨(some 365), (.pure (.mv (.tmp 50))), (some (364, false))⟩,
.op ⟨(some 366), (.pure (.bnot (.tmp 365))), (some (364, false))⟩, o_p 367 (.pick (.tmp 364) (.const (.bool true)) (.tmp 366)), o_m 368 367,
.split 368,
.op ⟨(some 369), (.pure (.mv (.tmp 49))), (some (368, false))⟩,
.op ⟨(some 370), (.pure (.bnot (.tmp 369))), (some (368, false))⟩, o_p 371 (.pick (.tmp 368) (.const (.bool true)) (.tmp 370))])
(.cond (.tmp 371)
(.seq (.ops [ o_p 4 (.mv (.const (.bool false)))])
(.ret))
(.skip)))))
(.skip)))
(.seq (.ops [ o_p 4 (.mv (.const (.bool true)))])
(.ret)))))))))))))))))))))),
[.tmp 4]⟩
theorem r_laws_FnFogs : resFun Try.prog f_laws_FnFogs = some c_laws_FnFogs := by kernel_rfl

/- loop.example/g00940/laws.big -/
abbrev f_laws_big : Nat := 5
def c_laws_big : MFun := ⟨16, .seq (.ops [ o_p 4 (.mv (.const (.bool false)))])
(.seq (.ops [ o_m 5 0, o_p 6 (.len (.tmp 5)), o_p 7 (.bin .gtr (.tmp 6) (.const (.int .i64 (1048576)))), o_m 8 7,
.split 8,
.op ⟨(some 9), (.pure (.mv (.tmp 1))), (some (8, false))⟩,
.op ⟨(some 10), (.pure (.len (.tmp 9))), (some (8, false))⟩,
.op ⟨(some 11), (.pure (.mv (.tmp 0))), (some (8, false))⟩,
.op ⟨(some 12), (.pure (.len (.tmp 11))), (some (8, false))⟩,
.op ⟨(some 13), (.pure (.bin .sub (.const (.int .i64 (1048576))) (.tmp 12))), (some (8, false))⟩,
.op ⟨(some 14), (.pure (.bin .gtr (.tmp 10) (.tmp 13))), (some (8, false))⟩, o_p 15 (.pick (.tmp 8) (.const (.bool true)) (.tmp 14)), o_m 4 15])
(.ret)),
[.tmp 4]⟩
theorem r_laws_big : resFun Try.prog f_laws_big = some c_laws_big := by kernel_rfl

/- loop.example/g00940/spec.DrawEarliestStart -/
/- loop.example/g00940/impl.EarliestStart -/
/- loop.example/g00940/spec.EarliestStart -/
/- loop.example/g00940/impl.FogSeconds -/
abbrev f_impl_FogSeconds : Nat := 9
def c_impl_FogSeconds : MFun := ⟨46, .seq (.ops [ o_e 5 (.box 27 (.tmp 0)), o_p 10 (.mv (.const (.int .i64 (0)))), o_p 11 (.mv (.const (.bool false)))])
(.seq (.seq (.ops [
.op ⟨(some 15), (.load (some 2) (.tmp 5)), none⟩, o_m 16 1, o_m 17 2, o_m 18 3, o_m 19 4, o_e 20 (.call 42 [(.tmp 15), (.tmp 16), (.tmp 17), (.tmp 18), (.tmp 19)]), o_p 21 (.bnot (.tmp 20))])
(.cond (.tmp 21)
(.seq (.ops [ o_p 10 (.mv (.const (.int .i64 (0)))), o_p 11 (.mv (.const (.bool false)))])
(.ret))
(.skip)))
(.seq (.ops [ o_p 12 (.mv (.const (.int .i64 (0))))])
(.seq (.seq (.ops [ o_m 22 1, o_p 23 (.len (.tmp 22)), o_p 24 (.mv (.const (.int .i64 (0))))])
(.block 0 (.loop (.seq (.ops [ o_p 25 (.bin .lss (.tmp 24) (.tmp 23))])
(.seq (.cond (.tmp 25)
(.skip)
(.exit 0))
(.seq (.block 1 (.seq (.ops [ o_p 26 (.idx 3 (.tmp 22) (.tmp 24)),
.op ⟨(some 27), (.load (some 3) (.tmp 26)), none⟩, o_e 14 (.new 57 [(.int .i64 (0)), (.int .i64 (0)), (.int .i64 (0))]),
.op ⟨none, (.eff (.store 3 (.tmp 14) (.tmp 27))), none⟩])
(.seq (.ops [ o_p 28 (.fieldAddr 0 (.tmp 14)), o_l 29 28, o_m 30 2, o_p 31 (.bin .eql (.tmp 29) (.tmp 30))])
(.cond (.tmp 31)
(.ops [ o_m 32 12, o_p 33 (.fieldAddr 2 (.tmp 14)), o_l 34 33, o_m 35 4, o_p 36 (.min2 (.tmp 34) (.tmp 35)), o_p 37 (.fieldAddr 1 (.tmp 14)), o_l 38 37, o_m 39 3, o_p 40 (.max2 (.tmp 38) (.tmp 39)), o_p 41 (.bin .sub (.tmp 36) (.tmp 40)), o_p 42 (.max2 (.const (.int .i64 (0))) (.tmp 41)), o_p 43 (.bin .add (.tmp 32) (.tmp 42)), o_m 12 43])
(.skip)))))
(.ops [ o_p 44 (.bin .add (.tmp 24) (.const (.int .i64 (1)))), o_m 24 44])))))))
(.seq (.ops [ o_m 45 12, o_m 10 45, o_p 11 (.mv (.const (.bool true)))])
(.ret))))),
[.tmp 10, .tmp 11]⟩
theorem r_impl_FogSeconds : resFun Try.prog f_impl_FogSeconds = some c_impl_FogSeconds := by kernel_rfl

/- loop.example/g00940/spec.DrawFoggyLinks -/
end Go.Proofs.Ytloicopmcagikaa

