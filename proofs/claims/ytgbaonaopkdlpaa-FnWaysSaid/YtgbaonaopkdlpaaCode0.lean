/- The code of this seat's functions, resolved, written by a program of mine; each is held against the given program by the kernel. Condition: none. -/
import Derived.Test.YtgbaonaopkdlpaaProg
import Derived.Test.YtgbaonaopkdlpaaBase9
import Derived.KernelRfl
namespace Go.Proofs.Ytgbaonaopkdlpaa
open Go.Vc

/- loop.example/g00940/laws.FnWays -/
abbrev f_laws_FnWays : Nat := 3
def c_laws_FnWays : MFun := ⟨362, .seq (.ops [ o_p 4 (.mv (.const (.bool false)))])
(.seq (.seq (.ops [ o_m 49 0, o_p 50 (.len (.tmp 49)), o_m 51 1, o_p 52 (.len (.tmp 51)), o_p 53 (.bin .add (.tmp 50) (.tmp 52)), o_p 54 (.bin .gtr (.tmp 53) (.const (.int .i64 (1048576))))])
(.cond (.tmp 54)
(.seq (.ops [ o_p 4 (.mv (.const (.bool true)))])
(.ret))
(.skip)))
(.seq (.ops [ o_m 56 0, o_e 57 (.call 5 [(.tmp 56)]), o_m 55 57, o_p 58 (.ext 0 (.tmp 55)), o_p 59 (.ext 1 (.tmp 55)), o_p 60 (.ext 2 (.tmp 55)), o_p 61 (.ext 3 (.tmp 55)), o_e 5 (.new 26 [(.slice none 0 0), (.slice none 0 0)]),
.op ⟨none, (.eff (.store 2 (.tmp 5) (.tmp 58))), none⟩, o_m 6 59, o_m 7 60, o_m 8 61])
(.seq (.ops [
.op ⟨(some 63), (.load (some 2) (.tmp 5)), none⟩, o_m 64 6, o_m 65 7, o_m 66 8, o_e 67 (.call 6 [(.tmp 63), (.tmp 64), (.tmp 65), (.tmp 66)]), o_m 62 67, o_p 68 (.ext 0 (.tmp 62)), o_p 69 (.ext 1 (.tmp 62)), o_m 9 68, o_m 10 69])
(.seq (.ops [
.op ⟨(some 71), (.load (some 2) (.tmp 5)), none⟩, o_m 72 6, o_m 73 7, o_m 74 8, o_e 75 (.call 7 [(.tmp 71), (.tmp 72), (.tmp 73), (.tmp 74)]), o_m 70 75, o_p 76 (.ext 0 (.tmp 70)), o_p 77 (.ext 1 (.tmp 70)), o_m 11 76, o_m 12 77])
(.seq (.ops [
.op ⟨(some 79), (.load (some 2) (.tmp 5)), none⟩, o_m 80 6, o_m 81 7, o_m 82 8, o_e 83 (.call 8 [(.tmp 79), (.tmp 80), (.tmp 81), (.tmp 82)]), o_m 78 83, o_p 84 (.ext 0 (.tmp 78)), o_p 85 (.ext 1 (.tmp 78)), o_m 13 84, o_m 14 85])
(.seq (.ops [
.op ⟨(some 87), (.load (some 2) (.tmp 5)), none⟩, o_m 88 6, o_m 89 7, o_m 90 8, o_e 91 (.call 9 [(.tmp 87), (.tmp 88), (.tmp 89), (.tmp 90)]), o_m 86 91, o_p 92 (.ext 0 (.tmp 86)), o_p 93 (.ext 1 (.tmp 86)), o_m 15 92, o_m 16 93])
(.seq (.ops [ o_m 95 1, o_e 96 (.call 10 [(.tmp 95)]), o_m 94 96, o_p 97 (.ext 0 (.tmp 94)), o_p 98 (.ext 1 (.tmp 94)), o_p 99 (.ext 2 (.tmp 94)), o_e 17 (.new 26 [(.slice none 0 0), (.slice none 0 0)]),
.op ⟨none, (.eff (.store 2 (.tmp 17) (.tmp 97))), none⟩, o_m 18 98, o_m 19 99])
(.seq (.ops [
.op ⟨(some 101), (.load (some 2) (.tmp 17)), none⟩, o_m 102 18, o_m 103 19, o_e 104 (.call 11 [(.tmp 101), (.tmp 102), (.tmp 103)]), o_m 100 104, o_p 105 (.ext 0 (.tmp 100)), o_p 106 (.ext 1 (.tmp 100)), o_m 20 105, o_m 21 106])
(.seq (.ops [
.op ⟨(some 108), (.load (some 2) (.tmp 17)), none⟩, o_m 109 18, o_m 110 19, o_e 111 (.call 12 [(.tmp 108), (.tmp 109), (.tmp 110)]), o_m 107 111, o_p 112 (.ext 0 (.tmp 107)), o_p 113 (.ext 1 (.tmp 107)), o_m 22 112, o_m 23 113])
(.seq (.ops [
.op ⟨(some 115), (.load (some 2) (.tmp 17)), none⟩, o_m 116 18, o_m 117 19, o_e 118 (.call 13 [(.tmp 115), (.tmp 116), (.tmp 117)]), o_m 114 118, o_p 119 (.ext 0 (.tmp 114)), o_p 120 (.ext 1 (.tmp 114)), o_m 24 119, o_m 25 120])
(.seq (.ops [
.op ⟨(some 122), (.load (some 2) (.tmp 17)), none⟩, o_m 123 18, o_m 124 19, o_e 125 (.call 14 [(.tmp 122), (.tmp 123), (.tmp 124)]), o_m 121 125, o_p 126 (.ext 0 (.tmp 121)), o_p 127 (.ext 1 (.tmp 121)), o_m 26 126, o_m 27 127])
(.seq (.ops [ o_m 129 1, o_e 130 (.call 15 [(.tmp 129)]), o_m 128 130, o_p 131 (.ext 0 (.tmp 128)), o_p 132 (.ext 1 (.tmp 128)), o_p 133 (.ext 2 (.tmp 128)), o_p 134 (.ext 3 (.tmp 128)), o_e 28 (.new 26 [(.slice none 0 0), (.slice none 0 0)]),
.op ⟨none, (.eff (.store 2 (.tmp 28) (.tmp 131))), none⟩, o_m 29 132, o_m 30 133, o_m 31 134])
(.seq (.ops [
.op ⟨(some 136), (.load (some 2) (.tmp 28)), none⟩, o_m 137 29, o_m 138 30, o_m 139 31, o_e 140 (.call 16 [(.tmp 136), (.tmp 137), (.tmp 138), (.tmp 139)]), o_m 135 140, o_p 141 (.ext 0 (.tmp 135)), o_p 142 (.ext 1 (.tmp 135)), o_m 32 141, o_m 33 142])
(.seq (.ops [
.op ⟨(some 144), (.load (some 2) (.tmp 28)), none⟩, o_m 145 29, o_m 146 30, o_m 147 31, o_e 148 (.call 17 [(.tmp 144), (.tmp 145), (.tmp 146), (.tmp 147)]), o_m 143 148, o_p 149 (.ext 0 (.tmp 143)), o_p 150 (.ext 1 (.tmp 143)), o_m 34 149, o_m 35 150])
(.seq (.seq (.ops [ o_m 151 10, o_m 152 12, o_p 153 (.eqb true (.tmp 151) (.tmp 152)), o_m 154 153,
.split 154,
.op ⟨(some 155), (.pure (.mv (.tmp 9))), (some (154, false))⟩,
.op ⟨(some 156), (.pure (.mv (.tmp 11))), (some (154, false))⟩,
.op ⟨(some 157), (.eff (.call 18 [(.tmp 155), (.tmp 156)])), (some (154, false))⟩,
.op ⟨(some 158), (.pure (.bnot (.tmp 157))), (some (154, false))⟩, o_p 159 (.pick (.tmp 154) (.const (.bool true)) (.tmp 158)), o_m 160 159,
.split 160,
.op ⟨(some 161), (.pure (.mv (.tmp 14))), (some (160, false))⟩,
.op ⟨(some 162), (.pure (.mv (.tmp 16))), (some (160, false))⟩,
.op ⟨(some 163), (.pure (.eqb true (.tmp 161) (.tmp 162))), (some (160, false))⟩, o_p 164 (.pick (.tmp 160) (.const (.bool true)) (.tmp 163)), o_m 165 164,
.split 165,
.op ⟨(some 166), (.pure (.mv (.tmp 13))), (some (165, false))⟩,
.op ⟨(some 167), (.pure (.mv (.tmp 15))), (some (165, false))⟩,
.op ⟨(some 168), (.pure (.bin .neq (.tmp 166) (.tmp 167))), (some (165, false))⟩, o_p 169 (.pick (.tmp 165) (.const (.bool true)) (.tmp 168)), o_m 170 169,
.split 170,
.op ⟨(some 171), (.pure (.mv (.tmp 21))), (some (170, false))⟩,
.op ⟨(some 172), (.pure (.mv (.tmp 23))), (some (170, false))⟩,
.op ⟨(some 173), (.pure (.eqb true (.tmp 171) (.tmp 172))), (some (170, false))⟩, o_p 174 (.pick (.tmp 170) (.const (.bool true)) (.tmp 173)), o_m 175 174,
.split 175,
.op ⟨(some 176), (.pure (.mv (.tmp 20))), (some (175, false))⟩,
.op ⟨(some 177), (.pure (.mv (.tmp 22))), (some (175, false))⟩,
.op ⟨(some 178), (.eff (.call 18 [(.tmp 176), (.tmp 177)])), (some (175, false))⟩,
.op ⟨(some 179), (.pure (.bnot (.tmp 178))), (some (175, false))⟩, o_p 180 (.pick (.tmp 175) (.const (.bool true)) (.tmp 179)), o_m 181 180,
.split 181,
.op ⟨(some 182), (.pure (.mv (.tmp 25))), (some (181, false))⟩,
.op ⟨(some 183), (.pure (.mv (.tmp 27))), (some (181, false))⟩,
.op ⟨(some 184), (.pure (.eqb true (.tmp 182) (.tmp 183))), (some (181, false))⟩, o_p 185 (.pick (.tmp 181) (.const (.bool true)) (.tmp 184)), o_m 186 185,
.split 186,
.op ⟨(some 187), (.pure (.mv (.tmp 24))), (some (186, false))⟩,
.op ⟨(some 188), (.pure (.mv (.tmp 26))), (some (186, false))⟩,
.op ⟨(some 189), (.pure (.bin .neq (.tmp 187) (.tmp 188))), (some (186, false))⟩, o_p 190 (.pick (.tmp 186) (.const (.bool true)) (.tmp 189)), o_m 191 190,
.split 191,
.op ⟨(some 192), (.pure (.mv (.tmp 33))), (some (191, false))⟩,
.op ⟨(some 193), (.pure (.mv (.tmp 35))), (some (191, false))⟩,
.op ⟨(some 194), (.pure (.eqb true (.tmp 192) (.tmp 193))), (some (191, false))⟩, o_p 195 (.pick (.tmp 191) (.const (.bool true)) (.tmp 194)), o_m 196 195,
.split 196,
.op ⟨(some 197), (.pure (.mv (.tmp 32))), (some (196, false))⟩,
.op ⟨(some 198), (.pure (.mv (.tmp 34))), (some (196, false))⟩,
.op ⟨(some 199), (.pure (.bin .neq (.tmp 197) (.tmp 198))), (some (196, false))⟩, o_p 200 (.pick (.tmp 196) (.const (.bool true)) (.tmp 199)), o_m 201 200,
.split 201,
.op ⟨(some 202), (.pure (.mv (.tmp 14))), (some (201, false))⟩,
.op ⟨(some 203), (.pure (.mv (.tmp 10))), (some (201, false))⟩,
.op ⟨(some 204), (.pure (.eqb true (.tmp 202) (.tmp 203))), (some (201, false))⟩, o_p 205 (.pick (.tmp 201) (.const (.bool true)) (.tmp 204)), o_m 206 205,
.split 206,
.op ⟨(some 207), (.pure (.mv (.tmp 21))), (some (206, false))⟩,
.op ⟨(some 208), (.pure (.mv (.tmp 25))), (some (206, false))⟩,
.op ⟨(some 209), (.pure (.eqb true (.tmp 207) (.tmp 208))), (some (206, false))⟩, o_p 210 (.pick (.tmp 206) (.const (.bool true)) (.tmp 209))])
(.cond (.tmp 210)
(.seq (.ops [ o_p 4 (.mv (.const (.bool false)))])
(.ret))
(.skip)))
(.seq (.seq (.ops [ o_m 211 21])
(.cond (.tmp 211)
(.seq (.ops [
.op ⟨(some 213), (.load (some 2) (.tmp 17)), none⟩, o_m 214 19, o_m 215 18, o_e 216 (.call 13 [(.tmp 213), (.tmp 214), (.tmp 215)]), o_m 212 216, o_p 217 (.ext 0 (.tmp 212)), o_p 218 (.ext 1 (.tmp 212)), o_m 36 217, o_m 37 218])
(.seq (.seq (.ops [ o_m 219 37, o_p 220 (.bnot (.tmp 219)), o_m 221 220,
.split 221,
.op ⟨(some 222), (.pure (.mv (.tmp 36))), (some (221, false))⟩,
.op ⟨(some 223), (.pure (.mv (.tmp 26))), (some (221, false))⟩,
.op ⟨(some 224), (.pure (.bin .neq (.tmp 222) (.tmp 223))), (some (221, false))⟩, o_p 225 (.pick (.tmp 221) (.const (.bool true)) (.tmp 224)), o_m 226 225,
.split 226,
.op ⟨(some 227), (.pure (.mv (.tmp 26))), (some (226, false))⟩,
.op ⟨(some 228), (.pure (.bin .lss (.tmp 227) (.const (.int .i64 (0))))), (some (226, false))⟩, o_p 229 (.pick (.tmp 226) (.const (.bool true)) (.tmp 228))])
(.cond (.tmp 229)
(.seq (.ops [ o_p 4 (.mv (.const (.bool false)))])
(.ret))
(.skip)))
(.seq (.ops [ o_p 230 (.fieldAddr 1 (.tmp 17)), o_l 231 230, o_p 232 (.len (.tmp 231)), o_p 233 (.mv (.const (.int .i64 (0))))])
(.block 0 (.loop (.seq (.ops [ o_p 234 (.bin .lss (.tmp 233) (.tmp 232))])
(.seq (.cond (.tmp 234)
(.skip)
(.exit 0))
(.seq (.block 1 (.seq (.ops [ o_m 235 233, o_m 38 235])
(.seq (.ops [
.op ⟨(some 237), (.load (some 2) (.tmp 17)), none⟩, o_m 238 38, o_m 239 18, o_m 240 19, o_e 241 (.call 16 [(.tmp 237), (.tmp 238), (.tmp 239), (.tmp 240)]), o_m 236 241, o_p 242 (.ext 0 (.tmp 236)), o_p 243 (.ext 1 (.tmp 236)), o_m 39 242, o_m 40 243])
(.seq (.ops [
.op ⟨(some 245), (.load (some 2) (.tmp 17)), none⟩, o_m 246 38, o_m 247 18, o_m 248 19, o_e 249 (.call 17 [(.tmp 245), (.tmp 246), (.tmp 247), (.tmp 248)]), o_m 244 249, o_p 250 (.ext 0 (.tmp 244)), o_p 251 (.ext 1 (.tmp 244)), o_m 41 250, o_m 42 251])
(.seq (.ops [ o_m 252 40, o_m 253 42, o_p 254 (.eqb true (.tmp 252) (.tmp 253)), o_m 255 254,
.split 255,
.op ⟨(some 256), (.pure (.mv (.tmp 39))), (some (255, false))⟩,
.op ⟨(some 257), (.pure (.mv (.tmp 41))), (some (255, false))⟩,
.op ⟨(some 258), (.pure (.bin .neq (.tmp 256) (.tmp 257))), (some (255, false))⟩, o_p 259 (.pick (.tmp 255) (.const (.bool true)) (.tmp 258)), o_m 260 259,
.split 260,
.op ⟨(some 261), (.pure (.mv (.tmp 42))), (some (260, false))⟩,
.op ⟨(some 262), (.pure (.mv (.tmp 261))), (some (260, false))⟩,
.split 262,
.op ⟨(some 263), (.pure (.mv (.tmp 41))), (some (262, true))⟩,
.op ⟨(some 264), (.pure (.mv (.tmp 26))), (some (262, true))⟩,
.op ⟨(some 265), (.pure (.bin .lss (.tmp 263) (.tmp 264))), (some (262, true))⟩,
.op ⟨(some 266), (.pure (.pick (.tmp 262) (.tmp 265) (.const (.bool false)))), (some (260, false))⟩, o_p 267 (.pick (.tmp 260) (.const (.bool true)) (.tmp 266)), o_m 268 267,
.split 268,
.op ⟨(some 269), (.pure (.mv (.tmp 22))), (some (268, false))⟩,
.op ⟨(some 270), (.pure (.mv (.tmp 38))), (some (268, false))⟩,
.op ⟨(some 271), (.eff (.call 19 [(.tmp 269), (.tmp 270)])), (some (268, false))⟩,
.op ⟨(some 272), (.pure (.mv (.tmp 42))), (some (268, false))⟩,
.op ⟨(some 273), (.pure (.bnot (.tmp 272))), (some (268, false))⟩,
.op ⟨(some 274), (.pure (.mv (.tmp 273))), (some (268, false))⟩,
.split 274,
.op ⟨(some 275), (.pure (.mv (.tmp 41))), (some (274, false))⟩,
.op ⟨(some 276), (.pure (.mv (.tmp 26))), (some (274, false))⟩,
.op ⟨(some 277), (.pure (.bin .gtr (.tmp 275) (.tmp 276))), (some (274, false))⟩,
.op ⟨(some 278), (.pure (.pick (.tmp 274) (.const (.bool true)) (.tmp 277))), (some (268, false))⟩,
.op ⟨(some 279), (.pure (.eqb true (.tmp 271) (.tmp 278))), (some (268, false))⟩, o_p 280 (.pick (.tmp 268) (.const (.bool true)) (.tmp 279))])
(.cond (.tmp 280)
(.seq (.ops [ o_p 4 (.mv (.const (.bool false)))])
(.ret))
(.skip)))))))
(.ops [ o_p 281 (.bin .add (.tmp 233) (.const (.int .i64 (1)))), o_m 233 281])))))))))
(.skip)))
(.seq (.seq (.ops [ o_m 282 10, o_p 283 (.bnot (.tmp 282))])
(.cond (.tmp 283)
(.seq (.ops [ o_p 4 (.mv (.const (.bool true)))])
(.ret))
(.skip)))
(.seq (.seq (.ops [ o_m 284 11, o_p 285 (.len (.tmp 284)), o_p 286 (.bin .add (.tmp 285) (.const (.int .i64 (1)))), o_m 287 7, o_p 288 (.len (.tmp 287)), o_p 289 (.bin .neq (.tmp 286) (.tmp 288))])
(.cond (.tmp 289)
(.seq (.ops [ o_p 4 (.mv (.const (.bool false)))])
(.ret))
(.skip)))
(.seq (.ops [ o_m 290 8, o_m 43 290])
(.seq (.seq (.ops [ o_p 44 (.mv (.const (.int .i64 (1))))])
(.block 2 (.loop (.seq (.seq (.ops [ o_m 291 44, o_m 292 7, o_p 293 (.len (.tmp 292)), o_p 294 (.bin .lss (.tmp 291) (.tmp 293))])
(.cond (.tmp 294)
(.skip)
(.exit 2)))
(.seq (.block 3 (.seq (.draw false
(.take (t_m 299 7)
(.take (t_m 300 44)
(.take (t_p 301 (.bin .sub (.tmp 300) (.const (.int .i64 (1)))))
(.take (t_p 302 (.idx 1 (.tmp 299) (.tmp 301)))
(.take (t_m 304 7)
(.take (t_m 305 44)
(.take (t_p 306 (.idx 1 (.tmp 304) (.tmp 305)))
(.only false ⟨(some 298), (.load (some 2) (.tmp 5)), none⟩
(.only false (t_l 303 302)
(.only false (t_l 307 306)
(.only true (t_e 308 (.call 20 [(.tmp 298), (.tmp 303), (.tmp 307)]))
(.take (t_m 297 308)
(.take (t_p 309 (.ext 0 (.tmp 297)))
(.take (t_p 310 (.ext 1 (.tmp 297)))
(.take (t_m 45 309)
(.take (t_m 46 310)
(.done))))))))))))))))))
(.seq (.seq (.ops [ o_m 311 46, o_p 312 (.bnot (.tmp 311)), o_m 313 312,
.split 313,
.op ⟨(some 314), (.pure (.mv (.tmp 11))), (some (313, false))⟩,
.op ⟨(some 315), (.pure (.mv (.tmp 44))), (some (313, false))⟩,
.op ⟨(some 316), (.pure (.bin .sub (.tmp 315) (.const (.int .i64 (1))))), (some (313, false))⟩,
.op ⟨(some 317), (.pure (.idx 1 (.tmp 314) (.tmp 316))), (some (313, false))⟩,
.op ⟨(some 318), (.load none (.tmp 317)), (some (313, false))⟩,
.op ⟨(some 319), (.pure (.bin .lss (.tmp 318) (.const (.int .i64 (0))))), (some (313, false))⟩, o_p 320 (.pick (.tmp 313) (.const (.bool true)) (.tmp 319))])
(.cond (.tmp 320)
(.seq (.ops [ o_p 4 (.mv (.const (.bool false)))])
(.ret))
(.skip)))
(.ops [ o_m 321 43, o_m 322 11, o_m 323 44, o_p 324 (.bin .sub (.tmp 323) (.const (.int .i64 (1)))), o_p 325 (.idx 1 (.tmp 322) (.tmp 324)), o_p 327 (.fieldAddr 1 (.tmp 5)), o_m 329 45, o_l 326 325, o_l 328 327, o_p 330 (.idx 3 (.tmp 328) (.tmp 329)), o_p 331 (.fieldAddr 2 (.tmp 330)), o_l 332 331, o_p 333 (.bin .add (.tmp 326) (.tmp 332)), o_p 334 (.bin .add (.tmp 321) (.tmp 333)), o_m 43 334]))))
(.ops [ o_m 295 44, o_p 296 (.bin .add (.tmp 295) (.const (.int .i64 (1)))), o_m 44 296]))))))
(.seq (.draw false
(.take (t_m 337 6)
(.take (t_m 338 7)
(.take (t_p 339 (.idx 1 (.tmp 338) (.const (.int .i64 (0)))))
(.take (t_m 341 7)
(.take (t_m 342 7)
(.take (t_p 343 (.len (.tmp 342)))
(.take (t_p 344 (.bin .sub (.tmp 343) (.const (.int .i64 (1)))))
(.take (t_p 345 (.idx 1 (.tmp 341) (.tmp 344)))
(.take (t_m 347 8)
(.only false ⟨(some 336), (.load (some 2) (.tmp 5)), none⟩
(.only false (t_l 340 339)
(.only false (t_l 346 345)
(.only true (t_e 348 (.call 21 [(.tmp 336), (.tmp 337), (.tmp 340), (.tmp 346), (.tmp 347)]))
(.take (t_m 335 348)
(.take (t_p 349 (.ext 0 (.tmp 335)))
(.take (t_p 350 (.ext 1 (.tmp 335)))
(.take (t_m 47 349)
(.take (t_m 48 350)
(.done))))))))))))))))))))
(.seq (.ops [ o_m 351 43, o_m 352 15, o_p 353 (.bin .eql (.tmp 351) (.tmp 352)), o_m 354 353,
.split 354,
.op ⟨(some 355), (.pure (.mv (.tmp 48))), (some (354, true))⟩, o_p 356 (.pick (.tmp 354) (.tmp 355) (.const (.bool false))), o_m 357 356,
.split 357,
.op ⟨(some 358), (.pure (.mv (.tmp 47))), (some (357, true))⟩,
.op ⟨(some 359), (.pure (.mv (.tmp 15))), (some (357, true))⟩,
.op ⟨(some 360), (.pure (.bin .leq (.tmp 358) (.tmp 359))), (some (357, true))⟩, o_p 361 (.pick (.tmp 357) (.tmp 360) (.const (.bool false))), o_m 4 361])
(.ret))))))))))))))))))))))),
[.tmp 4]⟩
theorem r_laws_FnWays : resFun Try.prog f_laws_FnWays = some c_laws_FnWays := by kernel_rfl

/- loop.example/g00940/laws.FnFirstArrivals -/
/- loop.example/g00940/spec.DrawWaitsAlong -/
abbrev f_spec_DrawWaitsAlong : Nat := 5
def c_spec_DrawWaitsAlong : MFun := ⟨12, .seq (.ops [ o_e 2 (.new 26 [(.slice none 0 0), (.slice none 0 0)]), o_p 3 (.mv (.const (.slice none 0 0))), o_p 4 (.mv (.const (.slice none 0 0))), o_p 5 (.mv (.const (.int .i64 (0))))])
(.seq (.ops [ o_m 6 0, o_e 7 (.call 35 [(.tmp 6)]), o_p 8 (.ext 0 (.tmp 7)), o_p 9 (.ext 1 (.tmp 7)), o_p 10 (.ext 2 (.tmp 7)), o_p 11 (.ext 3 (.tmp 7)),
.op ⟨none, (.eff (.store 2 (.tmp 2) (.tmp 8))), none⟩, o_m 3 9, o_m 4 10, o_m 5 11])
(.ret)),
[.cell 2 (some 2), .tmp 3, .tmp 4, .tmp 5]⟩
theorem r_spec_DrawWaitsAlong : resFun Try.prog f_spec_DrawWaitsAlong = some c_spec_DrawWaitsAlong := by kernel_rfl

/- loop.example/g00940/impl.WaitsAlong -/
abbrev f_impl_WaitsAlong : Nat := 6
def c_impl_WaitsAlong : MFun := ⟨72, .seq (.ops [ o_e 4 (.box 26 (.tmp 0)), o_p 8 (.mv (.const (.slice none 0 0))), o_p 9 (.mv (.const (.bool false)))])
(.seq (.seq (.ops [
.op ⟨(some 14), (.load (some 2) (.tmp 4)), none⟩, o_e 15 (.call 36 [(.tmp 14)]), o_p 16 (.bnot (.tmp 15)), o_m 17 16,
.split 17,
.op ⟨(some 18), (.load (some 2) (.tmp 4)), (some (17, false))⟩,
.op ⟨(some 19), (.pure (.mv (.tmp 1))), (some (17, false))⟩,
.op ⟨(some 20), (.eff (.call 37 [(.tmp 18), (.tmp 19)])), (some (17, false))⟩,
.op ⟨(some 21), (.pure (.bnot (.tmp 20))), (some (17, false))⟩, o_p 22 (.pick (.tmp 17) (.const (.bool true)) (.tmp 21)), o_m 23 22,
.split 23,
.op ⟨(some 24), (.pure (.mv (.tmp 3))), (some (23, false))⟩,
.op ⟨(some 25), (.eff (.call 38 [(.tmp 24), (.const (.int .i64 (0))), (.const (.int .i64 (10000)))])), (some (23, false))⟩,
.op ⟨(some 26), (.pure (.bnot (.tmp 25))), (some (23, false))⟩, o_p 27 (.pick (.tmp 23) (.const (.bool true)) (.tmp 26)), o_m 28 27,
.split 28,
.op ⟨(some 29), (.load (some 2) (.tmp 4)), (some (28, false))⟩,
.op ⟨(some 30), (.pure (.mv (.tmp 2))), (some (28, false))⟩,
.op ⟨(some 31), (.eff (.call 39 [(.tmp 29), (.tmp 30)])), (some (28, false))⟩,
.op ⟨(some 32), (.pure (.bnot (.tmp 31))), (some (28, false))⟩, o_p 33 (.pick (.tmp 28) (.const (.bool true)) (.tmp 32))])
(.cond (.tmp 33)
(.seq (.ops [ o_p 8 (.mv (.const (.slice none 0 0))), o_p 9 (.mv (.const (.bool false)))])
(.ret))
(.skip)))
(.seq (.ops [ o_p 10 (.mv (.const (.slice none 0 0)))])
(.seq (.seq (.ops [ o_m 34 2, o_p 35 (.len (.tmp 34)), o_p 36 (.bin .sub (.tmp 35) (.const (.int .i64 (1)))), o_p 37 (.mv (.const (.int .i64 (0))))])
(.block 0 (.loop (.seq (.ops [ o_p 38 (.bin .lss (.tmp 37) (.tmp 36))])
(.seq (.cond (.tmp 38)
(.skip)
(.exit 0))
(.seq (.block 1 (.seq (.ops [ o_m 39 37, o_m 11 39])
(.seq (.draw false
(.take (t_m 41 2)
(.take (t_m 42 11)
(.take (t_p 43 (.idx 1 (.tmp 41) (.tmp 42)))
(.take (t_m 45 2)
(.take (t_m 46 11)
(.take (t_p 47 (.bin .add (.tmp 46) (.const (.int .i64 (1)))))
(.take (t_p 48 (.idx 1 (.tmp 45) (.tmp 47)))
(.only false ⟨(some 40), (.load (some 2) (.tmp 4)), none⟩
(.only false (t_l 44 43)
(.only false (t_l 49 48)
(.only true (t_e 50 (.call 40 [(.tmp 40), (.tmp 44), (.tmp 49)]))
(.take (t_m 12 50)
(.done))))))))))))))
(.seq (.ops [
.op ⟨(some 51), (.load (some 2) (.tmp 4)), none⟩, o_m 52 1, o_m 53 12, o_m 54 3, o_e 55 (.call 41 [(.tmp 51), (.tmp 52), (.tmp 53), (.tmp 54)]), o_m 13 55])
(.seq (.ops [ o_m 56 10, o_m 57 13, o_m 58 3, o_p 59 (.bin .sub (.tmp 57) (.tmp 58)), o_p 60 (.fieldAddr 1 (.tmp 4)), o_l 61 60, o_m 62 12, o_p 63 (.idx 3 (.tmp 61) (.tmp 62)), o_p 64 (.fieldAddr 2 (.tmp 63)), o_l 65 64, o_p 66 (.bin .sub (.tmp 59) (.tmp 65)), o_e 67 (.row 3 1 [(.int .i64 (0))] [(0, 1, (.tmp 66))]), o_e 68 (.app 3 1 8 (.tmp 56) (.tmp 67)), o_m 10 68])
(.ops [ o_m 69 13, o_m 3 69]))))))
(.ops [ o_p 70 (.bin .add (.tmp 37) (.const (.int .i64 (1)))), o_m 37 70])))))))
(.seq (.ops [ o_m 71 10, o_m 8 71, o_p 9 (.mv (.const (.bool true)))])
(.ret))))),
[.tmp 8, .tmp 9]⟩
theorem r_impl_WaitsAlong : resFun Try.prog f_impl_WaitsAlong = some c_impl_WaitsAlong := by kernel_rfl
end Go.Proofs.Ytgbaonaopkdlpaa

