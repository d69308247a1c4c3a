/- The code of this seat's functions, resolved, written by a program of mine; each is held against the given program by the kernel. Condition: none. -/
import Derived.Test.YtloicopmcagikaaProg
import Derived.Test.YtloicopmcagikaaBase9
import Derived.KernelRfl
namespace Go.Proofs.Ytloicopmcagikaa
open Go.Vc

/- loop.example/g00940/laws.FnClearTimes -/
abbrev f_laws_FnClearTimes : Nat := 3
def c_laws_FnClearTimes : MFun := ⟨338, .seq (.ops [ o_p 4 (.mv (.const (.bool false)))])
(.seq (.seq (.ops [ o_m 51 0, o_m 52 1, o_e 53 (.call 5 [(.tmp 51), (.tmp 52)])])
(.cond (.tmp 53)
(.seq (.ops [ o_p 4 (.mv (.const (.bool true)))])
(.ret))
(.skip)))
(.seq (.ops [ o_m 55 0, o_e 56 (.call 6 [(.tmp 55)]), o_m 54 56, o_p 57 (.ext 0 (.tmp 54)), o_p 58 (.ext 1 (.tmp 54)), o_p 59 (.ext 2 (.tmp 54)), o_p 60 (.ext 3 (.tmp 54)), o_p 61 (.ext 4 (.tmp 54)), o_e 5 (.new 27 [(.slice none 0 0), (.slice none 0 0)]),
.op ⟨none, (.eff (.store 2 (.tmp 5) (.tmp 57))), none⟩, o_m 6 58, o_m 7 59, o_m 8 60, o_m 9 61])
(.seq (.ops [
.op ⟨(some 63), (.load (some 2) (.tmp 5)), none⟩, o_m 64 6, o_m 65 7, o_m 66 8, o_m 67 9, o_e 68 (.call 7 [(.tmp 63), (.tmp 64), (.tmp 65), (.tmp 66), (.tmp 67)]), o_m 62 68, o_p 69 (.ext 0 (.tmp 62)), o_p 70 (.ext 1 (.tmp 62)), o_m 10 69, o_m 11 70])
(.seq (.ops [
.op ⟨(some 72), (.load (some 2) (.tmp 5)), none⟩, o_m 73 6, o_m 74 7, o_m 75 8, o_m 76 9, o_e 77 (.call 8 [(.tmp 72), (.tmp 73), (.tmp 74), (.tmp 75), (.tmp 76)]), o_m 71 77, o_p 78 (.ext 0 (.tmp 71)), o_p 79 (.ext 1 (.tmp 71)), o_m 12 78, o_m 13 79])
(.seq (.seq (.ops [ o_m 80 11, o_m 81 13, o_p 82 (.eqb true (.tmp 80) (.tmp 81)), o_m 83 82,
.split 83,
.op ⟨(some 84), (.pure (.mv (.tmp 10))), (some (83, false))⟩,
.op ⟨(some 85), (.pure (.mv (.tmp 12))), (some (83, false))⟩,
.op ⟨(some 86), (.pure (.bin .neq (.tmp 84) (.tmp 85))), (some (83, false))⟩, o_p 87 (.pick (.tmp 83) (.const (.bool true)) (.tmp 86)), o_m 88 87,
.split 88,
.op ⟨(some 89), (.pure (.mv (.tmp 11))), (some (88, false))⟩,
.op ⟨(some 90), (.pure (.mv (.tmp 89))), (some (88, false))⟩,
.split 90,
.op ⟨(some 91), (.pure (.mv (.tmp 12))), (some (90, true))⟩,
.op ⟨(some 92), (.pure (.mv (.tmp 8))), (some (90, true))⟩,
.op ⟨(some 93), (.pure (.bin .lss (.tmp 91) (.tmp 92))), (some (90, true))⟩,
.op ⟨(some 94), (.pure (.pick (.tmp 90) (.tmp 93) (.const (.bool false)))), (some (88, false))⟩, o_p 95 (.pick (.tmp 88) (.const (.bool true)) (.tmp 94))])
(.cond (.tmp 95)
(.seq (.ops [ o_p 4 (.mv (.const (.bool false)))])
(.ret))
(.skip)))
(.seq (.seq (.ops [ o_m 96 11, o_m 97 96,
.split 97,
.op ⟨(some 98), (.pure (.mv (.tmp 12))), (some (97, true))⟩,
.op ⟨(some 99), (.pure (.mv (.tmp 9))), (some (97, true))⟩,
.op ⟨(some 100), (.pure (.bin .add (.tmp 98) (.tmp 99))), (some (97, true))⟩,
.op ⟨(some 101), (.pure (.bin .leq (.tmp 100) (.const (.int .i64 (10000))))), (some (97, true))⟩, o_p 102 (.pick (.tmp 97) (.tmp 101) (.const (.bool false)))])
(.cond (.tmp 102)
(.seq (.ops [
.op ⟨(some 104), (.load (some 2) (.tmp 5)), none⟩, o_m 105 6, o_m 106 7, o_m 107 12, o_m 108 12, o_m 109 9, o_p 110 (.bin .add (.tmp 108) (.tmp 109)), o_e 111 (.call 9 [(.tmp 104), (.tmp 105), (.tmp 106), (.tmp 107), (.tmp 110)]), o_m 103 111, o_p 112 (.ext 0 (.tmp 103)), o_p 113 (.ext 1 (.tmp 103)), o_m 14 112, o_m 15 113])
(.seq (.seq (.ops [ o_m 114 15, o_p 115 (.bnot (.tmp 114)), o_m 116 115,
.split 116,
.op ⟨(some 117), (.pure (.mv (.tmp 14))), (some (116, false))⟩,
.op ⟨(some 118), (.pure (.bin .neq (.tmp 117) (.const (.int .i64 (0))))), (some (116, false))⟩, o_p 119 (.pick (.tmp 116) (.const (.bool true)) (.tmp 118))])
(.cond (.tmp 119)
(.seq (.ops [ o_p 4 (.mv (.const (.bool false)))])
(.ret))
(.skip)))
(.seq (.ops [ o_m 120 12, o_m 121 8, o_p 122 (.bin .gtr (.tmp 120) (.tmp 121))])
(.cond (.tmp 122)
(.seq (.ops [
.op ⟨(some 124), (.load (some 2) (.tmp 5)), none⟩, o_m 125 6, o_m 126 7, o_m 127 12, o_p 128 (.bin .sub (.tmp 127) (.const (.int .i64 (1)))), o_m 129 12, o_p 130 (.bin .sub (.tmp 129) (.const (.int .i64 (1)))), o_m 131 9, o_p 132 (.bin .add (.tmp 130) (.tmp 131)), o_e 133 (.call 9 [(.tmp 124), (.tmp 125), (.tmp 126), (.tmp 128), (.tmp 132)]), o_m 123 133, o_p 134 (.ext 0 (.tmp 123)), o_p 135 (.ext 1 (.tmp 123)), o_m 16 134, o_m 17 135])
(.seq (.ops [ o_m 136 17, o_p 137 (.bnot (.tmp 136)), o_m 138 137,
.split 138,
.op ⟨(some 139), (.pure (.mv (.tmp 16))), (some (138, false))⟩,
.op ⟨(some 140), (.pure (.bin .eql (.tmp 139) (.const (.int .i64 (0))))), (some (138, false))⟩, o_p 141 (.pick (.tmp 138) (.const (.bool true)) (.tmp 140))])
(.cond (.tmp 141)
(.seq (.ops [ o_p 4 (.mv (.const (.bool false)))])
(.ret))
(.skip))))
(.skip)))))
(.skip)))
(.seq (.ops [ o_m 143 1, o_e 144 (.call 10 [(.tmp 143)]), o_m 142 144, o_p 145 (.ext 0 (.tmp 142)), o_p 146 (.ext 1 (.tmp 142)), o_p 147 (.ext 2 (.tmp 142)), o_e 18 (.new 27 [(.slice none 0 0), (.slice none 0 0)]),
.op ⟨none, (.eff (.store 2 (.tmp 18) (.tmp 145))), none⟩, o_m 19 146, o_m 20 147])
(.seq (.ops [
.op ⟨(some 149), (.load (some 2) (.tmp 18)), none⟩, o_m 150 19, o_m 151 20, o_e 152 (.call 11 [(.tmp 149), (.tmp 150), (.tmp 151)]), o_m 148 152, o_p 153 (.ext 0 (.tmp 148)), o_p 154 (.ext 1 (.tmp 148)), o_m 21 153, o_m 22 154])
(.seq (.ops [
.op ⟨(some 156), (.load (some 2) (.tmp 18)), none⟩, o_m 157 19, o_m 158 20, o_e 159 (.call 12 [(.tmp 156), (.tmp 157), (.tmp 158)]), o_m 155 159, o_p 160 (.ext 0 (.tmp 155)), o_p 161 (.ext 1 (.tmp 155)), o_m 23 160, o_m 24 161])
(.seq (.ops [
.op ⟨(some 163), (.load (some 2) (.tmp 18)), none⟩, o_m 164 19, o_m 165 20, o_e 166 (.call 13 [(.tmp 163), (.tmp 164), (.tmp 165)]), o_m 162 166, o_p 167 (.ext 0 (.tmp 162)), o_p 168 (.ext 1 (.tmp 162)), o_m 25 167, o_m 26 168])
(.seq (.ops [
.op ⟨(some 170), (.load (some 2) (.tmp 18)), none⟩, o_m 171 19, o_m 172 20, o_e 173 (.call 14 [(.tmp 170), (.tmp 171), (.tmp 172)]), o_m 169 173, o_p 174 (.ext 0 (.tmp 169)), o_p 175 (.ext 1 (.tmp 169)), o_m 27 174, o_m 28 175])
(.seq (.seq (.ops [ o_m 176 22, o_m 177 24, o_p 178 (.eqb true (.tmp 176) (.tmp 177)), o_m 179 178,
.split 179,
.op ⟨(some 180), (.pure (.mv (.tmp 21))), (some (179, false))⟩,
.op ⟨(some 181), (.pure (.mv (.tmp 23))), (some (179, false))⟩,
.op ⟨(some 182), (.eff (.call 15 [(.tmp 180), (.tmp 181)])), (some (179, false))⟩,
.op ⟨(some 183), (.pure (.bnot (.tmp 182))), (some (179, false))⟩, o_p 184 (.pick (.tmp 179) (.const (.bool true)) (.tmp 183)), o_m 185 184,
.split 185,
.op ⟨(some 186), (.pure (.mv (.tmp 26))), (some (185, false))⟩,
.op ⟨(some 187), (.pure (.mv (.tmp 28))), (some (185, false))⟩,
.op ⟨(some 188), (.pure (.eqb true (.tmp 186) (.tmp 187))), (some (185, false))⟩, o_p 189 (.pick (.tmp 185) (.const (.bool true)) (.tmp 188)), o_m 190 189,
.split 190,
.op ⟨(some 191), (.pure (.mv (.tmp 25))), (some (190, false))⟩,
.op ⟨(some 192), (.pure (.mv (.tmp 27))), (some (190, false))⟩,
.op ⟨(some 193), (.pure (.eqb true (.tmp 191) (.tmp 192))), (some (190, false))⟩, o_p 194 (.pick (.tmp 190) (.const (.bool true)) (.tmp 193)), o_m 195 194,
.split 195,
.op ⟨(some 196), (.pure (.mv (.tmp 26))), (some (195, false))⟩,
.op ⟨(some 197), (.pure (.mv (.tmp 22))), (some (195, false))⟩,
.op ⟨(some 198), (.pure (.eqb true (.tmp 196) (.tmp 197))), (some (195, false))⟩, o_p 199 (.pick (.tmp 195) (.const (.bool true)) (.tmp 198))])
(.cond (.tmp 199)
(.seq (.ops [ o_p 4 (.mv (.const (.bool false)))])
(.ret))
(.skip)))
(.seq (.seq (.ops [ o_m 200 22])
(.cond (.tmp 200)
(.seq (.ops [
.op ⟨(some 202), (.load (some 2) (.tmp 18)), none⟩, o_e 203 (.call 16 [(.tmp 202)]), o_m 201 203, o_p 204 (.ext 0 (.tmp 201)), o_p 205 (.ext 1 (.tmp 201)), o_m 29 204, o_m 30 205])
(.seq (.seq (.ops [ o_m 206 30, o_p 207 (.bnot (.tmp 206)), o_m 208 207,
.split 208,
.op ⟨(some 209), (.pure (.mv (.tmp 27))), (some (208, false))⟩,
.op ⟨(some 210), (.pure (.mv (.tmp 209))), (some (208, false))⟩,
.split 210,
.op ⟨(some 211), (.pure (.mv (.tmp 29))), (some (210, true))⟩,
.op ⟨(some 212), (.pure (.bnot (.tmp 211))), (some (210, true))⟩,
.op ⟨(some 213), (.pure (.pick (.tmp 210) (.tmp 212) (.const (.bool false)))), (some (208, false))⟩, o_p 214 (.pick (.tmp 208) (.const (.bool true)) (.tmp 213)), o_m 215 214,
.split 215,
.op ⟨(some 216), (.pure (.mv (.tmp 23))), (some (215, false))⟩,
.op ⟨(some 217), (.pure (.len (.tmp 216))), (some (215, false))⟩,
.op ⟨(some 218), (.pure (.bin .eql (.tmp 217) (.const (.int .i64 (0))))), (some (215, false))⟩,
.op ⟨(some 219), (.pure (.mv (.tmp 218))), (some (215, false))⟩,
.split 219,
.op ⟨(some 220), (.pure (.mv (.tmp 29))), (some (219, true))⟩,
.op ⟨(some 221), (.pure (.mv (.tmp 27))), (some (219, true))⟩,
.op ⟨(some 222), (.pure (.eqb true (.tmp 220) (.tmp 221))), (some (219, true))⟩,
.op ⟨(some 223), (.pure (.pick (.tmp 219) (.tmp 222) (.const (.bool false)))), (some (215, false))⟩, o_p 224 (.pick (.tmp 215) (.const (.bool true)) (.tmp 223))])
(.cond (.tmp 224)
(.seq (.ops [ o_p 4 (.mv (.const (.bool false)))])
(.ret))
(.skip)))
(.seq (.ops [ o_p 225 (.fieldAddr 1 (.tmp 18)), o_l 226 225, o_p 227 (.len (.tmp 226)), o_p 228 (.mv (.const (.int .i64 (0))))])
(.block 0 (.loop (.seq (.ops [ o_p 229 (.bin .lss (.tmp 228) (.tmp 227))])
(.seq (.cond (.tmp 229)
(.skip)
(.exit 0))
(.seq (.block 1 (.seq (.ops [ o_m 230 228, o_m 31 230])
(.seq (.ops [
.op ⟨(some 232), (.load (some 2) (.tmp 18)), none⟩, o_m 233 19, o_m 234 31, o_m 235 20, o_e 236 (.call 17 [(.tmp 232), (.tmp 233), (.tmp 234), (.tmp 235)]), o_m 231 236, o_p 237 (.ext 0 (.tmp 231)), o_p 238 (.ext 1 (.tmp 231)), o_m 32 237, o_m 33 238])
(.seq (.ops [ o_m 239 33, o_p 240 (.bnot (.tmp 239)), o_m 241 240,
.split 241,
.op ⟨(some 242), (.pure (.mv (.tmp 32))), (some (241, false))⟩,
.op ⟨(some 243), (.pure (.mv (.tmp 23))), (some (241, false))⟩,
.op ⟨(some 244), (.pure (.mv (.tmp 31))), (some (241, false))⟩,
.op ⟨(some 245), (.eff (.call 18 [(.tmp 243), (.tmp 244)])), (some (241, false))⟩,
.op ⟨(some 246), (.pure (.eqb false (.tmp 242) (.tmp 245))), (some (241, false))⟩, o_p 247 (.pick (.tmp 241) (.const (.bool true)) (.tmp 246))])
(.cond (.tmp 247)
(.seq (.ops [ o_p 4 (.mv (.const (.bool false)))])
(.ret))
(.skip))))))
(.ops [ o_p 248 (.bin .add (.tmp 228) (.const (.int .i64 (1)))), o_m 228 248])))))))))
(.skip)))
(.seq (.ops [ o_m 250 1, o_e 251 (.call 19 [(.tmp 250)]), o_m 249 251, o_p 252 (.ext 0 (.tmp 249)), o_p 253 (.ext 1 (.tmp 249)), o_e 34 (.new 27 [(.slice none 0 0), (.slice none 0 0)]),
.op ⟨none, (.eff (.store 2 (.tmp 34) (.tmp 252))), none⟩, o_m 35 253])
(.seq (.ops [
.op ⟨(some 255), (.load (some 2) (.tmp 34)), none⟩, o_m 256 35, o_e 257 (.call 20 [(.tmp 255), (.tmp 256)]), o_m 254 257, o_p 258 (.ext 0 (.tmp 254)), o_p 259 (.ext 1 (.tmp 254)), o_p 260 (.ext 2 (.tmp 254)), o_m 36 258, o_m 37 259, o_m 38 260])
(.seq (.ops [
.op ⟨(some 262), (.load (some 2) (.tmp 34)), none⟩, o_m 263 35, o_e 264 (.call 21 [(.tmp 262), (.tmp 263)]), o_m 261 264, o_p 265 (.ext 0 (.tmp 261)), o_p 266 (.ext 1 (.tmp 261)), o_p 267 (.ext 2 (.tmp 261)), o_m 39 265, o_m 40 266, o_m 41 267])
(.seq (.seq (.ops [ o_m 268 38, o_m 269 41, o_p 270 (.eqb true (.tmp 268) (.tmp 269)), o_m 271 270,
.split 271,
.op ⟨(some 272), (.pure (.mv (.tmp 36))), (some (271, false))⟩,
.op ⟨(some 273), (.pure (.mv (.tmp 39))), (some (271, false))⟩,
.op ⟨(some 274), (.pure (.bin .neq (.tmp 272) (.tmp 273))), (some (271, false))⟩, o_p 275 (.pick (.tmp 271) (.const (.bool true)) (.tmp 274)), o_m 276 275,
.split 276,
.op ⟨(some 277), (.pure (.mv (.tmp 37))), (some (276, false))⟩,
.op ⟨(some 278), (.pure (.mv (.tmp 40))), (some (276, false))⟩,
.op ⟨(some 279), (.pure (.bin .neq (.tmp 277) (.tmp 278))), (some (276, false))⟩, o_p 280 (.pick (.tmp 276) (.const (.bool true)) (.tmp 279))])
(.cond (.tmp 280)
(.seq (.ops [ o_p 4 (.mv (.const (.bool false)))])
(.ret))
(.skip)))
(.seq (.seq (.ops [ o_m 281 38])
(.cond (.tmp 281)
(.seq (.ops [ o_p 282 (.fieldAddr 1 (.tmp 34)), o_l 283 282, o_p 284 (.len (.tmp 283)), o_p 285 (.mv (.const (.int .i64 (0))))])
(.block 2 (.loop (.seq (.ops [ o_p 286 (.bin .lss (.tmp 285) (.tmp 284))])
(.seq (.cond (.tmp 286)
(.skip)
(.exit 2))
(.seq (.block 3 (.seq (.ops [ o_m 287 285, o_m 42 287])
(.seq (.ops [
.op ⟨(some 289), (.load (some 2) (.tmp 34)), none⟩, o_m 290 35, o_m 291 42, o_e 292 (.call 9 [(.tmp 289), (.tmp 290), (.tmp 291), (.const (.int .i64 (0))), (.const (.int .i64 (10000)))]), o_m 288 292, o_p 293 (.ext 0 (.tmp 288)), o_p 294 (.ext 1 (.tmp 288)), o_m 43 293, o_m 44 294])
(.seq (.ops [ o_m 295 44, o_p 296 (.bnot (.tmp 295)), o_m 297 296,
.split 297,
.op ⟨(some 298), (.pure (.mv (.tmp 43))), (some (297, false))⟩,
.op ⟨(some 299), (.pure (.mv (.tmp 40))), (some (297, false))⟩,
.op ⟨(some 300), (.pure (.bin .gtr (.tmp 298) (.tmp 299))), (some (297, false))⟩, o_p 301 (.pick (.tmp 297) (.const (.bool true)) (.tmp 300)), o_m 302 301,
.split 302,
.op ⟨(some 303), (.pure (.mv (.tmp 43))), (some (302, false))⟩,
.op ⟨(some 304), (.pure (.mv (.tmp 40))), (some (302, false))⟩,
.op ⟨(some 305), (.pure (.bin .eql (.tmp 303) (.tmp 304))), (some (302, false))⟩,
.op ⟨(some 306), (.pure (.mv (.tmp 305))), (some (302, false))⟩,
.split 306,
.op ⟨(some 307), (.pure (.mv (.tmp 42))), (some (306, true))⟩,
.op ⟨(some 308), (.pure (.mv (.tmp 39))), (some (306, true))⟩,
.op ⟨(some 309), (.pure (.bin .lss (.tmp 307) (.tmp 308))), (some (306, true))⟩,
.op ⟨(some 310), (.pure (.pick (.tmp 306) (.tmp 309) (.const (.bool false)))), (some (302, false))⟩, o_p 311 (.pick (.tmp 302) (.const (.bool true)) (.tmp 310))])
(.cond (.tmp 311)
(.seq (.ops [ o_p 4 (.mv (.const (.bool false)))])
(.ret))
(.skip))))))
(.ops [ o_p 312 (.bin .add (.tmp 285) (.const (.int .i64 (1)))), o_m 285 312])))))))
(.skip)))
(.seq (.ops [ o_m 314 1, o_e 315 (.call 22 [(.tmp 314)]), o_m 313 315, o_p 316 (.ext 0 (.tmp 313)), o_p 317 (.ext 1 (.tmp 313)), o_e 45 (.new 27 [(.slice none 0 0), (.slice none 0 0)]),
.op ⟨none, (.eff (.store 2 (.tmp 45) (.tmp 316))), none⟩, o_m 46 317])
(.seq (.ops [
.op ⟨(some 319), (.load (some 2) (.tmp 45)), none⟩, o_m 320 46, o_e 321 (.call 23 [(.tmp 319), (.tmp 320)]), o_m 318 321, o_p 322 (.ext 0 (.tmp 318)), o_p 323 (.ext 1 (.tmp 318)), o_m 47 322, o_m 48 323])
(.seq (.ops [
.op ⟨(some 325), (.load (some 2) (.tmp 45)), none⟩, o_m 326 46, o_e 327 (.call 24 [(.tmp 325), (.tmp 326)]), o_m 324 327, o_p 328 (.ext 0 (.tmp 324)), o_p 329 (.ext 1 (.tmp 324)), o_m 49 328, o_m 50 329])
(.seq (.ops [ o_m 330 48, o_m 331 50, o_p 332 (.eqb false (.tmp 330) (.tmp 331)), o_m 333 332,
.split 333,
.op ⟨(some 334), (.pure (.mv (.tmp 47))), (some (333, true))⟩,
.op ⟨(some 335), (.pure (.mv (.tmp 49))), (some (333, true))⟩,
.op ⟨(some 336), (.pure (.eqb false (.tmp 334) (.tmp 335))), (some (333, true))⟩, o_p 337 (.pick (.tmp 333) (.tmp 336) (.const (.bool false))), o_m 4 337])
(.ret))))))))))))))))))))))),
[.tmp 4]⟩
theorem r_laws_FnClearTimes : resFun Try.prog f_laws_FnClearTimes = some c_laws_FnClearTimes := by kernel_rfl

/- loop.example/g00940/laws.FnFogs -/
/- loop.example/g00940/laws.big -/
abbrev f_laws_big : Nat := 5
def c_laws_big : MFun := ⟨16, .seq (.ops [ o_p 4 (.mv (.const (.bool false)))])
(.seq (.ops [ o_m 5 0, o_p 6 (.len (.tmp 5)), o_p 7 (.bin .gtr (.tmp 6) (.const (.int .i64 (1048576)))), o_m 8 7,
.split 8,
.op ⟨(some 9), (.pure (.mv (.tmp 1))), (some (8, false))⟩,
.op ⟨(some 10), (.pure (.len (.tmp 9))), (some (8, false))⟩,
.op ⟨(some 11), (.pure (.mv (.tmp 0))), (some (8, false))⟩,
.op ⟨(some 12), (.pure (.len (.tmp 11))), (some (8, false))⟩,
.op ⟨(some 13), (.pure (.bin .sub (.const (.int .i64 (1048576))) (.tmp 12))), (some (8, false))⟩,
.op ⟨(some 14), (.pure (.bin .gtr (.tmp 10) (.tmp 13))), (some (8, false))⟩, o_p 15 (.pick (.tmp 8) (.const (.bool true)) (.tmp 14)), o_m 4 15])
(.ret)),
[.tmp 4]⟩
theorem r_laws_big : resFun Try.prog f_laws_big = some c_laws_big := by kernel_rfl

/- loop.example/g00940/spec.DrawEarliestStart -/
abbrev f_spec_DrawEarliestStart : Nat := 6
def c_spec_DrawEarliestStart : MFun := ⟨31, .seq (.ops [ o_e 2 (.new 27 [(.slice none 0 0), (.slice none 0 0)]), o_p 3 (.mv (.const (.slice none 0 0))), o_p 4 (.mv (.const (.int .i64 (0)))), o_p 5 (.mv (.const (.int .i64 (0)))), o_p 6 (.mv (.const (.int .i64 (0))))])
(.seq (.ops [ o_m 10 0, o_p 11 (.build [(.slice none 0 0), (.int .i64 (0)), (.int .u64 (0))] [(0, 1, (.tmp 10))]), o_e 12 (.box 66 (.tmp 11)), o_m 7 12])
(.seq (.ops [ o_m 14 7, o_e 15 (.call 38 [(.tmp 14)]), o_m 13 15, o_p 16 (.ext 0 (.tmp 13)), o_p 17 (.ext 1 (.tmp 13)), o_e 8 (.new 27 [(.slice none 0 0), (.slice none 0 0)]),
.op ⟨none, (.eff (.store 2 (.tmp 8) (.tmp 16))), none⟩, o_m 9 17])
(.seq (.draw true
(.take (t_m 19 9)
(.take (t_m 20 7)
(.take (t_m 23 7)
(.take (t_m 25 7)
(.take (t_m 26 7)
(.take ⟨(some 18), (.load (some 2) (.tmp 8)), none⟩
(.take ⟨(some 21), (.load (some 2) (.tmp 8)), none⟩
(.fork
(.only false (t_e 22 (.call 39 [(.tmp 20), (.tmp 21)]))
(.fork
(.only false (t_e 24 (.call 40 [(.tmp 23)]))
(.only false (t_e 27 (.row 3 2 [(.int .i64 (0)), (.int .i64 (0))] [(0, 1, (.const (.int .i64 (1001)))), (1, 1, (.const (.int .i64 (0))))]))
(.only false (t_e 28 (.call 41 [(.tmp 26), (.tmp 27)]))
(.only false (t_e 29 (.row 3 6 [(.int .i64 (0)), (.int .i64 (0)), (.int .i64 (0)), (.int .i64 (0)), (.int .i64 (0)), (.int .i64 (0))] [(0, 1, (.const (.int .i64 (1)))), (1, 1, (.const (.int .i64 (5)))), (2, 1, (.const (.int .i64 (6)))), (3, 1, (.const (.int .i64 (20)))), (4, 1, (.const (.int .i64 (1000)))), (5, 1, (.tmp 28))]))
(.only false (t_e 30 (.call 41 [(.tmp 25), (.tmp 29)]))
(.only true ⟨none, (.eff (.store 2 (.tmp 2) (.tmp 18))), none⟩
(.take (t_m 3 19)
(.take (t_m 4 22)
(.take (t_m 5 24)
(.take (t_m 6 30)
(.done)))))))))))
(.only false (t_e 27 (.row 3 2 [(.int .i64 (0)), (.int .i64 (0))] [(0, 1, (.const (.int .i64 (1001)))), (1, 1, (.const (.int .i64 (0))))]))
(.only false (t_e 24 (.call 40 [(.tmp 23)]))
(.only false (t_e 28 (.call 41 [(.tmp 26), (.tmp 27)]))
(.only false (t_e 29 (.row 3 6 [(.int .i64 (0)), (.int .i64 (0)), (.int .i64 (0)), (.int .i64 (0)), (.int .i64 (0)), (.int .i64 (0))] [(0, 1, (.const (.int .i64 (1)))), (1, 1, (.const (.int .i64 (5)))), (2, 1, (.const (.int .i64 (6)))), (3, 1, (.const (.int .i64 (20)))), (4, 1, (.const (.int .i64 (1000)))), (5, 1, (.tmp 28))]))
(.only false (t_e 30 (.call 41 [(.tmp 25), (.tmp 29)]))
(.only true ⟨none, (.eff (.store 2 (.tmp 2) (.tmp 18))), none⟩
(.take (t_m 3 19)
(.take (t_m 4 22)
(.take (t_m 5 24)
(.take (t_m 6 30)
(.done)))))))))))))
(.only false (t_e 27 (.row 3 2 [(.int .i64 (0)), (.int .i64 (0))] [(0, 1, (.const (.int .i64 (1001)))), (1, 1, (.const (.int .i64 (0))))]))
(.only false (t_e 22 (.call 39 [(.tmp 20), (.tmp 21)]))
(.only false (t_e 24 (.call 40 [(.tmp 23)]))
(.only false (t_e 28 (.call 41 [(.tmp 26), (.tmp 27)]))
(.only false (t_e 29 (.row 3 6 [(.int .i64 (0)), (.int .i64 (0)), (.int .i64 (0)), (.int .i64 (0)), (.int .i64 (0)), (.int .i64 (0))] [(0, 1, (.const (.int .i64 (1)))), (1, 1, (.const (.int .i64 (5)))), (2, 1, (.const (.int .i64 (6)))), (3, 1, (.const (.int .i64 (20)))), (4, 1, (.const (.int .i64 (1000)))), (5, 1, (.tmp 28))]))
(.only false (t_e 30 (.call 41 [(.tmp 25), (.tmp 29)]))
(.only true ⟨none, (.eff (.store 2 (.tmp 2) (.tmp 18))), none⟩
(.take (t_m 3 19)
(.take (t_m 4 22)
(.take (t_m 5 24)
(.take (t_m 6 30)
(.done)))))))))))))))))))))
(.ret)))),
[.cell 2 (some 2), .tmp 3, .tmp 4, .tmp 5, .tmp 6]⟩
theorem r_spec_DrawEarliestStart : resFun Try.prog f_spec_DrawEarliestStart = some c_spec_DrawEarliestStart := by kernel_rfl

/- loop.example/g00940/impl.EarliestStart -/
abbrev f_impl_EarliestStart : Nat := 7
def c_impl_EarliestStart : MFun := ⟨29, .seq (.ops [ o_e 5 (.box 27 (.tmp 0)), o_p 10 (.mv (.const (.int .i64 (0)))), o_p 11 (.mv (.const (.bool false)))])
(.seq (.seq (.ops [
.op ⟨(some 12), (.load (some 2) (.tmp 5)), none⟩, o_m 13 1, o_m 14 2, o_m 15 3, o_m 16 3, o_e 17 (.call 42 [(.tmp 12), (.tmp 13), (.tmp 14), (.tmp 15), (.tmp 16)]), o_p 18 (.bnot (.tmp 17)), o_m 19 18,
.split 19,
.op ⟨(some 20), (.pure (.mv (.tmp 4))), (some (19, false))⟩,
.op ⟨(some 21), (.eff (.call 43 [(.tmp 20), (.const (.int .i64 (1))), (.const (.int .i64 (1000)))])), (some (19, false))⟩,
.op ⟨(some 22), (.pure (.bnot (.tmp 21))), (some (19, false))⟩, o_p 23 (.pick (.tmp 19) (.const (.bool true)) (.tmp 22))])
(.cond (.tmp 23)
(.seq (.ops [ o_p 10 (.mv (.const (.int .i64 (0)))), o_p 11 (.mv (.const (.bool false)))])
(.ret))
(.skip)))
(.seq (.ops [ o_m 24 1, o_m 25 2, o_m 26 3, o_m 27 4, o_e 28 (.call 44 [(.tmp 24), (.tmp 25), (.tmp 26), (.tmp 27)]), o_m 10 28, o_p 11 (.mv (.const (.bool true)))])
(.ret))),
[.tmp 10, .tmp 11]⟩
theorem r_impl_EarliestStart : resFun Try.prog f_impl_EarliestStart = some c_impl_EarliestStart := by kernel_rfl

/- loop.example/g00940/spec.EarliestStart -/
abbrev f_spec_EarliestStart : Nat := 8
def c_spec_EarliestStart : MFun := ⟨32, .seq (.ops [ o_e 5 (.box 27 (.tmp 0)), o_p 10 (.mv (.const (.int .i64 (0)))), o_p 11 (.mv (.const (.bool false)))])
(.seq (.seq (.ops [
.op ⟨(some 12), (.load (some 2) (.tmp 5)), none⟩, o_m 13 1, o_m 14 2, o_e 15 (.call 45 [(.tmp 12), (.tmp 13), (.tmp 14)]), o_p 16 (.bnot (.tmp 15)), o_m 17 16,
.split 17,
.op ⟨(some 18), (.pure (.mv (.tmp 3))), (some (17, false))⟩,
.op ⟨(some 19), (.eff (.call 46 [(.tmp 18)])), (some (17, false))⟩,
.op ⟨(some 20), (.pure (.bnot (.tmp 19))), (some (17, false))⟩, o_p 21 (.pick (.tmp 17) (.const (.bool true)) (.tmp 20)), o_m 22 21,
.split 22,
.op ⟨(some 23), (.pure (.mv (.tmp 4))), (some (22, false))⟩,
.op ⟨(some 24), (.eff (.call 47 [(.tmp 23), (.const (.int .i64 (1))), (.const (.int .i64 (1000)))])), (some (22, false))⟩,
.op ⟨(some 25), (.pure (.bnot (.tmp 24))), (some (22, false))⟩, o_p 26 (.pick (.tmp 22) (.const (.bool true)) (.tmp 25))])
(.cond (.tmp 26)
(.seq (.ops [ o_p 10 (.mv (.const (.int .i64 (0)))), o_p 11 (.mv (.const (.bool false)))])
(.ret))
(.skip)))
(.seq (.ops [ o_m 27 1, o_m 28 2, o_m 29 3, o_m 30 4, o_e 31 (.call 48 [(.tmp 27), (.tmp 28), (.tmp 29), (.tmp 30)]), o_m 10 31, o_p 11 (.mv (.const (.bool true)))])
(.ret))),
[.tmp 10, .tmp 11]⟩
theorem r_spec_EarliestStart : resFun Try.prog f_spec_EarliestStart = some c_spec_EarliestStart := by kernel_rfl

/- loop.example/g00940/impl.FogSeconds -/
abbrev f_impl_FogSeconds : Nat := 9
def c_impl_FogSeconds : MFun := ⟨46, .seq (.ops [ o_e 5 (.box 27 (.tmp 0)), o_p 10 (.mv (.const (.int .i64 (0)))), o_p 11 (.mv (.const (.bool false)))])
(.seq (.seq (.ops [
.op ⟨(some 15), (.load (some 2) (.tmp 5)), none⟩, o_m 16 1, o_m 17 2, o_m 18 3, o_m 19 4, o_e 20 (.call 42 [(.tmp 15), (.tmp 16), (.tmp 17), (.tmp 18), (.tmp 19)]), o_p 21 (.bnot (.tmp 20))])
(.cond (.tmp 21)
(.seq (.ops [ o_p 10 (.mv (.const (.int .i64 (0)))), o_p 11 (.mv (.const (.bool false)))])
(.ret))
(.skip)))
(.seq (.ops [ o_p 12 (.mv (.const (.int .i64 (0))))])
(.seq (.seq (.ops [ o_m 22 1, o_p 23 (.len (.tmp 22)), o_p 24 (.mv (.const (.int .i64 (0))))])
(.block 0 (.loop (.seq (.ops [ o_p 25 (.bin .lss (.tmp 24) (.tmp 23))])
(.seq (.cond (.tmp 25)
(.skip)
(.exit 0))
(.seq (.block 1 (.seq (.ops [ o_p 26 (.idx 3 (.tmp 22) (.tmp 24)),
.op ⟨(some 27), (.load (some 3) (.tmp 26)), none⟩, o_e 14 (.new 57 [(.int .i64 (0)), (.int .i64 (0)), (.int .i64 (0))]),
.op ⟨none, (.eff (.store 3 (.tmp 14) (.tmp 27))), none⟩])
(.seq (.ops [ o_p 28 (.fieldAddr 0 (.tmp 14)), o_l 29 28, o_m 30 2, o_p 31 (.bin .eql (.tmp 29) (.tmp 30))])
(.cond (.tmp 31)
(.ops [ o_m 32 12, o_p 33 (.fieldAddr 2 (.tmp 14)), o_l 34 33, o_m 35 4, o_p 36 (.min2 (.tmp 34) (.tmp 35)), o_p 37 (.fieldAddr 1 (.tmp 14)), o_l 38 37, o_m 39 3, o_p 40 (.max2 (.tmp 38) (.tmp 39)), o_p 41 (.bin .sub (.tmp 36) (.tmp 40)), o_p 42 (.max2 (.const (.int .i64 (0))) (.tmp 41)), o_p 43 (.bin .add (.tmp 32) (.tmp 42)), o_m 12 43])
(.skip)))))
(.ops [ o_p 44 (.bin .add (.tmp 24) (.const (.int .i64 (1)))), o_m 24 44])))))))
(.seq (.ops [ o_m 45 12, o_m 10 45, o_p 11 (.mv (.const (.bool true)))])
(.ret))))),
[.tmp 10, .tmp 11]⟩
theorem r_impl_FogSeconds : resFun Try.prog f_impl_FogSeconds = some c_impl_FogSeconds := by kernel_rfl

/- loop.example/g00940/spec.DrawFoggyLinks -/
abbrev f_spec_DrawFoggyLinks : Nat := 10
def c_spec_DrawFoggyLinks : MFun := ⟨20, .seq (.ops [ o_e 2 (.new 27 [(.slice none 0 0), (.slice none 0 0)]), o_p 3 (.mv (.const (.slice none 0 0))), o_p 4 (.mv (.const (.int .i64 (0))))])
(.seq (.ops [ o_m 8 0, o_p 9 (.build [(.slice none 0 0), (.int .i64 (0)), (.int .u64 (0))] [(0, 1, (.tmp 8))]), o_e 10 (.box 66 (.tmp 9)), o_m 5 10])
(.seq (.ops [ o_m 12 5, o_e 13 (.call 38 [(.tmp 12)]), o_m 11 13, o_p 14 (.ext 0 (.tmp 11)), o_p 15 (.ext 1 (.tmp 11)), o_e 6 (.new 27 [(.slice none 0 0), (.slice none 0 0)]),
.op ⟨none, (.eff (.store 2 (.tmp 6) (.tmp 14))), none⟩, o_m 7 15])
(.seq (.draw true
(.take (t_m 17 7)
(.take (t_m 18 5)
(.take ⟨(some 16), (.load (some 2) (.tmp 6)), none⟩
(.only false (t_e 19 (.call 40 [(.tmp 18)]))
(.only true ⟨none, (.eff (.store 2 (.tmp 2) (.tmp 16))), none⟩
(.take (t_m 3 17)
(.take (t_m 4 19)
(.done)))))))))
(.ret)))),
[.cell 2 (some 2), .tmp 3, .tmp 4]⟩
theorem r_spec_DrawFoggyLinks : resFun Try.prog f_spec_DrawFoggyLinks = some c_spec_DrawFoggyLinks := by kernel_rfl
end Go.Proofs.Ytloicopmcagikaa

