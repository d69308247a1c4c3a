/- The code of this seat's functions, resolved, written by a program of mine; each is held against the given program by the kernel. Condition: none. -/
import Derived.Test.YtbikhpphdhffaaaGreatDoorProg
import Derived.Test.YtbikhpphdhffaaaGreatDoorBase9
import Derived.KernelRfl
namespace Go.Proofs.YtbikhpphdhffaaaGreatDoor
open Go.Vc

/- loop.example/g00940/laws.FnPackets -/
abbrev f_laws_FnPackets : Nat := 3
def c_laws_FnPackets : MFun := ⟨262, .seq (.ops [ o_p 4 (.mv (.const (.bool false)))])
(.seq (.seq (.ops [ o_m 43 0, o_m 44 1, o_e 45 (.call 4 [(.tmp 43), (.tmp 44)])])
(.cond (.tmp 45)
(.seq (.ops [ o_p 4 (.mv (.const (.bool true)))])
(.ret))
(.skip)))
(.seq (.ops [ o_m 47 0, o_e 48 (.call 5 [(.tmp 47)]), o_m 46 48, o_p 49 (.ext 0 (.tmp 46)), o_p 50 (.ext 1 (.tmp 46)), o_p 51 (.ext 2 (.tmp 46)), o_m 5 49, o_m 6 50, o_m 7 51])
(.seq (.ops [ o_m 53 5, o_m 54 6, o_m 55 7, o_e 56 (.call 6 [(.tmp 53), (.tmp 54), (.tmp 55)]), o_m 52 56, o_p 57 (.ext 0 (.tmp 52)), o_p 58 (.ext 1 (.tmp 52)), o_m 8 57, o_m 9 58])
(.seq (.ops [ o_m 60 5, o_m 61 6, o_m 62 7, o_e 63 (.call 7 [(.tmp 60), (.tmp 61), (.tmp 62)]), o_m 59 63, o_p 64 (.ext 0 (.tmp 59)), o_p 65 (.ext 1 (.tmp 59)), o_m 10 64, o_m 11 65])
(.seq (.seq (.ops [ o_m 66 9, o_m 67 11, o_p 68 (.eqb true (.tmp 66) (.tmp 67)), o_m 69 68,
.split 69,
.op ⟨(some 70), (.pure (.mv (.tmp 8))), (some (69, false))⟩,
.op ⟨(some 71), (.pure (.mv (.tmp 10))), (some (69, false))⟩,
.op ⟨(some 72), (.eff (.call 8 [(.tmp 70), (.tmp 71)])), (some (69, false))⟩,
.op ⟨(some 73), (.pure (.bnot (.tmp 72))), (some (69, false))⟩, o_p 74 (.pick (.tmp 69) (.const (.bool true)) (.tmp 73))])
(.cond (.tmp 74)
(.seq (.ops [ o_p 4 (.mv (.const (.bool false)))])
(.ret))
(.skip)))
(.seq (.seq (.ops [ o_m 75 9])
(.cond (.tmp 75)
(.seq (.ops [ o_p 12 (.mv (.const (.slice none 0 0)))])
(.seq (.seq (.ops [ o_m 76 8, o_p 77 (.len (.tmp 76)), o_p 78 (.mv (.const (.int .i64 (0))))])
(.block 0 (.loop (.seq (.ops [ o_p 79 (.bin .lss (.tmp 78) (.tmp 77))])
(.seq (.cond (.tmp 79)
(.skip)
(.exit 0))
(.seq (.block 1 (.seq (.ops [ o_m 80 78, o_p 81 (.idx 4 (.tmp 76) (.tmp 78)),
.op ⟨(some 82), (.load (some 4) (.tmp 81)), none⟩, o_e 14 (.new 32 [(.int .i64 (0)), (.int .i64 (0)), (.int .i64 (0)), (.slice none 0 0)]), o_m 13 80,
.op ⟨none, (.eff (.store 4 (.tmp 14) (.tmp 82))), none⟩])
(.seq (.draw false
(.take (t_m 83 12)
(.take (t_m 84 8)
(.take (t_m 85 8)
(.take (t_p 86 (.len (.tmp 85)))
(.take (t_p 87 (.bin .sub (.tmp 86) (.const (.int .i64 (1)))))
(.take (t_m 88 13)
(.take (t_p 89 (.bin .sub (.tmp 87) (.tmp 88)))
(.take (t_p 90 (.idx 4 (.tmp 84) (.tmp 89)))
(.only false ⟨(some 91), (.load (some 4) (.tmp 90)), none⟩
(.only false ⟨(some 92), (.load (some 4) (.tmp 14)), none⟩
(.only true (t_e 93 (.row 32 2 [(.int .i64 (0)), (.int .i64 (0)), (.int .i64 (0)), (.slice none 0 0), (.int .i64 (0)), (.int .i64 (0)), (.int .i64 (0)), (.slice none 0 0)] [(0, 4, (.tmp 91)), (4, 4, (.tmp 92))]))
(.only true (t_e 94 (.app 32 4 48 (.tmp 83) (.tmp 93)))
(.take (t_m 12 94)
(.done)))))))))))))))
(.seq (.ops [
.op ⟨(some 96), (.load (some 4) (.tmp 14)), none⟩, o_e 97 (.call 9 [(.tmp 96)]), o_m 95 97, o_p 98 (.ext 0 (.tmp 95)), o_p 99 (.ext 1 (.tmp 95)), o_m 15 98, o_m 16 99])
(.seq (.ops [ o_m 101 15, o_e 102 (.call 10 [(.tmp 101)]), o_m 100 102, o_p 103 (.ext 0 (.tmp 100)), o_p 104 (.ext 1 (.tmp 100)), o_e 17 (.new 32 [(.int .i64 (0)), (.int .i64 (0)), (.int .i64 (0)), (.slice none 0 0)]),
.op ⟨none, (.eff (.store 4 (.tmp 17) (.tmp 103))), none⟩, o_m 18 104])
(.seq (.draw false
(.take (t_m 105 16)
(.take (t_p 106 (.bnot (.tmp 105)))
(.take (t_m 107 106)
(.split 107
(.take ⟨(some 108), (.pure (.mv (.tmp 18))), (some (107, false))⟩
(.take ⟨(some 109), (.pure (.bnot (.tmp 108))), (some (107, false))⟩
(.take (t_p 110 (.pick (.tmp 107) (.const (.bool true)) (.tmp 109)))
(.take (t_m 111 110)
(.split 111
(.take ⟨(some 113), (.pure (.mv (.tmp 10))), (some (111, false))⟩
(.take ⟨(some 114), (.pure (.mv (.tmp 13))), (some (111, false))⟩
(.take ⟨(some 115), (.pure (.idx 4 (.tmp 113) (.tmp 114))), (some (111, false))⟩
(.only false ⟨(some 112), (.load (some 4) (.tmp 17)), (some (111, false))⟩
(.only false ⟨(some 116), (.load (some 4) (.tmp 115)), (some (111, false))⟩
(.only true ⟨(some 117), (.eff (.call 11 [(.tmp 112), (.tmp 116)])), (some (111, false))⟩
(.take ⟨(some 118), (.pure (.bnot (.tmp 117))), (some (111, false))⟩
(.take (t_p 119 (.pick (.tmp 111) (.const (.bool true)) (.tmp 118)))
(.take (t_m 120 119)
(.split 120
(.only false ⟨(some 121), (.load (some 4) (.tmp 14)), (some (120, false))⟩
(.only true ⟨(some 122), (.eff (.call 12 [(.tmp 121)])), (some (120, false))⟩
(.take ⟨(some 123), (.pure (.bnot (.tmp 122))), (some (120, false))⟩
(.take (t_p 124 (.pick (.tmp 120) (.const (.bool true)) (.tmp 123)))
(.done)))))))))))))))))))))))))
(.cond (.tmp 124)
(.seq (.ops [ o_p 4 (.mv (.const (.bool false)))])
(.ret))
(.skip))))))))
(.ops [ o_p 125 (.bin .add (.tmp 78) (.const (.int .i64 (1)))), o_m 78 125])))))))
(.seq (.ops [ o_m 127 12, o_m 128 5, o_e 129 (.call 13 [(.tmp 127), (.tmp 128)]), o_m 126 129, o_p 130 (.ext 0 (.tmp 126)), o_p 131 (.ext 1 (.tmp 126)), o_m 19 130, o_m 20 131])
(.seq (.ops [ o_m 133 12, o_m 134 5, o_e 135 (.call 14 [(.tmp 133), (.tmp 134)]), o_m 132 135, o_p 136 (.ext 0 (.tmp 132)), o_p 137 (.ext 1 (.tmp 132)), o_m 21 136, o_m 22 137])
(.seq (.ops [ o_m 138 20, o_p 139 (.bnot (.tmp 138)), o_m 140 139,
.split 140,
.op ⟨(some 141), (.pure (.mv (.tmp 19))), (some (140, false))⟩,
.op ⟨(some 142), (.pure (.mv (.tmp 6))), (some (140, false))⟩,
.op ⟨(some 143), (.eff (.call 15 [(.tmp 141), (.tmp 142)])), (some (140, false))⟩,
.op ⟨(some 144), (.pure (.bnot (.tmp 143))), (some (140, false))⟩, o_p 145 (.pick (.tmp 140) (.const (.bool true)) (.tmp 144)), o_m 146 145,
.split 146,
.op ⟨(some 147), (.pure (.mv (.tmp 22))), (some (146, false))⟩,
.op ⟨(some 148), (.pure (.bnot (.tmp 147))), (some (146, false))⟩, o_p 149 (.pick (.tmp 146) (.const (.bool true)) (.tmp 148)), o_m 150 149,
.split 150,
.op ⟨(some 151), (.pure (.mv (.tmp 21))), (some (150, false))⟩,
.op ⟨(some 152), (.pure (.len (.tmp 151))), (some (150, false))⟩,
.op ⟨(some 153), (.pure (.bin .gtr (.tmp 152) (.const (.int .i64 (0))))), (some (150, false))⟩, o_p 154 (.pick (.tmp 150) (.const (.bool true)) (.tmp 153))])
(.cond (.tmp 154)
(.seq (.ops [ o_p 4 (.mv (.const (.bool false)))])
(.ret))
(.skip)))))))
(.skip)))
(.seq (.ops [ o_m 156 1, o_e 157 (.call 16 [(.tmp 156)]), o_m 155 157, o_p 158 (.ext 0 (.tmp 155)), o_p 159 (.ext 1 (.tmp 155)), o_m 23 158, o_m 24 159])
(.seq (.ops [ o_m 161 23, o_m 162 24, o_e 163 (.call 13 [(.tmp 161), (.tmp 162)]), o_m 160 163, o_p 164 (.ext 0 (.tmp 160)), o_p 165 (.ext 1 (.tmp 160)), o_m 25 164, o_m 26 165])
(.seq (.ops [ o_m 167 23, o_m 168 24, o_e 169 (.call 17 [(.tmp 167), (.tmp 168)]), o_m 166 169, o_p 170 (.ext 0 (.tmp 166)), o_p 171 (.ext 1 (.tmp 166)), o_m 27 170, o_m 28 171])
(.seq (.ops [ o_m 173 23, o_m 174 24, o_e 175 (.call 14 [(.tmp 173), (.tmp 174)]), o_m 172 175, o_p 176 (.ext 0 (.tmp 172)), o_p 177 (.ext 1 (.tmp 172)), o_m 29 176, o_m 30 177])
(.seq (.ops [ o_m 179 23, o_m 180 24, o_e 181 (.call 18 [(.tmp 179), (.tmp 180)]), o_m 178 181, o_p 182 (.ext 0 (.tmp 178)), o_p 183 (.ext 1 (.tmp 178)), o_m 31 182, o_m 32 183])
(.seq (.seq (.ops [ o_m 184 26, o_m 185 28, o_p 186 (.eqb true (.tmp 184) (.tmp 185)), o_m 187 186,
.split 187,
.op ⟨(some 188), (.pure (.mv (.tmp 25))), (some (187, false))⟩,
.op ⟨(some 189), (.pure (.mv (.tmp 27))), (some (187, false))⟩,
.op ⟨(some 190), (.eff (.call 15 [(.tmp 188), (.tmp 189)])), (some (187, false))⟩,
.op ⟨(some 191), (.pure (.bnot (.tmp 190))), (some (187, false))⟩, o_p 192 (.pick (.tmp 187) (.const (.bool true)) (.tmp 191)), o_m 193 192,
.split 193,
.op ⟨(some 194), (.pure (.mv (.tmp 30))), (some (193, false))⟩,
.op ⟨(some 195), (.pure (.mv (.tmp 32))), (some (193, false))⟩,
.op ⟨(some 196), (.pure (.eqb true (.tmp 194) (.tmp 195))), (some (193, false))⟩, o_p 197 (.pick (.tmp 193) (.const (.bool true)) (.tmp 196)), o_m 198 197,
.split 198,
.op ⟨(some 199), (.pure (.mv (.tmp 29))), (some (198, false))⟩,
.op ⟨(some 200), (.pure (.mv (.tmp 31))), (some (198, false))⟩,
.op ⟨(some 201), (.eff (.call 15 [(.tmp 199), (.tmp 200)])), (some (198, false))⟩,
.op ⟨(some 202), (.pure (.bnot (.tmp 201))), (some (198, false))⟩, o_p 203 (.pick (.tmp 198) (.const (.bool true)) (.tmp 202)), o_m 204 203,
.split 204,
.op ⟨(some 205), (.pure (.mv (.tmp 26))), (some (204, false))⟩,
.op ⟨(some 206), (.pure (.mv (.tmp 30))), (some (204, false))⟩,
.op ⟨(some 207), (.pure (.mv (.tmp 206))), (some (204, false))⟩,
.split 207,
.op ⟨(some 208), (.pure (.mv (.tmp 31))), (some (207, true))⟩,
.op ⟨(some 209), (.pure (.len (.tmp 208))), (some (207, true))⟩,
.op ⟨(some 210), (.pure (.bin .eql (.tmp 209) (.const (.int .i64 (0))))), (some (207, true))⟩,
.op ⟨(some 211), (.pure (.pick (.tmp 207) (.tmp 210) (.const (.bool false)))), (some (204, false))⟩,
.op ⟨(some 212), (.pure (.eqb true (.tmp 205) (.tmp 211))), (some (204, false))⟩, o_p 213 (.pick (.tmp 204) (.const (.bool true)) (.tmp 212))])
(.cond (.tmp 213)
(.seq (.ops [ o_p 4 (.mv (.const (.bool false)))])
(.ret))
(.skip)))
(.seq (.ops [ o_m 214 1, o_e 215 (.call 19 [(.tmp 214)]), o_e 33 (.new 32 [(.int .i64 (0)), (.int .i64 (0)), (.int .i64 (0)), (.slice none 0 0)]),
.op ⟨none, (.eff (.store 4 (.tmp 33) (.tmp 215))), none⟩])
(.seq (.ops [
.op ⟨(some 217), (.load (some 4) (.tmp 33)), none⟩, o_e 218 (.call 9 [(.tmp 217)]), o_m 216 218, o_p 219 (.ext 0 (.tmp 216)), o_p 220 (.ext 1 (.tmp 216)), o_m 34 219, o_m 35 220])
(.seq (.ops [
.op ⟨(some 222), (.load (some 4) (.tmp 33)), none⟩, o_e 223 (.call 20 [(.tmp 222)]), o_m 221 223, o_p 224 (.ext 0 (.tmp 221)), o_p 225 (.ext 1 (.tmp 221)), o_m 36 224, o_m 37 225])
(.seq (.ops [ o_m 226 1, o_e 227 (.call 21 [(.tmp 226)]), o_m 38 227])
(.seq (.ops [ o_m 229 38, o_e 230 (.call 10 [(.tmp 229)]), o_m 228 230, o_p 231 (.ext 0 (.tmp 228)), o_p 232 (.ext 1 (.tmp 228)), o_e 39 (.new 32 [(.int .i64 (0)), (.int .i64 (0)), (.int .i64 (0)), (.slice none 0 0)]),
.op ⟨none, (.eff (.store 4 (.tmp 39) (.tmp 231))), none⟩, o_m 40 232])
(.seq (.ops [ o_m 234 38, o_e 235 (.call 22 [(.tmp 234)]), o_m 233 235, o_p 236 (.ext 0 (.tmp 233)), o_p 237 (.ext 1 (.tmp 233)), o_e 41 (.new 32 [(.int .i64 (0)), (.int .i64 (0)), (.int .i64 (0)), (.slice none 0 0)]),
.op ⟨none, (.eff (.store 4 (.tmp 41) (.tmp 236))), none⟩, o_m 42 237])
(.seq (.ops [ o_m 238 35, o_m 239 37, o_p 240 (.eqb false (.tmp 238) (.tmp 239)), o_m 241 240,
.split 241,
.op ⟨(some 242), (.pure (.mv (.tmp 34))), (some (241, true))⟩,
.op ⟨(some 243), (.pure (.mv (.tmp 36))), (some (241, true))⟩,
.op ⟨(some 244), (.pure (.bin .eql (.tmp 242) (.tmp 243))), (some (241, true))⟩, o_p 245 (.pick (.tmp 241) (.tmp 244) (.const (.bool false))), o_m 246 245,
.split 246,
.op ⟨(some 247), (.load (some 4) (.tmp 33)), (some (246, true))⟩,
.op ⟨(some 248), (.eff (.call 12 [(.tmp 247)])), (some (246, true))⟩,
.op ⟨(some 249), (.pure (.mv (.tmp 35))), (some (246, true))⟩,
.op ⟨(some 250), (.pure (.eqb false (.tmp 248) (.tmp 249))), (some (246, true))⟩, o_p 251 (.pick (.tmp 246) (.tmp 250) (.const (.bool false))), o_m 252 251,
.split 252,
.op ⟨(some 253), (.pure (.mv (.tmp 40))), (some (252, true))⟩,
.op ⟨(some 254), (.pure (.mv (.tmp 42))), (some (252, true))⟩,
.op ⟨(some 255), (.pure (.eqb false (.tmp 253) (.tmp 254))), (some (252, true))⟩, o_p 256 (.pick (.tmp 252) (.tmp 255) (.const (.bool false))), o_m 257 256,
.split 257,
.op ⟨(some 258), (.load (some 4) (.tmp 39)), (some (257, true))⟩,
.op ⟨(some 259), (.load (some 4) (.tmp 41)), (some (257, true))⟩,
.op ⟨(some 260), (.eff (.call 11 [(.tmp 258), (.tmp 259)])), (some (257, true))⟩, o_p 261 (.pick (.tmp 257) (.tmp 260) (.const (.bool false))), o_m 4 261])
(.ret)))))))))))))))))))),
[.tmp 4]⟩
theorem r_laws_FnPackets : resFun Tryz.prog f_laws_FnPackets = some c_laws_FnPackets := by kernel_rfl

/- loop.example/g00940/laws.big -/
abbrev f_laws_big : Nat := 4
def c_laws_big : MFun := ⟨16, .seq (.ops [ o_p 4 (.mv (.const (.bool false)))])
(.seq (.ops [ o_m 5 0, o_p 6 (.len (.tmp 5)), o_p 7 (.bin .gtr (.tmp 6) (.const (.int .i64 (1048576)))), o_m 8 7,
.split 8,
.op ⟨(some 9), (.pure (.mv (.tmp 1))), (some (8, false))⟩,
.op ⟨(some 10), (.pure (.len (.tmp 9))), (some (8, false))⟩,
.op ⟨(some 11), (.pure (.mv (.tmp 0))), (some (8, false))⟩,
.op ⟨(some 12), (.pure (.len (.tmp 11))), (some (8, false))⟩,
.op ⟨(some 13), (.pure (.bin .sub (.const (.int .i64 (1048576))) (.tmp 12))), (some (8, false))⟩,
.op ⟨(some 14), (.pure (.bin .gtr (.tmp 10) (.tmp 13))), (some (8, false))⟩, o_p 15 (.pick (.tmp 8) (.const (.bool true)) (.tmp 14)), o_m 4 15])
(.ret)),
[.tmp 4]⟩
theorem r_laws_big : resFun Tryz.prog f_laws_big = some c_laws_big := by kernel_rfl

/- loop.example/g00940/spec.DrawSplitMessage -/
abbrev f_spec_DrawSplitMessage : Nat := 5
def c_spec_DrawSplitMessage : MFun := ⟨48, .seq (.ops [ o_p 2 (.mv (.const (.int .i64 (0)))), o_p 3 (.mv (.const (.slice none 0 0))), o_p 4 (.mv (.const (.int .i64 (0))))])
(.seq (.ops [ o_m 8 0, o_p 9 (.build [(.slice none 0 0), (.int .i64 (0)), (.int .u64 (0))] [(0, 1, (.tmp 8))]), o_e 10 (.box 49 (.tmp 9)), o_m 5 10])
(.seq (.ops [ o_m 11 5, o_m 12 5, o_e 13 (.row 3 2 [(.int .i64 (0)), (.int .i64 (0))] [(0, 1, (.const (.int .i64 (0)))), (1, 1, (.const (.int .i64 (9))))]), o_e 14 (.call 23 [(.tmp 12), (.tmp 13)]), o_e 15 (.row 3 5 [(.int .i64 (0)), (.int .i64 (0)), (.int .i64 (0)), (.int .i64 (0)), (.int .i64 (0))] [(0, 1, (.const (.int .i64 (1)))), (1, 1, (.const (.int .i64 (2)))), (2, 1, (.const (.int .i64 (3)))), (3, 1, (.const (.int .i64 (8)))), (4, 1, (.tmp 14))]), o_e 16 (.call 23 [(.tmp 11), (.tmp 15)]), o_m 6 16])
(.seq (.ops [ o_m 17 5, o_m 18 5, o_m 19 6, o_p 20 (.bin .mul (.tmp 19) (.const (.int .i64 (9)))), o_e 21 (.call 25 [(.const (.int .i64 (0))), (.tmp 20)]), o_m 22 6, o_p 23 (.bin .mul (.tmp 22) (.const (.int .i64 (9)))), o_p 24 (.bin .add (.tmp 23) (.const (.int .i64 (1)))), o_e 25 (.row 3 8 [(.int .i64 (0)), (.int .i64 (0)), (.int .i64 (0)), (.int .i64 (0)), (.int .i64 (0)), (.int .i64 (0)), (.int .i64 (0)), (.int .i64 (0))] [(0, 1, (.const (.int .i64 (0)))), (1, 1, (.const (.int .i64 (1)))), (2, 1, (.const (.int .i64 (2)))), (3, 1, (.const (.int .i64 (5)))), (4, 1, (.const (.int .i64 (9)))), (5, 1, (.const (.int .i64 (10)))), (6, 1, (.tmp 21)), (7, 1, (.tmp 24))]), o_e 26 (.call 23 [(.tmp 18), (.tmp 25)]), o_e 27 (.call 24 [(.tmp 17), (.tmp 26)]), o_m 7 27])
(.seq (.seq (.ops [ o_m 28 7, o_p 29 (.len (.tmp 28)), o_p 30 (.bin .gtr (.tmp 29) (.const (.int .i64 (0)))), o_m 31 30,
.split 31,
.op ⟨(some 32), (.pure (.mv (.tmp 5))), (some (31, true))⟩,
.op ⟨(some 33), (.eff (.call 26 [(.tmp 32), (.const (.int .i64 (16)))])), (some (31, true))⟩, o_p 34 (.pick (.tmp 31) (.tmp 33) (.const (.bool false)))])
(.cond (.tmp 34)
(.ops [ o_m 35 7, o_m 36 5, o_e 37 (.row 3 3 [(.int .i64 (0)), (.int .i64 (0)), (.int .i64 (0))] [(0, 1, (.const (.int .i64 (0)))), (1, 1, (.const (.int .i64 (60)))), (2, 1, (.const (.int .i64 (61))))]), o_e 38 (.call 23 [(.tmp 36), (.tmp 37)]), o_p 39 (.idx 1 (.tmp 35) (.const (.int .i64 (0)))),
.op ⟨none, (.eff (.store 1 (.tmp 39) (.tmp 38))), none⟩])
(.skip)))
(.seq (.ops [ o_m 40 5, o_m 41 5, o_e 42 (.row 3 2 [(.int .i64 (0)), (.int .i64 (0))] [(0, 1, (.const (.int .i64 (0)))), (1, 1, (.const (.int .i64 (1000))))]), o_e 43 (.call 23 [(.tmp 41), (.tmp 42)]), o_e 44 (.row 3 4 [(.int .i64 (0)), (.int .i64 (0)), (.int .i64 (0)), (.int .i64 (0))] [(0, 1, (.const (.int .i64 (1)))), (1, 1, (.const (.int .i64 (12)))), (2, 1, (.const (.int .i64 (999)))), (3, 1, (.tmp 43))]), o_e 45 (.call 23 [(.tmp 40), (.tmp 44)]), o_m 46 7, o_m 47 6, o_m 2 45, o_m 3 46, o_m 4 47])
(.ret)))))),
[.tmp 2, .tmp 3, .tmp 4]⟩
theorem r_spec_DrawSplitMessage : resFun Tryz.prog f_spec_DrawSplitMessage = some c_spec_DrawSplitMessage := by kernel_rfl

/- loop.example/g00940/impl.SplitMessage -/
abbrev f_impl_SplitMessage : Nat := 6
def c_impl_SplitMessage : MFun := ⟨66, .seq (.ops [ o_p 6 (.mv (.const (.slice none 0 0))), o_p 7 (.mv (.const (.bool false)))])
(.seq (.seq (.ops [ o_m 12 0, o_e 13 (.call 27 [(.tmp 12), (.const (.int .i64 (1))), (.const (.int .i64 (999)))]), o_p 14 (.bnot (.tmp 13)), o_m 15 14,
.split 15,
.op ⟨(some 16), (.pure (.mv (.tmp 2))), (some (15, false))⟩,
.op ⟨(some 17), (.eff (.call 27 [(.tmp 16), (.const (.int .i64 (1))), (.const (.int .i64 (8)))])), (some (15, false))⟩,
.op ⟨(some 18), (.pure (.bnot (.tmp 17))), (some (15, false))⟩, o_p 19 (.pick (.tmp 15) (.const (.bool true)) (.tmp 18)), o_m 20 19,
.split 20,
.op ⟨(some 21), (.pure (.mv (.tmp 1))), (some (20, false))⟩,
.op ⟨(some 22), (.pure (.len (.tmp 21))), (some (20, false))⟩,
.op ⟨(some 23), (.pure (.bin .eql (.tmp 22) (.const (.int .i64 (0))))), (some (20, false))⟩, o_p 24 (.pick (.tmp 20) (.const (.bool true)) (.tmp 23)), o_m 25 24,
.split 25,
.op ⟨(some 26), (.pure (.mv (.tmp 1))), (some (25, false))⟩,
.op ⟨(some 27), (.eff (.call 28 [(.tmp 26), (.const (.int .i64 (1))), (.const (.int .i64 (60)))])), (some (25, false))⟩,
.op ⟨(some 28), (.pure (.bnot (.tmp 27))), (some (25, false))⟩, o_p 29 (.pick (.tmp 25) (.const (.bool true)) (.tmp 28))])
(.cond (.tmp 29)
(.seq (.ops [ o_p 6 (.mv (.const (.slice none 0 0))), o_p 7 (.mv (.const (.bool false)))])
(.ret))
(.skip)))
(.seq (.ops [ o_m 30 1, o_p 31 (.len (.tmp 30)), o_m 32 2, o_p 33 (.bin .add (.tmp 31) (.tmp 32)), o_p 34 (.bin .sub (.tmp 33) (.const (.int .i64 (1)))), o_m 35 2, o_p 36 (.bin .quo (.tmp 34) (.tmp 35)), o_m 8 36])
(.seq (.seq (.ops [ o_m 37 8, o_p 38 (.bin .gtr (.tmp 37) (.const (.int .i64 (9))))])
(.cond (.tmp 38)
(.seq (.ops [ o_p 6 (.mv (.const (.slice none 0 0))), o_p 7 (.mv (.const (.bool false)))])
(.ret))
(.skip)))
(.seq (.ops [ o_p 9 (.mv (.const (.slice none 0 0)))])
(.seq (.seq (.ops [ o_m 39 8, o_p 40 (.mv (.const (.int .i64 (0))))])
(.block 0 (.loop (.seq (.ops [ o_p 41 (.bin .lss (.tmp 40) (.tmp 39))])
(.seq (.cond (.tmp 41)
(.skip)
(.exit 0))
(.seq (.block 1 (.seq (.ops [ o_m 42 40, o_m 10 42])
(.seq (.ops [ o_m 43 1, o_m 44 10, o_m 45 2, o_p 46 (.bin .mul (.tmp 44) (.tmp 45)), o_m 47 1, o_p 48 (.len (.tmp 47)), o_m 49 10, o_p 50 (.bin .add (.tmp 49) (.const (.int .i64 (1)))), o_m 51 2, o_p 52 (.bin .mul (.tmp 50) (.tmp 51)), o_p 53 (.min2 (.tmp 48) (.tmp 52)), o_p 54 (.slc 1 (.tmp 43) (some (.tmp 46)) (some (.tmp 53)) none), o_m 11 54])
(.ops [ o_m 55 9, o_m 56 0, o_m 57 10, o_m 58 8, o_m 59 11, o_e 60 (.call 29 [(.tmp 59)]), o_p 61 (.build [(.int .i64 (0)), (.int .i64 (0)), (.int .i64 (0)), (.slice none 0 0)] [(0, 1, (.tmp 56)), (1, 1, (.tmp 57)), (2, 1, (.tmp 58)), (3, 1, (.tmp 60))]), o_e 62 (.row 32 1 [(.int .i64 (0)), (.int .i64 (0)), (.int .i64 (0)), (.slice none 0 0)] [(0, 4, (.tmp 61))]), o_e 63 (.app 32 4 48 (.tmp 55) (.tmp 62)), o_m 9 63]))))
(.ops [ o_p 64 (.bin .add (.tmp 40) (.const (.int .i64 (1)))), o_m 40 64])))))))
(.seq (.ops [ o_m 65 9, o_m 6 65, o_p 7 (.mv (.const (.bool true)))])
(.ret))))))),
[.tmp 6, .tmp 7]⟩
theorem r_impl_SplitMessage : resFun Tryz.prog f_impl_SplitMessage = some c_impl_SplitMessage := by kernel_rfl

/- loop.example/g00940/spec.SplitMessage -/
abbrev f_spec_SplitMessage : Nat := 7
def c_spec_SplitMessage : MFun := ⟨33, .seq (.ops [ o_p 6 (.mv (.const (.slice none 0 0))), o_p 7 (.mv (.const (.bool false)))])
(.seq (.seq (.ops [ o_m 8 0, o_e 9 (.call 30 [(.tmp 8)]), o_p 10 (.bnot (.tmp 9)), o_m 11 10,
.split 11,
.op ⟨(some 12), (.pure (.mv (.tmp 2))), (some (11, false))⟩,
.op ⟨(some 13), (.eff (.call 31 [(.tmp 12), (.const (.int .i64 (1))), (.const (.int .i64 (8)))])), (some (11, false))⟩,
.op ⟨(some 14), (.pure (.bnot (.tmp 13))), (some (11, false))⟩, o_p 15 (.pick (.tmp 11) (.const (.bool true)) (.tmp 14)), o_m 16 15,
.split 16,
.op ⟨(some 17), (.pure (.mv (.tmp 1))), (some (16, false))⟩,
.op ⟨(some 18), (.pure (.len (.tmp 17))), (some (16, false))⟩,
.op ⟨(some 19), (.pure (.mv (.tmp 2))), (some (16, false))⟩,
.op ⟨(some 20), (.pure (.bin .mul (.tmp 19) (.const (.int .i64 (9))))), (some (16, false))⟩,
.op ⟨(some 21), (.eff (.call 31 [(.tmp 18), (.const (.int .i64 (1))), (.tmp 20)])), (some (16, false))⟩,
.op ⟨(some 22), (.pure (.bnot (.tmp 21))), (some (16, false))⟩, o_p 23 (.pick (.tmp 16) (.const (.bool true)) (.tmp 22)), o_m 24 23,
.split 24,
.op ⟨(some 25), (.pure (.mv (.tmp 1))), (some (24, false))⟩,
.op ⟨(some 26), (.eff (.call 32 [(.tmp 25), (.const (.int .i64 (1))), (.const (.int .i64 (60)))])), (some (24, false))⟩,
.op ⟨(some 27), (.pure (.bnot (.tmp 26))), (some (24, false))⟩, o_p 28 (.pick (.tmp 24) (.const (.bool true)) (.tmp 27))])
(.cond (.tmp 28)
(.seq (.ops [ o_p 6 (.mv (.const (.slice none 0 0))), o_p 7 (.mv (.const (.bool false)))])
(.ret))
(.skip)))
(.seq (.ops [ o_m 29 0, o_m 30 1, o_m 31 2, o_e 32 (.call 33 [(.tmp 29), (.tmp 30), (.tmp 31)]), o_m 6 32, o_p 7 (.mv (.const (.bool true)))])
(.ret))),
[.tmp 6, .tmp 7]⟩
theorem r_spec_SplitMessage : resFun Tryz.prog f_spec_SplitMessage = some c_spec_SplitMessage := by kernel_rfl

/- loop.example/g00940/laws.pSamePackets -/
abbrev f_laws_pSamePackets : Nat := 8
def c_laws_pSamePackets : MFun := ⟨27, .seq (.ops [ o_p 4 (.mv (.const (.bool false)))])
(.seq (.seq (.ops [ o_m 6 0, o_p 7 (.len (.tmp 6)), o_m 8 1, o_p 9 (.len (.tmp 8)), o_p 10 (.bin .neq (.tmp 7) (.tmp 9))])
(.cond (.tmp 10)
(.seq (.ops [ o_p 4 (.mv (.const (.bool false)))])
(.ret))
(.skip)))
(.seq (.seq (.ops [ o_m 11 0, o_p 12 (.len (.tmp 11)), o_p 13 (.mv (.const (.int .i64 (0))))])
(.block 0 (.loop (.seq (.ops [ o_p 14 (.bin .lss (.tmp 13) (.tmp 12))])
(.seq (.cond (.tmp 14)
(.skip)
(.exit 0))
(.seq (.block 1 (.seq (.ops [ o_m 15 13, o_m 5 15])
(.seq (.draw false
(.take (t_m 16 0)
(.take (t_m 17 5)
(.take (t_p 18 (.idx 4 (.tmp 16) (.tmp 17)))
(.take (t_m 20 1)
(.take (t_m 21 5)
(.take (t_p 22 (.idx 4 (.tmp 20) (.tmp 21)))
(.only false ⟨(some 19), (.load (some 4) (.tmp 18)), none⟩
(.only false ⟨(some 23), (.load (some 4) (.tmp 22)), none⟩
(.only true (t_e 24 (.call 11 [(.tmp 19), (.tmp 23)]))
(.take (t_p 25 (.bnot (.tmp 24)))
(.done))))))))))))
(.cond (.tmp 25)
(.seq (.ops [ o_p 4 (.mv (.const (.bool false)))])
(.ret))
(.skip)))))
(.ops [ o_p 26 (.bin .add (.tmp 13) (.const (.int .i64 (1)))), o_m 13 26])))))))
(.seq (.ops [ o_p 4 (.mv (.const (.bool true)))])
(.ret)))),
[.tmp 4]⟩
theorem r_laws_pSamePackets : resFun Tryz.prog f_laws_pSamePackets = some c_laws_pSamePackets := by kernel_rfl

/- loop.example/g00940/impl.PacketText -/
abbrev f_impl_PacketText : Nat := 9
def c_impl_PacketText : MFun := ⟨20, .seq (.ops [ o_e 1 (.box 32 (.tmp 0)),
.op ⟨(some 2), (.pure (.mv (.const (.string ⟨#[]⟩)))), none⟩, o_p 3 (.mv (.const (.bool false)))])
(.seq (.seq (.ops [
.op ⟨(some 4), (.load (some 4) (.tmp 1)), none⟩, o_e 5 (.call 12 [(.tmp 4)]), o_p 6 (.bnot (.tmp 5))])
(.cond (.tmp 6)
(.seq (.ops [
.op ⟨(some 2), (.pure (.mv (.const (.string ⟨#[]⟩)))), none⟩, o_p 3 (.mv (.const (.bool false)))])
(.ret))
(.skip)))
(.seq (.draw true
(.take (t_p 7 (.fieldAddr 0 (.tmp 1)))
(.take (t_p 9 (.fieldAddr 1 (.tmp 1)))
(.take (t_p 11 (.fieldAddr 2 (.tmp 1)))
(.take (t_p 16 (.fieldAddr 3 (.tmp 1)))
(.only false (t_l 8 7)
(.only false (t_l 10 9)
(.only false (t_l 12 11)
(.take (t_l 17 16)
(.only false (t_e 13 (.row 3 3 [(.int .i64 (0)), (.int .i64 (0)), (.int .i64 (0))] [(0, 1, (.tmp 8)), (1, 1, (.tmp 10)), (2, 1, (.tmp 12))]))
(.only false ⟨(some 14), (.eff (.call 34 [(.tmp 13), (.const (.string ⟨#[47]⟩))])), none⟩
(.take ⟨(some 15), (.pure (.bin .add (.tmp 14) (.const (.string ⟨#[58]⟩)))), none⟩
(.only true ⟨(some 18), (.eff (.call 34 [(.tmp 17), (.const (.string ⟨#[32]⟩))])), none⟩
(.take (t_p 19 (.bin .add (.tmp 15) (.tmp 18)))
(.take (t_m 2 19)
(.take (t_p 3 (.mv (.const (.bool true))))
(.done)))))))))))))))))
(.ret))),
[.tmp 2, .tmp 3]⟩
theorem r_impl_PacketText : resFun Tryz.prog f_impl_PacketText = some c_impl_PacketText := by kernel_rfl

/- loop.example/g00940/impl.ParsePacket -/
abbrev f_impl_ParsePacket : Nat := 10
def c_impl_ParsePacket : MFun := ⟨56, .seq (.ops [ o_e 2 (.new 32 [(.int .i64 (0)), (.int .i64 (0)), (.int .i64 (0)), (.slice none 0 0)]), o_p 3 (.mv (.const (.bool false)))])
(.seq (.ops [ o_m 13 0,
.op ⟨(some 14), (.eff (.call 35 [(.tmp 13), (.const (.string ⟨#[58]⟩))])), none⟩, o_m 12 14, o_p 15 (.ext 0 (.tmp 12)), o_p 16 (.ext 1 (.tmp 12)), o_p 17 (.ext 2 (.tmp 12)), o_m 4 15, o_m 5 16, o_m 6 17])
(.seq (.ops [ o_m 19 4,
.op ⟨(some 20), (.eff (.call 36 [(.tmp 19), (.const (.string ⟨#[47]⟩))])), none⟩, o_m 18 20, o_p 21 (.ext 0 (.tmp 18)), o_p 22 (.ext 1 (.tmp 18)), o_m 7 21, o_m 8 22])
(.seq (.ops [ o_m 24 5,
.op ⟨(some 25), (.eff (.call 36 [(.tmp 24), (.const (.string ⟨#[32]⟩))])), none⟩, o_m 23 25, o_p 26 (.ext 0 (.tmp 23)), o_p 27 (.ext 1 (.tmp 23)), o_m 9 26, o_m 10 27])
(.seq (.seq (.ops [ o_m 28 8, o_p 29 (.bnot (.tmp 28)), o_m 30 29,
.split 30,
.op ⟨(some 31), (.pure (.mv (.tmp 10))), (some (30, false))⟩,
.op ⟨(some 32), (.pure (.bnot (.tmp 31))), (some (30, false))⟩, o_p 33 (.pick (.tmp 30) (.const (.bool true)) (.tmp 32)), o_m 34 33,
.split 34,
.op ⟨(some 35), (.pure (.mv (.tmp 7))), (some (34, false))⟩,
.op ⟨(some 36), (.pure (.len (.tmp 35))), (some (34, false))⟩,
.op ⟨(some 37), (.pure (.bin .neq (.tmp 36) (.const (.int .i64 (3))))), (some (34, false))⟩, o_p 38 (.pick (.tmp 34) (.const (.bool true)) (.tmp 37))])
(.cond (.tmp 38)
(.seq (.ops [ o_p 39 (.build [(.int .i64 (0)), (.int .i64 (0)), (.int .i64 (0)), (.slice none 0 0)] []),
.op ⟨none, (.eff (.store 4 (.tmp 2) (.tmp 39))), none⟩, o_p 3 (.mv (.const (.bool false)))])
(.ret))
(.skip)))
(.seq (.draw true
(.take (t_m 40 7)
(.take (t_p 41 (.idx 1 (.tmp 40) (.const (.int .i64 (0)))))
(.take (t_m 43 7)
(.take (t_p 44 (.idx 1 (.tmp 43) (.const (.int .i64 (1)))))
(.take (t_m 46 7)
(.take (t_p 47 (.idx 1 (.tmp 46) (.const (.int .i64 (2)))))
(.take (t_m 49 9)
(.take (t_l 42 41)
(.take (t_l 45 44)
(.take (t_l 48 47)
(.take (t_p 50 (.build [(.int .i64 (0)), (.int .i64 (0)), (.int .i64 (0)), (.slice none 0 0)] [(0, 1, (.tmp 42)), (1, 1, (.tmp 45)), (2, 1, (.tmp 48)), (3, 1, (.tmp 49))]))
(.only false (t_e 11 (.new 32 [(.int .i64 (0)), (.int .i64 (0)), (.int .i64 (0)), (.slice none 0 0)]))
(.only true ⟨none, (.eff (.store 4 (.tmp 11) (.tmp 50))), none⟩
(.done)))))))))))))))
(.seq (.seq (.ops [
.op ⟨(some 51), (.load (some 4) (.tmp 11)), none⟩, o_e 52 (.call 12 [(.tmp 51)]), o_p 53 (.bnot (.tmp 52))])
(.cond (.tmp 53)
(.seq (.ops [ o_p 54 (.build [(.int .i64 (0)), (.int .i64 (0)), (.int .i64 (0)), (.slice none 0 0)] []),
.op ⟨none, (.eff (.store 4 (.tmp 2) (.tmp 54))), none⟩, o_p 3 (.mv (.const (.bool false)))])
(.ret))
(.skip)))
(.seq (.ops [
.op ⟨(some 55), (.load (some 4) (.tmp 11)), none⟩,
.op ⟨none, (.eff (.store 4 (.tmp 2) (.tmp 55))), none⟩, o_p 3 (.mv (.const (.bool true)))])
(.ret)))))))),
[.cell 2 (some 4), .tmp 3]⟩
theorem r_impl_ParsePacket : resFun Tryz.prog f_impl_ParsePacket = some c_impl_ParsePacket := by kernel_rfl

/- loop.example/g00940/laws.pSamePacket -/
abbrev f_laws_pSamePacket : Nat := 11
def c_laws_pSamePacket : MFun := ⟨31, .seq (.ops [ o_e 2 (.box 32 (.tmp 0)), o_e 3 (.box 32 (.tmp 1)), o_p 4 (.mv (.const (.bool false)))])
(.seq (.ops [ o_p 5 (.fieldAddr 0 (.tmp 2)), o_l 6 5, o_p 7 (.fieldAddr 0 (.tmp 3)), o_l 8 7, o_p 9 (.bin .eql (.tmp 6) (.tmp 8)), o_m 10 9,
.split 10,
.op ⟨(some 11), (.pure (.fieldAddr 1 (.tmp 2))), (some (10, true))⟩,
.op ⟨(some 12), (.load none (.tmp 11)), (some (10, true))⟩,
.op ⟨(some 13), (.pure (.fieldAddr 1 (.tmp 3))), (some (10, true))⟩,
.op ⟨(some 14), (.load none (.tmp 13)), (some (10, true))⟩,
.op ⟨(some 15), (.pure (.bin .eql (.tmp 12) (.tmp 14))), (some (10, true))⟩, o_p 16 (.pick (.tmp 10) (.tmp 15) (.const (.bool false))), o_m 17 16,
.split 17,
.op ⟨(some 18), (.pure (.fieldAddr 2 (.tmp 2))), (some (17, true))⟩,
.op ⟨(some 19), (.load none (.tmp 18)), (some (17, true))⟩,
.op ⟨(some 20), (.pure (.fieldAddr 2 (.tmp 3))), (some (17, true))⟩,
.op ⟨(some 21), (.load none (.tmp 20)), (some (17, true))⟩,
.op ⟨(some 22), (.pure (.bin .eql (.tmp 19) (.tmp 21))), (some (17, true))⟩, o_p 23 (.pick (.tmp 17) (.tmp 22) (.const (.bool false))), o_m 24 23,
.split 24,
.op ⟨(some 25), (.pure (.fieldAddr 3 (.tmp 2))), (some (24, true))⟩,
.op ⟨(some 26), (.load none (.tmp 25)), (some (24, true))⟩,
.op ⟨(some 27), (.pure (.fieldAddr 3 (.tmp 3))), (some (24, true))⟩,
.op ⟨(some 28), (.load none (.tmp 27)), (some (24, true))⟩,
.op ⟨(some 29), (.eff (.call 15 [(.tmp 26), (.tmp 28)])), (some (24, true))⟩, o_p 30 (.pick (.tmp 24) (.tmp 29) (.const (.bool false))), o_m 4 30])
(.ret)),
[.tmp 4]⟩
theorem r_laws_pSamePacket : resFun Tryz.prog f_laws_pSamePacket = some c_laws_pSamePacket := by kernel_rfl

/- loop.example/g00940/impl.IsPacket -/
abbrev f_impl_IsPacket : Nat := 12
def c_impl_IsPacket : MFun := ⟨30, .seq (.ops [ o_e 1 (.box 32 (.tmp 0)), o_p 2 (.mv (.const (.bool false)))])
(.seq (.ops [ o_p 3 (.fieldAddr 0 (.tmp 1)), o_l 4 3, o_e 5 (.call 27 [(.tmp 4), (.const (.int .i64 (1))), (.const (.int .i64 (999)))]), o_m 6 5,
.split 6,
.op ⟨(some 7), (.pure (.fieldAddr 2 (.tmp 1))), (some (6, true))⟩,
.op ⟨(some 8), (.load none (.tmp 7)), (some (6, true))⟩,
.op ⟨(some 9), (.eff (.call 27 [(.tmp 8), (.const (.int .i64 (1))), (.const (.int .i64 (9)))])), (some (6, true))⟩, o_p 10 (.pick (.tmp 6) (.tmp 9) (.const (.bool false))), o_m 11 10,
.split 11,
.op ⟨(some 12), (.pure (.fieldAddr 1 (.tmp 1))), (some (11, true))⟩,
.op ⟨(some 13), (.load none (.tmp 12)), (some (11, true))⟩,
.op ⟨(some 14), (.pure (.fieldAddr 2 (.tmp 1))), (some (11, true))⟩,
.op ⟨(some 15), (.load none (.tmp 14)), (some (11, true))⟩,
.op ⟨(some 16), (.pure (.bin .sub (.tmp 15) (.const (.int .i64 (1))))), (some (11, true))⟩,
.op ⟨(some 17), (.eff (.call 27 [(.tmp 13), (.const (.int .i64 (0))), (.tmp 16)])), (some (11, true))⟩, o_p 18 (.pick (.tmp 11) (.tmp 17) (.const (.bool false))), o_m 19 18,
.split 19,
.op ⟨(some 20), (.pure (.fieldAddr 3 (.tmp 1))), (some (19, true))⟩,
.op ⟨(some 21), (.load none (.tmp 20)), (some (19, true))⟩,
.op ⟨(some 22), (.pure (.len (.tmp 21))), (some (19, true))⟩,
.op ⟨(some 23), (.eff (.call 27 [(.tmp 22), (.const (.int .i64 (1))), (.const (.int .i64 (8)))])), (some (19, true))⟩, o_p 24 (.pick (.tmp 19) (.tmp 23) (.const (.bool false))), o_m 25 24,
.split 25,
.op ⟨(some 26), (.pure (.fieldAddr 3 (.tmp 1))), (some (25, true))⟩,
.op ⟨(some 27), (.load none (.tmp 26)), (some (25, true))⟩,
.op ⟨(some 28), (.eff (.call 28 [(.tmp 27), (.const (.int .i64 (1))), (.const (.int .i64 (60)))])), (some (25, true))⟩, o_p 29 (.pick (.tmp 25) (.tmp 28) (.const (.bool false))), o_m 2 29])
(.ret)),
[.tmp 2]⟩
theorem r_impl_IsPacket : resFun Tryz.prog f_impl_IsPacket = some c_impl_IsPacket := by kernel_rfl

/- loop.example/g00940/impl.JoinMessage -/
abbrev f_impl_JoinMessage : Nat := 13
def c_impl_JoinMessage : MFun := ⟨44, .seq (.ops [ o_p 4 (.mv (.const (.slice none 0 0))), o_p 5 (.mv (.const (.bool false)))])
(.seq (.ops [ o_m 12 0, o_m 13 1, o_e 14 (.call 37 [(.tmp 12), (.tmp 13)]), o_m 11 14, o_p 15 (.ext 0 (.tmp 11)), o_p 16 (.ext 1 (.tmp 11)), o_m 6 15, o_m 7 16])
(.seq (.seq (.ops [ o_m 17 7, o_p 18 (.bnot (.tmp 17)), o_m 19 18,
.split 19,
.op ⟨(some 20), (.pure (.mv (.tmp 6))), (some (19, false))⟩,
.op ⟨(some 21), (.eff (.call 38 [(.tmp 20)])), (some (19, false))⟩,
.op ⟨(some 22), (.pure (.len (.tmp 21))), (some (19, false))⟩,
.op ⟨(some 23), (.pure (.bin .gtr (.tmp 22) (.const (.int .i64 (0))))), (some (19, false))⟩, o_p 24 (.pick (.tmp 19) (.const (.bool true)) (.tmp 23))])
(.cond (.tmp 24)
(.seq (.ops [ o_p 4 (.mv (.const (.slice none 0 0))), o_p 5 (.mv (.const (.bool false)))])
(.ret))
(.skip)))
(.seq (.ops [ o_p 8 (.mv (.const (.slice none 0 0)))])
(.seq (.seq (.ops [ o_m 25 6, o_p 26 (.idx 4 (.tmp 25) (.const (.int .i64 (0)))), o_p 27 (.fieldAddr 2 (.tmp 26)), o_l 28 27, o_p 29 (.mv (.const (.int .i64 (0))))])
(.block 0 (.loop (.seq (.ops [ o_p 30 (.bin .lss (.tmp 29) (.tmp 28))])
(.seq (.cond (.tmp 30)
(.skip)
(.exit 0))
(.seq (.block 1 (.seq (.ops [ o_m 31 29, o_e 9 (.new 3 [(.int .i64 (0))]),
.op ⟨none, (.eff (.store 1 (.tmp 9) (.tmp 31))), none⟩])
(.seq (.ops [ o_m 32 6, o_p 33 (.mkfn (.func 40) [] [(.tmp 9)]), o_e 34 (.call 39 [(.tmp 32), (.tmp 33)]), o_m 10 34])
(.ops [ o_m 35 8, o_m 36 6, o_m 37 10, o_p 38 (.idx 4 (.tmp 36) (.tmp 37)), o_p 39 (.fieldAddr 3 (.tmp 38)), o_l 40 39, o_e 41 (.app 3 1 8 (.tmp 35) (.tmp 40)), o_m 8 41]))))
(.ops [ o_p 42 (.bin .add (.tmp 29) (.const (.int .i64 (1)))), o_m 29 42])))))))
(.seq (.ops [ o_m 43 8, o_m 4 43, o_p 5 (.mv (.const (.bool true)))])
(.ret)))))),
[.tmp 4, .tmp 5]⟩
theorem r_impl_JoinMessage : resFun Tryz.prog f_impl_JoinMessage = some c_impl_JoinMessage := by kernel_rfl

/- loop.example/g00940/impl.MissingParts -/
abbrev f_impl_MissingParts : Nat := 14
def c_impl_MissingParts : MFun := ⟨18, .seq (.ops [ o_p 4 (.mv (.const (.slice none 0 0))), o_p 5 (.mv (.const (.bool false)))])
(.seq (.ops [ o_m 9 0, o_m 10 1, o_e 11 (.call 37 [(.tmp 9), (.tmp 10)]), o_m 8 11, o_p 12 (.ext 0 (.tmp 8)), o_p 13 (.ext 1 (.tmp 8)), o_m 6 12, o_m 7 13])
(.seq (.seq (.ops [ o_m 14 7, o_p 15 (.bnot (.tmp 14))])
(.cond (.tmp 15)
(.seq (.ops [ o_p 4 (.mv (.const (.slice none 0 0))), o_p 5 (.mv (.const (.bool false)))])
(.ret))
(.skip)))
(.seq (.ops [ o_m 16 6, o_e 17 (.call 38 [(.tmp 16)]), o_m 4 17, o_p 5 (.mv (.const (.bool true)))])
(.ret)))),
[.tmp 4, .tmp 5]⟩
theorem r_impl_MissingParts : resFun Tryz.prog f_impl_MissingParts = some c_impl_MissingParts := by kernel_rfl

/- loop.example/g00940/laws.sameInts -/
abbrev f_laws_sameInts : Nat := 15
def c_laws_sameInts : MFun := ⟨26, .seq (.ops [ o_p 4 (.mv (.const (.bool false)))])
(.seq (.seq (.ops [ o_m 6 0, o_p 7 (.len (.tmp 6)), o_m 8 1, o_p 9 (.len (.tmp 8)), o_p 10 (.bin .neq (.tmp 7) (.tmp 9))])
(.cond (.tmp 10)
(.seq (.ops [ o_p 4 (.mv (.const (.bool false)))])
(.ret))
(.skip)))
(.seq (.seq (.ops [ o_m 11 0, o_p 12 (.len (.tmp 11)), o_p 13 (.mv (.const (.int .i64 (0))))])
(.block 0 (.loop (.seq (.ops [ o_p 14 (.bin .lss (.tmp 13) (.tmp 12))])
(.seq (.cond (.tmp 14)
(.skip)
(.exit 0))
(.seq (.block 1 (.seq (.ops [ o_m 15 13, o_m 5 15])
(.seq (.ops [ o_m 16 0, o_m 17 5, o_p 18 (.idx 1 (.tmp 16) (.tmp 17)), o_m 20 1, o_m 21 5, o_p 22 (.idx 1 (.tmp 20) (.tmp 21)), o_l 19 18, o_l 23 22, o_p 24 (.bin .neq (.tmp 19) (.tmp 23))])
(.cond (.tmp 24)
(.seq (.ops [ o_p 4 (.mv (.const (.bool false)))])
(.ret))
(.skip)))))
(.ops [ o_p 25 (.bin .add (.tmp 13) (.const (.int .i64 (1)))), o_m 13 25])))))))
(.seq (.ops [ o_p 4 (.mv (.const (.bool true)))])
(.ret)))),
[.tmp 4]⟩
theorem r_laws_sameInts : resFun Tryz.prog f_laws_sameInts = some c_laws_sameInts := by kernel_rfl

/- loop.example/g00940/spec.DrawJoinMessage -/
abbrev f_spec_DrawJoinMessage : Nat := 16
def c_spec_DrawJoinMessage : MFun := ⟨15, .seq (.ops [ o_p 2 (.mv (.const (.slice none 0 0))), o_p 3 (.mv (.const (.int .i64 (0))))])
(.seq (.ops [ o_m 6 0, o_p 7 (.build [(.slice none 0 0), (.int .i64 (0)), (.int .u64 (0))] [(0, 1, (.tmp 6))]), o_e 8 (.box 49 (.tmp 7)), o_m 4 8])
(.seq (.ops [ o_m 9 4, o_e 10 (.call 41 [(.tmp 9)]), o_m 5 10])
(.seq (.ops [ o_m 11 5, o_m 12 4, o_m 13 5, o_e 14 (.call 42 [(.tmp 12), (.tmp 13)]), o_m 2 11, o_m 3 14])
(.ret)))),
[.tmp 2, .tmp 3]⟩
theorem r_spec_DrawJoinMessage : resFun Tryz.prog f_spec_DrawJoinMessage = some c_spec_DrawJoinMessage := by kernel_rfl

/- loop.example/g00940/spec.JoinMessage -/
abbrev f_spec_JoinMessage : Nat := 17
def c_spec_JoinMessage : MFun := ⟨19, .seq (.ops [ o_p 4 (.mv (.const (.slice none 0 0))), o_p 5 (.mv (.const (.bool false)))])
(.seq (.seq (.ops [ o_m 6 0, o_e 7 (.call 43 [(.tmp 6)]), o_p 8 (.bnot (.tmp 7)), o_m 9 8,
.split 9,
.op ⟨(some 10), (.pure (.mv (.tmp 1))), (some (9, false))⟩,
.op ⟨(some 11), (.eff (.call 30 [(.tmp 10)])), (some (9, false))⟩,
.op ⟨(some 12), (.pure (.bnot (.tmp 11))), (some (9, false))⟩, o_p 13 (.pick (.tmp 9) (.const (.bool true)) (.tmp 12))])
(.cond (.tmp 13)
(.seq (.ops [ o_p 4 (.mv (.const (.slice none 0 0))), o_p 5 (.mv (.const (.bool false)))])
(.ret))
(.skip)))
(.seq (.ops [ o_m 14 0, o_m 15 1, o_e 16 (.call 44 [(.tmp 14), (.tmp 15)]), o_p 17 (.ext 0 (.tmp 16)), o_p 18 (.ext 1 (.tmp 16)), o_m 4 17, o_m 5 18])
(.ret))),
[.tmp 4, .tmp 5]⟩
theorem r_spec_JoinMessage : resFun Tryz.prog f_spec_JoinMessage = some c_spec_JoinMessage := by kernel_rfl

/- loop.example/g00940/spec.MissingParts -/
abbrev f_spec_MissingParts : Nat := 18
def c_spec_MissingParts : MFun := ⟨31, .seq (.ops [ o_p 4 (.mv (.const (.slice none 0 0))), o_p 5 (.mv (.const (.bool false)))])
(.seq (.seq (.ops [ o_m 8 0, o_e 9 (.call 43 [(.tmp 8)]), o_p 10 (.bnot (.tmp 9)), o_m 11 10,
.split 11,
.op ⟨(some 12), (.pure (.mv (.tmp 1))), (some (11, false))⟩,
.op ⟨(some 13), (.eff (.call 30 [(.tmp 12)])), (some (11, false))⟩,
.op ⟨(some 14), (.pure (.bnot (.tmp 13))), (some (11, false))⟩, o_p 15 (.pick (.tmp 11) (.const (.bool true)) (.tmp 14))])
(.cond (.tmp 15)
(.seq (.ops [ o_p 4 (.mv (.const (.slice none 0 0))), o_p 5 (.mv (.const (.bool false)))])
(.ret))
(.skip)))
(.seq (.ops [ o_m 17 0, o_m 18 1, o_e 19 (.call 45 [(.tmp 17), (.tmp 18)]), o_m 16 19, o_p 20 (.ext 0 (.tmp 16)), o_p 21 (.ext 1 (.tmp 16)), o_m 6 20, o_m 7 21])
(.seq (.seq (.ops [ o_m 22 7, o_p 23 (.bnot (.tmp 22)), o_m 24 23,
.split 24,
.op ⟨(some 25), (.pure (.mv (.tmp 6))), (some (24, false))⟩,
.op ⟨(some 26), (.pure (.len (.tmp 25))), (some (24, false))⟩,
.op ⟨(some 27), (.pure (.bin .eql (.tmp 26) (.const (.int .i64 (0))))), (some (24, false))⟩, o_p 28 (.pick (.tmp 24) (.const (.bool true)) (.tmp 27))])
(.cond (.tmp 28)
(.seq (.ops [ o_p 4 (.mv (.const (.slice none 0 0))), o_p 5 (.mv (.const (.bool false)))])
(.ret))
(.skip)))
(.seq (.ops [ o_m 29 6, o_e 30 (.call 46 [(.tmp 29)]), o_m 4 30, o_p 5 (.mv (.const (.bool true)))])
(.ret))))),
[.tmp 4, .tmp 5]⟩
theorem r_spec_MissingParts : resFun Tryz.prog f_spec_MissingParts = some c_spec_MissingParts := by kernel_rfl

/- loop.example/g00940/spec.DrawPacketText -/
abbrev f_spec_DrawPacketText : Nat := 19
def c_spec_DrawPacketText : MFun := ⟨5, .seq (.ops [ o_e 2 (.new 32 [(.int .i64 (0)), (.int .i64 (0)), (.int .i64 (0)), (.slice none 0 0)])])
(.seq (.ops [ o_m 3 0, o_e 4 (.call 47 [(.tmp 3)]),
.op ⟨none, (.eff (.store 4 (.tmp 2) (.tmp 4))), none⟩])
(.ret)),
[.cell 2 (some 4)]⟩
theorem r_spec_DrawPacketText : resFun Tryz.prog f_spec_DrawPacketText = some c_spec_DrawPacketText := by kernel_rfl

/- loop.example/g00940/spec.PacketText -/
abbrev f_spec_PacketText : Nat := 20
def c_spec_PacketText : MFun := ⟨9, .seq (.ops [ o_e 1 (.box 32 (.tmp 0)),
.op ⟨(some 2), (.pure (.mv (.const (.string ⟨#[]⟩)))), none⟩, o_p 3 (.mv (.const (.bool false)))])
(.seq (.seq (.ops [
.op ⟨(some 4), (.load (some 4) (.tmp 1)), none⟩, o_e 5 (.call 48 [(.tmp 4)]), o_p 6 (.bnot (.tmp 5))])
(.cond (.tmp 6)
(.seq (.ops [
.op ⟨(some 2), (.pure (.mv (.const (.string ⟨#[]⟩)))), none⟩, o_p 3 (.mv (.const (.bool false)))])
(.ret))
(.skip)))
(.seq (.ops [
.op ⟨(some 7), (.load (some 4) (.tmp 1)), none⟩, o_e 8 (.call 49 [(.tmp 7)]), o_m 2 8, o_p 3 (.mv (.const (.bool true)))])
(.ret))),
[.tmp 2, .tmp 3]⟩
theorem r_spec_PacketText : resFun Tryz.prog f_spec_PacketText = some c_spec_PacketText := by kernel_rfl

/- loop.example/g00940/spec.DrawParsePacket -/
abbrev f_spec_DrawParsePacket : Nat := 21
def c_spec_DrawParsePacket : MFun := ⟨25, .seq (.ops [
.op ⟨(some 2), (.pure (.mv (.const (.string ⟨#[]⟩)))), none⟩])
(.seq (.ops [ o_m 6 0, o_p 7 (.build [(.slice none 0 0), (.int .i64 (0)), (.int .u64 (0))] [(0, 1, (.tmp 6))]), o_e 8 (.box 49 (.tmp 7)), o_m 3 8])
(.seq (.ops [ o_m 9 3, o_e 10 (.call 50 [(.tmp 9)]), o_e 4 (.new 32 [(.int .i64 (0)), (.int .i64 (0)), (.int .i64 (0)), (.slice none 0 0)]),
.op ⟨none, (.eff (.store 4 (.tmp 4) (.tmp 10))), none⟩])
(.seq (.seq (.ops [
.op ⟨(some 11), (.load (some 4) (.tmp 4)), none⟩, o_e 12 (.call 48 [(.tmp 11)]), o_p 13 (.bnot (.tmp 12))])
(.cond (.tmp 13)
(.seq (.ops [ o_m 14 3,
.op ⟨(some 15), (.eff (.row 9 8 [(.string ⟨#[]⟩), (.string ⟨#[]⟩), (.string ⟨#[]⟩), (.string ⟨#[]⟩), (.string ⟨#[]⟩), (.string ⟨#[]⟩), (.string ⟨#[]⟩), (.string ⟨#[]⟩)] [(0, 1, (.const (.string ⟨#[]⟩))), (1, 1, (.const (.string ⟨#[49, 50, 47, 48, 47, 50]⟩))), (2, 1, (.const (.string ⟨#[49, 50, 47, 48, 47, 50, 58]⟩))), (3, 1, (.const (.string ⟨#[49, 50, 47, 50, 47, 50, 58, 53]⟩))), (4, 1, (.const (.string ⟨#[49, 50, 47, 48, 47, 50, 58, 54, 49]⟩))), (5, 1, (.const (.string ⟨#[48, 49, 50, 47, 48, 47, 49, 58, 53]⟩))), (6, 1, (.const (.string ⟨#[49, 50, 47, 48, 47, 49, 58, 53, 32]⟩))), (7, 1, (.const (.string ⟨#[49, 50, 47, 48, 58, 53]⟩)))])), none⟩, o_e 16 (.call 51 [(.tmp 14), (.tmp 15)]), o_m 2 16])
(.ret))
(.skip)))
(.seq (.ops [
.op ⟨(some 17), (.load (some 4) (.tmp 4)), none⟩, o_e 18 (.call 49 [(.tmp 17)]), o_m 5 18])
(.seq (.seq (.ops [ o_m 19 3, o_e 20 (.call 26 [(.tmp 19), (.const (.int .i64 (3)))])])
(.cond (.tmp 20)
(.seq (.ops [ o_m 21 3, o_m 22 5,
.op ⟨(some 23), (.eff (.call 52 [(.tmp 21), (.tmp 22), (.const (.string ⟨#[48, 49, 50, 47, 58, 32]⟩))])), none⟩, o_m 2 23])
(.ret))
(.skip)))
(.seq (.ops [ o_m 24 5, o_m 2 24])
(.ret))))))),
[.tmp 2]⟩
theorem r_spec_DrawParsePacket : resFun Tryz.prog f_spec_DrawParsePacket = some c_spec_DrawParsePacket := by kernel_rfl

/- loop.example/g00940/spec.ParsePacket -/
abbrev f_spec_ParsePacket : Nat := 22
def c_spec_ParsePacket : MFun := ⟨8, .seq (.ops [ o_e 2 (.new 32 [(.int .i64 (0)), (.int .i64 (0)), (.int .i64 (0)), (.slice none 0 0)]), o_p 3 (.mv (.const (.bool false)))])
(.seq (.ops [ o_m 4 0, o_e 5 (.call 53 [(.tmp 4)]), o_p 6 (.ext 0 (.tmp 5)), o_p 7 (.ext 1 (.tmp 5)),
.op ⟨none, (.eff (.store 4 (.tmp 2) (.tmp 6))), none⟩, o_m 3 7])
(.ret)),
[.cell 2 (some 4), .tmp 3]⟩
theorem r_spec_ParsePacket : resFun Tryz.prog f_spec_ParsePacket = some c_spec_ParsePacket := by kernel_rfl

/- (*loop.example/g00940/spec.l1Cur).among -/
abbrev f_spec_l1Cur_among : Nat := 23
def c_spec_l1Cur_among : MFun := ⟨12, .seq (.ops [ o_p 4 (.mv (.const (.int .i64 (0))))])
(.seq (.ops [ o_m 5 1, o_m 6 0, o_m 7 1, o_p 8 (.len (.tmp 7)), o_e 9 (.call 54 [(.tmp 6), (.tmp 8)]), o_p 10 (.idx 1 (.tmp 5) (.tmp 9)), o_l 11 10, o_m 4 11])
(.ret)),
[.tmp 4]⟩
theorem r_spec_l1Cur_among : resFun Tryz.prog f_spec_l1Cur_among = some c_spec_l1Cur_among := by kernel_rfl

/- (*loop.example/g00940/spec.l1Cur).contents -/
abbrev f_spec_l1Cur_contents : Nat := 24
def c_spec_l1Cur_contents : MFun := ⟨21, .seq (.ops [ o_p 4 (.mv (.const (.slice none 0 0)))])
(.seq (.ops [ o_p 5 (.mv (.const (.slice none 0 0)))])
(.seq (.block 0 (.loop (.seq (.seq (.ops [ o_m 6 1, o_p 7 (.bin .gtr (.tmp 6) (.const (.int .i64 (0))))])
(.cond (.tmp 7)
(.skip)
(.exit 0)))
(.seq (.block 1 (.ops [ o_m 10 5, o_m 11 0, o_m 12 0, o_e 13 (.call 55 [(.tmp 12)]), o_m 14 0, o_e 15 (.call 55 [(.tmp 14)]), o_e 16 (.row 3 6 [(.int .i64 (0)), (.int .i64 (0)), (.int .i64 (0)), (.int .i64 (0)), (.int .i64 (0)), (.int .i64 (0))] [(0, 1, (.const (.int .i64 (1)))), (1, 1, (.const (.int .i64 (5)))), (2, 1, (.const (.int .i64 (12)))), (3, 1, (.const (.int .i64 (60)))), (4, 1, (.tmp 13)), (5, 1, (.tmp 15))]), o_e 17 (.call 23 [(.tmp 11), (.tmp 16)]), o_e 18 (.row 3 1 [(.int .i64 (0))] [(0, 1, (.tmp 17))]), o_e 19 (.app 3 1 8 (.tmp 10) (.tmp 18)), o_m 5 19]))
(.ops [ o_m 8 1, o_p 9 (.bin .sub (.tmp 8) (.const (.int .i64 (1)))), o_m 1 9])))))
(.seq (.ops [ o_m 20 5, o_m 4 20])
(.ret)))),
[.tmp 4]⟩
theorem r_spec_l1Cur_contents : resFun Tryz.prog f_spec_l1Cur_contents = some c_spec_l1Cur_contents := by kernel_rfl

/- loop.example/g00940/spec.l1Most -/
abbrev f_spec_l1Most : Nat := 25
def c_spec_l1Most : MFun := ⟨10, .seq (.ops [ o_p 4 (.mv (.const (.int .i64 (0))))])
(.seq (.seq (.ops [ o_m 5 0, o_m 6 1, o_p 7 (.bin .gtr (.tmp 5) (.tmp 6))])
(.cond (.tmp 7)
(.seq (.ops [ o_m 8 0, o_m 4 8])
(.ret))
(.skip)))
(.seq (.ops [ o_m 9 1, o_m 4 9])
(.ret))),
[.tmp 4]⟩
theorem r_spec_l1Most : resFun Tryz.prog f_spec_l1Most = some c_spec_l1Most := by kernel_rfl

/- (*loop.example/g00940/spec.l1Cur).one -/
abbrev f_spec_l1Cur_one : Nat := 26
def c_spec_l1Cur_one : MFun := ⟨9, .seq (.ops [ o_p 4 (.mv (.const (.bool false)))])
(.seq (.ops [ o_m 5 0, o_m 6 1, o_e 7 (.call 54 [(.tmp 5), (.tmp 6)]), o_p 8 (.bin .eql (.tmp 7) (.const (.int .i64 (0)))), o_m 4 8])
(.ret)),
[.tmp 4]⟩
theorem r_spec_l1Cur_one : resFun Tryz.prog f_spec_l1Cur_one = some c_spec_l1Cur_one := by kernel_rfl

/- loop.example/g00940/impl.within -/
abbrev f_impl_within : Nat := 27
def c_impl_within : MFun := ⟨15, .seq (.ops [ o_p 6 (.mv (.const (.bool false)))])
(.seq (.ops [ o_m 7 0, o_m 8 1, o_p 9 (.bin .geq (.tmp 7) (.tmp 8)), o_m 10 9,
.split 10,
.op ⟨(some 11), (.pure (.mv (.tmp 0))), (some (10, true))⟩,
.op ⟨(some 12), (.pure (.mv (.tmp 2))), (some (10, true))⟩,
.op ⟨(some 13), (.pure (.bin .leq (.tmp 11) (.tmp 12))), (some (10, true))⟩, o_p 14 (.pick (.tmp 10) (.tmp 13) (.const (.bool false))), o_m 6 14])
(.ret)),
[.tmp 6]⟩
theorem r_impl_within : resFun Tryz.prog f_impl_within = some c_impl_within := by kernel_rfl

/- loop.example/g00940/impl.allWithin -/
abbrev f_impl_allWithin : Nat := 28
def c_impl_allWithin : MFun := ⟨21, .seq (.ops [ o_p 6 (.mv (.const (.bool false)))])
(.seq (.seq (.ops [ o_m 9 0, o_p 10 (.len (.tmp 9)), o_p 11 (.mv (.const (.int .i64 (0))))])
(.block 0 (.loop (.seq (.ops [ o_p 12 (.bin .lss (.tmp 11) (.tmp 10))])
(.seq (.cond (.tmp 12)
(.skip)
(.exit 0))
(.seq (.block 1 (.seq (.ops [ o_p 13 (.idx 1 (.tmp 9) (.tmp 11)), o_l 14 13, o_m 8 14])
(.seq (.ops [ o_m 15 8, o_m 16 1, o_m 17 2, o_e 18 (.call 27 [(.tmp 15), (.tmp 16), (.tmp 17)]), o_p 19 (.bnot (.tmp 18))])
(.cond (.tmp 19)
(.seq (.ops [ o_p 6 (.mv (.const (.bool false)))])
(.ret))
(.skip)))))
(.ops [ o_p 20 (.bin .add (.tmp 11) (.const (.int .i64 (1)))), o_m 11 20])))))))
(.seq (.ops [ o_p 6 (.mv (.const (.bool true)))])
(.ret))),
[.tmp 6]⟩
theorem r_impl_allWithin : resFun Tryz.prog f_impl_allWithin = some c_impl_allWithin := by kernel_rfl
end Go.Proofs.YtbikhpphdhffaaaGreatDoor
