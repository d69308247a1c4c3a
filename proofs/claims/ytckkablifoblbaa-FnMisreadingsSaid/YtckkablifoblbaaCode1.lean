/- The code of this seat's functions, resolved, written by a program of mine; each is held against the given program by the kernel. Condition: none. -/
import Derived.Test.YtckkablifoblbaaProg
import Derived.Test.YtckkablifoblbaaBase9
import Derived.KernelRfl
namespace Go.Proofs.Ytckkablifoblbaa
open Go.Vc

/- loop.example/g00940/laws.FnMisreadings -/
abbrev f_laws_FnMisreadings : Nat := 14
def c_laws_FnMisreadings : MFun := ⟨395, .seq (.ops [
.op ⟨(some 4), (.pure (.mv (.const (.bool false)))), none⟩])
(.seq (.seq (.ops [
.op ⟨(some 60), (.pure (.mv (.tmp 0))), none⟩,
.op ⟨(some 61), (.pure (.mv (.tmp 1))), none⟩,
.op ⟨(some 62), (.eff (.call 44 [(.tmp 60), (.tmp 61)])), none⟩])
(.cond (.tmp 62)
(.seq (.ops [
.op ⟨(some 4), (.pure (.mv (.const (.bool true)))), none⟩])
(.ret))
(.skip)))
(.seq (.ops [
.op ⟨(some 64), (.pure (.mv (.tmp 0))), none⟩,
.op ⟨(some 65), (.eff (.call 49 [(.tmp 64)])), none⟩,
.op ⟨(some 63), (.pure (.mv (.tmp 65))), none⟩,
.op ⟨(some 66), (.pure (.ext 0 (.tmp 63))), none⟩,
.op ⟨(some 67), (.pure (.ext 1 (.tmp 63))), none⟩,
.op ⟨(some 68), (.pure (.ext 2 (.tmp 63))), none⟩,
.op ⟨(some 5), (.eff (.new 25 [(.int .i64 (0)), (.int .i64 (0))])), none⟩,
.op ⟨none, (.eff (.store 2 (.tmp 5) (.tmp 66))), none⟩,
.op ⟨(some 6), (.pure (.mv (.tmp 67))), none⟩,
.op ⟨(some 7), (.pure (.mv (.tmp 68))), none⟩])
(.seq (.ops [
.op ⟨(some 70), (.load (some 2) (.tmp 5)), none⟩,
.op ⟨(some 71), (.pure (.mv (.tmp 6))), none⟩,
.op ⟨(some 72), (.pure (.mv (.tmp 7))), none⟩,
.op ⟨(some 73), (.eff (.call 29 [(.tmp 70), (.tmp 71), (.tmp 72)])), none⟩,
.op ⟨(some 69), (.pure (.mv (.tmp 73))), none⟩,
.op ⟨(some 74), (.pure (.ext 0 (.tmp 69))), none⟩,
.op ⟨(some 75), (.pure (.ext 1 (.tmp 69))), none⟩,
.op ⟨(some 76), (.pure (.ext 2 (.tmp 69))), none⟩,
.op ⟨(some 8), (.pure (.mv (.tmp 74))), none⟩,
.op ⟨(some 9), (.pure (.mv (.tmp 75))), none⟩,
.op ⟨(some 10), (.pure (.mv (.tmp 76))), none⟩])
(.seq (.ops [
.op ⟨(some 78), (.load (some 2) (.tmp 5)), none⟩,
.op ⟨(some 79), (.pure (.mv (.tmp 6))), none⟩,
.op ⟨(some 80), (.pure (.mv (.tmp 7))), none⟩,
.op ⟨(some 81), (.eff (.call 28 [(.tmp 78), (.tmp 79), (.tmp 80)])), none⟩,
.op ⟨(some 77), (.pure (.mv (.tmp 81))), none⟩,
.op ⟨(some 82), (.pure (.ext 0 (.tmp 77))), none⟩,
.op ⟨(some 83), (.pure (.ext 1 (.tmp 77))), none⟩,
.op ⟨(some 84), (.pure (.ext 2 (.tmp 77))), none⟩,
.op ⟨(some 11), (.pure (.mv (.tmp 82))), none⟩,
.op ⟨(some 12), (.pure (.mv (.tmp 83))), none⟩,
.op ⟨(some 13), (.pure (.mv (.tmp 84))), none⟩])
(.seq (.seq (.ops [
.op ⟨(some 85), (.pure (.mv (.tmp 10))), none⟩,
.op ⟨(some 86), (.pure (.mv (.tmp 13))), none⟩,
.op ⟨(some 87), (.pure (.eqb true (.tmp 85) (.tmp 86))), none⟩,
.op ⟨(some 88), (.pure (.mv (.tmp 87))), none⟩,
.split 88,
.op ⟨(some 89), (.pure (.mv (.tmp 8))), (some (88, false))⟩,
.op ⟨(some 90), (.pure (.mv (.tmp 11))), (some (88, false))⟩,
.op ⟨(some 91), (.pure (.bin .neq (.tmp 89) (.tmp 90))), (some (88, false))⟩,
.op ⟨(some 92), (.pure (.pick (.tmp 88) (.const (.bool true)) (.tmp 91))), none⟩,
.op ⟨(some 93), (.pure (.mv (.tmp 92))), none⟩,
.split 93,
.op ⟨(some 94), (.pure (.mv (.tmp 9))), (some (93, false))⟩,
.op ⟨(some 95), (.pure (.mv (.tmp 12))), (some (93, false))⟩,
.op ⟨(some 96), (.pure (.bin .neq (.tmp 94) (.tmp 95))), (some (93, false))⟩,
.op ⟨(some 97), (.pure (.pick (.tmp 93) (.const (.bool true)) (.tmp 96))), none⟩])
(.cond (.tmp 97)
(.seq (.ops [
.op ⟨(some 4), (.pure (.mv (.const (.bool false)))), none⟩])
(.ret))
(.skip)))
(.seq (.ops [
.op ⟨(some 99), (.load (some 2) (.tmp 5)), none⟩,
.op ⟨(some 100), (.pure (.mv (.tmp 6))), none⟩,
.op ⟨(some 101), (.pure (.mv (.tmp 7))), none⟩,
.op ⟨(some 102), (.eff (.call 35 [(.tmp 99), (.tmp 100), (.tmp 101)])), none⟩,
.op ⟨(some 98), (.pure (.mv (.tmp 102))), none⟩,
.op ⟨(some 103), (.pure (.ext 0 (.tmp 98))), none⟩,
.op ⟨(some 104), (.pure (.ext 1 (.tmp 98))), none⟩,
.op ⟨(some 105), (.pure (.ext 2 (.tmp 98))), none⟩,
.op ⟨(some 14), (.pure (.mv (.tmp 103))), none⟩,
.op ⟨(some 15), (.pure (.mv (.tmp 104))), none⟩,
.op ⟨(some 16), (.pure (.mv (.tmp 105))), none⟩])
(.seq (.ops [
.op ⟨(some 107), (.load (some 2) (.tmp 5)), none⟩,
.op ⟨(some 108), (.pure (.mv (.tmp 6))), none⟩,
.op ⟨(some 109), (.pure (.mv (.tmp 7))), none⟩,
.op ⟨(some 110), (.eff (.call 34 [(.tmp 107), (.tmp 108), (.tmp 109)])), none⟩,
.op ⟨(some 106), (.pure (.mv (.tmp 110))), none⟩,
.op ⟨(some 111), (.pure (.ext 0 (.tmp 106))), none⟩,
.op ⟨(some 112), (.pure (.ext 1 (.tmp 106))), none⟩,
.op ⟨(some 113), (.pure (.ext 2 (.tmp 106))), none⟩,
.op ⟨(some 17), (.pure (.mv (.tmp 111))), none⟩,
.op ⟨(some 18), (.pure (.mv (.tmp 112))), none⟩,
.op ⟨(some 19), (.pure (.mv (.tmp 113))), none⟩])
(.seq (.seq (.ops [
.op ⟨(some 114), (.pure (.mv (.tmp 16))), none⟩,
.op ⟨(some 115), (.pure (.mv (.tmp 19))), none⟩,
.op ⟨(some 116), (.pure (.eqb true (.tmp 114) (.tmp 115))), none⟩,
.op ⟨(some 117), (.pure (.mv (.tmp 116))), none⟩,
.split 117,
.op ⟨(some 118), (.pure (.mv (.tmp 15))), (some (117, false))⟩,
.op ⟨(some 119), (.pure (.mv (.tmp 18))), (some (117, false))⟩,
.op ⟨(some 120), (.pure (.eqb true (.tmp 118) (.tmp 119))), (some (117, false))⟩,
.op ⟨(some 121), (.pure (.pick (.tmp 117) (.const (.bool true)) (.tmp 120))), none⟩,
.op ⟨(some 122), (.pure (.mv (.tmp 121))), none⟩,
.split 122,
.op ⟨(some 123), (.pure (.mv (.tmp 16))), (some (122, false))⟩,
.op ⟨(some 124), (.pure (.mv (.tmp 123))), (some (122, false))⟩,
.split 124,
.op ⟨(some 125), (.pure (.mv (.tmp 18))), (some (124, true))⟩,
.op ⟨(some 126), (.pure (.mv (.tmp 10))), (some (124, true))⟩,
.op ⟨(some 127), (.pure (.eqb false (.tmp 125) (.tmp 126))), (some (124, true))⟩,
.op ⟨(some 128), (.pure (.pick (.tmp 124) (.tmp 127) (.const (.bool false)))), (some (122, false))⟩,
.op ⟨(some 129), (.pure (.pick (.tmp 122) (.const (.bool true)) (.tmp 128))), none⟩])
(.cond (.tmp 129)
(.seq (.ops [
.op ⟨(some 4), (.pure (.mv (.const (.bool false)))), none⟩])
(.ret))
(.skip)))
(.seq (.seq (.ops [
.op ⟨(some 130), (.pure (.mv (.tmp 10))), none⟩])
(.cond (.tmp 130)
(.seq (.ops [
.op ⟨(some 132), (.load (some 2) (.tmp 5)), none⟩,
.op ⟨(some 133), (.pure (.mv (.tmp 6))), none⟩,
.op ⟨(some 134), (.pure (.mv (.tmp 7))), none⟩,
.op ⟨(some 135), (.pure (.mv (.tmp 12))), none⟩,
.op ⟨(some 136), (.eff (.call 33 [(.tmp 132), (.tmp 133), (.tmp 134), (.tmp 135)])), none⟩,
.op ⟨(some 131), (.pure (.mv (.tmp 136))), none⟩,
.op ⟨(some 137), (.pure (.ext 0 (.tmp 131))), none⟩,
.op ⟨(some 138), (.pure (.ext 1 (.tmp 131))), none⟩,
.op ⟨(some 20), (.pure (.mv (.tmp 137))), none⟩,
.op ⟨(some 21), (.pure (.mv (.tmp 138))), none⟩])
(.seq (.ops [
.op ⟨(some 140), (.load (some 2) (.tmp 5)), none⟩,
.op ⟨(some 141), (.pure (.mv (.tmp 6))), none⟩,
.op ⟨(some 142), (.pure (.mv (.tmp 7))), none⟩,
.op ⟨(some 143), (.pure (.mv (.tmp 12))), none⟩,
.op ⟨(some 144), (.pure (.bin .add (.tmp 143) (.const (.int .i64 (1))))), none⟩,
.op ⟨(some 145), (.eff (.call 33 [(.tmp 140), (.tmp 141), (.tmp 142), (.tmp 144)])), none⟩,
.op ⟨(some 139), (.pure (.mv (.tmp 145))), none⟩,
.op ⟨(some 146), (.pure (.ext 0 (.tmp 139))), none⟩,
.op ⟨(some 147), (.pure (.ext 1 (.tmp 139))), none⟩,
.op ⟨(some 22), (.pure (.mv (.tmp 146))), none⟩,
.op ⟨(some 23), (.pure (.mv (.tmp 147))), none⟩])
(.seq (.ops [
.op ⟨(some 149), (.load (some 2) (.tmp 5)), none⟩,
.op ⟨(some 150), (.pure (.mv (.tmp 6))), none⟩,
.op ⟨(some 151), (.pure (.mv (.tmp 7))), none⟩,
.op ⟨(some 152), (.pure (.mv (.tmp 12))), none⟩,
.op ⟨(some 153), (.eff (.call 32 [(.tmp 149), (.tmp 150), (.tmp 151), (.tmp 152)])), none⟩,
.op ⟨(some 148), (.pure (.mv (.tmp 153))), none⟩,
.op ⟨(some 154), (.pure (.ext 0 (.tmp 148))), none⟩,
.op ⟨(some 155), (.pure (.ext 1 (.tmp 148))), none⟩,
.op ⟨(some 24), (.pure (.mv (.tmp 154))), none⟩,
.op ⟨(some 25), (.pure (.mv (.tmp 155))), none⟩])
(.seq (.ops [
.op ⟨(some 157), (.load (some 2) (.tmp 5)), none⟩,
.op ⟨(some 158), (.pure (.mv (.tmp 6))), none⟩,
.op ⟨(some 159), (.pure (.mv (.tmp 7))), none⟩,
.op ⟨(some 160), (.pure (.mv (.tmp 12))), none⟩,
.op ⟨(some 161), (.pure (.bin .add (.tmp 160) (.const (.int .i64 (1))))), none⟩,
.op ⟨(some 162), (.eff (.call 32 [(.tmp 157), (.tmp 158), (.tmp 159), (.tmp 161)])), none⟩,
.op ⟨(some 156), (.pure (.mv (.tmp 162))), none⟩,
.op ⟨(some 163), (.pure (.ext 0 (.tmp 156))), none⟩,
.op ⟨(some 164), (.pure (.ext 1 (.tmp 156))), none⟩,
.op ⟨(some 26), (.pure (.mv (.tmp 163))), none⟩,
.op ⟨(some 27), (.pure (.mv (.tmp 164))), none⟩])
(.seq (.ops [
.op ⟨(some 165), (.pure (.mv (.tmp 21))), none⟩,
.op ⟨(some 166), (.pure (.bnot (.tmp 165))), none⟩,
.op ⟨(some 167), (.pure (.mv (.tmp 166))), none⟩,
.split 167,
.op ⟨(some 168), (.pure (.mv (.tmp 23))), (some (167, false))⟩,
.op ⟨(some 169), (.pure (.bnot (.tmp 168))), (some (167, false))⟩,
.op ⟨(some 170), (.pure (.pick (.tmp 167) (.const (.bool true)) (.tmp 169))), none⟩,
.op ⟨(some 171), (.pure (.mv (.tmp 170))), none⟩,
.split 171,
.op ⟨(some 172), (.pure (.mv (.tmp 25))), (some (171, false))⟩,
.op ⟨(some 173), (.pure (.bnot (.tmp 172))), (some (171, false))⟩,
.op ⟨(some 174), (.pure (.pick (.tmp 171) (.const (.bool true)) (.tmp 173))), none⟩,
.op ⟨(some 175), (.pure (.mv (.tmp 174))), none⟩,
.split 175,
.op ⟨(some 176), (.pure (.mv (.tmp 27))), (some (175, false))⟩,
.op ⟨(some 177), (.pure (.bnot (.tmp 176))), (some (175, false))⟩,
.op ⟨(some 178), (.pure (.pick (.tmp 175) (.const (.bool true)) (.tmp 177))), none⟩,
.op ⟨(some 179), (.pure (.mv (.tmp 178))), none⟩,
.split 179,
.op ⟨(some 180), (.pure (.mv (.tmp 20))), (some (179, false))⟩,
.op ⟨(some 181), (.pure (.mv (.tmp 24))), (some (179, false))⟩,
.op ⟨(some 182), (.eff (.call 46 [(.tmp 180), (.tmp 181)])), (some (179, false))⟩,
.op ⟨(some 183), (.pure (.bnot (.tmp 182))), (some (179, false))⟩,
.op ⟨(some 184), (.pure (.pick (.tmp 179) (.const (.bool true)) (.tmp 183))), none⟩,
.op ⟨(some 185), (.pure (.mv (.tmp 184))), none⟩,
.split 185,
.op ⟨(some 186), (.pure (.mv (.tmp 22))), (some (185, false))⟩,
.op ⟨(some 187), (.pure (.mv (.tmp 26))), (some (185, false))⟩,
.op ⟨(some 188), (.eff (.call 46 [(.tmp 186), (.tmp 187)])), (some (185, false))⟩,
.op ⟨(some 189), (.pure (.bnot (.tmp 188))), (some (185, false))⟩,
.op ⟨(some 190), (.pure (.pick (.tmp 185) (.const (.bool true)) (.tmp 189))), none⟩,
.op ⟨(some 191), (.pure (.mv (.tmp 190))), none⟩,
.split 191,
.op ⟨(some 192), (.pure (.mv (.tmp 24))), (some (191, false))⟩,
.op ⟨(some 193), (.pure (.len (.tmp 192))), (some (191, false))⟩,
.op ⟨(some 194), (.pure (.mv (.tmp 11))), (some (191, false))⟩,
.op ⟨(some 195), (.pure (.bin .add (.tmp 194) (.const (.int .i64 (1))))), (some (191, false))⟩,
.op ⟨(some 196), (.pure (.bin .neq (.tmp 193) (.tmp 195))), (some (191, false))⟩,
.op ⟨(some 197), (.pure (.pick (.tmp 191) (.const (.bool true)) (.tmp 196))), none⟩,
.op ⟨(some 198), (.pure (.mv (.tmp 197))), none⟩,
.split 198,
.op ⟨(some 199), (.pure (.mv (.tmp 26))), (some (198, false))⟩,
.op ⟨(some 200), (.pure (.len (.tmp 199))), (some (198, false))⟩,
.op ⟨(some 201), (.pure (.mv (.tmp 11))), (some (198, false))⟩,
.op ⟨(some 202), (.pure (.bin .neq (.tmp 200) (.tmp 201))), (some (198, false))⟩,
.op ⟨(some 203), (.pure (.pick (.tmp 198) (.const (.bool true)) (.tmp 202))), none⟩])
(.cond (.tmp 203)
(.seq (.ops [
.op ⟨(some 4), (.pure (.mv (.const (.bool false)))), none⟩])
(.ret))
(.skip)))))))
(.skip)))
(.seq (.ops [
.op ⟨(some 205), (.pure (.mv (.tmp 1))), none⟩,
.op ⟨(some 206), (.eff (.call 50 [(.tmp 205)])), none⟩,
.op ⟨(some 204), (.pure (.mv (.tmp 206))), none⟩,
.op ⟨(some 207), (.pure (.ext 0 (.tmp 204))), none⟩,
.op ⟨(some 208), (.pure (.ext 1 (.tmp 204))), none⟩,
.op ⟨(some 209), (.pure (.ext 2 (.tmp 204))), none⟩,
.op ⟨(some 28), (.eff (.new 25 [(.int .i64 (0)), (.int .i64 (0))])), none⟩,
.op ⟨none, (.eff (.store 2 (.tmp 28) (.tmp 207))), none⟩,
.op ⟨(some 29), (.pure (.mv (.tmp 208))), none⟩,
.op ⟨(some 30), (.pure (.mv (.tmp 209))), none⟩])
(.seq (.ops [
.op ⟨(some 211), (.load (some 2) (.tmp 28)), none⟩,
.op ⟨(some 212), (.pure (.mv (.tmp 29))), none⟩,
.op ⟨(some 213), (.pure (.mv (.tmp 30))), none⟩,
.op ⟨(some 214), (.eff (.call 31 [(.tmp 211), (.tmp 212), (.tmp 213)])), none⟩,
.op ⟨(some 210), (.pure (.mv (.tmp 214))), none⟩,
.op ⟨(some 215), (.pure (.ext 0 (.tmp 210))), none⟩,
.op ⟨(some 216), (.pure (.ext 1 (.tmp 210))), none⟩,
.op ⟨(some 31), (.pure (.mv (.tmp 215))), none⟩,
.op ⟨(some 32), (.pure (.mv (.tmp 216))), none⟩])
(.seq (.ops [
.op ⟨(some 218), (.load (some 2) (.tmp 28)), none⟩,
.op ⟨(some 219), (.pure (.mv (.tmp 29))), none⟩,
.op ⟨(some 220), (.pure (.mv (.tmp 30))), none⟩,
.op ⟨(some 221), (.eff (.call 30 [(.tmp 218), (.tmp 219), (.tmp 220)])), none⟩,
.op ⟨(some 217), (.pure (.mv (.tmp 221))), none⟩,
.op ⟨(some 222), (.pure (.ext 0 (.tmp 217))), none⟩,
.op ⟨(some 223), (.pure (.ext 1 (.tmp 217))), none⟩,
.op ⟨(some 33), (.pure (.mv (.tmp 222))), none⟩,
.op ⟨(some 34), (.pure (.mv (.tmp 223))), none⟩])
(.seq (.seq (.ops [
.op ⟨(some 224), (.pure (.mv (.tmp 32))), none⟩,
.op ⟨(some 225), (.pure (.mv (.tmp 34))), none⟩,
.op ⟨(some 226), (.pure (.eqb true (.tmp 224) (.tmp 225))), none⟩,
.op ⟨(some 227), (.pure (.mv (.tmp 226))), none⟩,
.split 227,
.op ⟨(some 228), (.pure (.mv (.tmp 31))), (some (227, false))⟩,
.op ⟨(some 229), (.pure (.mv (.tmp 33))), (some (227, false))⟩,
.op ⟨(some 230), (.pure (.bin .neq (.tmp 228) (.tmp 229))), (some (227, false))⟩,
.op ⟨(some 231), (.pure (.pick (.tmp 227) (.const (.bool true)) (.tmp 230))), none⟩])
(.cond (.tmp 231)
(.seq (.ops [
.op ⟨(some 4), (.pure (.mv (.const (.bool false)))), none⟩])
(.ret))
(.skip)))
(.seq (.seq (.ops [
.op ⟨(some 232), (.pure (.mv (.tmp 32))), none⟩])
(.cond (.tmp 232)
(.seq (.ops [
.op ⟨(some 233), (.pure (.mv (.tmp 33))), none⟩,
.op ⟨(some 234), (.pure (.fieldAddr 1 (.tmp 28))), none⟩,
.op ⟨none, (.eff (.store 1 (.tmp 234) (.tmp 233))), none⟩])
(.block 0 (.loop (.seq (.seq (.ops [
.op ⟨(some 235), (.pure (.fieldAddr 1 (.tmp 28))), none⟩,
.op ⟨(some 236), (.load none (.tmp 235)), none⟩,
.op ⟨(some 237), (.pure (.bin .leq (.tmp 236) (.const (.int .i64 (5))))), none⟩])
(.cond (.tmp 237)
(.skip)
(.exit 0)))
(.seq (.block 1 (.seq (.ops [
.op ⟨(some 243), (.load (some 2) (.tmp 28)), none⟩,
.op ⟨(some 244), (.pure (.mv (.tmp 29))), none⟩,
.op ⟨(some 245), (.pure (.mv (.tmp 30))), none⟩,
.op ⟨(some 246), (.eff (.call 35 [(.tmp 243), (.tmp 244), (.tmp 245)])), none⟩,
.op ⟨(some 242), (.pure (.mv (.tmp 246))), none⟩,
.op ⟨(some 247), (.pure (.ext 0 (.tmp 242))), none⟩,
.op ⟨(some 248), (.pure (.ext 1 (.tmp 242))), none⟩,
.op ⟨(some 249), (.pure (.ext 2 (.tmp 242))), none⟩,
.op ⟨(some 35), (.pure (.mv (.tmp 247))), none⟩,
.op ⟨(some 36), (.pure (.mv (.tmp 248))), none⟩,
.op ⟨(some 37), (.pure (.mv (.tmp 249))), none⟩])
(.seq (.ops [
.op ⟨(some 250), (.pure (.mv (.tmp 37))), none⟩,
.op ⟨(some 251), (.pure (.bnot (.tmp 250))), none⟩,
.op ⟨(some 252), (.pure (.mv (.tmp 251))), none⟩,
.split 252,
.op ⟨(some 253), (.pure (.mv (.tmp 36))), (some (252, false))⟩,
.op ⟨(some 254), (.pure (.bnot (.tmp 253))), (some (252, false))⟩,
.op ⟨(some 255), (.pure (.pick (.tmp 252) (.const (.bool true)) (.tmp 254))), none⟩])
(.cond (.tmp 255)
(.seq (.ops [
.op ⟨(some 4), (.pure (.mv (.const (.bool false)))), none⟩])
(.ret))
(.skip)))))
(.ops [
.op ⟨(some 238), (.pure (.fieldAddr 1 (.tmp 28))), none⟩,
.op ⟨(some 239), (.load none (.tmp 238)), none⟩,
.op ⟨(some 240), (.pure (.bin .add (.tmp 239) (.const (.int .i64 (1))))), none⟩,
.op ⟨(some 241), (.pure (.fieldAddr 1 (.tmp 28))), none⟩,
.op ⟨none, (.eff (.store 1 (.tmp 241) (.tmp 240))), none⟩]))))))
(.skip)))
(.seq (.ops [
.op ⟨(some 257), (.pure (.mv (.tmp 1))), none⟩,
.op ⟨(some 258), (.eff (.call 51 [(.tmp 257)])), none⟩,
.op ⟨(some 256), (.pure (.mv (.tmp 258))), none⟩,
.op ⟨(some 259), (.pure (.ext 0 (.tmp 256))), none⟩,
.op ⟨(some 260), (.pure (.ext 1 (.tmp 256))), none⟩,
.op ⟨(some 261), (.pure (.ext 2 (.tmp 256))), none⟩,
.op ⟨(some 38), (.pure (.mv (.tmp 259))), none⟩,
.op ⟨(some 39), (.pure (.mv (.tmp 260))), none⟩,
.op ⟨(some 40), (.pure (.mv (.tmp 261))), none⟩])
(.seq (.ops [
.op ⟨(some 263), (.pure (.mv (.tmp 38))), none⟩,
.op ⟨(some 264), (.pure (.mv (.tmp 39))), none⟩,
.op ⟨(some 265), (.pure (.mv (.tmp 40))), none⟩,
.op ⟨(some 266), (.eff (.call 22 [(.tmp 263), (.tmp 264), (.tmp 265)])), none⟩,
.op ⟨(some 262), (.pure (.mv (.tmp 266))), none⟩,
.op ⟨(some 267), (.pure (.ext 0 (.tmp 262))), none⟩,
.op ⟨(some 268), (.pure (.ext 1 (.tmp 262))), none⟩,
.op ⟨(some 41), (.pure (.mv (.tmp 267))), none⟩,
.op ⟨(some 42), (.pure (.mv (.tmp 268))), none⟩])
(.seq (.ops [
.op ⟨(some 270), (.pure (.mv (.tmp 38))), none⟩,
.op ⟨(some 271), (.pure (.mv (.tmp 39))), none⟩,
.op ⟨(some 272), (.pure (.mv (.tmp 40))), none⟩,
.op ⟨(some 273), (.eff (.call 20 [(.tmp 270), (.tmp 271), (.tmp 272)])), none⟩,
.op ⟨(some 269), (.pure (.mv (.tmp 273))), none⟩,
.op ⟨(some 274), (.pure (.ext 0 (.tmp 269))), none⟩,
.op ⟨(some 275), (.pure (.ext 1 (.tmp 269))), none⟩,
.op ⟨(some 43), (.pure (.mv (.tmp 274))), none⟩,
.op ⟨(some 44), (.pure (.mv (.tmp 275))), none⟩])
(.seq (.ops [
.op ⟨(some 277), (.pure (.mv (.tmp 1))), none⟩,
.op ⟨(some 278), (.eff (.call 52 [(.tmp 277)])), none⟩,
.op ⟨(some 276), (.pure (.mv (.tmp 278))), none⟩,
.op ⟨(some 279), (.pure (.ext 0 (.tmp 276))), none⟩,
.op ⟨(some 280), (.pure (.ext 1 (.tmp 276))), none⟩,
.op ⟨(some 281), (.pure (.ext 2 (.tmp 276))), none⟩,
.op ⟨(some 45), (.eff (.new 25 [(.int .i64 (0)), (.int .i64 (0))])), none⟩,
.op ⟨none, (.eff (.store 2 (.tmp 45) (.tmp 279))), none⟩,
.op ⟨(some 46), (.pure (.mv (.tmp 280))), none⟩,
.op ⟨(some 47), (.pure (.mv (.tmp 281))), none⟩])
(.seq (.ops [
.op ⟨(some 283), (.load (some 2) (.tmp 45)), none⟩,
.op ⟨(some 284), (.pure (.mv (.tmp 46))), none⟩,
.op ⟨(some 285), (.pure (.mv (.tmp 47))), none⟩,
.op ⟨(some 286), (.eff (.call 41 [(.tmp 283), (.tmp 284), (.tmp 285)])), none⟩,
.op ⟨(some 282), (.pure (.mv (.tmp 286))), none⟩,
.op ⟨(some 287), (.pure (.ext 0 (.tmp 282))), none⟩,
.op ⟨(some 288), (.pure (.ext 1 (.tmp 282))), none⟩,
.op ⟨(some 48), (.pure (.mv (.tmp 287))), none⟩,
.op ⟨(some 49), (.pure (.mv (.tmp 288))), none⟩])
(.seq (.ops [
.op ⟨(some 290), (.load (some 2) (.tmp 45)), none⟩,
.op ⟨(some 291), (.pure (.mv (.tmp 46))), none⟩,
.op ⟨(some 292), (.pure (.mv (.tmp 47))), none⟩,
.op ⟨(some 293), (.eff (.call 39 [(.tmp 290), (.tmp 291), (.tmp 292)])), none⟩,
.op ⟨(some 289), (.pure (.mv (.tmp 293))), none⟩,
.op ⟨(some 294), (.pure (.ext 0 (.tmp 289))), none⟩,
.op ⟨(some 295), (.pure (.ext 1 (.tmp 289))), none⟩,
.op ⟨(some 50), (.pure (.mv (.tmp 294))), none⟩,
.op ⟨(some 51), (.pure (.mv (.tmp 295))), none⟩])
(.seq (.seq (.ops [
.op ⟨(some 296), (.pure (.mv (.tmp 42))), none⟩,
.op ⟨(some 297), (.pure (.mv (.tmp 44))), none⟩,
.op ⟨(some 298), (.pure (.eqb true (.tmp 296) (.tmp 297))), none⟩,
.op ⟨(some 299), (.pure (.mv (.tmp 298))), none⟩,
.split 299,
.op ⟨(some 300), (.pure (.mv (.tmp 41))), (some (299, false))⟩,
.op ⟨(some 301), (.pure (.mv (.tmp 43))), (some (299, false))⟩,
.op ⟨(some 302), (.eff (.call 46 [(.tmp 300), (.tmp 301)])), (some (299, false))⟩,
.op ⟨(some 303), (.pure (.bnot (.tmp 302))), (some (299, false))⟩,
.op ⟨(some 304), (.pure (.pick (.tmp 299) (.const (.bool true)) (.tmp 303))), none⟩,
.op ⟨(some 305), (.pure (.mv (.tmp 304))), none⟩,
.split 305,
.op ⟨(some 306), (.pure (.mv (.tmp 49))), (some (305, false))⟩,
.op ⟨(some 307), (.pure (.mv (.tmp 51))), (some (305, false))⟩,
.op ⟨(some 308), (.pure (.eqb true (.tmp 306) (.tmp 307))), (some (305, false))⟩,
.op ⟨(some 309), (.pure (.pick (.tmp 305) (.const (.bool true)) (.tmp 308))), none⟩,
.op ⟨(some 310), (.pure (.mv (.tmp 309))), none⟩,
.split 310,
.op ⟨(some 311), (.pure (.mv (.tmp 48))), (some (310, false))⟩,
.op ⟨(some 312), (.pure (.mv (.tmp 50))), (some (310, false))⟩,
.op ⟨(some 313), (.eff (.call 46 [(.tmp 311), (.tmp 312)])), (some (310, false))⟩,
.op ⟨(some 314), (.pure (.bnot (.tmp 313))), (some (310, false))⟩,
.op ⟨(some 315), (.pure (.pick (.tmp 310) (.const (.bool true)) (.tmp 314))), none⟩,
.op ⟨(some 316), (.pure (.mv (.tmp 315))), none⟩,
.split 316,
.op ⟨(some 317), (.pure (.mv (.tmp 49))), (some (316, false))⟩,
.op ⟨(some 318), (.pure (.mv (.tmp 317))), (some (316, false))⟩,
.split 318,
.op ⟨(some 319), (.pure (.mv (.tmp 50))), (some (318, true))⟩,
.op ⟨(some 320), (.eff (.call 53 [(.tmp 319)])), (some (318, true))⟩,
.op ⟨(some 321), (.pure (.mv (.tmp 47))), (some (318, true))⟩,
.op ⟨(some 322), (.pure (.len (.tmp 321))), (some (318, true))⟩,
.op ⟨(some 323), (.pure (.bin .neq (.tmp 320) (.tmp 322))), (some (318, true))⟩,
.op ⟨(some 324), (.pure (.pick (.tmp 318) (.tmp 323) (.const (.bool false)))), (some (316, false))⟩,
.op ⟨(some 325), (.pure (.pick (.tmp 316) (.const (.bool true)) (.tmp 324))), none⟩])
(.cond (.tmp 325)
(.seq (.ops [
.op ⟨(some 4), (.pure (.mv (.const (.bool false)))), none⟩])
(.ret))
(.skip)))
(.seq (.seq (.ops [
.op ⟨(some 326), (.pure (.mv (.tmp 42))), none⟩,
.op ⟨(some 327), (.pure (.mv (.tmp 326))), none⟩,
.split 327,
.op ⟨(some 328), (.load (some 2) (.tmp 45)), (some (327, true))⟩,
.op ⟨(some 329), (.eff (.call 17 [(.tmp 328)])), (some (327, true))⟩,
.op ⟨(some 330), (.pure (.pick (.tmp 327) (.tmp 329) (.const (.bool false)))), none⟩,
.op ⟨(some 331), (.pure (.mv (.tmp 330))), none⟩,
.split 331,
.op ⟨(some 332), (.pure (.fieldAddr 1 (.tmp 45))), (some (331, true))⟩,
.op ⟨(some 333), (.load none (.tmp 332)), (some (331, true))⟩,
.op ⟨(some 334), (.pure (.bin .gtr (.tmp 333) (.const (.int .i64 (1))))), (some (331, true))⟩,
.op ⟨(some 335), (.pure (.pick (.tmp 331) (.tmp 334) (.const (.bool false)))), none⟩,
.op ⟨(some 336), (.pure (.mv (.tmp 335))), none⟩,
.split 336,
.op ⟨(some 337), (.pure (.mv (.tmp 46))), (some (336, true))⟩,
.op ⟨(some 338), (.pure (.len (.tmp 337))), (some (336, true))⟩,
.op ⟨(some 339), (.pure (.bin .leq (.tmp 338) (.const (.int .i64 (20))))), (some (336, true))⟩,
.op ⟨(some 340), (.pure (.pick (.tmp 336) (.tmp 339) (.const (.bool false)))), none⟩])
(.cond (.tmp 340)
(.seq (.ops [
.op ⟨(some 342), (.pure (.mv (.tmp 39))), none⟩,
.op ⟨(some 343), (.pure (.mv (.tmp 40))), none⟩,
.op ⟨(some 344), (.eff (.call 22 [(.const (.slice none 0 0)), (.tmp 342), (.tmp 343)])), none⟩,
.op ⟨(some 341), (.pure (.mv (.tmp 344))), none⟩,
.op ⟨(some 345), (.pure (.ext 0 (.tmp 341))), none⟩,
.op ⟨(some 346), (.pure (.ext 1 (.tmp 341))), none⟩,
.op ⟨(some 52), (.pure (.mv (.tmp 345))), none⟩,
.op ⟨(some 53), (.pure (.mv (.tmp 346))), none⟩])
(.seq (.ops [
.op ⟨(some 348), (.pure (.mv (.tmp 39))), none⟩,
.op ⟨(some 349), (.pure (.mv (.tmp 40))), none⟩,
.op ⟨(some 350), (.eff (.call 20 [(.const (.slice none 0 0)), (.tmp 348), (.tmp 349)])), none⟩,
.op ⟨(some 347), (.pure (.mv (.tmp 350))), none⟩,
.op ⟨(some 351), (.pure (.ext 0 (.tmp 347))), none⟩,
.op ⟨(some 352), (.pure (.ext 1 (.tmp 347))), none⟩,
.op ⟨(some 54), (.pure (.mv (.tmp 351))), none⟩,
.op ⟨(some 55), (.pure (.mv (.tmp 352))), none⟩])
(.seq (.ops [
.op ⟨(some 354), (.load (some 2) (.tmp 45)), none⟩,
.op ⟨(some 355), (.pure (.mv (.tmp 46))), none⟩,
.op ⟨(some 356), (.pure (.mv (.tmp 52))), none⟩,
.op ⟨(some 357), (.eff (.call 37 [(.tmp 354), (.tmp 355), (.tmp 356)])), none⟩,
.op ⟨(some 353), (.pure (.mv (.tmp 357))), none⟩,
.op ⟨(some 358), (.pure (.ext 0 (.tmp 353))), none⟩,
.op ⟨(some 359), (.pure (.ext 1 (.tmp 353))), none⟩,
.op ⟨(some 56), (.pure (.mv (.tmp 358))), none⟩,
.op ⟨(some 57), (.pure (.mv (.tmp 359))), none⟩])
(.seq (.ops [
.op ⟨(some 361), (.load (some 2) (.tmp 45)), none⟩,
.op ⟨(some 362), (.pure (.mv (.tmp 46))), none⟩,
.op ⟨(some 363), (.pure (.mv (.tmp 54))), none⟩,
.op ⟨(some 364), (.eff (.call 36 [(.tmp 361), (.tmp 362), (.tmp 363)])), none⟩,
.op ⟨(some 360), (.pure (.mv (.tmp 364))), none⟩,
.op ⟨(some 365), (.pure (.ext 0 (.tmp 360))), none⟩,
.op ⟨(some 366), (.pure (.ext 1 (.tmp 360))), none⟩,
.op ⟨(some 58), (.pure (.mv (.tmp 365))), none⟩,
.op ⟨(some 59), (.pure (.mv (.tmp 366))), none⟩])
(.seq (.ops [
.op ⟨(some 367), (.pure (.mv (.tmp 53))), none⟩,
.op ⟨(some 368), (.pure (.bnot (.tmp 367))), none⟩,
.op ⟨(some 369), (.pure (.mv (.tmp 368))), none⟩,
.split 369,
.op ⟨(some 370), (.pure (.mv (.tmp 55))), (some (369, false))⟩,
.op ⟨(some 371), (.pure (.bnot (.tmp 370))), (some (369, false))⟩,
.op ⟨(some 372), (.pure (.pick (.tmp 369) (.const (.bool true)) (.tmp 371))), none⟩,
.op ⟨(some 373), (.pure (.mv (.tmp 372))), none⟩,
.split 373,
.op ⟨(some 374), (.pure (.mv (.tmp 52))), (some (373, false))⟩,
.op ⟨(some 375), (.pure (.mv (.tmp 54))), (some (373, false))⟩,
.op ⟨(some 376), (.eff (.call 46 [(.tmp 374), (.tmp 375)])), (some (373, false))⟩,
.op ⟨(some 377), (.pure (.bnot (.tmp 376))), (some (373, false))⟩,
.op ⟨(some 378), (.pure (.pick (.tmp 373) (.const (.bool true)) (.tmp 377))), none⟩,
.op ⟨(some 379), (.pure (.mv (.tmp 378))), none⟩,
.split 379,
.op ⟨(some 380), (.pure (.mv (.tmp 57))), (some (379, false))⟩,
.op ⟨(some 381), (.pure (.mv (.tmp 59))), (some (379, false))⟩,
.op ⟨(some 382), (.pure (.eqb true (.tmp 380) (.tmp 381))), (some (379, false))⟩,
.op ⟨(some 383), (.pure (.pick (.tmp 379) (.const (.bool true)) (.tmp 382))), none⟩,
.op ⟨(some 384), (.pure (.mv (.tmp 383))), none⟩,
.split 384,
.op ⟨(some 385), (.pure (.mv (.tmp 56))), (some (384, false))⟩,
.op ⟨(some 386), (.pure (.mv (.tmp 58))), (some (384, false))⟩,
.op ⟨(some 387), (.eff (.call 46 [(.tmp 385), (.tmp 386)])), (some (384, false))⟩,
.op ⟨(some 388), (.pure (.bnot (.tmp 387))), (some (384, false))⟩,
.op ⟨(some 389), (.pure (.pick (.tmp 384) (.const (.bool true)) (.tmp 388))), none⟩,
.op ⟨(some 390), (.pure (.mv (.tmp 389))), none⟩,
.split 390,
.op ⟨(some 391), (.pure (.mv (.tmp 58))), (some (390, false))⟩,
.op ⟨(some 392), (.pure (.len (.tmp 391))), (some (390, false))⟩,
.op ⟨(some 393), (.pure (.bin .gtr (.tmp 392) (.const (.int .i64 (0))))), (some (390, false))⟩,
.op ⟨(some 394), (.pure (.pick (.tmp 390) (.const (.bool true)) (.tmp 393))), none⟩])
(.cond (.tmp 394)
(.seq (.ops [
.op ⟨(some 4), (.pure (.mv (.const (.bool false)))), none⟩])
(.ret))
(.skip)))))))
(.skip)))
(.seq (.ops [
.op ⟨(some 4), (.pure (.mv (.const (.bool true)))), none⟩])
(.ret)))))))))))))))))))))))),
[.tmp 4]⟩
theorem r_laws_FnMisreadings : resFun Try.prog f_laws_FnMisreadings = some c_laws_FnMisreadings := by kernel_rfl

/- loop.example/g00940/spec.IsLine -/
abbrev f_spec_IsLine : Nat := 15
def c_spec_IsLine : MFun := ⟨5, .seq (.ops [
.op ⟨(some 1), (.eff (.box 25 (.tmp 0))), none⟩,
.op ⟨(some 2), (.pure (.mv (.const (.bool false)))), none⟩])
(.seq (.ops [
.op ⟨(some 3), (.load (some 2) (.tmp 1)), none⟩,
.op ⟨(some 4), (.eff (.call 54 [(.tmp 3)])), none⟩,
.op ⟨(some 2), (.pure (.mv (.tmp 4))), none⟩])
(.ret)),
[.tmp 2]⟩
theorem r_spec_IsLine : resFun Try.prog f_spec_IsLine = some c_spec_IsLine := by kernel_rfl

/- loop.example/g00940/laws.toLine -/
abbrev f_laws_toLine : Nat := 16
def c_laws_toLine : MFun := ⟨11, .seq (.ops [
.op ⟨(some 1), (.eff (.box 23 (.tmp 0))), none⟩,
.op ⟨(some 2), (.eff (.new 25 [(.int .i64 (0)), (.int .i64 (0))])), none⟩])
(.seq (.ops [
.op ⟨(some 3), (.eff (.new 25 [(.int .i64 (0)), (.int .i64 (0))])), none⟩])
(.seq (.ops [
.op ⟨(some 4), (.pure (.fieldAddr 0 (.tmp 1))), none⟩,
.op ⟨(some 5), (.load none (.tmp 4)), none⟩,
.op ⟨(some 6), (.pure (.fieldAddr 0 (.tmp 3))), none⟩,
.op ⟨none, (.eff (.store 1 (.tmp 6) (.tmp 5))), none⟩])
(.seq (.ops [
.op ⟨(some 7), (.pure (.fieldAddr 1 (.tmp 1))), none⟩,
.op ⟨(some 8), (.load none (.tmp 7)), none⟩,
.op ⟨(some 9), (.pure (.fieldAddr 1 (.tmp 3))), none⟩,
.op ⟨none, (.eff (.store 1 (.tmp 9) (.tmp 8))), none⟩])
(.seq (.ops [
.op ⟨(some 10), (.load (some 2) (.tmp 3)), none⟩,
.op ⟨none, (.eff (.store 2 (.tmp 2) (.tmp 10))), none⟩])
(.ret))))),
[.cell 2 (some 2)]⟩
theorem r_laws_toLine : resFun Try.prog f_laws_toLine = some c_laws_toLine := by kernel_rfl

/- loop.example/g00940/impl.IsLine -/
abbrev f_impl_IsLine : Nat := 17
def c_impl_IsLine : MFun := ⟨11, .seq (.ops [
.op ⟨(some 1), (.eff (.box 25 (.tmp 0))), none⟩,
.op ⟨(some 2), (.pure (.mv (.const (.bool false)))), none⟩])
(.seq (.ops [
.op ⟨(some 3), (.pure (.fieldAddr 0 (.tmp 1))), none⟩,
.op ⟨(some 4), (.load none (.tmp 3)), none⟩,
.op ⟨(some 5), (.eff (.call 55 [(.tmp 4), (.const (.int .i64 (2))), (.const (.int .i64 (10)))])), none⟩,
.op ⟨(some 6), (.pure (.mv (.tmp 5))), none⟩,
.split 6,
.op ⟨(some 7), (.pure (.fieldAddr 1 (.tmp 1))), (some (6, true))⟩,
.op ⟨(some 8), (.load none (.tmp 7)), (some (6, true))⟩,
.op ⟨(some 9), (.eff (.call 55 [(.tmp 8), (.const (.int .i64 (1))), (.const (.int .i64 (5)))])), (some (6, true))⟩,
.op ⟨(some 10), (.pure (.pick (.tmp 6) (.tmp 9) (.const (.bool false)))), none⟩,
.op ⟨(some 2), (.pure (.mv (.tmp 10))), none⟩])
(.ret)),
[.tmp 2]⟩
theorem r_impl_IsLine : resFun Try.prog f_impl_IsLine = some c_impl_IsLine := by kernel_rfl

/- loop.example/g00940/spec.PlainCount -/
abbrev f_spec_PlainCount : Nat := 18
def c_spec_PlainCount : MFun := ⟨20, .seq (.ops [
.op ⟨(some 2), (.eff (.box 25 (.tmp 0))), none⟩,
.op ⟨(some 4), (.pure (.mv (.const (.int .i64 (0))))), none⟩,
.op ⟨(some 5), (.pure (.mv (.const (.bool false)))), none⟩])
(.seq (.seq (.ops [
.op ⟨(some 6), (.load (some 2) (.tmp 2)), none⟩,
.op ⟨(some 7), (.eff (.call 54 [(.tmp 6)])), none⟩,
.op ⟨(some 8), (.pure (.bnot (.tmp 7))), none⟩,
.op ⟨(some 9), (.pure (.mv (.tmp 8))), none⟩,
.split 9,
.op ⟨(some 10), (.pure (.mv (.tmp 1))), (some (9, false))⟩,
.op ⟨(some 11), (.eff (.call 56 [(.tmp 10), (.const (.int .i64 (0))), (.const (.int .i64 (20)))])), (some (9, false))⟩,
.op ⟨(some 12), (.pure (.bnot (.tmp 11))), (some (9, false))⟩,
.op ⟨(some 13), (.pure (.pick (.tmp 9) (.const (.bool true)) (.tmp 12))), none⟩])
(.cond (.tmp 13)
(.seq (.ops [
.op ⟨(some 4), (.pure (.mv (.const (.int .i64 (0))))), none⟩,
.op ⟨(some 5), (.pure (.mv (.const (.bool false)))), none⟩])
(.ret))
(.skip)))
(.seq (.ops [
.op ⟨(some 14), (.pure (.mv (.tmp 1))), none⟩,
.op ⟨(some 15), (.pure (.bin .mul (.const (.int .i64 (2))) (.tmp 14))), none⟩,
.op ⟨(some 16), (.pure (.fieldAddr 0 (.tmp 2))), none⟩,
.op ⟨(some 17), (.load none (.tmp 16)), none⟩,
.op ⟨(some 18), (.pure (.bin .sub (.tmp 17) (.const (.int .i64 (1))))), none⟩,
.op ⟨(some 19), (.pure (.bin .mul (.tmp 15) (.tmp 18))), none⟩,
.op ⟨(some 4), (.pure (.mv (.tmp 19))), none⟩,
.op ⟨(some 5), (.pure (.mv (.const (.bool true)))), none⟩])
(.ret))),
[.tmp 4, .tmp 5]⟩
theorem r_spec_PlainCount : resFun Try.prog f_spec_PlainCount = some c_spec_PlainCount := by kernel_rfl

/- loop.example/g00940/impl.PlainCount -/
abbrev f_impl_PlainCount : Nat := 19
def c_impl_PlainCount : MFun := ⟨20, .seq (.ops [
.op ⟨(some 2), (.eff (.box 25 (.tmp 0))), none⟩,
.op ⟨(some 4), (.pure (.mv (.const (.int .i64 (0))))), none⟩,
.op ⟨(some 5), (.pure (.mv (.const (.bool false)))), none⟩])
(.seq (.seq (.ops [
.op ⟨(some 6), (.load (some 2) (.tmp 2)), none⟩,
.op ⟨(some 7), (.eff (.call 17 [(.tmp 6)])), none⟩,
.op ⟨(some 8), (.pure (.bnot (.tmp 7))), none⟩,
.op ⟨(some 9), (.pure (.mv (.tmp 8))), none⟩,
.split 9,
.op ⟨(some 10), (.pure (.mv (.tmp 1))), (some (9, false))⟩,
.op ⟨(some 11), (.eff (.call 55 [(.tmp 10), (.const (.int .i64 (0))), (.const (.int .i64 (20)))])), (some (9, false))⟩,
.op ⟨(some 12), (.pure (.bnot (.tmp 11))), (some (9, false))⟩,
.op ⟨(some 13), (.pure (.pick (.tmp 9) (.const (.bool true)) (.tmp 12))), none⟩])
(.cond (.tmp 13)
(.seq (.ops [
.op ⟨(some 4), (.pure (.mv (.const (.int .i64 (0))))), none⟩,
.op ⟨(some 5), (.pure (.mv (.const (.bool false)))), none⟩])
(.ret))
(.skip)))
(.seq (.ops [
.op ⟨(some 14), (.pure (.mv (.tmp 1))), none⟩,
.op ⟨(some 15), (.pure (.bin .mul (.const (.int .i64 (2))) (.tmp 14))), none⟩,
.op ⟨(some 16), (.pure (.fieldAddr 0 (.tmp 2))), none⟩,
.op ⟨(some 17), (.load none (.tmp 16)), none⟩,
.op ⟨(some 18), (.pure (.bin .sub (.tmp 17) (.const (.int .i64 (1))))), none⟩,
.op ⟨(some 19), (.pure (.bin .mul (.tmp 15) (.tmp 18))), none⟩,
.op ⟨(some 4), (.pure (.mv (.tmp 19))), none⟩,
.op ⟨(some 5), (.pure (.mv (.const (.bool true)))), none⟩])
(.ret))),
[.tmp 4, .tmp 5]⟩
theorem r_impl_PlainCount : resFun Try.prog f_impl_PlainCount = some c_impl_PlainCount := by kernel_rfl

/- loop.example/g00940/spec.WithPattern -/
abbrev f_spec_WithPattern : Nat := 20
def c_spec_WithPattern : MFun := ⟨36, .seq (.ops [
.op ⟨(some 6), (.pure (.mv (.const (.slice none 0 0)))), none⟩,
.op ⟨(some 7), (.pure (.mv (.const (.bool false)))), none⟩])
(.seq (.seq (.ops [
.op ⟨(some 9), (.pure (.mv (.tmp 0))), none⟩,
.op ⟨(some 10), (.eff (.call 57 [(.tmp 9)])), none⟩,
.op ⟨(some 11), (.pure (.bnot (.tmp 10))), none⟩,
.op ⟨(some 12), (.pure (.mv (.tmp 11))), none⟩,
.split 12,
.op ⟨(some 13), (.pure (.mv (.tmp 1))), (some (12, false))⟩,
.op ⟨(some 14), (.eff (.call 56 [(.tmp 13), (.const (.int .i64 (0))), (.const (.int .i64 (199)))])), (some (12, false))⟩,
.op ⟨(some 15), (.pure (.bnot (.tmp 14))), (some (12, false))⟩,
.op ⟨(some 16), (.pure (.pick (.tmp 12) (.const (.bool true)) (.tmp 15))), none⟩,
.op ⟨(some 17), (.pure (.mv (.tmp 16))), none⟩,
.split 17,
.op ⟨(some 18), (.pure (.mv (.tmp 2))), (some (17, false))⟩,
.op ⟨(some 19), (.eff (.call 58 [(.tmp 18)])), (some (17, false))⟩,
.op ⟨(some 20), (.pure (.bnot (.tmp 19))), (some (17, false))⟩,
.op ⟨(some 21), (.pure (.pick (.tmp 17) (.const (.bool true)) (.tmp 20))), none⟩])
(.cond (.tmp 21)
(.seq (.ops [
.op ⟨(some 6), (.pure (.mv (.const (.slice none 0 0)))), none⟩,
.op ⟨(some 7), (.pure (.mv (.const (.bool false)))), none⟩])
(.ret))
(.skip)))
(.seq (.ops [
.op ⟨(some 22), (.pure (.mv (.tmp 0))), none⟩,
.op ⟨(some 23), (.eff (.call 59 [(.tmp 22)])), none⟩,
.op ⟨(some 8), (.pure (.mv (.tmp 23))), none⟩])
(.seq (.block 0 (.loop (.seq (.seq (.ops [
.op ⟨(some 24), (.pure (.mv (.tmp 8))), none⟩,
.op ⟨(some 25), (.pure (.len (.tmp 24))), none⟩,
.op ⟨(some 26), (.pure (.mv (.tmp 1))), none⟩,
.op ⟨(some 27), (.pure (.bin .leq (.tmp 25) (.tmp 26))), none⟩])
(.cond (.tmp 27)
(.skip)
(.exit 0)))
(.block 1 (.ops [
.op ⟨(some 28), (.pure (.mv (.tmp 8))), none⟩,
.op ⟨(some 29), (.eff (.row 3 1 [(.int .i64 (0))] [(0, 1, (.const (.int .i64 (0))))])), none⟩,
.op ⟨(some 30), (.eff (.app 3 1 8 (.tmp 28) (.tmp 29))), none⟩,
.op ⟨(some 8), (.pure (.mv (.tmp 30))), none⟩])))))
(.seq (.ops [
.op ⟨(some 31), (.pure (.mv (.tmp 8))), none⟩,
.op ⟨(some 32), (.pure (.mv (.tmp 1))), none⟩,
.op ⟨(some 33), (.pure (.mv (.tmp 2))), none⟩,
.op ⟨(some 34), (.pure (.idx 1 (.tmp 31) (.tmp 32))), none⟩,
.op ⟨none, (.eff (.store 1 (.tmp 34) (.tmp 33))), none⟩])
(.seq (.ops [
.op ⟨(some 35), (.pure (.mv (.tmp 8))), none⟩,
.op ⟨(some 6), (.pure (.mv (.tmp 35))), none⟩,
.op ⟨(some 7), (.pure (.mv (.const (.bool true)))), none⟩])
(.ret)))))),
[.tmp 6, .tmp 7]⟩
theorem r_spec_WithPattern : resFun Try.prog f_spec_WithPattern = some c_spec_WithPattern := by kernel_rfl

/- loop.example/g00940/laws.toIntS -/
abbrev f_laws_toIntS : Nat := 21
def c_laws_toIntS : MFun := ⟨22, .seq (.ops [
.op ⟨(some 2), (.pure (.mv (.const (.slice none 0 0)))), none⟩])
(.seq (.ops [
.op ⟨(some 5), (.pure (.mv (.tmp 0))), none⟩,
.op ⟨(some 6), (.pure (.len (.tmp 5))), none⟩,
.op ⟨(some 7), (.eff (.mk 3 1 8 [(.int .i64 (0))] (.tmp 6) (.tmp 6))), none⟩,
.op ⟨(some 3), (.pure (.mv (.tmp 7))), none⟩])
(.seq (.seq (.ops [
.op ⟨(some 4), (.pure (.mv (.const (.int .i64 (0))))), none⟩])
(.block 0 (.loop (.seq (.seq (.ops [
.op ⟨(some 8), (.pure (.mv (.tmp 4))), none⟩,
.op ⟨(some 9), (.pure (.mv (.tmp 0))), none⟩,
.op ⟨(some 10), (.pure (.len (.tmp 9))), none⟩,
.op ⟨(some 11), (.pure (.bin .lss (.tmp 8) (.tmp 10))), none⟩])
(.cond (.tmp 11)
(.skip)
(.exit 0)))
(.seq (.block 1 (.ops [
.op ⟨(some 14), (.pure (.mv (.tmp 3))), none⟩,
.op ⟨(some 15), (.pure (.mv (.tmp 4))), none⟩,
.op ⟨(some 16), (.pure (.mv (.tmp 0))), none⟩,
.op ⟨(some 17), (.pure (.mv (.tmp 4))), none⟩,
.op ⟨(some 18), (.pure (.idx 1 (.tmp 16) (.tmp 17))), none⟩,
.op ⟨(some 19), (.load none (.tmp 18)), none⟩,
.op ⟨(some 20), (.pure (.idx 1 (.tmp 14) (.tmp 15))), none⟩,
.op ⟨none, (.eff (.store 1 (.tmp 20) (.tmp 19))), none⟩]))
(.ops [
.op ⟨(some 12), (.pure (.mv (.tmp 4))), none⟩,
.op ⟨(some 13), (.pure (.bin .add (.tmp 12) (.const (.int .i64 (1))))), none⟩,
.op ⟨(some 4), (.pure (.mv (.tmp 13))), none⟩]))))))
(.seq (.ops [
.op ⟨(some 21), (.pure (.mv (.tmp 3))), none⟩,
.op ⟨(some 2), (.pure (.mv (.tmp 21))), none⟩])
(.ret)))),
[.tmp 2]⟩
theorem r_laws_toIntS : resFun Try.prog f_laws_toIntS = some c_laws_toIntS := by kernel_rfl

/- loop.example/g00940/impl.WithPattern -/
abbrev f_impl_WithPattern : Nat := 22
def c_impl_WithPattern : MFun := ⟨36, .seq (.ops [
.op ⟨(some 6), (.pure (.mv (.const (.slice none 0 0)))), none⟩,
.op ⟨(some 7), (.pure (.mv (.const (.bool false)))), none⟩])
(.seq (.seq (.ops [
.op ⟨(some 9), (.pure (.mv (.tmp 0))), none⟩,
.op ⟨(some 10), (.eff (.call 60 [(.tmp 9)])), none⟩,
.op ⟨(some 11), (.pure (.bnot (.tmp 10))), none⟩,
.op ⟨(some 12), (.pure (.mv (.tmp 11))), none⟩,
.split 12,
.op ⟨(some 13), (.pure (.mv (.tmp 1))), (some (12, false))⟩,
.op ⟨(some 14), (.eff (.call 55 [(.tmp 13), (.const (.int .i64 (0))), (.const (.int .i64 (199)))])), (some (12, false))⟩,
.op ⟨(some 15), (.pure (.bnot (.tmp 14))), (some (12, false))⟩,
.op ⟨(some 16), (.pure (.pick (.tmp 12) (.const (.bool true)) (.tmp 15))), none⟩,
.op ⟨(some 17), (.pure (.mv (.tmp 16))), none⟩,
.split 17,
.op ⟨(some 18), (.pure (.mv (.tmp 2))), (some (17, false))⟩,
.op ⟨(some 19), (.eff (.call 61 [(.tmp 18)])), (some (17, false))⟩,
.op ⟨(some 20), (.pure (.bnot (.tmp 19))), (some (17, false))⟩,
.op ⟨(some 21), (.pure (.pick (.tmp 17) (.const (.bool true)) (.tmp 20))), none⟩])
(.cond (.tmp 21)
(.seq (.ops [
.op ⟨(some 6), (.pure (.mv (.const (.slice none 0 0)))), none⟩,
.op ⟨(some 7), (.pure (.mv (.const (.bool false)))), none⟩])
(.ret))
(.skip)))
(.seq (.ops [
.op ⟨(some 22), (.pure (.mv (.tmp 0))), none⟩,
.op ⟨(some 23), (.pure (.len (.tmp 22))), none⟩,
.op ⟨(some 24), (.pure (.mv (.tmp 1))), none⟩,
.op ⟨(some 25), (.pure (.bin .add (.tmp 24) (.const (.int .i64 (1))))), none⟩,
.op ⟨(some 26), (.pure (.max2 (.tmp 23) (.tmp 25))), none⟩,
.op ⟨(some 27), (.eff (.mk 3 1 8 [(.int .i64 (0))] (.tmp 26) (.tmp 26))), none⟩,
.op ⟨(some 8), (.pure (.mv (.tmp 27))), none⟩])
(.seq (.ops [
.op ⟨(some 28), (.pure (.mv (.tmp 8))), none⟩,
.op ⟨(some 29), (.pure (.mv (.tmp 0))), none⟩,
.op ⟨(some 30), (.eff (.copy 1 (.tmp 28) (.tmp 29))), none⟩])
(.seq (.ops [
.op ⟨(some 31), (.pure (.mv (.tmp 8))), none⟩,
.op ⟨(some 32), (.pure (.mv (.tmp 1))), none⟩,
.op ⟨(some 33), (.pure (.mv (.tmp 2))), none⟩,
.op ⟨(some 34), (.pure (.idx 1 (.tmp 31) (.tmp 32))), none⟩,
.op ⟨none, (.eff (.store 1 (.tmp 34) (.tmp 33))), none⟩])
(.seq (.ops [
.op ⟨(some 35), (.pure (.mv (.tmp 8))), none⟩,
.op ⟨(some 6), (.pure (.mv (.tmp 35))), none⟩,
.op ⟨(some 7), (.pure (.mv (.const (.bool true)))), none⟩])
(.ret)))))),
[.tmp 6, .tmp 7]⟩
theorem r_impl_WithPattern : resFun Try.prog f_impl_WithPattern = some c_impl_WithPattern := by kernel_rfl

/- loop.example/g00940/laws.eqIntS -/
abbrev f_laws_eqIntS : Nat := 23
def c_laws_eqIntS : MFun := ⟨26, .seq (.ops [
.op ⟨(some 4), (.pure (.mv (.const (.bool false)))), none⟩])
(.seq (.seq (.ops [
.op ⟨(some 6), (.pure (.mv (.tmp 0))), none⟩,
.op ⟨(some 7), (.pure (.len (.tmp 6))), none⟩,
.op ⟨(some 8), (.pure (.mv (.tmp 1))), none⟩,
.op ⟨(some 9), (.pure (.len (.tmp 8))), none⟩,
.op ⟨(some 10), (.pure (.bin .neq (.tmp 7) (.tmp 9))), none⟩])
(.cond (.tmp 10)
(.seq (.ops [
.op ⟨(some 4), (.pure (.mv (.const (.bool false)))), none⟩])
(.ret))
(.skip)))
(.seq (.seq (.ops [
.op ⟨(some 5), (.pure (.mv (.const (.int .i64 (0))))), none⟩])
(.block 0 (.loop (.seq (.seq (.ops [
.op ⟨(some 11), (.pure (.mv (.tmp 5))), none⟩,
.op ⟨(some 12), (.pure (.mv (.tmp 0))), none⟩,
.op ⟨(some 13), (.pure (.len (.tmp 12))), none⟩,
.op ⟨(some 14), (.pure (.bin .lss (.tmp 11) (.tmp 13))), none⟩])
(.cond (.tmp 14)
(.skip)
(.exit 0)))
(.seq (.block 1 (.seq (.ops [
.op ⟨(some 17), (.pure (.mv (.tmp 0))), none⟩,
.op ⟨(some 18), (.pure (.mv (.tmp 5))), none⟩,
.op ⟨(some 19), (.pure (.idx 1 (.tmp 17) (.tmp 18))), none⟩,
.op ⟨(some 21), (.pure (.mv (.tmp 1))), none⟩,
.op ⟨(some 22), (.pure (.mv (.tmp 5))), none⟩,
.op ⟨(some 23), (.pure (.idx 1 (.tmp 21) (.tmp 22))), none⟩,
.op ⟨(some 20), (.load none (.tmp 19)), none⟩,
.op ⟨(some 24), (.load none (.tmp 23)), none⟩,
.op ⟨(some 25), (.pure (.bin .neq (.tmp 20) (.tmp 24))), none⟩])
(.cond (.tmp 25)
(.seq (.ops [
.op ⟨(some 4), (.pure (.mv (.const (.bool false)))), none⟩])
(.ret))
(.skip))))
(.ops [
.op ⟨(some 15), (.pure (.mv (.tmp 5))), none⟩,
.op ⟨(some 16), (.pure (.bin .add (.tmp 15) (.const (.int .i64 (1))))), none⟩,
.op ⟨(some 5), (.pure (.mv (.tmp 16))), none⟩]))))))
(.seq (.ops [
.op ⟨(some 4), (.pure (.mv (.const (.bool true)))), none⟩])
(.ret)))),
[.tmp 4]⟩
theorem r_laws_eqIntS : resFun Try.prog f_laws_eqIntS = some c_laws_eqIntS := by kernel_rfl

/- loop.example/g00940/laws.markIntS -/
abbrev f_laws_markIntS : Nat := 24
def c_laws_markIntS : MFun := ⟨19, .seq (.ops [
.op ⟨(some 4), (.pure (.mv (.const (.int .i64 (0))))), none⟩])
(.seq (.seq (.ops [
.op ⟨(some 5), (.pure (.mv (.const (.int .i64 (0))))), none⟩])
(.block 0 (.loop (.seq (.seq (.ops [
.op ⟨(some 6), (.pure (.mv (.tmp 5))), none⟩,
.op ⟨(some 7), (.pure (.mv (.tmp 0))), none⟩,
.op ⟨(some 8), (.pure (.len (.tmp 7))), none⟩,
.op ⟨(some 9), (.pure (.bin .lss (.tmp 6) (.tmp 8))), none⟩])
(.cond (.tmp 9)
(.skip)
(.exit 0)))
(.seq (.block 1 (.seq (.ops [
.op ⟨(some 12), (.pure (.mv (.tmp 0))), none⟩,
.op ⟨(some 13), (.pure (.mv (.tmp 5))), none⟩,
.op ⟨(some 14), (.pure (.mv (.tmp 1))), none⟩,
.op ⟨(some 15), (.pure (.idx 1 (.tmp 12) (.tmp 13))), none⟩,
.op ⟨none, (.eff (.store 1 (.tmp 15) (.tmp 14))), none⟩])
(.ops [
.op ⟨(some 16), (.pure (.mv (.tmp 1))), none⟩,
.op ⟨(some 17), (.pure (.bin .add (.tmp 16) (.const (.int .i64 (1))))), none⟩,
.op ⟨(some 1), (.pure (.mv (.tmp 17))), none⟩])))
(.ops [
.op ⟨(some 10), (.pure (.mv (.tmp 5))), none⟩,
.op ⟨(some 11), (.pure (.bin .add (.tmp 10) (.const (.int .i64 (1))))), none⟩,
.op ⟨(some 5), (.pure (.mv (.tmp 11))), none⟩]))))))
(.seq (.ops [
.op ⟨(some 18), (.pure (.mv (.tmp 1))), none⟩,
.op ⟨(some 4), (.pure (.mv (.tmp 18))), none⟩])
(.ret))),
[.tmp 4]⟩
theorem r_laws_markIntS : resFun Try.prog f_laws_markIntS = some c_laws_markIntS := by kernel_rfl

/- loop.example/g00940/laws.heldIntS -/
abbrev f_laws_heldIntS : Nat := 25
def c_laws_heldIntS : MFun := ⟨21, .seq (.ops [
.op ⟨(some 4), (.pure (.mv (.const (.int .i64 (0))))), none⟩])
(.seq (.seq (.ops [
.op ⟨(some 5), (.pure (.mv (.const (.int .i64 (0))))), none⟩])
(.block 0 (.loop (.seq (.seq (.ops [
.op ⟨(some 6), (.pure (.mv (.tmp 5))), none⟩,
.op ⟨(some 7), (.pure (.mv (.tmp 0))), none⟩,
.op ⟨(some 8), (.pure (.len (.tmp 7))), none⟩,
.op ⟨(some 9), (.pure (.bin .lss (.tmp 6) (.tmp 8))), none⟩])
(.cond (.tmp 9)
(.skip)
(.exit 0)))
(.seq (.block 1 (.seq (.seq (.ops [
.op ⟨(some 12), (.pure (.mv (.tmp 0))), none⟩,
.op ⟨(some 13), (.pure (.mv (.tmp 5))), none⟩,
.op ⟨(some 14), (.pure (.idx 1 (.tmp 12) (.tmp 13))), none⟩,
.op ⟨(some 15), (.load none (.tmp 14)), none⟩,
.op ⟨(some 16), (.pure (.mv (.tmp 1))), none⟩,
.op ⟨(some 17), (.pure (.bin .neq (.tmp 15) (.tmp 16))), none⟩])
(.cond (.tmp 17)
(.seq (.ops [
.op ⟨(some 4), (.pure (.mv (.const (.int .i64 (-1))))), none⟩])
(.ret))
(.skip)))
(.ops [
.op ⟨(some 18), (.pure (.mv (.tmp 1))), none⟩,
.op ⟨(some 19), (.pure (.bin .add (.tmp 18) (.const (.int .i64 (1))))), none⟩,
.op ⟨(some 1), (.pure (.mv (.tmp 19))), none⟩])))
(.ops [
.op ⟨(some 10), (.pure (.mv (.tmp 5))), none⟩,
.op ⟨(some 11), (.pure (.bin .add (.tmp 10) (.const (.int .i64 (1))))), none⟩,
.op ⟨(some 5), (.pure (.mv (.tmp 11))), none⟩]))))))
(.seq (.ops [
.op ⟨(some 20), (.pure (.mv (.tmp 1))), none⟩,
.op ⟨(some 4), (.pure (.mv (.tmp 20))), none⟩])
(.ret))),
[.tmp 4]⟩
theorem r_laws_heldIntS : resFun Try.prog f_laws_heldIntS = some c_laws_heldIntS := by kernel_rfl

/- loop.example/g00940/spec.LineGlances -/
abbrev f_spec_LineGlances : Nat := 26
def c_spec_LineGlances : MFun := ⟨20, .seq (.ops [
.op ⟨(some 3), (.eff (.box 25 (.tmp 0))), none⟩,
.op ⟨(some 6), (.pure (.mv (.const (.int .i64 (0))))), none⟩,
.op ⟨(some 7), (.pure (.mv (.const (.bool false)))), none⟩])
(.seq (.seq (.ops [
.op ⟨(some 8), (.load (some 2) (.tmp 3)), none⟩,
.op ⟨(some 9), (.pure (.mv (.tmp 1))), none⟩,
.op ⟨(some 10), (.pure (.mv (.tmp 2))), none⟩,
.op ⟨(some 11), (.eff (.call 62 [(.tmp 8), (.tmp 9), (.tmp 10)])), none⟩,
.op ⟨(some 12), (.pure (.bnot (.tmp 11))), none⟩])
(.cond (.tmp 12)
(.seq (.ops [
.op ⟨(some 6), (.pure (.mv (.const (.int .i64 (0))))), none⟩,
.op ⟨(some 7), (.pure (.mv (.const (.bool false)))), none⟩])
(.ret))
(.skip)))
(.seq (.ops [
.op ⟨(some 13), (.load (some 2) (.tmp 3)), none⟩,
.op ⟨(some 14), (.pure (.mv (.tmp 1))), none⟩,
.op ⟨(some 15), (.pure (.mv (.tmp 2))), none⟩,
.op ⟨(some 16), (.eff (.call 63 [(.tmp 13), (.tmp 14), (.tmp 15)])), none⟩,
.op ⟨(some 17), (.pure (.nilc (.tmp 16))), none⟩,
.op ⟨(some 18), (.pure (.fieldAddr 1 (.tmp 17))), none⟩,
.op ⟨(some 19), (.load none (.tmp 18)), none⟩,
.op ⟨(some 6), (.pure (.mv (.tmp 19))), none⟩,
.op ⟨(some 7), (.pure (.mv (.const (.bool true)))), none⟩])
(.ret))),
[.tmp 6, .tmp 7]⟩
theorem r_spec_LineGlances : resFun Try.prog f_spec_LineGlances = some c_spec_LineGlances := by kernel_rfl

/- loop.example/g00940/impl.LineGlances -/
abbrev f_impl_LineGlances : Nat := 27
def c_impl_LineGlances : MFun := ⟨18, .seq (.ops [
.op ⟨(some 3), (.eff (.box 25 (.tmp 0))), none⟩,
.op ⟨(some 6), (.pure (.mv (.const (.int .i64 (0))))), none⟩,
.op ⟨(some 7), (.pure (.mv (.const (.bool false)))), none⟩])
(.seq (.seq (.ops [
.op ⟨(some 8), (.load (some 2) (.tmp 3)), none⟩,
.op ⟨(some 9), (.pure (.mv (.tmp 1))), none⟩,
.op ⟨(some 10), (.pure (.mv (.tmp 2))), none⟩,
.op ⟨(some 11), (.eff (.call 64 [(.tmp 8), (.tmp 9), (.tmp 10)])), none⟩,
.op ⟨(some 12), (.pure (.bnot (.tmp 11))), none⟩])
(.cond (.tmp 12)
(.seq (.ops [
.op ⟨(some 6), (.pure (.mv (.const (.int .i64 (0))))), none⟩,
.op ⟨(some 7), (.pure (.mv (.const (.bool false)))), none⟩])
(.ret))
(.skip)))
(.seq (.ops [
.op ⟨(some 13), (.load (some 2) (.tmp 3)), none⟩,
.op ⟨(some 14), (.pure (.mv (.tmp 1))), none⟩,
.op ⟨(some 15), (.pure (.mv (.tmp 2))), none⟩,
.op ⟨(some 16), (.eff (.call 65 [(.tmp 13), (.tmp 14), (.tmp 15)])), none⟩,
.op ⟨(some 17), (.pure (.field 1 none (.tmp 16))), none⟩,
.op ⟨(some 6), (.pure (.mv (.tmp 17))), none⟩,
.op ⟨(some 7), (.pure (.mv (.const (.bool true)))), none⟩])
(.ret))),
[.tmp 6, .tmp 7]⟩
theorem r_impl_LineGlances : resFun Try.prog f_impl_LineGlances = some c_impl_LineGlances := by kernel_rfl

/- loop.example/g00940/spec.StuckAt -/
abbrev f_spec_StuckAt : Nat := 28
def c_spec_StuckAt : MFun := ⟨31, .seq (.ops [
.op ⟨(some 3), (.eff (.box 25 (.tmp 0))), none⟩,
.op ⟨(some 6), (.pure (.mv (.const (.int .i64 (0))))), none⟩,
.op ⟨(some 7), (.pure (.mv (.const (.int .i64 (0))))), none⟩,
.op ⟨(some 8), (.pure (.mv (.const (.bool false)))), none⟩])
(.seq (.seq (.ops [
.op ⟨(some 10), (.load (some 2) (.tmp 3)), none⟩,
.op ⟨(some 11), (.pure (.mv (.tmp 1))), none⟩,
.op ⟨(some 12), (.pure (.mv (.tmp 2))), none⟩,
.op ⟨(some 13), (.eff (.call 62 [(.tmp 10), (.tmp 11), (.tmp 12)])), none⟩,
.op ⟨(some 14), (.pure (.bnot (.tmp 13))), none⟩])
(.cond (.tmp 14)
(.seq (.ops [
.op ⟨(some 6), (.pure (.mv (.const (.int .i64 (0))))), none⟩,
.op ⟨(some 7), (.pure (.mv (.const (.int .i64 (0))))), none⟩,
.op ⟨(some 8), (.pure (.mv (.const (.bool false)))), none⟩])
(.ret))
(.skip)))
(.seq (.ops [
.op ⟨(some 15), (.load (some 2) (.tmp 3)), none⟩,
.op ⟨(some 16), (.pure (.mv (.tmp 1))), none⟩,
.op ⟨(some 17), (.pure (.mv (.tmp 2))), none⟩,
.op ⟨(some 18), (.eff (.call 63 [(.tmp 15), (.tmp 16), (.tmp 17)])), none⟩,
.op ⟨(some 9), (.pure (.mv (.tmp 18))), none⟩])
(.seq (.ops [
.op ⟨(some 19), (.pure (.mv (.tmp 9))), none⟩,
.op ⟨(some 20), (.pure (.nilc (.tmp 19))), none⟩,
.op ⟨(some 21), (.pure (.fieldAddr 3 (.tmp 20))), none⟩,
.op ⟨(some 23), (.pure (.mv (.tmp 9))), none⟩,
.op ⟨(some 24), (.pure (.nilc (.tmp 23))), none⟩,
.op ⟨(some 25), (.pure (.fieldAddr 4 (.tmp 24))), none⟩,
.op ⟨(some 27), (.pure (.mv (.tmp 9))), none⟩,
.op ⟨(some 28), (.pure (.nilc (.tmp 27))), none⟩,
.op ⟨(some 29), (.pure (.fieldAddr 5 (.tmp 28))), none⟩,
.op ⟨(some 22), (.load none (.tmp 21)), none⟩,
.op ⟨(some 6), (.pure (.mv (.tmp 22))), none⟩,
.op ⟨(some 26), (.load none (.tmp 25)), none⟩,
.op ⟨(some 7), (.pure (.mv (.tmp 26))), none⟩,
.op ⟨(some 30), (.load none (.tmp 29)), none⟩,
.op ⟨(some 8), (.pure (.mv (.tmp 30))), none⟩])
(.ret)))),
[.tmp 6, .tmp 7, .tmp 8]⟩
theorem r_spec_StuckAt : resFun Try.prog f_spec_StuckAt = some c_spec_StuckAt := by kernel_rfl

/- loop.example/g00940/impl.StuckAt -/
abbrev f_impl_StuckAt : Nat := 29
def c_impl_StuckAt : MFun := ⟨26, .seq (.ops [
.op ⟨(some 3), (.eff (.box 25 (.tmp 0))), none⟩,
.op ⟨(some 6), (.pure (.mv (.const (.int .i64 (0))))), none⟩,
.op ⟨(some 7), (.pure (.mv (.const (.int .i64 (0))))), none⟩,
.op ⟨(some 8), (.pure (.mv (.const (.bool false)))), none⟩])
(.seq (.seq (.ops [
.op ⟨(some 10), (.load (some 2) (.tmp 3)), none⟩,
.op ⟨(some 11), (.pure (.mv (.tmp 1))), none⟩,
.op ⟨(some 12), (.pure (.mv (.tmp 2))), none⟩,
.op ⟨(some 13), (.eff (.call 64 [(.tmp 10), (.tmp 11), (.tmp 12)])), none⟩,
.op ⟨(some 14), (.pure (.bnot (.tmp 13))), none⟩])
(.cond (.tmp 14)
(.seq (.ops [
.op ⟨(some 6), (.pure (.mv (.const (.int .i64 (0))))), none⟩,
.op ⟨(some 7), (.pure (.mv (.const (.int .i64 (0))))), none⟩,
.op ⟨(some 8), (.pure (.mv (.const (.bool false)))), none⟩])
(.ret))
(.skip)))
(.seq (.ops [
.op ⟨(some 15), (.load (some 2) (.tmp 3)), none⟩,
.op ⟨(some 16), (.pure (.mv (.tmp 1))), none⟩,
.op ⟨(some 17), (.pure (.mv (.tmp 2))), none⟩,
.op ⟨(some 18), (.eff (.call 65 [(.tmp 15), (.tmp 16), (.tmp 17)])), none⟩,
.op ⟨(some 9), (.eff (.new 75 [(.slice none 0 0), (.int .i64 (0)), (.int .i64 (0)), (.int .i64 (0))])), none⟩,
.op ⟨none, (.eff (.store 4 (.tmp 9) (.tmp 18))), none⟩])
(.seq (.seq (.ops [
.op ⟨(some 19), (.pure (.fieldAddr 2 (.tmp 9))), none⟩,
.op ⟨(some 20), (.load none (.tmp 19)), none⟩,
.op ⟨(some 21), (.pure (.bin .lss (.tmp 20) (.const (.int .i64 (0))))), none⟩])
(.cond (.tmp 21)
(.seq (.ops [
.op ⟨(some 6), (.pure (.mv (.const (.int .i64 (0))))), none⟩,
.op ⟨(some 7), (.pure (.mv (.const (.int .i64 (0))))), none⟩,
.op ⟨(some 8), (.pure (.mv (.const (.bool false)))), none⟩])
(.ret))
(.skip)))
(.seq (.ops [
.op ⟨(some 22), (.pure (.fieldAddr 2 (.tmp 9))), none⟩,
.op ⟨(some 24), (.pure (.fieldAddr 3 (.tmp 9))), none⟩,
.op ⟨(some 23), (.load none (.tmp 22)), none⟩,
.op ⟨(some 6), (.pure (.mv (.tmp 23))), none⟩,
.op ⟨(some 25), (.load none (.tmp 24)), none⟩,
.op ⟨(some 7), (.pure (.mv (.tmp 25))), none⟩,
.op ⟨(some 8), (.pure (.mv (.const (.bool true)))), none⟩])
(.ret))))),
[.tmp 6, .tmp 7, .tmp 8]⟩
theorem r_impl_StuckAt : resFun Try.prog f_impl_StuckAt = some c_impl_StuckAt := by kernel_rfl

/- loop.example/g00940/spec.LeastLineTries -/
abbrev f_spec_LeastLineTries : Nat := 30
def c_spec_LeastLineTries : MFun := ⟨29, .seq (.ops [
.op ⟨(some 3), (.eff (.box 25 (.tmp 0))), none⟩,
.op ⟨(some 6), (.pure (.mv (.const (.int .i64 (0))))), none⟩,
.op ⟨(some 7), (.pure (.mv (.const (.bool false)))), none⟩])
(.seq (.seq (.ops [
.op ⟨(some 9), (.load (some 2) (.tmp 3)), none⟩,
.op ⟨(some 10), (.pure (.mv (.tmp 1))), none⟩,
.op ⟨(some 11), (.pure (.mv (.tmp 2))), none⟩,
.op ⟨(some 12), (.eff (.call 62 [(.tmp 9), (.tmp 10), (.tmp 11)])), none⟩,
.op ⟨(some 13), (.pure (.bnot (.tmp 12))), none⟩])
(.cond (.tmp 13)
(.seq (.ops [
.op ⟨(some 6), (.pure (.mv (.const (.int .i64 (0))))), none⟩,
.op ⟨(some 7), (.pure (.mv (.const (.bool false)))), none⟩])
(.ret))
(.skip)))
(.seq (.seq (.ops [
.op ⟨(some 8), (.pure (.mv (.const (.int .i64 (1))))), none⟩])
(.block 0 (.loop (.seq (.seq (.ops [
.op ⟨(some 14), (.pure (.mv (.tmp 8))), none⟩,
.op ⟨(some 15), (.pure (.bin .leq (.tmp 14) (.const (.int .i64 (5))))), none⟩])
(.cond (.tmp 15)
(.skip)
(.exit 0)))
(.seq (.block 1 (.seq (.ops [
.op ⟨(some 18), (.pure (.mv (.tmp 8))), none⟩,
.op ⟨(some 19), (.pure (.fieldAddr 1 (.tmp 3))), none⟩,
.op ⟨none, (.eff (.store 1 (.tmp 19) (.tmp 18))), none⟩])
(.seq (.ops [
.op ⟨(some 20), (.load (some 2) (.tmp 3)), none⟩,
.op ⟨(some 21), (.pure (.mv (.tmp 1))), none⟩,
.op ⟨(some 22), (.pure (.mv (.tmp 2))), none⟩,
.op ⟨(some 23), (.eff (.call 63 [(.tmp 20), (.tmp 21), (.tmp 22)])), none⟩,
.op ⟨(some 24), (.pure (.nilc (.tmp 23))), none⟩,
.op ⟨(some 25), (.pure (.fieldAddr 5 (.tmp 24))), none⟩,
.op ⟨(some 26), (.load none (.tmp 25)), none⟩,
.op ⟨(some 27), (.pure (.bnot (.tmp 26))), none⟩])
(.cond (.tmp 27)
(.seq (.ops [
.op ⟨(some 28), (.pure (.mv (.tmp 8))), none⟩,
.op ⟨(some 6), (.pure (.mv (.tmp 28))), none⟩,
.op ⟨(some 7), (.pure (.mv (.const (.bool true)))), none⟩])
(.ret))
(.skip)))))
(.ops [
.op ⟨(some 16), (.pure (.mv (.tmp 8))), none⟩,
.op ⟨(some 17), (.pure (.bin .add (.tmp 16) (.const (.int .i64 (1))))), none⟩,
.op ⟨(some 8), (.pure (.mv (.tmp 17))), none⟩]))))))
(.seq (.ops [
.op ⟨(some 6), (.pure (.mv (.const (.int .i64 (0))))), none⟩,
.op ⟨(some 7), (.pure (.mv (.const (.bool false)))), none⟩])
(.ret)))),
[.tmp 6, .tmp 7]⟩
theorem r_spec_LeastLineTries : resFun Try.prog f_spec_LeastLineTries = some c_spec_LeastLineTries := by kernel_rfl

/- loop.example/g00940/impl.LeastLineTries -/
abbrev f_impl_LeastLineTries : Nat := 31
def c_impl_LeastLineTries : MFun := ⟨27, .seq (.ops [
.op ⟨(some 3), (.eff (.box 25 (.tmp 0))), none⟩,
.op ⟨(some 6), (.pure (.mv (.const (.int .i64 (0))))), none⟩,
.op ⟨(some 7), (.pure (.mv (.const (.bool false)))), none⟩])
(.seq (.seq (.ops [
.op ⟨(some 9), (.load (some 2) (.tmp 3)), none⟩,
.op ⟨(some 10), (.pure (.mv (.tmp 1))), none⟩,
.op ⟨(some 11), (.pure (.mv (.tmp 2))), none⟩,
.op ⟨(some 12), (.eff (.call 64 [(.tmp 9), (.tmp 10), (.tmp 11)])), none⟩,
.op ⟨(some 13), (.pure (.bnot (.tmp 12))), none⟩])
(.cond (.tmp 13)
(.seq (.ops [
.op ⟨(some 6), (.pure (.mv (.const (.int .i64 (0))))), none⟩,
.op ⟨(some 7), (.pure (.mv (.const (.bool false)))), none⟩])
(.ret))
(.skip)))
(.seq (.seq (.ops [
.op ⟨(some 8), (.pure (.mv (.const (.int .i64 (1))))), none⟩])
(.block 0 (.loop (.seq (.seq (.ops [
.op ⟨(some 14), (.pure (.mv (.tmp 8))), none⟩,
.op ⟨(some 15), (.pure (.bin .leq (.tmp 14) (.const (.int .i64 (5))))), none⟩])
(.cond (.tmp 15)
(.skip)
(.exit 0)))
(.seq (.block 1 (.seq (.ops [
.op ⟨(some 18), (.pure (.mv (.tmp 8))), none⟩,
.op ⟨(some 19), (.pure (.fieldAddr 1 (.tmp 3))), none⟩,
.op ⟨none, (.eff (.store 1 (.tmp 19) (.tmp 18))), none⟩])
(.seq (.ops [
.op ⟨(some 20), (.load (some 2) (.tmp 3)), none⟩,
.op ⟨(some 21), (.pure (.mv (.tmp 1))), none⟩,
.op ⟨(some 22), (.pure (.mv (.tmp 2))), none⟩,
.op ⟨(some 23), (.eff (.call 65 [(.tmp 20), (.tmp 21), (.tmp 22)])), none⟩,
.op ⟨(some 24), (.pure (.field 2 none (.tmp 23))), none⟩,
.op ⟨(some 25), (.pure (.bin .lss (.tmp 24) (.const (.int .i64 (0))))), none⟩])
(.cond (.tmp 25)
(.seq (.ops [
.op ⟨(some 26), (.pure (.mv (.tmp 8))), none⟩,
.op ⟨(some 6), (.pure (.mv (.tmp 26))), none⟩,
.op ⟨(some 7), (.pure (.mv (.const (.bool true)))), none⟩])
(.ret))
(.skip)))))
(.ops [
.op ⟨(some 16), (.pure (.mv (.tmp 8))), none⟩,
.op ⟨(some 17), (.pure (.bin .add (.tmp 16) (.const (.int .i64 (1))))), none⟩,
.op ⟨(some 8), (.pure (.mv (.tmp 17))), none⟩]))))))
(.seq (.ops [
.op ⟨(some 6), (.pure (.mv (.const (.int .i64 (0))))), none⟩,
.op ⟨(some 7), (.pure (.mv (.const (.bool false)))), none⟩])
(.ret)))),
[.tmp 6, .tmp 7]⟩
theorem r_impl_LeastLineTries : resFun Try.prog f_impl_LeastLineTries = some c_impl_LeastLineTries := by kernel_rfl

/- loop.example/g00940/spec.HeldAtTower -/
abbrev f_spec_HeldAtTower : Nat := 32
def c_spec_HeldAtTower : MFun := ⟨33, .seq (.ops [
.op ⟨(some 4), (.eff (.box 25 (.tmp 0))), none⟩,
.op ⟨(some 8), (.pure (.mv (.const (.slice none 0 0)))), none⟩,
.op ⟨(some 9), (.pure (.mv (.const (.bool false)))), none⟩])
(.seq (.seq (.ops [
.op ⟨(some 10), (.load (some 2) (.tmp 4)), none⟩,
.op ⟨(some 11), (.pure (.mv (.tmp 1))), none⟩,
.op ⟨(some 12), (.pure (.mv (.tmp 2))), none⟩,
.op ⟨(some 13), (.eff (.call 62 [(.tmp 10), (.tmp 11), (.tmp 12)])), none⟩,
.op ⟨(some 14), (.pure (.bnot (.tmp 13))), none⟩,
.op ⟨(some 15), (.pure (.mv (.tmp 14))), none⟩,
.split 15,
.op ⟨(some 16), (.pure (.mv (.tmp 3))), (some (15, false))⟩,
.op ⟨(some 17), (.pure (.fieldAddr 0 (.tmp 4))), (some (15, false))⟩,
.op ⟨(some 18), (.load none (.tmp 17)), (some (15, false))⟩,
.op ⟨(some 19), (.pure (.bin .sub (.tmp 18) (.const (.int .i64 (1))))), (some (15, false))⟩,
.op ⟨(some 20), (.eff (.call 56 [(.tmp 16), (.const (.int .i64 (0))), (.tmp 19)])), (some (15, false))⟩,
.op ⟨(some 21), (.pure (.bnot (.tmp 20))), (some (15, false))⟩,
.op ⟨(some 22), (.pure (.pick (.tmp 15) (.const (.bool true)) (.tmp 21))), none⟩])
(.cond (.tmp 22)
(.seq (.ops [
.op ⟨(some 8), (.pure (.mv (.const (.slice none 0 0)))), none⟩,
.op ⟨(some 9), (.pure (.mv (.const (.bool false)))), none⟩])
(.ret))
(.skip)))
(.seq (.ops [
.op ⟨(some 23), (.load (some 2) (.tmp 4)), none⟩,
.op ⟨(some 24), (.pure (.mv (.tmp 1))), none⟩,
.op ⟨(some 25), (.pure (.mv (.tmp 2))), none⟩,
.op ⟨(some 26), (.eff (.call 63 [(.tmp 23), (.tmp 24), (.tmp 25)])), none⟩,
.op ⟨(some 27), (.pure (.nilc (.tmp 26))), none⟩,
.op ⟨(some 28), (.pure (.fieldAddr 2 (.tmp 27))), none⟩,
.op ⟨(some 29), (.load none (.tmp 28)), none⟩,
.op ⟨(some 30), (.pure (.mv (.tmp 3))), none⟩,
.op ⟨(some 31), (.pure (.idx 1 (.tmp 29) (.tmp 30))), none⟩,
.op ⟨(some 32), (.load none (.tmp 31)), none⟩,
.op ⟨(some 8), (.pure (.mv (.tmp 32))), none⟩,
.op ⟨(some 9), (.pure (.mv (.const (.bool true)))), none⟩])
(.ret))),
[.tmp 8, .tmp 9]⟩
theorem r_spec_HeldAtTower : resFun Try.prog f_spec_HeldAtTower = some c_spec_HeldAtTower := by kernel_rfl

/- loop.example/g00940/impl.HeldAtTower -/
abbrev f_impl_HeldAtTower : Nat := 33
def c_impl_HeldAtTower : MFun := ⟨31, .seq (.ops [
.op ⟨(some 4), (.eff (.box 25 (.tmp 0))), none⟩,
.op ⟨(some 8), (.pure (.mv (.const (.slice none 0 0)))), none⟩,
.op ⟨(some 9), (.pure (.mv (.const (.bool false)))), none⟩])
(.seq (.seq (.ops [
.op ⟨(some 10), (.load (some 2) (.tmp 4)), none⟩,
.op ⟨(some 11), (.pure (.mv (.tmp 1))), none⟩,
.op ⟨(some 12), (.pure (.mv (.tmp 2))), none⟩,
.op ⟨(some 13), (.eff (.call 64 [(.tmp 10), (.tmp 11), (.tmp 12)])), none⟩,
.op ⟨(some 14), (.pure (.bnot (.tmp 13))), none⟩,
.op ⟨(some 15), (.pure (.mv (.tmp 14))), none⟩,
.split 15,
.op ⟨(some 16), (.pure (.mv (.tmp 3))), (some (15, false))⟩,
.op ⟨(some 17), (.pure (.fieldAddr 0 (.tmp 4))), (some (15, false))⟩,
.op ⟨(some 18), (.load none (.tmp 17)), (some (15, false))⟩,
.op ⟨(some 19), (.pure (.bin .sub (.tmp 18) (.const (.int .i64 (1))))), (some (15, false))⟩,
.op ⟨(some 20), (.eff (.call 55 [(.tmp 16), (.const (.int .i64 (0))), (.tmp 19)])), (some (15, false))⟩,
.op ⟨(some 21), (.pure (.bnot (.tmp 20))), (some (15, false))⟩,
.op ⟨(some 22), (.pure (.pick (.tmp 15) (.const (.bool true)) (.tmp 21))), none⟩])
(.cond (.tmp 22)
(.seq (.ops [
.op ⟨(some 8), (.pure (.mv (.const (.slice none 0 0)))), none⟩,
.op ⟨(some 9), (.pure (.mv (.const (.bool false)))), none⟩])
(.ret))
(.skip)))
(.seq (.ops [
.op ⟨(some 23), (.load (some 2) (.tmp 4)), none⟩,
.op ⟨(some 24), (.pure (.mv (.tmp 1))), none⟩,
.op ⟨(some 25), (.pure (.mv (.tmp 2))), none⟩,
.op ⟨(some 26), (.eff (.call 65 [(.tmp 23), (.tmp 24), (.tmp 25)])), none⟩,
.op ⟨(some 27), (.pure (.field 0 none (.tmp 26))), none⟩,
.op ⟨(some 28), (.pure (.mv (.tmp 3))), none⟩,
.op ⟨(some 29), (.pure (.idx 1 (.tmp 27) (.tmp 28))), none⟩,
.op ⟨(some 30), (.load none (.tmp 29)), none⟩,
.op ⟨(some 8), (.pure (.mv (.tmp 30))), none⟩,
.op ⟨(some 9), (.pure (.mv (.const (.bool true)))), none⟩])
(.ret))),
[.tmp 8, .tmp 9]⟩
theorem r_impl_HeldAtTower : resFun Try.prog f_impl_HeldAtTower = some c_impl_HeldAtTower := by kernel_rfl

/- loop.example/g00940/spec.PassLine -/
abbrev f_spec_PassLine : Nat := 34
def c_spec_PassLine : MFun := ⟨33, .seq (.ops [
.op ⟨(some 3), (.eff (.box 25 (.tmp 0))), none⟩,
.op ⟨(some 6), (.pure (.mv (.const (.slice none 0 0)))), none⟩,
.op ⟨(some 7), (.pure (.mv (.const (.bool false)))), none⟩,
.op ⟨(some 8), (.pure (.mv (.const (.bool false)))), none⟩])
(.seq (.seq (.ops [
.op ⟨(some 10), (.load (some 2) (.tmp 3)), none⟩,
.op ⟨(some 11), (.pure (.mv (.tmp 1))), none⟩,
.op ⟨(some 12), (.pure (.mv (.tmp 2))), none⟩,
.op ⟨(some 13), (.eff (.call 62 [(.tmp 10), (.tmp 11), (.tmp 12)])), none⟩,
.op ⟨(some 14), (.pure (.bnot (.tmp 13))), none⟩])
(.cond (.tmp 14)
(.seq (.ops [
.op ⟨(some 6), (.pure (.mv (.const (.slice none 0 0)))), none⟩,
.op ⟨(some 7), (.pure (.mv (.const (.bool false)))), none⟩,
.op ⟨(some 8), (.pure (.mv (.const (.bool false)))), none⟩])
(.ret))
(.skip)))
(.seq (.ops [
.op ⟨(some 15), (.load (some 2) (.tmp 3)), none⟩,
.op ⟨(some 16), (.pure (.mv (.tmp 1))), none⟩,
.op ⟨(some 17), (.pure (.mv (.tmp 2))), none⟩,
.op ⟨(some 18), (.eff (.call 63 [(.tmp 15), (.tmp 16), (.tmp 17)])), none⟩,
.op ⟨(some 9), (.pure (.mv (.tmp 18))), none⟩])
(.seq (.ops [
.op ⟨(some 19), (.pure (.mv (.tmp 9))), none⟩,
.op ⟨(some 20), (.pure (.nilc (.tmp 19))), none⟩,
.op ⟨(some 21), (.pure (.fieldAddr 2 (.tmp 20))), none⟩,
.op ⟨(some 23), (.pure (.fieldAddr 0 (.tmp 3))), none⟩,
.op ⟨(some 28), (.pure (.mv (.tmp 9))), none⟩,
.op ⟨(some 29), (.pure (.nilc (.tmp 28))), none⟩,
.op ⟨(some 30), (.pure (.fieldAddr 5 (.tmp 29))), none⟩,
.op ⟨(some 22), (.load none (.tmp 21)), none⟩,
.op ⟨(some 24), (.load none (.tmp 23)), none⟩,
.op ⟨(some 25), (.pure (.bin .sub (.tmp 24) (.const (.int .i64 (1))))), none⟩,
.op ⟨(some 26), (.pure (.idx 1 (.tmp 22) (.tmp 25))), none⟩,
.op ⟨(some 27), (.load none (.tmp 26)), none⟩,
.op ⟨(some 6), (.pure (.mv (.tmp 27))), none⟩,
.op ⟨(some 31), (.load none (.tmp 30)), none⟩,
.op ⟨(some 32), (.pure (.bnot (.tmp 31))), none⟩,
.op ⟨(some 7), (.pure (.mv (.tmp 32))), none⟩,
.op ⟨(some 8), (.pure (.mv (.const (.bool true)))), none⟩])
(.ret)))),
[.tmp 6, .tmp 7, .tmp 8]⟩
theorem r_spec_PassLine : resFun Try.prog f_spec_PassLine = some c_spec_PassLine := by kernel_rfl

/- loop.example/g00940/impl.PassLine -/
abbrev f_impl_PassLine : Nat := 35
def c_impl_PassLine : MFun := ⟨29, .seq (.ops [
.op ⟨(some 3), (.eff (.box 25 (.tmp 0))), none⟩,
.op ⟨(some 6), (.pure (.mv (.const (.slice none 0 0)))), none⟩,
.op ⟨(some 7), (.pure (.mv (.const (.bool false)))), none⟩,
.op ⟨(some 8), (.pure (.mv (.const (.bool false)))), none⟩])
(.seq (.seq (.ops [
.op ⟨(some 10), (.load (some 2) (.tmp 3)), none⟩,
.op ⟨(some 11), (.pure (.mv (.tmp 1))), none⟩,
.op ⟨(some 12), (.pure (.mv (.tmp 2))), none⟩,
.op ⟨(some 13), (.eff (.call 64 [(.tmp 10), (.tmp 11), (.tmp 12)])), none⟩,
.op ⟨(some 14), (.pure (.bnot (.tmp 13))), none⟩])
(.cond (.tmp 14)
(.seq (.ops [
.op ⟨(some 6), (.pure (.mv (.const (.slice none 0 0)))), none⟩,
.op ⟨(some 7), (.pure (.mv (.const (.bool false)))), none⟩,
.op ⟨(some 8), (.pure (.mv (.const (.bool false)))), none⟩])
(.ret))
(.skip)))
(.seq (.ops [
.op ⟨(some 15), (.load (some 2) (.tmp 3)), none⟩,
.op ⟨(some 16), (.pure (.mv (.tmp 1))), none⟩,
.op ⟨(some 17), (.pure (.mv (.tmp 2))), none⟩,
.op ⟨(some 18), (.eff (.call 65 [(.tmp 15), (.tmp 16), (.tmp 17)])), none⟩,
.op ⟨(some 9), (.eff (.new 75 [(.slice none 0 0), (.int .i64 (0)), (.int .i64 (0)), (.int .i64 (0))])), none⟩,
.op ⟨none, (.eff (.store 4 (.tmp 9) (.tmp 18))), none⟩])
(.seq (.ops [
.op ⟨(some 19), (.pure (.fieldAddr 0 (.tmp 9))), none⟩,
.op ⟨(some 21), (.pure (.fieldAddr 0 (.tmp 3))), none⟩,
.op ⟨(some 26), (.pure (.fieldAddr 2 (.tmp 9))), none⟩,
.op ⟨(some 20), (.load none (.tmp 19)), none⟩,
.op ⟨(some 22), (.load none (.tmp 21)), none⟩,
.op ⟨(some 23), (.pure (.bin .sub (.tmp 22) (.const (.int .i64 (1))))), none⟩,
.op ⟨(some 24), (.pure (.idx 1 (.tmp 20) (.tmp 23))), none⟩,
.op ⟨(some 25), (.load none (.tmp 24)), none⟩,
.op ⟨(some 6), (.pure (.mv (.tmp 25))), none⟩,
.op ⟨(some 27), (.load none (.tmp 26)), none⟩,
.op ⟨(some 28), (.pure (.bin .lss (.tmp 27) (.const (.int .i64 (0))))), none⟩,
.op ⟨(some 7), (.pure (.mv (.tmp 28))), none⟩,
.op ⟨(some 8), (.pure (.mv (.const (.bool true)))), none⟩])
(.ret)))),
[.tmp 6, .tmp 7, .tmp 8]⟩
theorem r_impl_PassLine : resFun Try.prog f_impl_PassLine = some c_impl_PassLine := by kernel_rfl

/- loop.example/g00940/spec.WrongSignals -/
abbrev f_spec_WrongSignals : Nat := 36
def c_spec_WrongSignals : MFun := ⟨27, .seq (.ops [
.op ⟨(some 3), (.eff (.box 25 (.tmp 0))), none⟩,
.op ⟨(some 6), (.pure (.mv (.const (.slice none 0 0)))), none⟩,
.op ⟨(some 7), (.pure (.mv (.const (.bool false)))), none⟩])
(.seq (.seq (.ops [
.op ⟨(some 8), (.load (some 2) (.tmp 3)), none⟩,
.op ⟨(some 9), (.pure (.mv (.tmp 1))), none⟩,
.op ⟨(some 10), (.pure (.mv (.tmp 2))), none⟩,
.op ⟨(some 11), (.eff (.call 62 [(.tmp 8), (.tmp 9), (.tmp 10)])), none⟩,
.op ⟨(some 12), (.pure (.bnot (.tmp 11))), none⟩])
(.cond (.tmp 12)
(.seq (.ops [
.op ⟨(some 6), (.pure (.mv (.const (.slice none 0 0)))), none⟩,
.op ⟨(some 7), (.pure (.mv (.const (.bool false)))), none⟩])
(.ret))
(.skip)))
(.seq (.draw true
(.take ⟨(some 13), (.pure (.mv (.tmp 1))), none⟩
(.take ⟨(some 15), (.pure (.mv (.tmp 1))), none⟩
(.take ⟨(some 16), (.pure (.mv (.tmp 2))), none⟩
(.take ⟨(some 21), (.pure (.fieldAddr 0 (.tmp 3))), none⟩
(.only false ⟨(some 14), (.load (some 2) (.tmp 3)), none⟩
(.take ⟨(some 22), (.load none (.tmp 21)), none⟩
(.take ⟨(some 23), (.pure (.bin .sub (.tmp 22) (.const (.int .i64 (1))))), none⟩
(.only false ⟨(some 17), (.eff (.call 63 [(.tmp 14), (.tmp 15), (.tmp 16)])), none⟩
(.take ⟨(some 18), (.pure (.nilc (.tmp 17))), none⟩
(.take ⟨(some 19), (.pure (.fieldAddr 2 (.tmp 18))), none⟩
(.only false ⟨(some 20), (.load none (.tmp 19)), none⟩
(.take ⟨(some 24), (.pure (.idx 1 (.tmp 20) (.tmp 23))), none⟩
(.only false ⟨(some 25), (.load none (.tmp 24)), none⟩
(.only true ⟨(some 26), (.eff (.call 66 [(.tmp 13), (.tmp 25)])), none⟩
(.take ⟨(some 6), (.pure (.mv (.tmp 26))), none⟩
(.take ⟨(some 7), (.pure (.mv (.const (.bool true)))), none⟩
(.done))))))))))))))))))
(.ret))),
[.tmp 6, .tmp 7]⟩
theorem r_spec_WrongSignals : resFun Try.prog f_spec_WrongSignals = some c_spec_WrongSignals := by kernel_rfl
end Go.Proofs.Ytckkablifoblbaa
