/- Code0. Condition: none. -/
import Derived.Test.YtjmcijcdncgaiaaProg
import Derived.Test.YtjmcijcdncgaiaaBase9
import Derived.KernelRfl
/- The code of this seat's functions, resolved, written by a program of mine; each is held against the given program by the kernel. Condition: none. -/
namespace Go.Proofs.Ytjmcijcdncgaiaa
open Go.Vc

/- loop.example/g00940/laws.FnExactIsPacket -/
/- loop.example/g00940/laws.FnExactArePackets -/
/- loop.example/g00940/laws.FnPacketLists -/
abbrev f_laws_FnPacketLists : Nat := 5
def c_laws_FnPacketLists : MFun := ⟨330, .seq (.ops [
.op ⟨(some 4), (.pure (.mv (.const (.bool false)))), none⟩])
(.seq (.seq (.ops [
.op ⟨(some 47), (.pure (.mv (.tmp 0))), none⟩,
.op ⟨(some 48), (.pure (.mv (.tmp 1))), none⟩,
.op ⟨(some 49), (.eff (.call 23 [(.tmp 47), (.tmp 48)])), none⟩])
(.cond (.tmp 49)
(.seq (.ops [
.op ⟨(some 4), (.pure (.mv (.const (.bool true)))), none⟩])
(.ret))
(.skip)))
(.seq (.ops [
.op ⟨(some 50), (.pure (.mv (.tmp 0))), none⟩,
.op ⟨(some 51), (.eff (.call 24 [(.tmp 50)])), none⟩,
.op ⟨(some 5), (.pure (.mv (.tmp 51))), none⟩])
(.seq (.ops [
.op ⟨(some 53), (.pure (.mv (.tmp 5))), none⟩,
.op ⟨(some 54), (.eff (.call 25 [(.tmp 53)])), none⟩,
.op ⟨(some 52), (.pure (.mv (.tmp 54))), none⟩,
.op ⟨(some 55), (.pure (.ext 0 (.tmp 52))), none⟩,
.op ⟨(some 56), (.pure (.ext 1 (.tmp 52))), none⟩,
.op ⟨(some 6), (.pure (.mv (.tmp 55))), none⟩,
.op ⟨(some 7), (.pure (.mv (.tmp 56))), none⟩])
(.seq (.ops [
.op ⟨(some 58), (.pure (.mv (.tmp 5))), none⟩,
.op ⟨(some 59), (.eff (.call 26 [(.tmp 58)])), none⟩,
.op ⟨(some 57), (.pure (.mv (.tmp 59))), none⟩,
.op ⟨(some 60), (.pure (.ext 0 (.tmp 57))), none⟩,
.op ⟨(some 61), (.pure (.ext 1 (.tmp 57))), none⟩,
.op ⟨(some 8), (.pure (.mv (.tmp 60))), none⟩,
.op ⟨(some 9), (.pure (.mv (.tmp 61))), none⟩])
(.seq (.ops [
.op ⟨(some 63), (.pure (.mv (.tmp 5))), none⟩,
.op ⟨(some 64), (.eff (.call 27 [(.tmp 63)])), none⟩,
.op ⟨(some 62), (.pure (.mv (.tmp 64))), none⟩,
.op ⟨(some 65), (.pure (.ext 0 (.tmp 62))), none⟩,
.op ⟨(some 66), (.pure (.ext 1 (.tmp 62))), none⟩,
.op ⟨(some 10), (.pure (.mv (.tmp 65))), none⟩,
.op ⟨(some 11), (.pure (.mv (.tmp 66))), none⟩])
(.seq (.ops [
.op ⟨(some 68), (.pure (.mv (.tmp 5))), none⟩,
.op ⟨(some 69), (.eff (.call 28 [(.tmp 68)])), none⟩,
.op ⟨(some 67), (.pure (.mv (.tmp 69))), none⟩,
.op ⟨(some 70), (.pure (.ext 0 (.tmp 67))), none⟩,
.op ⟨(some 71), (.pure (.ext 1 (.tmp 67))), none⟩,
.op ⟨(some 12), (.pure (.mv (.tmp 70))), none⟩,
.op ⟨(some 13), (.pure (.mv (.tmp 71))), none⟩])
(.seq (.ops [
.op ⟨(some 73), (.pure (.mv (.tmp 5))), none⟩,
.op ⟨(some 74), (.eff (.call 29 [(.tmp 73)])), none⟩,
.op ⟨(some 72), (.pure (.mv (.tmp 74))), none⟩,
.op ⟨(some 75), (.pure (.ext 0 (.tmp 72))), none⟩,
.op ⟨(some 76), (.pure (.ext 1 (.tmp 72))), none⟩,
.op ⟨(some 14), (.pure (.mv (.tmp 75))), none⟩,
.op ⟨(some 15), (.pure (.mv (.tmp 76))), none⟩])
(.seq (.ops [
.op ⟨(some 78), (.pure (.mv (.tmp 5))), none⟩,
.op ⟨(some 79), (.eff (.call 30 [(.tmp 78)])), none⟩,
.op ⟨(some 77), (.pure (.mv (.tmp 79))), none⟩,
.op ⟨(some 80), (.pure (.ext 0 (.tmp 77))), none⟩,
.op ⟨(some 81), (.pure (.ext 1 (.tmp 77))), none⟩,
.op ⟨(some 16), (.pure (.mv (.tmp 80))), none⟩,
.op ⟨(some 17), (.pure (.mv (.tmp 81))), none⟩])
(.seq (.ops [
.op ⟨(some 83), (.pure (.mv (.tmp 5))), none⟩,
.op ⟨(some 84), (.eff (.call 31 [(.tmp 83)])), none⟩,
.op ⟨(some 82), (.pure (.mv (.tmp 84))), none⟩,
.op ⟨(some 85), (.pure (.ext 0 (.tmp 82))), none⟩,
.op ⟨(some 86), (.pure (.ext 1 (.tmp 82))), none⟩,
.op ⟨(some 18), (.pure (.mv (.tmp 85))), none⟩,
.op ⟨(some 19), (.pure (.mv (.tmp 86))), none⟩])
(.seq (.ops [
.op ⟨(some 88), (.pure (.mv (.tmp 5))), none⟩,
.op ⟨(some 89), (.eff (.call 32 [(.tmp 88)])), none⟩,
.op ⟨(some 87), (.pure (.mv (.tmp 89))), none⟩,
.op ⟨(some 90), (.pure (.ext 0 (.tmp 87))), none⟩,
.op ⟨(some 91), (.pure (.ext 1 (.tmp 87))), none⟩,
.op ⟨(some 20), (.pure (.mv (.tmp 90))), none⟩,
.op ⟨(some 21), (.pure (.mv (.tmp 91))), none⟩])
(.seq (.seq (.ops [
.op ⟨(some 92), (.pure (.mv (.tmp 7))), none⟩,
.op ⟨(some 93), (.pure (.mv (.tmp 9))), none⟩,
.op ⟨(some 94), (.pure (.eqb true (.tmp 92) (.tmp 93))), none⟩,
.op ⟨(some 95), (.pure (.mv (.tmp 94))), none⟩,
.split 95,
.op ⟨(some 96), (.pure (.mv (.tmp 6))), (some (95, false))⟩,
.op ⟨(some 97), (.pure (.mv (.tmp 8))), (some (95, false))⟩,
.op ⟨(some 98), (.eff (.call 33 [(.tmp 96), (.tmp 97)])), (some (95, false))⟩,
.op ⟨(some 99), (.pure (.bnot (.tmp 98))), (some (95, false))⟩,
.op ⟨(some 100), (.pure (.pick (.tmp 95) (.const (.bool true)) (.tmp 99))), none⟩,
.op ⟨(some 101), (.pure (.mv (.tmp 100))), none⟩,
.split 101,
.op ⟨(some 102), (.pure (.mv (.tmp 11))), (some (101, false))⟩,
.op ⟨(some 103), (.pure (.mv (.tmp 13))), (some (101, false))⟩,
.op ⟨(some 104), (.pure (.eqb true (.tmp 102) (.tmp 103))), (some (101, false))⟩,
.op ⟨(some 105), (.pure (.pick (.tmp 101) (.const (.bool true)) (.tmp 104))), none⟩,
.op ⟨(some 106), (.pure (.mv (.tmp 105))), none⟩,
.split 106,
.op ⟨(some 107), (.pure (.mv (.tmp 10))), (some (106, false))⟩,
.op ⟨(some 108), (.pure (.mv (.tmp 12))), (some (106, false))⟩,
.op ⟨(some 109), (.eff (.call 33 [(.tmp 107), (.tmp 108)])), (some (106, false))⟩,
.op ⟨(some 110), (.pure (.bnot (.tmp 109))), (some (106, false))⟩,
.op ⟨(some 111), (.pure (.pick (.tmp 106) (.const (.bool true)) (.tmp 110))), none⟩,
.op ⟨(some 112), (.pure (.mv (.tmp 111))), none⟩,
.split 112,
.op ⟨(some 113), (.pure (.mv (.tmp 15))), (some (112, false))⟩,
.op ⟨(some 114), (.pure (.mv (.tmp 17))), (some (112, false))⟩,
.op ⟨(some 115), (.pure (.eqb true (.tmp 113) (.tmp 114))), (some (112, false))⟩,
.op ⟨(some 116), (.pure (.pick (.tmp 112) (.const (.bool true)) (.tmp 115))), none⟩,
.op ⟨(some 117), (.pure (.mv (.tmp 116))), none⟩,
.split 117,
.op ⟨(some 118), (.pure (.mv (.tmp 14))), (some (117, false))⟩,
.op ⟨(some 119), (.pure (.mv (.tmp 16))), (some (117, false))⟩,
.op ⟨(some 120), (.eff (.call 34 [(.tmp 118), (.tmp 119)])), (some (117, false))⟩,
.op ⟨(some 121), (.pure (.bnot (.tmp 120))), (some (117, false))⟩,
.op ⟨(some 122), (.pure (.pick (.tmp 117) (.const (.bool true)) (.tmp 121))), none⟩,
.op ⟨(some 123), (.pure (.mv (.tmp 122))), none⟩,
.split 123,
.op ⟨(some 124), (.pure (.mv (.tmp 19))), (some (123, false))⟩,
.op ⟨(some 125), (.pure (.mv (.tmp 21))), (some (123, false))⟩,
.op ⟨(some 126), (.pure (.eqb true (.tmp 124) (.tmp 125))), (some (123, false))⟩,
.op ⟨(some 127), (.pure (.pick (.tmp 123) (.const (.bool true)) (.tmp 126))), none⟩,
.op ⟨(some 128), (.pure (.mv (.tmp 127))), none⟩,
.split 128,
.op ⟨(some 129), (.pure (.mv (.tmp 18))), (some (128, false))⟩,
.op ⟨(some 130), (.pure (.mv (.tmp 20))), (some (128, false))⟩,
.op ⟨(some 131), (.eff (.call 35 [(.tmp 129), (.tmp 130)])), (some (128, false))⟩,
.op ⟨(some 132), (.pure (.bnot (.tmp 131))), (some (128, false))⟩,
.op ⟨(some 133), (.pure (.pick (.tmp 128) (.const (.bool true)) (.tmp 132))), none⟩,
.op ⟨(some 134), (.pure (.mv (.tmp 133))), none⟩,
.split 134,
.op ⟨(some 135), (.pure (.mv (.tmp 5))), (some (134, false))⟩,
.op ⟨(some 136), (.eff (.call 21 [(.tmp 135)])), (some (134, false))⟩,
.op ⟨(some 137), (.pure (.mv (.tmp 7))), (some (134, false))⟩,
.op ⟨(some 138), (.pure (.eqb true (.tmp 136) (.tmp 137))), (some (134, false))⟩,
.op ⟨(some 139), (.pure (.pick (.tmp 134) (.const (.bool true)) (.tmp 138))), none⟩,
.op ⟨(some 140), (.pure (.mv (.tmp 139))), none⟩,
.split 140,
.op ⟨(some 141), (.pure (.mv (.tmp 11))), (some (140, false))⟩,
.op ⟨(some 142), (.pure (.mv (.tmp 7))), (some (140, false))⟩,
.op ⟨(some 143), (.pure (.eqb true (.tmp 141) (.tmp 142))), (some (140, false))⟩,
.op ⟨(some 144), (.pure (.pick (.tmp 140) (.const (.bool true)) (.tmp 143))), none⟩,
.op ⟨(some 145), (.pure (.mv (.tmp 144))), none⟩,
.split 145,
.op ⟨(some 146), (.pure (.mv (.tmp 15))), (some (145, false))⟩,
.op ⟨(some 147), (.pure (.mv (.tmp 7))), (some (145, false))⟩,
.op ⟨(some 148), (.pure (.eqb true (.tmp 146) (.tmp 147))), (some (145, false))⟩,
.op ⟨(some 149), (.pure (.pick (.tmp 145) (.const (.bool true)) (.tmp 148))), none⟩,
.op ⟨(some 150), (.pure (.mv (.tmp 149))), none⟩,
.split 150,
.op ⟨(some 151), (.pure (.mv (.tmp 19))), (some (150, false))⟩,
.op ⟨(some 152), (.pure (.mv (.tmp 7))), (some (150, false))⟩,
.op ⟨(some 153), (.pure (.eqb true (.tmp 151) (.tmp 152))), (some (150, false))⟩,
.op ⟨(some 154), (.pure (.pick (.tmp 150) (.const (.bool true)) (.tmp 153))), none⟩])
(.cond (.tmp 154)
(.seq (.ops [
.op ⟨(some 4), (.pure (.mv (.const (.bool false)))), none⟩])
(.ret))
(.skip)))
(.seq (.seq (.ops [
.op ⟨(some 155), (.pure (.mv (.tmp 7))), none⟩,
.op ⟨(some 156), (.pure (.bnot (.tmp 155))), none⟩])
(.cond (.tmp 156)
(.seq (.ops [
.op ⟨(some 4), (.pure (.mv (.const (.bool true)))), none⟩])
(.ret))
(.skip)))
(.seq (.seq (.ops [
.op ⟨(some 157), (.pure (.mv (.tmp 8))), none⟩,
.op ⟨(some 158), (.pure (.len (.tmp 157))), none⟩,
.op ⟨(some 159), (.pure (.mv (.const (.int .i64 (0))))), none⟩])
(.block 0 (.loop (.seq (.ops [
.op ⟨(some 160), (.pure (.bin .lss (.tmp 159) (.tmp 158))), none⟩])
(.seq (.cond (.tmp 160)
(.skip)
(.exit 0))
(.seq (.block 1 (.seq (.ops [
.op ⟨(some 161), (.pure (.mv (.tmp 159))), none⟩,
.op ⟨(some 162), (.pure (.idx 4 (.tmp 157) (.tmp 159))), none⟩,
.op ⟨(some 163), (.load (some 4) (.tmp 162)), none⟩,
.op ⟨(some 23), (.eff (.new 27 [(.int .i64 (0)), (.int .i64 (0)), (.int .i64 (0)), (.slice none 0 0)])), none⟩,
.op ⟨(some 22), (.pure (.mv (.tmp 161))), none⟩,
.op ⟨none, (.eff (.store 4 (.tmp 23) (.tmp 163))), none⟩])
(.seq (.ops [
.op ⟨(some 164), (.pure (.mv (.tmp 8))), none⟩,
.op ⟨(some 165), (.pure (.mv (.tmp 22))), none⟩,
.op ⟨(some 166), (.pure (.slc 4 (.tmp 164) none (some (.tmp 165)) none)), none⟩,
.op ⟨(some 167), (.pure (.len (.tmp 166))), none⟩,
.op ⟨(some 168), (.pure (.mv (.const (.int .i64 (0))))), none⟩])
(.block 2 (.loop (.seq (.ops [
.op ⟨(some 169), (.pure (.bin .lss (.tmp 168) (.tmp 167))), none⟩])
(.seq (.cond (.tmp 169)
(.skip)
(.exit 2))
(.seq (.block 3 (.seq (.ops [
.op ⟨(some 170), (.pure (.idx 4 (.tmp 166) (.tmp 168))), none⟩,
.op ⟨(some 171), (.load (some 4) (.tmp 170)), none⟩,
.op ⟨(some 25), (.eff (.new 27 [(.int .i64 (0)), (.int .i64 (0)), (.int .i64 (0)), (.slice none 0 0)])), none⟩,
.op ⟨none, (.eff (.store 4 (.tmp 25) (.tmp 171))), none⟩])
(.seq (.ops [
.op ⟨(some 172), (.load (some 4) (.tmp 23)), none⟩,
.op ⟨(some 173), (.load (some 4) (.tmp 25)), none⟩,
.op ⟨(some 174), (.eff (.call 36 [(.tmp 172), (.tmp 173)])), none⟩])
(.cond (.tmp 174)
(.seq (.ops [
.op ⟨(some 4), (.pure (.mv (.const (.bool false)))), none⟩])
(.ret))
(.skip)))))
(.ops [
.op ⟨(some 175), (.pure (.bin .add (.tmp 168) (.const (.int .i64 (1))))), none⟩,
.op ⟨(some 168), (.pure (.mv (.tmp 175))), none⟩])))))))))
(.ops [
.op ⟨(some 176), (.pure (.bin .add (.tmp 159) (.const (.int .i64 (1))))), none⟩,
.op ⟨(some 159), (.pure (.mv (.tmp 176))), none⟩])))))))
(.seq (.seq (.ops [
.op ⟨(some 26), (.pure (.mv (.const (.int .i64 (1))))), none⟩])
(.block 4 (.loop (.seq (.seq (.ops [
.op ⟨(some 177), (.pure (.mv (.tmp 26))), none⟩,
.op ⟨(some 178), (.pure (.mv (.tmp 12))), none⟩,
.op ⟨(some 179), (.pure (.len (.tmp 178))), none⟩,
.op ⟨(some 180), (.pure (.bin .lss (.tmp 177) (.tmp 179))), none⟩])
(.cond (.tmp 180)
(.skip)
(.exit 4)))
(.seq (.block 5 (.seq (.draw true
(.take ⟨(some 183), (.pure (.mv (.tmp 12))), none⟩
(.take ⟨(some 184), (.pure (.mv (.tmp 26))), none⟩
(.take ⟨(some 185), (.pure (.bin .sub (.tmp 184) (.const (.int .i64 (1))))), none⟩
(.take ⟨(some 186), (.pure (.idx 4 (.tmp 183) (.tmp 185))), none⟩
(.take ⟨(some 188), (.pure (.mv (.tmp 12))), none⟩
(.take ⟨(some 189), (.pure (.mv (.tmp 26))), none⟩
(.take ⟨(some 190), (.pure (.idx 4 (.tmp 188) (.tmp 189))), none⟩
(.take ⟨(some 187), (.load (some 4) (.tmp 186)), none⟩
(.take ⟨(some 191), (.load (some 4) (.tmp 190)), none⟩
(.fork
(.only false ⟨(some 27), (.eff (.new 27 [(.int .i64 (0)), (.int .i64 (0)), (.int .i64 (0)), (.slice none 0 0)])), none⟩
(.only false ⟨(some 28), (.eff (.new 27 [(.int .i64 (0)), (.int .i64 (0)), (.int .i64 (0)), (.slice none 0 0)])), none⟩
(.only false ⟨none, (.eff (.store 4 (.tmp 27) (.tmp 187))), none⟩
(.only true ⟨none, (.eff (.store 4 (.tmp 28) (.tmp 191))), none⟩
(.done)))))
(.only false ⟨(some 28), (.eff (.new 27 [(.int .i64 (0)), (.int .i64 (0)), (.int .i64 (0)), (.slice none 0 0)])), none⟩
(.only false ⟨(some 27), (.eff (.new 27 [(.int .i64 (0)), (.int .i64 (0)), (.int .i64 (0)), (.slice none 0 0)])), none⟩
(.only false ⟨none, (.eff (.store 4 (.tmp 27) (.tmp 187))), none⟩
(.only true ⟨none, (.eff (.store 4 (.tmp 28) (.tmp 191))), none⟩
(.done))))))))))))))))
(.seq (.ops [
.op ⟨(some 192), (.pure (.fieldAddr 0 (.tmp 27))), none⟩,
.op ⟨(some 193), (.load none (.tmp 192)), none⟩,
.op ⟨(some 194), (.pure (.fieldAddr 0 (.tmp 28))), none⟩,
.op ⟨(some 195), (.load none (.tmp 194)), none⟩,
.op ⟨(some 196), (.pure (.bin .gtr (.tmp 193) (.tmp 195))), none⟩,
.op ⟨(some 197), (.pure (.mv (.tmp 196))), none⟩,
.split 197,
.op ⟨(some 198), (.pure (.fieldAddr 0 (.tmp 27))), (some (197, false))⟩,
.op ⟨(some 199), (.load none (.tmp 198)), (some (197, false))⟩,
.op ⟨(some 200), (.pure (.fieldAddr 0 (.tmp 28))), (some (197, false))⟩,
.op ⟨(some 201), (.load none (.tmp 200)), (some (197, false))⟩,
.op ⟨(some 202), (.pure (.bin .eql (.tmp 199) (.tmp 201))), (some (197, false))⟩,
.op ⟨(some 203), (.pure (.mv (.tmp 202))), (some (197, false))⟩,
.split 203,
.op ⟨(some 204), (.pure (.fieldAddr 1 (.tmp 27))), (some (203, true))⟩,
.op ⟨(some 205), (.load none (.tmp 204)), (some (203, true))⟩,
.op ⟨(some 206), (.pure (.fieldAddr 1 (.tmp 28))), (some (203, true))⟩,
.op ⟨(some 207), (.load none (.tmp 206)), (some (203, true))⟩,
.op ⟨(some 208), (.pure (.bin .gtr (.tmp 205) (.tmp 207))), (some (203, true))⟩,
.op ⟨(some 209), (.pure (.pick (.tmp 203) (.tmp 208) (.const (.bool false)))), (some (197, false))⟩,
.op ⟨(some 210), (.pure (.pick (.tmp 197) (.const (.bool true)) (.tmp 209))), none⟩])
(.cond (.tmp 210)
(.seq (.ops [
.op ⟨(some 4), (.pure (.mv (.const (.bool false)))), none⟩])
(.ret))
(.skip)))))
(.ops [
.op ⟨(some 181), (.pure (.mv (.tmp 26))), none⟩,
.op ⟨(some 182), (.pure (.bin .add (.tmp 181) (.const (.int .i64 (1))))), none⟩,
.op ⟨(some 26), (.pure (.mv (.tmp 182))), none⟩]))))))
(.seq (.ops [
.op ⟨(some 212), (.pure (.mv (.tmp 6))), none⟩,
.op ⟨(some 213), (.eff (.call 25 [(.tmp 212)])), none⟩,
.op ⟨(some 211), (.pure (.mv (.tmp 213))), none⟩,
.op ⟨(some 214), (.pure (.ext 0 (.tmp 211))), none⟩,
.op ⟨(some 215), (.pure (.ext 1 (.tmp 211))), none⟩,
.op ⟨(some 29), (.pure (.mv (.tmp 214))), none⟩,
.op ⟨(some 30), (.pure (.mv (.tmp 215))), none⟩])
(.seq (.seq (.ops [
.op ⟨(some 216), (.pure (.mv (.tmp 30))), none⟩,
.op ⟨(some 217), (.pure (.bnot (.tmp 216))), none⟩,
.op ⟨(some 218), (.pure (.mv (.tmp 217))), none⟩,
.split 218,
.op ⟨(some 219), (.pure (.mv (.tmp 29))), (some (218, false))⟩,
.op ⟨(some 220), (.pure (.mv (.tmp 8))), (some (218, false))⟩,
.op ⟨(some 221), (.eff (.call 33 [(.tmp 219), (.tmp 220)])), (some (218, false))⟩,
.op ⟨(some 222), (.pure (.bnot (.tmp 221))), (some (218, false))⟩,
.op ⟨(some 223), (.pure (.pick (.tmp 218) (.const (.bool true)) (.tmp 222))), none⟩,
.op ⟨(some 224), (.pure (.mv (.tmp 223))), none⟩,
.split 224,
.op ⟨(some 225), (.pure (.mv (.tmp 12))), (some (224, false))⟩,
.op ⟨(some 226), (.pure (.len (.tmp 225))), (some (224, false))⟩,
.op ⟨(some 227), (.pure (.mv (.tmp 5))), (some (224, false))⟩,
.op ⟨(some 228), (.pure (.len (.tmp 227))), (some (224, false))⟩,
.op ⟨(some 229), (.pure (.bin .neq (.tmp 226) (.tmp 228))), (some (224, false))⟩,
.op ⟨(some 230), (.pure (.pick (.tmp 224) (.const (.bool true)) (.tmp 229))), none⟩])
(.cond (.tmp 230)
(.seq (.ops [
.op ⟨(some 4), (.pure (.mv (.const (.bool false)))), none⟩])
(.ret))
(.skip)))
(.seq (.seq (.ops [
.op ⟨(some 231), (.pure (.mv (.tmp 16))), none⟩,
.op ⟨(some 232), (.pure (.len (.tmp 231))), none⟩,
.op ⟨(some 233), (.pure (.mv (.const (.int .i64 (0))))), none⟩])
(.block 6 (.loop (.seq (.ops [
.op ⟨(some 234), (.pure (.bin .lss (.tmp 233) (.tmp 232))), none⟩])
(.seq (.cond (.tmp 234)
(.skip)
(.exit 6))
(.seq (.block 7 (.seq (.ops [
.op ⟨(some 235), (.pure (.idx 1 (.tmp 231) (.tmp 233))), none⟩,
.op ⟨(some 236), (.load none (.tmp 235)), none⟩,
.op ⟨(some 32), (.pure (.mv (.tmp 236))), none⟩])
(.seq (.ops [
.op ⟨(some 238), (.pure (.mv (.tmp 5))), none⟩,
.op ⟨(some 239), (.pure (.mv (.tmp 32))), none⟩,
.op ⟨(some 240), (.eff (.call 37 [(.tmp 238), (.tmp 239)])), none⟩,
.op ⟨(some 237), (.pure (.mv (.tmp 240))), none⟩,
.op ⟨(some 241), (.pure (.ext 0 (.tmp 237))), none⟩,
.op ⟨(some 242), (.pure (.ext 1 (.tmp 237))), none⟩,
.op ⟨(some 33), (.pure (.mv (.tmp 241))), none⟩,
.op ⟨(some 34), (.pure (.mv (.tmp 242))), none⟩])
(.seq (.ops [
.op ⟨(some 244), (.pure (.mv (.tmp 6))), none⟩,
.op ⟨(some 245), (.pure (.mv (.tmp 32))), none⟩,
.op ⟨(some 246), (.eff (.call 37 [(.tmp 244), (.tmp 245)])), none⟩,
.op ⟨(some 243), (.pure (.mv (.tmp 246))), none⟩,
.op ⟨(some 247), (.pure (.ext 0 (.tmp 243))), none⟩,
.op ⟨(some 248), (.pure (.ext 1 (.tmp 243))), none⟩,
.op ⟨(some 35), (.pure (.mv (.tmp 247))), none⟩,
.op ⟨(some 36), (.pure (.mv (.tmp 248))), none⟩])
(.seq (.ops [
.op ⟨(some 250), (.pure (.mv (.tmp 10))), none⟩,
.op ⟨(some 251), (.pure (.mv (.tmp 32))), none⟩,
.op ⟨(some 252), (.eff (.call 37 [(.tmp 250), (.tmp 251)])), none⟩,
.op ⟨(some 249), (.pure (.mv (.tmp 252))), none⟩,
.op ⟨(some 253), (.pure (.ext 0 (.tmp 249))), none⟩,
.op ⟨(some 254), (.pure (.ext 1 (.tmp 249))), none⟩,
.op ⟨(some 37), (.pure (.mv (.tmp 253))), none⟩,
.op ⟨(some 38), (.pure (.mv (.tmp 254))), none⟩])
(.seq (.ops [
.op ⟨(some 256), (.pure (.mv (.tmp 5))), none⟩,
.op ⟨(some 257), (.pure (.mv (.tmp 32))), none⟩,
.op ⟨(some 258), (.eff (.call 38 [(.tmp 256), (.tmp 257)])), none⟩,
.op ⟨(some 255), (.pure (.mv (.tmp 258))), none⟩,
.op ⟨(some 259), (.pure (.ext 0 (.tmp 255))), none⟩,
.op ⟨(some 260), (.pure (.ext 1 (.tmp 255))), none⟩,
.op ⟨(some 39), (.pure (.mv (.tmp 259))), none⟩,
.op ⟨(some 40), (.pure (.mv (.tmp 260))), none⟩])
(.seq (.ops [
.op ⟨(some 261), (.pure (.mv (.tmp 34))), none⟩,
.op ⟨(some 262), (.pure (.mv (.tmp 40))), none⟩,
.op ⟨(some 263), (.pure (.eqb true (.tmp 261) (.tmp 262))), none⟩,
.op ⟨(some 264), (.pure (.mv (.tmp 263))), none⟩,
.split 264,
.op ⟨(some 265), (.pure (.mv (.tmp 36))), (some (264, false))⟩,
.op ⟨(some 266), (.pure (.mv (.tmp 40))), (some (264, false))⟩,
.op ⟨(some 267), (.pure (.eqb true (.tmp 265) (.tmp 266))), (some (264, false))⟩,
.op ⟨(some 268), (.pure (.pick (.tmp 264) (.const (.bool true)) (.tmp 267))), none⟩,
.op ⟨(some 269), (.pure (.mv (.tmp 268))), none⟩,
.split 269,
.op ⟨(some 270), (.pure (.mv (.tmp 38))), (some (269, false))⟩,
.op ⟨(some 271), (.pure (.mv (.tmp 40))), (some (269, false))⟩,
.op ⟨(some 272), (.pure (.eqb true (.tmp 270) (.tmp 271))), (some (269, false))⟩,
.op ⟨(some 273), (.pure (.pick (.tmp 269) (.const (.bool true)) (.tmp 272))), none⟩,
.op ⟨(some 274), (.pure (.mv (.tmp 273))), none⟩,
.split 274,
.op ⟨(some 275), (.pure (.mv (.tmp 33))), (some (274, false))⟩,
.op ⟨(some 276), (.pure (.mv (.tmp 39))), (some (274, false))⟩,
.op ⟨(some 277), (.eff (.call 34 [(.tmp 275), (.tmp 276)])), (some (274, false))⟩,
.op ⟨(some 278), (.pure (.bnot (.tmp 277))), (some (274, false))⟩,
.op ⟨(some 279), (.pure (.pick (.tmp 274) (.const (.bool true)) (.tmp 278))), none⟩,
.op ⟨(some 280), (.pure (.mv (.tmp 279))), none⟩,
.split 280,
.op ⟨(some 281), (.pure (.mv (.tmp 35))), (some (280, false))⟩,
.op ⟨(some 282), (.pure (.mv (.tmp 39))), (some (280, false))⟩,
.op ⟨(some 283), (.eff (.call 34 [(.tmp 281), (.tmp 282)])), (some (280, false))⟩,
.op ⟨(some 284), (.pure (.bnot (.tmp 283))), (some (280, false))⟩,
.op ⟨(some 285), (.pure (.pick (.tmp 280) (.const (.bool true)) (.tmp 284))), none⟩,
.op ⟨(some 286), (.pure (.mv (.tmp 285))), none⟩,
.split 286,
.op ⟨(some 287), (.pure (.mv (.tmp 37))), (some (286, false))⟩,
.op ⟨(some 288), (.pure (.mv (.tmp 39))), (some (286, false))⟩,
.op ⟨(some 289), (.eff (.call 34 [(.tmp 287), (.tmp 288)])), (some (286, false))⟩,
.op ⟨(some 290), (.pure (.bnot (.tmp 289))), (some (286, false))⟩,
.op ⟨(some 291), (.pure (.pick (.tmp 286) (.const (.bool true)) (.tmp 290))), none⟩])
(.cond (.tmp 291)
(.seq (.ops [
.op ⟨(some 4), (.pure (.mv (.const (.bool false)))), none⟩])
(.ret))
(.skip)))))))))
(.ops [
.op ⟨(some 292), (.pure (.bin .add (.tmp 233) (.const (.int .i64 (1))))), none⟩,
.op ⟨(some 233), (.pure (.mv (.tmp 292))), none⟩])))))))
(.seq (.seq (.ops [
.op ⟨(some 293), (.pure (.mv (.tmp 20))), none⟩,
.op ⟨(some 294), (.pure (.len (.tmp 293))), none⟩,
.op ⟨(some 295), (.pure (.mv (.const (.int .i64 (0))))), none⟩])
(.block 8 (.loop (.seq (.ops [
.op ⟨(some 296), (.pure (.bin .lss (.tmp 295) (.tmp 294))), none⟩])
(.seq (.cond (.tmp 296)
(.skip)
(.exit 8))
(.seq (.block 9 (.seq (.ops [
.op ⟨(some 297), (.pure (.idx 1 (.tmp 293) (.tmp 295))), none⟩,
.op ⟨(some 298), (.load none (.tmp 297)), none⟩,
.op ⟨(some 42), (.pure (.mv (.tmp 298))), none⟩])
(.seq (.draw true
(.take ⟨(some 299), (.pure (.mv (.tmp 5))), none⟩
(.take ⟨(some 300), (.pure (.mv (.tmp 42))), none⟩
(.take ⟨(some 301), (.pure (.idx 1 (.tmp 300) (.const (.int .i64 (0))))), none⟩
(.take ⟨(some 305), (.pure (.mv (.tmp 5))), none⟩
(.take ⟨(some 306), (.pure (.mv (.tmp 42))), none⟩
(.take ⟨(some 307), (.pure (.idx 1 (.tmp 306) (.const (.int .i64 (1))))), none⟩
(.take ⟨(some 302), (.load none (.tmp 301)), none⟩
(.take ⟨(some 303), (.pure (.idx 4 (.tmp 299) (.tmp 302))), none⟩
(.take ⟨(some 304), (.load (some 4) (.tmp 303)), none⟩
(.take ⟨(some 308), (.load none (.tmp 307)), none⟩
(.take ⟨(some 309), (.pure (.idx 4 (.tmp 305) (.tmp 308))), none⟩
(.take ⟨(some 310), (.load (some 4) (.tmp 309)), none⟩
(.fork
(.only false ⟨(some 43), (.eff (.new 27 [(.int .i64 (0)), (.int .i64 (0)), (.int .i64 (0)), (.slice none 0 0)])), none⟩
(.only false ⟨(some 44), (.eff (.new 27 [(.int .i64 (0)), (.int .i64 (0)), (.int .i64 (0)), (.slice none 0 0)])), none⟩
(.only false ⟨none, (.eff (.store 4 (.tmp 43) (.tmp 304))), none⟩
(.only true ⟨none, (.eff (.store 4 (.tmp 44) (.tmp 310))), none⟩
(.done)))))
(.only false ⟨(some 44), (.eff (.new 27 [(.int .i64 (0)), (.int .i64 (0)), (.int .i64 (0)), (.slice none 0 0)])), none⟩
(.only false ⟨(some 43), (.eff (.new 27 [(.int .i64 (0)), (.int .i64 (0)), (.int .i64 (0)), (.slice none 0 0)])), none⟩
(.only false ⟨none, (.eff (.store 4 (.tmp 43) (.tmp 304))), none⟩
(.only true ⟨none, (.eff (.store 4 (.tmp 44) (.tmp 310))), none⟩
(.done)))))))))))))))))))
(.seq (.seq (.ops [
.op ⟨(some 311), (.pure (.fieldAddr 0 (.tmp 43))), none⟩,
.op ⟨(some 312), (.load none (.tmp 311)), none⟩,
.op ⟨(some 313), (.pure (.fieldAddr 0 (.tmp 44))), none⟩,
.op ⟨(some 314), (.load none (.tmp 313)), none⟩,
.op ⟨(some 315), (.pure (.bin .neq (.tmp 312) (.tmp 314))), none⟩,
.op ⟨(some 316), (.pure (.mv (.tmp 315))), none⟩,
.split 316,
.op ⟨(some 317), (.load (some 4) (.tmp 43)), (some (316, false))⟩,
.op ⟨(some 318), (.load (some 4) (.tmp 44)), (some (316, false))⟩,
.op ⟨(some 319), (.eff (.call 36 [(.tmp 317), (.tmp 318)])), (some (316, false))⟩,
.op ⟨(some 320), (.pure (.pick (.tmp 316) (.const (.bool true)) (.tmp 319))), none⟩])
(.cond (.tmp 320)
(.seq (.ops [
.op ⟨(some 4), (.pure (.mv (.const (.bool false)))), none⟩])
(.ret))
(.skip)))
(.seq (.ops [
.op ⟨(some 322), (.pure (.mv (.tmp 5))), none⟩,
.op ⟨(some 323), (.pure (.fieldAddr 0 (.tmp 43))), none⟩,
.op ⟨(some 324), (.load none (.tmp 323)), none⟩,
.op ⟨(some 325), (.eff (.call 37 [(.tmp 322), (.tmp 324)])), none⟩,
.op ⟨(some 321), (.pure (.mv (.tmp 325))), none⟩,
.op ⟨(some 326), (.pure (.ext 0 (.tmp 321))), none⟩,
.op ⟨(some 327), (.pure (.ext 1 (.tmp 321))), none⟩,
.op ⟨(some 45), (.pure (.mv (.tmp 326))), none⟩,
.op ⟨(some 46), (.pure (.mv (.tmp 327))), none⟩])
(.seq (.ops [
.op ⟨(some 328), (.pure (.mv (.tmp 46))), none⟩])
(.cond (.tmp 328)
(.seq (.ops [
.op ⟨(some 4), (.pure (.mv (.const (.bool false)))), none⟩])
(.ret))
(.skip))))))))
(.ops [
.op ⟨(some 329), (.pure (.bin .add (.tmp 295) (.const (.int .i64 (1))))), none⟩,
.op ⟨(some 295), (.pure (.mv (.tmp 329))), none⟩])))))))
(.seq (.ops [
.op ⟨(some 4), (.pure (.mv (.const (.bool true)))), none⟩])
(.ret)))))))))))))))))))),
[.tmp 4]⟩
theorem r_laws_FnPacketLists : resFun Try.prog f_laws_FnPacketLists = some c_laws_FnPacketLists := by kernel_rfl

/- loop.example/g00940/laws.FnExactSplitMessage -/
/- loop.example/g00940/laws.FnExactConflictsIn -/
/- loop.example/g00940/laws.FnExactWithoutDoubles -/
/- loop.example/g00940/laws.FnExactMissingParts -/
/- loop.example/g00940/laws.FnExactJoinMessage -/
end Go.Proofs.Ytjmcijcdncgaiaa

