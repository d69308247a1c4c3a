/- The code of this seat's functions, resolved, written by a program of mine; each is held against the given program by the kernel. Condition: none. -/
import Derived.Test.YtpbjcaadnbeplaaProg
import Derived.Test.YtpbjcaadnbeplaaBase9
import Derived.KernelRfl
namespace Go.Proofs.Ytpbjcaadnbeplaa
open Go.Vc

/- loop.example/g00940/laws.FnRepeaters -/
abbrev f_laws_FnRepeaters : Nat := 3
def c_laws_FnRepeaters : MFun := ⟨288, .seq (.ops [
.op ⟨(some 4), (.pure (.mv (.const (.bool false)))), none⟩])
(.seq (.seq (.ops [
.op ⟨(some 36), (.pure (.mv (.tmp 0))), none⟩,
.op ⟨(some 37), (.pure (.len (.tmp 36))), none⟩,
.op ⟨(some 38), (.pure (.mv (.tmp 1))), none⟩,
.op ⟨(some 39), (.pure (.len (.tmp 38))), none⟩,
.op ⟨(some 40), (.pure (.bin .add (.tmp 37) (.tmp 39))), none⟩,
.op ⟨(some 41), (.pure (.bin .gtr (.tmp 40) (.const (.int .i64 (1048576))))), none⟩])
(.cond (.tmp 41)
(.seq (.ops [
.op ⟨(some 4), (.pure (.mv (.const (.bool true)))), none⟩])
(.ret))
(.skip)))
(.seq (.ops [
.op ⟨(some 43), (.pure (.mv (.tmp 0))), none⟩,
.op ⟨(some 44), (.eff (.call 5 [(.tmp 43)])), none⟩,
.op ⟨(some 42), (.pure (.mv (.tmp 44))), none⟩,
.op ⟨(some 45), (.pure (.ext 0 (.tmp 42))), none⟩,
.op ⟨(some 46), (.pure (.ext 1 (.tmp 42))), none⟩,
.op ⟨(some 5), (.eff (.new 25 [(.int .i64 (0)), (.int .i64 (0)), (.int .i64 (0)), (.int .i64 (0)), (.slice none 0 0)])), none⟩,
.op ⟨none, (.eff (.store 5 (.tmp 5) (.tmp 45))), none⟩,
.op ⟨(some 6), (.pure (.mv (.tmp 46))), none⟩])
(.seq (.ops [
.op ⟨(some 48), (.load (some 5) (.tmp 5)), none⟩,
.op ⟨(some 49), (.pure (.mv (.tmp 6))), none⟩,
.op ⟨(some 50), (.eff (.call 6 [(.tmp 48), (.tmp 49)])), none⟩,
.op ⟨(some 47), (.pure (.mv (.tmp 50))), none⟩,
.op ⟨(some 51), (.pure (.ext 0 (.tmp 47))), none⟩,
.op ⟨(some 52), (.pure (.ext 1 (.tmp 47))), none⟩,
.op ⟨(some 7), (.eff (.new 25 [(.int .i64 (0)), (.int .i64 (0)), (.int .i64 (0)), (.int .i64 (0)), (.slice none 0 0)])), none⟩,
.op ⟨none, (.eff (.store 5 (.tmp 7) (.tmp 51))), none⟩,
.op ⟨(some 8), (.pure (.mv (.tmp 52))), none⟩])
(.seq (.ops [
.op ⟨(some 54), (.load (some 5) (.tmp 5)), none⟩,
.op ⟨(some 55), (.pure (.mv (.tmp 6))), none⟩,
.op ⟨(some 56), (.eff (.call 7 [(.tmp 54), (.tmp 55)])), none⟩,
.op ⟨(some 53), (.pure (.mv (.tmp 56))), none⟩,
.op ⟨(some 57), (.pure (.ext 0 (.tmp 53))), none⟩,
.op ⟨(some 58), (.pure (.ext 1 (.tmp 53))), none⟩,
.op ⟨(some 9), (.eff (.new 25 [(.int .i64 (0)), (.int .i64 (0)), (.int .i64 (0)), (.int .i64 (0)), (.slice none 0 0)])), none⟩,
.op ⟨none, (.eff (.store 5 (.tmp 9) (.tmp 57))), none⟩,
.op ⟨(some 10), (.pure (.mv (.tmp 58))), none⟩])
(.seq (.ops [
.op ⟨(some 60), (.pure (.mv (.tmp 1))), none⟩,
.op ⟨(some 61), (.eff (.call 8 [(.tmp 60)])), none⟩,
.op ⟨(some 59), (.pure (.mv (.tmp 61))), none⟩,
.op ⟨(some 62), (.pure (.ext 0 (.tmp 59))), none⟩,
.op ⟨(some 63), (.pure (.ext 1 (.tmp 59))), none⟩,
.op ⟨(some 11), (.eff (.new 25 [(.int .i64 (0)), (.int .i64 (0)), (.int .i64 (0)), (.int .i64 (0)), (.slice none 0 0)])), none⟩,
.op ⟨(some 12), (.eff (.new 32 [(.bool false), (.int .i64 (0))])), none⟩,
.op ⟨none, (.eff (.store 5 (.tmp 11) (.tmp 62))), none⟩,
.op ⟨none, (.eff (.store 2 (.tmp 12) (.tmp 63))), none⟩])
(.seq (.ops [
.op ⟨(some 65), (.load (some 5) (.tmp 11)), none⟩,
.op ⟨(some 66), (.load (some 2) (.tmp 12)), none⟩,
.op ⟨(some 67), (.eff (.call 9 [(.tmp 65), (.tmp 66)])), none⟩,
.op ⟨(some 64), (.pure (.mv (.tmp 67))), none⟩,
.op ⟨(some 68), (.pure (.ext 0 (.tmp 64))), none⟩,
.op ⟨(some 69), (.pure (.ext 1 (.tmp 64))), none⟩,
.op ⟨(some 13), (.eff (.new 25 [(.int .i64 (0)), (.int .i64 (0)), (.int .i64 (0)), (.int .i64 (0)), (.slice none 0 0)])), none⟩,
.op ⟨none, (.eff (.store 5 (.tmp 13) (.tmp 68))), none⟩,
.op ⟨(some 14), (.pure (.mv (.tmp 69))), none⟩])
(.seq (.ops [
.op ⟨(some 71), (.load (some 5) (.tmp 11)), none⟩,
.op ⟨(some 72), (.load (some 2) (.tmp 12)), none⟩,
.op ⟨(some 73), (.eff (.call 10 [(.tmp 71), (.tmp 72)])), none⟩,
.op ⟨(some 70), (.pure (.mv (.tmp 73))), none⟩,
.op ⟨(some 74), (.pure (.ext 0 (.tmp 70))), none⟩,
.op ⟨(some 75), (.pure (.ext 1 (.tmp 70))), none⟩,
.op ⟨(some 15), (.eff (.new 25 [(.int .i64 (0)), (.int .i64 (0)), (.int .i64 (0)), (.int .i64 (0)), (.slice none 0 0)])), none⟩,
.op ⟨none, (.eff (.store 5 (.tmp 15) (.tmp 74))), none⟩,
.op ⟨(some 16), (.pure (.mv (.tmp 75))), none⟩])
(.seq (.ops [
.op ⟨(some 76), (.pure (.mv (.tmp 1))), none⟩,
.op ⟨(some 77), (.eff (.call 11 [(.tmp 76)])), none⟩,
.op ⟨(some 17), (.pure (.mv (.tmp 77))), none⟩])
(.seq (.ops [
.op ⟨(some 79), (.pure (.mv (.tmp 17))), none⟩,
.op ⟨(some 80), (.eff (.call 12 [(.tmp 79)])), none⟩,
.op ⟨(some 78), (.pure (.mv (.tmp 80))), none⟩,
.op ⟨(some 81), (.pure (.ext 0 (.tmp 78))), none⟩,
.op ⟨(some 82), (.pure (.ext 1 (.tmp 78))), none⟩,
.op ⟨(some 18), (.pure (.mv (.tmp 81))), none⟩,
.op ⟨(some 19), (.pure (.mv (.tmp 82))), none⟩])
(.seq (.ops [
.op ⟨(some 84), (.pure (.mv (.tmp 17))), none⟩,
.op ⟨(some 85), (.eff (.call 13 [(.tmp 84)])), none⟩,
.op ⟨(some 83), (.pure (.mv (.tmp 85))), none⟩,
.op ⟨(some 86), (.pure (.ext 0 (.tmp 83))), none⟩,
.op ⟨(some 87), (.pure (.ext 1 (.tmp 83))), none⟩,
.op ⟨(some 20), (.pure (.mv (.tmp 86))), none⟩,
.op ⟨(some 21), (.pure (.mv (.tmp 87))), none⟩])
(.seq (.seq (.draw true
(.take ⟨(some 88), (.pure (.mv (.tmp 8))), none⟩
(.take ⟨(some 89), (.pure (.mv (.tmp 10))), none⟩
(.take ⟨(some 90), (.pure (.eqb true (.tmp 88) (.tmp 89))), none⟩
(.take ⟨(some 91), (.pure (.mv (.tmp 90))), none⟩
(.split 91
(.only false ⟨(some 92), (.load (some 5) (.tmp 7)), (some (91, false))⟩
(.only false ⟨(some 93), (.load (some 5) (.tmp 9)), (some (91, false))⟩
(.only false ⟨(some 94), (.eff (.call 14 [(.tmp 92), (.tmp 93)])), (some (91, false))⟩
(.take ⟨(some 95), (.pure (.bnot (.tmp 94))), (some (91, false))⟩
(.take ⟨(some 96), (.pure (.pick (.tmp 91) (.const (.bool true)) (.tmp 95))), none⟩
(.take ⟨(some 97), (.pure (.mv (.tmp 96))), none⟩
(.split 97
(.take ⟨(some 98), (.pure (.mv (.tmp 14))), (some (97, false))⟩
(.take ⟨(some 99), (.pure (.mv (.tmp 16))), (some (97, false))⟩
(.take ⟨(some 100), (.pure (.eqb true (.tmp 98) (.tmp 99))), (some (97, false))⟩
(.take ⟨(some 101), (.pure (.pick (.tmp 97) (.const (.bool true)) (.tmp 100))), none⟩
(.take ⟨(some 102), (.pure (.mv (.tmp 101))), none⟩
(.split 102
(.take ⟨(some 103), (.load (some 5) (.tmp 13)), (some (102, false))⟩
(.only false ⟨(some 104), (.load (some 5) (.tmp 15)), (some (102, false))⟩
(.only false ⟨(some 105), (.eff (.call 14 [(.tmp 103), (.tmp 104)])), (some (102, false))⟩
(.take ⟨(some 106), (.pure (.bnot (.tmp 105))), (some (102, false))⟩
(.take ⟨(some 107), (.pure (.pick (.tmp 102) (.const (.bool true)) (.tmp 106))), none⟩
(.take ⟨(some 108), (.pure (.mv (.tmp 107))), none⟩
(.split 108
(.take ⟨(some 109), (.pure (.mv (.tmp 19))), (some (108, false))⟩
(.take ⟨(some 110), (.pure (.mv (.tmp 21))), (some (108, false))⟩
(.take ⟨(some 111), (.pure (.eqb true (.tmp 109) (.tmp 110))), (some (108, false))⟩
(.take ⟨(some 112), (.pure (.pick (.tmp 108) (.const (.bool true)) (.tmp 111))), none⟩
(.take ⟨(some 113), (.pure (.mv (.tmp 112))), none⟩
(.split 113
(.take ⟨(some 114), (.pure (.mv (.tmp 18))), (some (113, false))⟩
(.take ⟨(some 115), (.pure (.mv (.tmp 20))), (some (113, false))⟩
(.only false ⟨(some 116), (.eff (.call 15 [(.tmp 114), (.tmp 115)])), (some (113, false))⟩
(.take ⟨(some 117), (.pure (.bnot (.tmp 116))), (some (113, false))⟩
(.take ⟨(some 118), (.pure (.pick (.tmp 113) (.const (.bool true)) (.tmp 117))), none⟩
(.take ⟨(some 119), (.pure (.mv (.tmp 118))), none⟩
(.split 119
(.take ⟨(some 120), (.load (some 5) (.tmp 5)), (some (119, false))⟩
(.take ⟨(some 122), (.load (some 5) (.tmp 5)), (some (119, false))⟩
(.only false ⟨(some 121), (.eff (.call 16 [(.tmp 120)])), (some (119, false))⟩
(.only true ⟨(some 123), (.eff (.call 17 [(.tmp 122)])), (some (119, false))⟩
(.take ⟨(some 124), (.pure (.eqb true (.tmp 121) (.tmp 123))), (some (119, false))⟩
(.take ⟨(some 125), (.pure (.pick (.tmp 119) (.const (.bool true)) (.tmp 124))), none⟩
(.done))))))))))))))))))))))))))))))))))))))))))))))
(.cond (.tmp 125)
(.seq (.ops [
.op ⟨(some 4), (.pure (.mv (.const (.bool false)))), none⟩])
(.ret))
(.skip)))
(.seq (.seq (.ops [
.op ⟨(some 126), (.pure (.mv (.tmp 14))), none⟩])
(.cond (.tmp 126)
(.seq (.ops [
.op ⟨(some 127), (.pure (.fieldAddr 4 (.tmp 15))), none⟩,
.op ⟨(some 128), (.load none (.tmp 127)), none⟩,
.op ⟨(some 129), (.pure (.len (.tmp 128))), none⟩,
.op ⟨(some 130), (.pure (.fieldAddr 4 (.tmp 11))), none⟩,
.op ⟨(some 131), (.load none (.tmp 130)), none⟩,
.op ⟨(some 132), (.pure (.len (.tmp 131))), none⟩,
.op ⟨(some 133), (.pure (.bin .sub (.tmp 129) (.tmp 132))), none⟩,
.op ⟨(some 22), (.pure (.mv (.tmp 133))), none⟩])
(.seq (.draw true
(.only false ⟨(some 134), (.load (some 5) (.tmp 13)), none⟩
(.only false ⟨(some 135), (.eff (.call 16 [(.tmp 134)])), none⟩
(.take ⟨(some 136), (.pure (.bnot (.tmp 135))), none⟩
(.take ⟨(some 137), (.pure (.mv (.tmp 136))), none⟩
(.split 137
(.take ⟨(some 138), (.pure (.mv (.tmp 22))), (some (137, false))⟩
(.take ⟨(some 139), (.pure (.bin .lss (.tmp 138) (.const (.int .i64 (0))))), (some (137, false))⟩
(.take ⟨(some 140), (.pure (.pick (.tmp 137) (.const (.bool true)) (.tmp 139))), none⟩
(.take ⟨(some 141), (.pure (.mv (.tmp 140))), none⟩
(.split 141
(.take ⟨(some 142), (.pure (.mv (.tmp 22))), (some (141, false))⟩
(.take ⟨(some 143), (.pure (.bin .gtr (.tmp 142) (.const (.int .i64 (1))))), (some (141, false))⟩
(.take ⟨(some 144), (.pure (.pick (.tmp 141) (.const (.bool true)) (.tmp 143))), none⟩
(.take ⟨(some 145), (.pure (.mv (.tmp 144))), none⟩
(.split 145
(.take ⟨(some 146), (.pure (.fieldAddr 4 (.tmp 15))), (some (145, false))⟩
(.take ⟨(some 148), (.pure (.fieldAddr 4 (.tmp 11))), (some (145, false))⟩
(.take ⟨(some 152), (.pure (.fieldAddr 4 (.tmp 11))), (some (145, false))⟩
(.take ⟨(some 147), (.load none (.tmp 146)), (some (145, false))⟩
(.take ⟨(some 149), (.load none (.tmp 148)), (some (145, false))⟩
(.take ⟨(some 150), (.pure (.len (.tmp 149))), (some (145, false))⟩
(.take ⟨(some 151), (.pure (.slc 1 (.tmp 147) none (some (.tmp 150)) none)), (some (145, false))⟩
(.only false ⟨(some 153), (.load none (.tmp 152)), (some (145, false))⟩
(.only false ⟨(some 154), (.eff (.call 18 [(.tmp 151), (.tmp 153)])), (some (145, false))⟩
(.take ⟨(some 155), (.pure (.bnot (.tmp 154))), (some (145, false))⟩
(.take ⟨(some 156), (.pure (.pick (.tmp 145) (.const (.bool true)) (.tmp 155))), none⟩
(.take ⟨(some 157), (.pure (.mv (.tmp 156))), none⟩
(.split 157
(.take ⟨(some 158), (.pure (.mv (.tmp 22))), (some (157, false))⟩
(.take ⟨(some 159), (.pure (.bin .eql (.tmp 158) (.const (.int .i64 (1))))), (some (157, false))⟩
(.take ⟨(some 160), (.pure (.mv (.tmp 159))), (some (157, false))⟩
(.split 160
(.take ⟨(some 161), (.pure (.fieldAddr 0 (.tmp 12))), (some (160, true))⟩
(.only false ⟨(some 162), (.load none (.tmp 161)), (some (160, true))⟩
(.take ⟨(some 163), (.pure (.bnot (.tmp 162))), (some (160, true))⟩
(.take ⟨(some 164), (.pure (.mv (.tmp 163))), (some (160, true))⟩
(.split 164
(.take ⟨(some 165), (.pure (.fieldAddr 1 (.tmp 12))), (some (164, false))⟩
(.take ⟨(some 167), (.pure (.fieldAddr 1 (.tmp 11))), (some (164, false))⟩
(.take ⟨(some 166), (.load none (.tmp 165)), (some (164, false))⟩
(.only false ⟨(some 168), (.load none (.tmp 167)), (some (164, false))⟩
(.take ⟨(some 169), (.pure (.bin .neq (.tmp 166) (.tmp 168))), (some (164, false))⟩
(.take ⟨(some 170), (.pure (.pick (.tmp 164) (.const (.bool true)) (.tmp 169))), (some (160, true))⟩
(.take ⟨(some 171), (.pure (.mv (.tmp 170))), (some (160, true))⟩
(.split 171
(.take ⟨(some 172), (.pure (.fieldAddr 4 (.tmp 15))), (some (171, false))⟩
(.take ⟨(some 174), (.pure (.fieldAddr 4 (.tmp 11))), (some (171, false))⟩
(.take ⟨(some 179), (.pure (.fieldAddr 1 (.tmp 11))), (some (171, false))⟩
(.take ⟨(some 173), (.load none (.tmp 172)), (some (171, false))⟩
(.take ⟨(some 175), (.load none (.tmp 174)), (some (171, false))⟩
(.take ⟨(some 176), (.pure (.len (.tmp 175))), (some (171, false))⟩
(.take ⟨(some 177), (.pure (.idx 1 (.tmp 173) (.tmp 176))), (some (171, false))⟩
(.take ⟨(some 178), (.load none (.tmp 177)), (some (171, false))⟩
(.only false ⟨(some 180), (.load none (.tmp 179)), (some (171, false))⟩
(.take ⟨(some 181), (.pure (.bin .neq (.tmp 178) (.tmp 180))), (some (171, false))⟩
(.take ⟨(some 182), (.pure (.pick (.tmp 171) (.const (.bool true)) (.tmp 181))), (some (160, true))⟩
(.take ⟨(some 183), (.pure (.pick (.tmp 160) (.tmp 182) (.const (.bool false)))), (some (157, false))⟩
(.take ⟨(some 184), (.pure (.pick (.tmp 157) (.const (.bool true)) (.tmp 183))), none⟩
(.done))))))))))))))))))))))))))))))))))))))))))))))))))))))))))))
(.cond (.tmp 184)
(.seq (.ops [
.op ⟨(some 4), (.pure (.mv (.const (.bool false)))), none⟩])
(.ret))
(.skip))))
(.skip)))
(.seq (.seq (.ops [
.op ⟨(some 185), (.pure (.mv (.tmp 19))), none⟩])
(.cond (.tmp 185)
(.seq (.ops [
.op ⟨(some 187), (.pure (.mv (.tmp 18))), none⟩,
.op ⟨(some 188), (.eff (.call 19 [(.tmp 187)])), none⟩,
.op ⟨(some 186), (.pure (.mv (.tmp 188))), none⟩,
.op ⟨(some 189), (.pure (.ext 0 (.tmp 186))), none⟩,
.op ⟨(some 190), (.pure (.ext 1 (.tmp 186))), none⟩,
.op ⟨(some 191), (.pure (.ext 2 (.tmp 186))), none⟩,
.op ⟨(some 23), (.pure (.mv (.tmp 189))), none⟩,
.op ⟨(some 24), (.pure (.mv (.tmp 190))), none⟩,
.op ⟨(some 25), (.pure (.mv (.tmp 191))), none⟩])
(.seq (.ops [
.op ⟨(some 26), (.pure (.mv (.const (.int .i64 (-1))))), none⟩])
(.seq (.seq (.ops [
.op ⟨(some 192), (.pure (.mv (.tmp 17))), none⟩,
.op ⟨(some 193), (.pure (.len (.tmp 192))), none⟩,
.op ⟨(some 194), (.pure (.mv (.const (.int .i64 (0))))), none⟩])
(.block 0 (.loop (.seq (.ops [
.op ⟨(some 195), (.pure (.bin .lss (.tmp 194) (.tmp 193))), none⟩])
(.seq (.cond (.tmp 195)
(.skip)
(.exit 0))
(.seq (.block 1 (.seq (.ops [
.op ⟨(some 196), (.pure (.mv (.tmp 194))), none⟩,
.op ⟨(some 197), (.pure (.idx 1 (.tmp 192) (.tmp 194))), none⟩,
.op ⟨(some 198), (.load none (.tmp 197)), none⟩,
.op ⟨(some 27), (.pure (.mv (.tmp 196))), none⟩,
.op ⟨(some 28), (.pure (.mv (.tmp 198))), none⟩])
(.seq (.ops [
.op ⟨(some 199), (.pure (.mv (.tmp 28))), none⟩,
.op ⟨(some 200), (.pure (.bin .eql (.tmp 199) (.const (.int .i64 (61))))), none⟩,
.op ⟨(some 201), (.pure (.mv (.tmp 200))), none⟩,
.split 201,
.op ⟨(some 202), (.pure (.mv (.tmp 26))), (some (201, true))⟩,
.op ⟨(some 203), (.pure (.bin .lss (.tmp 202) (.const (.int .i64 (0))))), (some (201, true))⟩,
.op ⟨(some 204), (.pure (.pick (.tmp 201) (.tmp 203) (.const (.bool false)))), none⟩])
(.cond (.tmp 204)
(.ops [
.op ⟨(some 205), (.pure (.mv (.tmp 27))), none⟩,
.op ⟨(some 26), (.pure (.mv (.tmp 205))), none⟩])
(.skip)))))
(.ops [
.op ⟨(some 206), (.pure (.bin .add (.tmp 194) (.const (.int .i64 (1))))), none⟩,
.op ⟨(some 194), (.pure (.mv (.tmp 206))), none⟩])))))))
(.seq (.seq (.ops [
.op ⟨(some 207), (.pure (.mv (.tmp 25))), none⟩,
.op ⟨(some 208), (.pure (.bnot (.tmp 207))), none⟩,
.op ⟨(some 209), (.pure (.mv (.tmp 208))), none⟩,
.split 209,
.op ⟨(some 210), (.pure (.mv (.tmp 20))), (some (209, false))⟩,
.op ⟨(some 211), (.pure (.len (.tmp 210))), (some (209, false))⟩,
.op ⟨(some 212), (.pure (.mv (.tmp 17))), (some (209, false))⟩,
.op ⟨(some 213), (.pure (.len (.tmp 212))), (some (209, false))⟩,
.op ⟨(some 214), (.pure (.bin .mul (.const (.int .i64 (2))) (.tmp 213))), (some (209, false))⟩,
.op ⟨(some 215), (.pure (.bin .neq (.tmp 211) (.tmp 214))), (some (209, false))⟩,
.op ⟨(some 216), (.pure (.pick (.tmp 209) (.const (.bool true)) (.tmp 215))), none⟩])
(.cond (.tmp 216)
(.seq (.ops [
.op ⟨(some 4), (.pure (.mv (.const (.bool false)))), none⟩])
(.ret))
(.skip)))
(.seq (.ops [
.op ⟨(some 217), (.pure (.mv (.tmp 26))), none⟩,
.op ⟨(some 218), (.pure (.bin .lss (.tmp 217) (.const (.int .i64 (0))))), none⟩,
.op ⟨(some 219), (.pure (.mv (.tmp 218))), none⟩,
.split 219,
.op ⟨(some 220), (.pure (.mv (.tmp 23))), (some (219, true))⟩,
.op ⟨(some 221), (.pure (.mv (.tmp 17))), (some (219, true))⟩,
.op ⟨(some 222), (.eff (.call 18 [(.tmp 220), (.tmp 221)])), (some (219, true))⟩,
.op ⟨(some 223), (.pure (.bnot (.tmp 222))), (some (219, true))⟩,
.op ⟨(some 224), (.pure (.mv (.tmp 223))), (some (219, true))⟩,
.split 224,
.op ⟨(some 225), (.pure (.mv (.tmp 24))), (some (224, false))⟩,
.op ⟨(some 226), (.pure (.bin .neq (.tmp 225) (.const (.int .i64 (0))))), (some (224, false))⟩,
.op ⟨(some 227), (.pure (.pick (.tmp 224) (.const (.bool true)) (.tmp 226))), (some (219, true))⟩,
.op ⟨(some 228), (.pure (.pick (.tmp 219) (.tmp 227) (.const (.bool false)))), none⟩,
.op ⟨(some 229), (.pure (.mv (.tmp 228))), none⟩,
.split 229,
.op ⟨(some 230), (.pure (.mv (.tmp 26))), (some (229, false))⟩,
.op ⟨(some 231), (.pure (.bin .geq (.tmp 230) (.const (.int .i64 (0))))), (some (229, false))⟩,
.op ⟨(some 232), (.pure (.mv (.tmp 231))), (some (229, false))⟩,
.split 232,
.op ⟨(some 233), (.pure (.mv (.tmp 23))), (some (232, true))⟩,
.op ⟨(some 234), (.pure (.mv (.tmp 17))), (some (232, true))⟩,
.op ⟨(some 235), (.pure (.mv (.tmp 26))), (some (232, true))⟩,
.op ⟨(some 236), (.pure (.bin .add (.tmp 235) (.const (.int .i64 (1))))), (some (232, true))⟩,
.op ⟨(some 237), (.pure (.slc 1 (.tmp 234) none (some (.tmp 236)) none)), (some (232, true))⟩,
.op ⟨(some 238), (.eff (.call 18 [(.tmp 233), (.tmp 237)])), (some (232, true))⟩,
.op ⟨(some 239), (.pure (.bnot (.tmp 238))), (some (232, true))⟩,
.op ⟨(some 240), (.pure (.mv (.tmp 239))), (some (232, true))⟩,
.split 240,
.op ⟨(some 241), (.pure (.mv (.tmp 24))), (some (240, false))⟩,
.op ⟨(some 242), (.pure (.bin .neq (.tmp 241) (.const (.int .i64 (3))))), (some (240, false))⟩,
.op ⟨(some 243), (.pure (.pick (.tmp 240) (.const (.bool true)) (.tmp 242))), (some (232, true))⟩,
.op ⟨(some 244), (.pure (.pick (.tmp 232) (.tmp 243) (.const (.bool false)))), (some (229, false))⟩,
.op ⟨(some 245), (.pure (.pick (.tmp 229) (.const (.bool true)) (.tmp 244))), none⟩])
(.cond (.tmp 245)
(.seq (.ops [
.op ⟨(some 4), (.pure (.mv (.const (.bool false)))), none⟩])
(.ret))
(.skip)))))))
(.skip)))
(.seq (.seq (.ops [
.op ⟨(some 246), (.pure (.mv (.tmp 8))), none⟩,
.op ⟨(some 247), (.pure (.bnot (.tmp 246))), none⟩])
(.cond (.tmp 247)
(.seq (.ops [
.op ⟨(some 4), (.pure (.mv (.const (.bool true)))), none⟩])
(.ret))
(.skip)))
(.seq (.ops [
.op ⟨(some 248), (.load (some 5) (.tmp 5)), none⟩,
.op ⟨(some 29), (.eff (.new 25 [(.int .i64 (0)), (.int .i64 (0)), (.int .i64 (0)), (.int .i64 (0)), (.slice none 0 0)])), none⟩,
.op ⟨none, (.eff (.store 5 (.tmp 29) (.tmp 248))), none⟩])
(.seq (.seq (.ops [
.op ⟨(some 249), (.pure (.mv (.tmp 6))), none⟩,
.op ⟨(some 250), (.pure (.len (.tmp 249))), none⟩,
.op ⟨(some 251), (.pure (.mv (.const (.int .i64 (0))))), none⟩])
(.block 2 (.loop (.seq (.ops [
.op ⟨(some 252), (.pure (.bin .lss (.tmp 251) (.tmp 250))), none⟩])
(.seq (.cond (.tmp 252)
(.skip)
(.exit 2))
(.seq (.block 3 (.seq (.ops [
.op ⟨(some 253), (.pure (.idx 2 (.tmp 249) (.tmp 251))), none⟩,
.op ⟨(some 254), (.load (some 2) (.tmp 253)), none⟩,
.op ⟨(some 31), (.eff (.new 32 [(.bool false), (.int .i64 (0))])), none⟩,
.op ⟨none, (.eff (.store 2 (.tmp 31) (.tmp 254))), none⟩])
(.seq (.ops [
.op ⟨(some 256), (.load (some 5) (.tmp 29)), none⟩,
.op ⟨(some 257), (.load (some 2) (.tmp 31)), none⟩,
.op ⟨(some 258), (.eff (.call 9 [(.tmp 256), (.tmp 257)])), none⟩,
.op ⟨(some 255), (.pure (.mv (.tmp 258))), none⟩,
.op ⟨(some 259), (.pure (.ext 0 (.tmp 255))), none⟩,
.op ⟨(some 260), (.pure (.ext 1 (.tmp 255))), none⟩,
.op ⟨(some 32), (.eff (.new 25 [(.int .i64 (0)), (.int .i64 (0)), (.int .i64 (0)), (.int .i64 (0)), (.slice none 0 0)])), none⟩,
.op ⟨none, (.eff (.store 5 (.tmp 32) (.tmp 259))), none⟩,
.op ⟨(some 33), (.pure (.mv (.tmp 260))), none⟩])
(.seq (.ops [
.op ⟨(some 262), (.load (some 5) (.tmp 29)), none⟩,
.op ⟨(some 263), (.load (some 2) (.tmp 31)), none⟩,
.op ⟨(some 264), (.eff (.call 10 [(.tmp 262), (.tmp 263)])), none⟩,
.op ⟨(some 261), (.pure (.mv (.tmp 264))), none⟩,
.op ⟨(some 265), (.pure (.ext 0 (.tmp 261))), none⟩,
.op ⟨(some 266), (.pure (.ext 1 (.tmp 261))), none⟩,
.op ⟨(some 34), (.eff (.new 25 [(.int .i64 (0)), (.int .i64 (0)), (.int .i64 (0)), (.int .i64 (0)), (.slice none 0 0)])), none⟩,
.op ⟨none, (.eff (.store 5 (.tmp 34) (.tmp 265))), none⟩,
.op ⟨(some 35), (.pure (.mv (.tmp 266))), none⟩])
(.seq (.seq (.ops [
.op ⟨(some 267), (.pure (.mv (.tmp 33))), none⟩,
.op ⟨(some 268), (.pure (.bnot (.tmp 267))), none⟩,
.op ⟨(some 269), (.pure (.mv (.tmp 268))), none⟩,
.split 269,
.op ⟨(some 270), (.pure (.mv (.tmp 35))), (some (269, false))⟩,
.op ⟨(some 271), (.pure (.bnot (.tmp 270))), (some (269, false))⟩,
.op ⟨(some 272), (.pure (.pick (.tmp 269) (.const (.bool true)) (.tmp 271))), none⟩,
.op ⟨(some 273), (.pure (.mv (.tmp 272))), none⟩,
.split 273,
.op ⟨(some 274), (.load (some 5) (.tmp 32)), (some (273, false))⟩,
.op ⟨(some 275), (.load (some 5) (.tmp 34)), (some (273, false))⟩,
.op ⟨(some 276), (.eff (.call 14 [(.tmp 274), (.tmp 275)])), (some (273, false))⟩,
.op ⟨(some 277), (.pure (.bnot (.tmp 276))), (some (273, false))⟩,
.op ⟨(some 278), (.pure (.pick (.tmp 273) (.const (.bool true)) (.tmp 277))), none⟩])
(.cond (.tmp 278)
(.seq (.ops [
.op ⟨(some 4), (.pure (.mv (.const (.bool false)))), none⟩])
(.ret))
(.skip)))
(.ops [
.op ⟨(some 279), (.load (some 5) (.tmp 34)), none⟩,
.op ⟨none, (.eff (.store 5 (.tmp 29) (.tmp 279))), none⟩]))))))
(.ops [
.op ⟨(some 280), (.pure (.bin .add (.tmp 251) (.const (.int .i64 (1))))), none⟩,
.op ⟨(some 251), (.pure (.mv (.tmp 280))), none⟩])))))))
(.seq (.ops [
.op ⟨(some 281), (.load (some 5) (.tmp 29)), none⟩,
.op ⟨(some 282), (.load (some 5) (.tmp 9)), none⟩,
.op ⟨(some 283), (.eff (.call 14 [(.tmp 281), (.tmp 282)])), none⟩,
.op ⟨(some 284), (.pure (.mv (.tmp 283))), none⟩,
.split 284,
.op ⟨(some 285), (.load (some 5) (.tmp 7)), (some (284, true))⟩,
.op ⟨(some 286), (.eff (.call 16 [(.tmp 285)])), (some (284, true))⟩,
.op ⟨(some 287), (.pure (.pick (.tmp 284) (.tmp 286) (.const (.bool false)))), none⟩,
.op ⟨(some 4), (.pure (.mv (.tmp 287))), none⟩])
(.ret)))))))))))))))))),
[.tmp 4]⟩
theorem r_laws_FnRepeaters : resFun Try.prog f_laws_FnRepeaters = some c_laws_FnRepeaters := by kernel_rfl

/- loop.example/g00940/laws.FnMisreadGlances -/
abbrev f_laws_FnMisreadGlances : Nat := 4
def c_laws_FnMisreadGlances : MFun := ⟨308, .seq (.ops [
.op ⟨(some 4), (.pure (.mv (.const (.bool false)))), none⟩])
(.seq (.seq (.ops [
.op ⟨(some 44), (.pure (.mv (.tmp 0))), none⟩,
.op ⟨(some 45), (.pure (.len (.tmp 44))), none⟩,
.op ⟨(some 46), (.pure (.mv (.tmp 1))), none⟩,
.op ⟨(some 47), (.pure (.len (.tmp 46))), none⟩,
.op ⟨(some 48), (.pure (.bin .add (.tmp 45) (.tmp 47))), none⟩,
.op ⟨(some 49), (.pure (.bin .gtr (.tmp 48) (.const (.int .i64 (1048576))))), none⟩])
(.cond (.tmp 49)
(.seq (.ops [
.op ⟨(some 4), (.pure (.mv (.const (.bool true)))), none⟩])
(.ret))
(.skip)))
(.seq (.ops [
.op ⟨(some 50), (.pure (.mv (.tmp 0))), none⟩,
.op ⟨(some 51), (.eff (.call 20 [(.tmp 50)])), none⟩,
.op ⟨(some 5), (.pure (.mv (.tmp 51))), none⟩])
(.seq (.ops [
.op ⟨(some 53), (.pure (.mv (.tmp 5))), none⟩,
.op ⟨(some 54), (.eff (.call 21 [(.tmp 53)])), none⟩,
.op ⟨(some 52), (.pure (.mv (.tmp 54))), none⟩,
.op ⟨(some 55), (.pure (.ext 0 (.tmp 52))), none⟩,
.op ⟨(some 56), (.pure (.ext 1 (.tmp 52))), none⟩,
.op ⟨(some 6), (.pure (.mv (.tmp 55))), none⟩,
.op ⟨(some 7), (.pure (.mv (.tmp 56))), none⟩])
(.seq (.ops [
.op ⟨(some 58), (.pure (.mv (.tmp 5))), none⟩,
.op ⟨(some 59), (.eff (.call 22 [(.tmp 58)])), none⟩,
.op ⟨(some 57), (.pure (.mv (.tmp 59))), none⟩,
.op ⟨(some 60), (.pure (.ext 0 (.tmp 57))), none⟩,
.op ⟨(some 61), (.pure (.ext 1 (.tmp 57))), none⟩,
.op ⟨(some 8), (.pure (.mv (.tmp 60))), none⟩,
.op ⟨(some 9), (.pure (.mv (.tmp 61))), none⟩])
(.seq (.ops [
.op ⟨(some 63), (.pure (.mv (.tmp 5))), none⟩,
.op ⟨(some 64), (.eff (.call 19 [(.tmp 63)])), none⟩,
.op ⟨(some 62), (.pure (.mv (.tmp 64))), none⟩,
.op ⟨(some 65), (.pure (.ext 0 (.tmp 62))), none⟩,
.op ⟨(some 66), (.pure (.ext 1 (.tmp 62))), none⟩,
.op ⟨(some 67), (.pure (.ext 2 (.tmp 62))), none⟩,
.op ⟨(some 10), (.pure (.mv (.tmp 65))), none⟩,
.op ⟨(some 11), (.pure (.mv (.tmp 66))), none⟩,
.op ⟨(some 12), (.pure (.mv (.tmp 67))), none⟩])
(.seq (.ops [
.op ⟨(some 69), (.pure (.mv (.tmp 5))), none⟩,
.op ⟨(some 70), (.eff (.call 23 [(.tmp 69)])), none⟩,
.op ⟨(some 68), (.pure (.mv (.tmp 70))), none⟩,
.op ⟨(some 71), (.pure (.ext 0 (.tmp 68))), none⟩,
.op ⟨(some 72), (.pure (.ext 1 (.tmp 68))), none⟩,
.op ⟨(some 73), (.pure (.ext 2 (.tmp 68))), none⟩,
.op ⟨(some 13), (.pure (.mv (.tmp 71))), none⟩,
.op ⟨(some 14), (.pure (.mv (.tmp 72))), none⟩,
.op ⟨(some 15), (.pure (.mv (.tmp 73))), none⟩])
(.seq (.ops [
.op ⟨(some 75), (.pure (.mv (.tmp 5))), none⟩,
.op ⟨(some 76), (.eff (.call 24 [(.tmp 75)])), none⟩,
.op ⟨(some 74), (.pure (.mv (.tmp 76))), none⟩,
.op ⟨(some 77), (.pure (.ext 0 (.tmp 74))), none⟩,
.op ⟨(some 78), (.pure (.ext 1 (.tmp 74))), none⟩,
.op ⟨(some 16), (.pure (.mv (.tmp 77))), none⟩,
.op ⟨(some 17), (.pure (.mv (.tmp 78))), none⟩])
(.seq (.ops [
.op ⟨(some 80), (.pure (.mv (.tmp 5))), none⟩,
.op ⟨(some 81), (.eff (.call 25 [(.tmp 80)])), none⟩,
.op ⟨(some 79), (.pure (.mv (.tmp 81))), none⟩,
.op ⟨(some 82), (.pure (.ext 0 (.tmp 79))), none⟩,
.op ⟨(some 83), (.pure (.ext 1 (.tmp 79))), none⟩,
.op ⟨(some 18), (.pure (.mv (.tmp 82))), none⟩,
.op ⟨(some 19), (.pure (.mv (.tmp 83))), none⟩])
(.seq (.ops [
.op ⟨(some 85), (.pure (.mv (.tmp 5))), none⟩,
.op ⟨(some 86), (.eff (.call 26 [(.tmp 85)])), none⟩,
.op ⟨(some 84), (.pure (.mv (.tmp 86))), none⟩,
.op ⟨(some 87), (.pure (.ext 0 (.tmp 84))), none⟩,
.op ⟨(some 88), (.pure (.ext 1 (.tmp 84))), none⟩,
.op ⟨(some 20), (.pure (.mv (.tmp 87))), none⟩,
.op ⟨(some 21), (.pure (.mv (.tmp 88))), none⟩])
(.seq (.ops [
.op ⟨(some 90), (.pure (.mv (.tmp 5))), none⟩,
.op ⟨(some 91), (.eff (.call 27 [(.tmp 90)])), none⟩,
.op ⟨(some 89), (.pure (.mv (.tmp 91))), none⟩,
.op ⟨(some 92), (.pure (.ext 0 (.tmp 89))), none⟩,
.op ⟨(some 93), (.pure (.ext 1 (.tmp 89))), none⟩,
.op ⟨(some 22), (.pure (.mv (.tmp 92))), none⟩,
.op ⟨(some 23), (.pure (.mv (.tmp 93))), none⟩])
(.seq (.ops [
.op ⟨(some 95), (.pure (.mv (.tmp 1))), none⟩,
.op ⟨(some 96), (.eff (.call 28 [(.tmp 95)])), none⟩,
.op ⟨(some 94), (.pure (.mv (.tmp 96))), none⟩,
.op ⟨(some 97), (.pure (.ext 0 (.tmp 94))), none⟩,
.op ⟨(some 98), (.pure (.ext 1 (.tmp 94))), none⟩,
.op ⟨(some 99), (.pure (.ext 2 (.tmp 94))), none⟩,
.op ⟨(some 24), (.pure (.mv (.tmp 97))), none⟩,
.op ⟨(some 25), (.pure (.mv (.tmp 98))), none⟩,
.op ⟨(some 26), (.pure (.mv (.tmp 99))), none⟩])
(.seq (.ops [
.op ⟨(some 101), (.pure (.mv (.tmp 24))), none⟩,
.op ⟨(some 102), (.pure (.mv (.tmp 25))), none⟩,
.op ⟨(some 103), (.pure (.mv (.tmp 26))), none⟩,
.op ⟨(some 104), (.eff (.call 29 [(.tmp 101), (.tmp 102), (.tmp 103)])), none⟩,
.op ⟨(some 100), (.pure (.mv (.tmp 104))), none⟩,
.op ⟨(some 105), (.pure (.ext 0 (.tmp 100))), none⟩,
.op ⟨(some 106), (.pure (.ext 1 (.tmp 100))), none⟩,
.op ⟨(some 27), (.pure (.mv (.tmp 105))), none⟩,
.op ⟨(some 28), (.pure (.mv (.tmp 106))), none⟩])
(.seq (.ops [
.op ⟨(some 108), (.pure (.mv (.tmp 24))), none⟩,
.op ⟨(some 109), (.pure (.mv (.tmp 25))), none⟩,
.op ⟨(some 110), (.pure (.mv (.tmp 26))), none⟩,
.op ⟨(some 111), (.eff (.call 30 [(.tmp 108), (.tmp 109), (.tmp 110)])), none⟩,
.op ⟨(some 107), (.pure (.mv (.tmp 111))), none⟩,
.op ⟨(some 112), (.pure (.ext 0 (.tmp 107))), none⟩,
.op ⟨(some 113), (.pure (.ext 1 (.tmp 107))), none⟩,
.op ⟨(some 29), (.pure (.mv (.tmp 112))), none⟩,
.op ⟨(some 30), (.pure (.mv (.tmp 113))), none⟩])
(.seq (.seq (.ops [
.op ⟨(some 114), (.pure (.mv (.tmp 7))), none⟩,
.op ⟨(some 115), (.pure (.mv (.tmp 9))), none⟩,
.op ⟨(some 116), (.pure (.eqb true (.tmp 114) (.tmp 115))), none⟩,
.op ⟨(some 117), (.pure (.mv (.tmp 116))), none⟩,
.split 117,
.op ⟨(some 118), (.pure (.mv (.tmp 6))), (some (117, false))⟩,
.op ⟨(some 119), (.pure (.mv (.tmp 8))), (some (117, false))⟩,
.op ⟨(some 120), (.eff (.call 18 [(.tmp 118), (.tmp 119)])), (some (117, false))⟩,
.op ⟨(some 121), (.pure (.bnot (.tmp 120))), (some (117, false))⟩,
.op ⟨(some 122), (.pure (.pick (.tmp 117) (.const (.bool true)) (.tmp 121))), none⟩,
.op ⟨(some 123), (.pure (.mv (.tmp 122))), none⟩,
.split 123,
.op ⟨(some 124), (.pure (.mv (.tmp 12))), (some (123, false))⟩,
.op ⟨(some 125), (.pure (.mv (.tmp 15))), (some (123, false))⟩,
.op ⟨(some 126), (.pure (.eqb true (.tmp 124) (.tmp 125))), (some (123, false))⟩,
.op ⟨(some 127), (.pure (.pick (.tmp 123) (.const (.bool true)) (.tmp 126))), none⟩,
.op ⟨(some 128), (.pure (.mv (.tmp 127))), none⟩,
.split 128,
.op ⟨(some 129), (.pure (.mv (.tmp 10))), (some (128, false))⟩,
.op ⟨(some 130), (.pure (.mv (.tmp 13))), (some (128, false))⟩,
.op ⟨(some 131), (.eff (.call 18 [(.tmp 129), (.tmp 130)])), (some (128, false))⟩,
.op ⟨(some 132), (.pure (.bnot (.tmp 131))), (some (128, false))⟩,
.op ⟨(some 133), (.pure (.pick (.tmp 128) (.const (.bool true)) (.tmp 132))), none⟩,
.op ⟨(some 134), (.pure (.mv (.tmp 133))), none⟩,
.split 134,
.op ⟨(some 135), (.pure (.mv (.tmp 11))), (some (134, false))⟩,
.op ⟨(some 136), (.pure (.mv (.tmp 14))), (some (134, false))⟩,
.op ⟨(some 137), (.pure (.bin .neq (.tmp 135) (.tmp 136))), (some (134, false))⟩,
.op ⟨(some 138), (.pure (.pick (.tmp 134) (.const (.bool true)) (.tmp 137))), none⟩,
.op ⟨(some 139), (.pure (.mv (.tmp 138))), none⟩,
.split 139,
.op ⟨(some 140), (.pure (.mv (.tmp 17))), (some (139, false))⟩,
.op ⟨(some 141), (.pure (.mv (.tmp 19))), (some (139, false))⟩,
.op ⟨(some 142), (.pure (.eqb true (.tmp 140) (.tmp 141))), (some (139, false))⟩,
.op ⟨(some 143), (.pure (.pick (.tmp 139) (.const (.bool true)) (.tmp 142))), none⟩,
.op ⟨(some 144), (.pure (.mv (.tmp 143))), none⟩,
.split 144,
.op ⟨(some 145), (.pure (.mv (.tmp 16))), (some (144, false))⟩,
.op ⟨(some 146), (.pure (.mv (.tmp 18))), (some (144, false))⟩,
.op ⟨(some 147), (.eff (.call 18 [(.tmp 145), (.tmp 146)])), (some (144, false))⟩,
.op ⟨(some 148), (.pure (.bnot (.tmp 147))), (some (144, false))⟩,
.op ⟨(some 149), (.pure (.pick (.tmp 144) (.const (.bool true)) (.tmp 148))), none⟩,
.op ⟨(some 150), (.pure (.mv (.tmp 149))), none⟩,
.split 150,
.op ⟨(some 151), (.pure (.mv (.tmp 21))), (some (150, false))⟩,
.op ⟨(some 152), (.pure (.mv (.tmp 23))), (some (150, false))⟩,
.op ⟨(some 153), (.pure (.eqb true (.tmp 151) (.tmp 152))), (some (150, false))⟩,
.op ⟨(some 154), (.pure (.pick (.tmp 150) (.const (.bool true)) (.tmp 153))), none⟩,
.op ⟨(some 155), (.pure (.mv (.tmp 154))), none⟩,
.split 155,
.op ⟨(some 156), (.pure (.mv (.tmp 20))), (some (155, false))⟩,
.op ⟨(some 157), (.pure (.mv (.tmp 22))), (some (155, false))⟩,
.op ⟨(some 158), (.pure (.bin .neq (.tmp 156) (.tmp 157))), (some (155, false))⟩,
.op ⟨(some 159), (.pure (.pick (.tmp 155) (.const (.bool true)) (.tmp 158))), none⟩,
.op ⟨(some 160), (.pure (.mv (.tmp 159))), none⟩,
.split 160,
.op ⟨(some 161), (.pure (.mv (.tmp 28))), (some (160, false))⟩,
.op ⟨(some 162), (.pure (.mv (.tmp 30))), (some (160, false))⟩,
.op ⟨(some 163), (.pure (.eqb true (.tmp 161) (.tmp 162))), (some (160, false))⟩,
.op ⟨(some 164), (.pure (.pick (.tmp 160) (.const (.bool true)) (.tmp 163))), none⟩,
.op ⟨(some 165), (.pure (.mv (.tmp 164))), none⟩,
.split 165,
.op ⟨(some 166), (.pure (.mv (.tmp 27))), (some (165, false))⟩,
.op ⟨(some 167), (.pure (.mv (.tmp 29))), (some (165, false))⟩,
.op ⟨(some 168), (.eff (.call 15 [(.tmp 166), (.tmp 167)])), (some (165, false))⟩,
.op ⟨(some 169), (.pure (.bnot (.tmp 168))), (some (165, false))⟩,
.op ⟨(some 170), (.pure (.pick (.tmp 165) (.const (.bool true)) (.tmp 169))), none⟩,
.op ⟨(some 171), (.pure (.mv (.tmp 170))), none⟩,
.split 171,
.op ⟨(some 172), (.pure (.mv (.tmp 12))), (some (171, false))⟩,
.op ⟨(some 173), (.pure (.mv (.tmp 7))), (some (171, false))⟩,
.op ⟨(some 174), (.pure (.eqb true (.tmp 172) (.tmp 173))), (some (171, false))⟩,
.op ⟨(some 175), (.pure (.pick (.tmp 171) (.const (.bool true)) (.tmp 174))), none⟩,
.op ⟨(some 176), (.pure (.mv (.tmp 175))), none⟩,
.split 176,
.op ⟨(some 177), (.pure (.mv (.tmp 17))), (some (176, false))⟩,
.op ⟨(some 178), (.pure (.mv (.tmp 7))), (some (176, false))⟩,
.op ⟨(some 179), (.pure (.eqb true (.tmp 177) (.tmp 178))), (some (176, false))⟩,
.op ⟨(some 180), (.pure (.pick (.tmp 176) (.const (.bool true)) (.tmp 179))), none⟩,
.op ⟨(some 181), (.pure (.mv (.tmp 180))), none⟩,
.split 181,
.op ⟨(some 182), (.pure (.mv (.tmp 21))), (some (181, false))⟩,
.op ⟨(some 183), (.pure (.mv (.tmp 7))), (some (181, false))⟩,
.op ⟨(some 184), (.pure (.eqb true (.tmp 182) (.tmp 183))), (some (181, false))⟩,
.op ⟨(some 185), (.pure (.pick (.tmp 181) (.const (.bool true)) (.tmp 184))), none⟩])
(.cond (.tmp 185)
(.seq (.ops [
.op ⟨(some 4), (.pure (.mv (.const (.bool false)))), none⟩])
(.ret))
(.skip)))
(.seq (.seq (.ops [
.op ⟨(some 186), (.pure (.mv (.tmp 28))), none⟩])
(.cond (.tmp 186)
(.seq (.ops [
.op ⟨(some 188), (.pure (.mv (.tmp 27))), none⟩,
.op ⟨(some 189), (.pure (.mv (.tmp 25))), none⟩,
.op ⟨(some 190), (.pure (.mv (.tmp 24))), none⟩,
.op ⟨(some 191), (.pure (.mv (.tmp 25))), none⟩,
.op ⟨(some 192), (.pure (.idx 2 (.tmp 190) (.tmp 191))), none⟩,
.op ⟨(some 193), (.pure (.fieldAddr 1 (.tmp 192))), none⟩,
.op ⟨(some 194), (.load none (.tmp 193)), none⟩,
.op ⟨(some 195), (.eff (.call 29 [(.tmp 188), (.tmp 189), (.tmp 194)])), none⟩,
.op ⟨(some 187), (.pure (.mv (.tmp 195))), none⟩,
.op ⟨(some 196), (.pure (.ext 0 (.tmp 187))), none⟩,
.op ⟨(some 197), (.pure (.ext 1 (.tmp 187))), none⟩,
.op ⟨(some 31), (.pure (.mv (.tmp 196))), none⟩,
.op ⟨(some 32), (.pure (.mv (.tmp 197))), none⟩])
(.seq (.draw true
(.take ⟨(some 198), (.pure (.mv (.tmp 32))), none⟩
(.take ⟨(some 199), (.pure (.bnot (.tmp 198))), none⟩
(.take ⟨(some 200), (.pure (.mv (.tmp 199))), none⟩
(.split 200
(.take ⟨(some 201), (.pure (.mv (.tmp 31))), (some (200, false))⟩
(.take ⟨(some 202), (.pure (.mv (.tmp 24))), (some (200, false))⟩
(.only false ⟨(some 203), (.eff (.call 15 [(.tmp 201), (.tmp 202)])), (some (200, false))⟩
(.take ⟨(some 204), (.pure (.bnot (.tmp 203))), (some (200, false))⟩
(.take ⟨(some 205), (.pure (.pick (.tmp 200) (.const (.bool true)) (.tmp 204))), none⟩
(.take ⟨(some 206), (.pure (.mv (.tmp 205))), none⟩
(.split 206
(.take ⟨(some 207), (.pure (.mv (.tmp 29))), (some (206, false))⟩
(.take ⟨(some 208), (.pure (.mv (.tmp 25))), (some (206, false))⟩
(.take ⟨(some 209), (.pure (.idx 2 (.tmp 207) (.tmp 208))), (some (206, false))⟩
(.take ⟨(some 210), (.pure (.fieldAddr 1 (.tmp 209))), (some (206, false))⟩
(.take ⟨(some 212), (.pure (.mv (.tmp 26))), (some (206, false))⟩
(.only false ⟨(some 211), (.load none (.tmp 210)), (some (206, false))⟩
(.take ⟨(some 213), (.pure (.bin .neq (.tmp 211) (.tmp 212))), (some (206, false))⟩
(.take ⟨(some 214), (.pure (.pick (.tmp 206) (.const (.bool true)) (.tmp 213))), none⟩
(.take ⟨(some 215), (.pure (.mv (.tmp 214))), none⟩
(.split 215
(.take ⟨(some 216), (.pure (.mv (.tmp 29))), (some (215, false))⟩
(.take ⟨(some 217), (.pure (.mv (.tmp 25))), (some (215, false))⟩
(.take ⟨(some 218), (.pure (.idx 2 (.tmp 216) (.tmp 217))), (some (215, false))⟩
(.take ⟨(some 219), (.pure (.fieldAddr 0 (.tmp 218))), (some (215, false))⟩
(.take ⟨(some 221), (.pure (.mv (.tmp 24))), (some (215, false))⟩
(.take ⟨(some 222), (.pure (.mv (.tmp 25))), (some (215, false))⟩
(.take ⟨(some 223), (.pure (.idx 2 (.tmp 221) (.tmp 222))), (some (215, false))⟩
(.take ⟨(some 224), (.pure (.fieldAddr 0 (.tmp 223))), (some (215, false))⟩
(.take ⟨(some 220), (.load none (.tmp 219)), (some (215, false))⟩
(.only false ⟨(some 225), (.load none (.tmp 224)), (some (215, false))⟩
(.take ⟨(some 226), (.pure (.eqb true (.tmp 220) (.tmp 225))), (some (215, false))⟩
(.take ⟨(some 227), (.pure (.pick (.tmp 215) (.const (.bool true)) (.tmp 226))), none⟩
(.done)))))))))))))))))))))))))))))))))))
(.cond (.tmp 227)
(.seq (.ops [
.op ⟨(some 4), (.pure (.mv (.const (.bool false)))), none⟩])
(.ret))
(.skip))))
(.skip)))
(.seq (.seq (.ops [
.op ⟨(some 228), (.pure (.mv (.tmp 7))), none⟩,
.op ⟨(some 229), (.pure (.bnot (.tmp 228))), none⟩])
(.cond (.tmp 229)
(.seq (.ops [
.op ⟨(some 4), (.pure (.mv (.const (.bool true)))), none⟩])
(.ret))
(.skip)))
(.seq (.ops [
.op ⟨(some 33), (.pure (.mv (.const (.slice none 0 0)))), none⟩])
(.seq (.seq (.ops [
.op ⟨(some 230), (.pure (.mv (.tmp 8))), none⟩,
.op ⟨(some 231), (.pure (.len (.tmp 230))), none⟩,
.op ⟨(some 232), (.pure (.mv (.const (.int .i64 (0))))), none⟩])
(.block 0 (.loop (.seq (.ops [
.op ⟨(some 233), (.pure (.bin .lss (.tmp 232) (.tmp 231))), none⟩])
(.seq (.cond (.tmp 233)
(.skip)
(.exit 0))
(.seq (.block 1 (.seq (.ops [
.op ⟨(some 234), (.pure (.idx 1 (.tmp 230) (.tmp 232))), none⟩,
.op ⟨(some 235), (.load none (.tmp 234)), none⟩,
.op ⟨(some 35), (.pure (.mv (.tmp 235))), none⟩])
(.ops [
.op ⟨(some 236), (.pure (.mv (.tmp 33))), none⟩,
.op ⟨(some 237), (.pure (.mv (.tmp 5))), none⟩,
.op ⟨(some 238), (.pure (.mv (.tmp 35))), none⟩,
.op ⟨(some 239), (.pure (.idx 2 (.tmp 237) (.tmp 238))), none⟩,
.op ⟨(some 240), (.load (some 2) (.tmp 239)), none⟩,
.op ⟨(some 241), (.eff (.row 32 1 [(.bool false), (.int .i64 (0))] [(0, 2, (.tmp 240))])), none⟩,
.op ⟨(some 242), (.eff (.app 32 2 16 (.tmp 236) (.tmp 241))), none⟩,
.op ⟨(some 33), (.pure (.mv (.tmp 242))), none⟩])))
(.ops [
.op ⟨(some 243), (.pure (.bin .add (.tmp 232) (.const (.int .i64 (1))))), none⟩,
.op ⟨(some 232), (.pure (.mv (.tmp 243))), none⟩])))))))
(.seq (.ops [
.op ⟨(some 245), (.pure (.mv (.tmp 33))), none⟩,
.op ⟨(some 246), (.eff (.call 19 [(.tmp 245)])), none⟩,
.op ⟨(some 244), (.pure (.mv (.tmp 246))), none⟩,
.op ⟨(some 247), (.pure (.ext 0 (.tmp 244))), none⟩,
.op ⟨(some 248), (.pure (.ext 1 (.tmp 244))), none⟩,
.op ⟨(some 249), (.pure (.ext 2 (.tmp 244))), none⟩,
.op ⟨(some 36), (.pure (.mv (.tmp 247))), none⟩,
.op ⟨(some 37), (.pure (.mv (.tmp 248))), none⟩,
.op ⟨(some 38), (.pure (.mv (.tmp 249))), none⟩])
(.seq (.ops [
.op ⟨(some 251), (.pure (.mv (.tmp 33))), none⟩,
.op ⟨(some 252), (.eff (.call 26 [(.tmp 251)])), none⟩,
.op ⟨(some 250), (.pure (.mv (.tmp 252))), none⟩,
.op ⟨(some 253), (.pure (.ext 0 (.tmp 250))), none⟩,
.op ⟨(some 254), (.pure (.ext 1 (.tmp 250))), none⟩,
.op ⟨(some 39), (.pure (.mv (.tmp 253))), none⟩,
.op ⟨(some 40), (.pure (.mv (.tmp 254))), none⟩])
(.seq (.seq (.ops [
.op ⟨(some 255), (.pure (.mv (.tmp 38))), none⟩,
.op ⟨(some 256), (.pure (.bnot (.tmp 255))), none⟩,
.op ⟨(some 257), (.pure (.mv (.tmp 256))), none⟩,
.split 257,
.op ⟨(some 258), (.pure (.mv (.tmp 36))), (some (257, false))⟩,
.op ⟨(some 259), (.pure (.mv (.tmp 13))), (some (257, false))⟩,
.op ⟨(some 260), (.eff (.call 18 [(.tmp 258), (.tmp 259)])), (some (257, false))⟩,
.op ⟨(some 261), (.pure (.bnot (.tmp 260))), (some (257, false))⟩,
.op ⟨(some 262), (.pure (.pick (.tmp 257) (.const (.bool true)) (.tmp 261))), none⟩,
.op ⟨(some 263), (.pure (.mv (.tmp 262))), none⟩,
.split 263,
.op ⟨(some 264), (.pure (.mv (.tmp 37))), (some (263, false))⟩,
.op ⟨(some 265), (.pure (.mv (.tmp 14))), (some (263, false))⟩,
.op ⟨(some 266), (.pure (.bin .neq (.tmp 264) (.tmp 265))), (some (263, false))⟩,
.op ⟨(some 267), (.pure (.pick (.tmp 263) (.const (.bool true)) (.tmp 266))), none⟩,
.op ⟨(some 268), (.pure (.mv (.tmp 267))), none⟩,
.split 268,
.op ⟨(some 269), (.pure (.mv (.tmp 40))), (some (268, false))⟩,
.op ⟨(some 270), (.pure (.bnot (.tmp 269))), (some (268, false))⟩,
.op ⟨(some 271), (.pure (.pick (.tmp 268) (.const (.bool true)) (.tmp 270))), none⟩,
.op ⟨(some 272), (.pure (.mv (.tmp 271))), none⟩,
.split 272,
.op ⟨(some 273), (.pure (.mv (.tmp 39))), (some (272, false))⟩,
.op ⟨(some 274), (.pure (.mv (.tmp 22))), (some (272, false))⟩,
.op ⟨(some 275), (.pure (.bin .neq (.tmp 273) (.tmp 274))), (some (272, false))⟩,
.op ⟨(some 276), (.pure (.pick (.tmp 272) (.const (.bool true)) (.tmp 275))), none⟩,
.op ⟨(some 277), (.pure (.mv (.tmp 276))), none⟩,
.split 277,
.op ⟨(some 278), (.pure (.mv (.tmp 18))), (some (277, false))⟩,
.op ⟨(some 279), (.pure (.len (.tmp 278))), (some (277, false))⟩,
.op ⟨(some 280), (.pure (.mv (.tmp 5))), (some (277, false))⟩,
.op ⟨(some 281), (.pure (.len (.tmp 280))), (some (277, false))⟩,
.op ⟨(some 282), (.pure (.bin .neq (.tmp 279) (.tmp 281))), (some (277, false))⟩,
.op ⟨(some 283), (.pure (.pick (.tmp 277) (.const (.bool true)) (.tmp 282))), none⟩,
.op ⟨(some 284), (.pure (.mv (.tmp 283))), none⟩,
.split 284,
.op ⟨(some 285), (.pure (.mv (.tmp 22))), (some (284, false))⟩,
.op ⟨(some 286), (.pure (.mv (.tmp 8))), (some (284, false))⟩,
.op ⟨(some 287), (.pure (.len (.tmp 286))), (some (284, false))⟩,
.op ⟨(some 288), (.pure (.bin .gtr (.tmp 285) (.tmp 287))), (some (284, false))⟩,
.op ⟨(some 289), (.pure (.pick (.tmp 284) (.const (.bool true)) (.tmp 288))), none⟩])
(.cond (.tmp 289)
(.seq (.ops [
.op ⟨(some 4), (.pure (.mv (.const (.bool false)))), none⟩])
(.ret))
(.skip)))
(.seq (.ops [
.op ⟨(some 41), (.pure (.mv (.const (.int .i64 (0))))), none⟩])
(.seq (.seq (.ops [
.op ⟨(some 290), (.pure (.mv (.tmp 18))), none⟩,
.op ⟨(some 291), (.pure (.len (.tmp 290))), none⟩,
.op ⟨(some 292), (.pure (.mv (.const (.int .i64 (0))))), none⟩])
(.block 2 (.loop (.seq (.ops [
.op ⟨(some 293), (.pure (.bin .lss (.tmp 292) (.tmp 291))), none⟩])
(.seq (.cond (.tmp 293)
(.skip)
(.exit 2))
(.seq (.block 3 (.seq (.ops [
.op ⟨(some 294), (.pure (.mv (.tmp 292))), none⟩,
.op ⟨(some 295), (.pure (.idx 1 (.tmp 290) (.tmp 292))), none⟩,
.op ⟨(some 296), (.load none (.tmp 295)), none⟩,
.op ⟨(some 42), (.pure (.mv (.tmp 294))), none⟩,
.op ⟨(some 43), (.pure (.mv (.tmp 296))), none⟩])
(.seq (.seq (.ops [
.op ⟨(some 297), (.pure (.mv (.tmp 43))), none⟩,
.op ⟨(some 298), (.pure (.mv (.tmp 41))), none⟩,
.op ⟨(some 299), (.pure (.bin .neq (.tmp 297) (.tmp 298))), none⟩,
.op ⟨(some 300), (.pure (.mv (.tmp 299))), none⟩,
.split 300,
.op ⟨(some 301), (.pure (.mv (.tmp 8))), (some (300, true))⟩,
.op ⟨(some 302), (.pure (.mv (.tmp 42))), (some (300, true))⟩,
.op ⟨(some 303), (.eff (.call 31 [(.tmp 301), (.tmp 302)])), (some (300, true))⟩,
.op ⟨(some 304), (.pure (.bnot (.tmp 303))), (some (300, true))⟩,
.op ⟨(some 305), (.pure (.pick (.tmp 300) (.tmp 304) (.const (.bool false)))), none⟩])
(.cond (.tmp 305)
(.seq (.ops [
.op ⟨(some 4), (.pure (.mv (.const (.bool false)))), none⟩])
(.ret))
(.skip)))
(.ops [
.op ⟨(some 306), (.pure (.mv (.tmp 43))), none⟩,
.op ⟨(some 41), (.pure (.mv (.tmp 306))), none⟩]))))
(.ops [
.op ⟨(some 307), (.pure (.bin .add (.tmp 292) (.const (.int .i64 (1))))), none⟩,
.op ⟨(some 292), (.pure (.mv (.tmp 307))), none⟩])))))))
(.seq (.ops [
.op ⟨(some 4), (.pure (.mv (.const (.bool true)))), none⟩])
(.ret))))))))))))))))))))))))),
[.tmp 4]⟩
theorem r_laws_FnMisreadGlances : resFun Try.prog f_laws_FnMisreadGlances = some c_laws_FnMisreadGlances := by kernel_rfl

/- loop.example/g00940/spec.DrawRunGlances -/
abbrev f_spec_DrawRunGlances : Nat := 5
def c_spec_DrawRunGlances : MFun := ⟨12, .seq (.ops [
.op ⟨(some 2), (.eff (.new 25 [(.int .i64 (0)), (.int .i64 (0)), (.int .i64 (0)), (.int .i64 (0)), (.slice none 0 0)])), none⟩,
.op ⟨(some 3), (.pure (.mv (.const (.slice none 0 0)))), none⟩])
(.seq (.ops [
.op ⟨(some 5), (.pure (.mv (.tmp 0))), none⟩,
.op ⟨(some 6), (.pure (.build [(.slice none 0 0), (.int .i64 (0)), (.int .u64 (0))] [(0, 1, (.tmp 5))])), none⟩,
.op ⟨(some 7), (.eff (.box 58 (.tmp 6))), none⟩,
.op ⟨(some 4), (.pure (.mv (.tmp 7))), none⟩])
(.seq (.ops [
.op ⟨(some 8), (.pure (.mv (.tmp 4))), none⟩,
.op ⟨(some 9), (.eff (.call 32 [(.tmp 8)])), none⟩,
.op ⟨(some 10), (.pure (.mv (.tmp 4))), none⟩,
.op ⟨(some 11), (.eff (.call 33 [(.tmp 10)])), none⟩,
.op ⟨none, (.eff (.store 5 (.tmp 2) (.tmp 9))), none⟩,
.op ⟨(some 3), (.pure (.mv (.tmp 11))), none⟩])
(.ret))),
[.cell 2 (some 5), .tmp 3]⟩
theorem r_spec_DrawRunGlances : resFun Try.prog f_spec_DrawRunGlances = some c_spec_DrawRunGlances := by kernel_rfl

/- loop.example/g00940/impl.RunGlances -/
abbrev f_impl_RunGlances : Nat := 6
def c_impl_RunGlances : MFun := ⟨38, .seq (.ops [
.op ⟨(some 2), (.eff (.box 25 (.tmp 0))), none⟩,
.op ⟨(some 4), (.eff (.new 25 [(.int .i64 (0)), (.int .i64 (0)), (.int .i64 (0)), (.int .i64 (0)), (.slice none 0 0)])), none⟩,
.op ⟨(some 5), (.pure (.mv (.const (.bool false)))), none⟩])
(.seq (.seq (.ops [
.op ⟨(some 8), (.load (some 5) (.tmp 2)), none⟩,
.op ⟨(some 9), (.eff (.call 16 [(.tmp 8)])), none⟩,
.op ⟨(some 10), (.pure (.bnot (.tmp 9))), none⟩,
.op ⟨(some 11), (.pure (.mv (.tmp 10))), none⟩,
.split 11,
.op ⟨(some 12), (.pure (.mv (.tmp 1))), (some (11, false))⟩,
.op ⟨(some 13), (.eff (.call 34 [(.tmp 12)])), (some (11, false))⟩,
.op ⟨(some 14), (.pure (.bnot (.tmp 13))), (some (11, false))⟩,
.op ⟨(some 15), (.pure (.pick (.tmp 11) (.const (.bool true)) (.tmp 14))), none⟩])
(.cond (.tmp 15)
(.seq (.ops [
.op ⟨(some 16), (.pure (.build [(.int .i64 (0)), (.int .i64 (0)), (.int .i64 (0)), (.int .i64 (0)), (.slice none 0 0)] [])), none⟩,
.op ⟨none, (.eff (.store 5 (.tmp 4) (.tmp 16))), none⟩,
.op ⟨(some 5), (.pure (.mv (.const (.bool false)))), none⟩])
(.ret))
(.skip)))
(.seq (.ops [
.op ⟨(some 17), (.load (some 5) (.tmp 2)), none⟩,
.op ⟨(some 18), (.eff (.call 35 [(.tmp 17)])), none⟩,
.op ⟨none, (.eff (.store 5 (.tmp 2) (.tmp 18))), none⟩])
(.seq (.seq (.ops [
.op ⟨(some 19), (.pure (.mv (.tmp 1))), none⟩,
.op ⟨(some 20), (.pure (.len (.tmp 19))), none⟩,
.op ⟨(some 21), (.pure (.mv (.const (.int .i64 (0))))), none⟩])
(.block 0 (.loop (.seq (.ops [
.op ⟨(some 22), (.pure (.bin .lss (.tmp 21) (.tmp 20))), none⟩])
(.seq (.cond (.tmp 22)
(.skip)
(.exit 0))
(.seq (.block 1 (.seq (.ops [
.op ⟨(some 23), (.pure (.idx 2 (.tmp 19) (.tmp 21))), none⟩,
.op ⟨(some 24), (.load (some 2) (.tmp 23)), none⟩,
.op ⟨(some 7), (.eff (.new 32 [(.bool false), (.int .i64 (0))])), none⟩,
.op ⟨none, (.eff (.store 2 (.tmp 7) (.tmp 24))), none⟩])
(.seq (.ops [
.op ⟨(some 26), (.load (some 5) (.tmp 2)), none⟩,
.op ⟨(some 27), (.load (some 2) (.tmp 7)), none⟩,
.op ⟨(some 28), (.eff (.call 36 [(.tmp 26), (.tmp 27)])), none⟩,
.op ⟨(some 25), (.pure (.mv (.tmp 28))), none⟩,
.op ⟨(some 29), (.pure (.ext 0 (.tmp 25))), none⟩,
.op ⟨(some 30), (.pure (.ext 1 (.tmp 25))), none⟩,
.op ⟨none, (.eff (.store 5 (.tmp 2) (.tmp 29))), none⟩])
(.seq (.ops [
.op ⟨(some 31), (.pure (.fieldAddr 4 (.tmp 2))), none⟩,
.op ⟨(some 32), (.load none (.tmp 31)), none⟩,
.op ⟨(some 33), (.pure (.len (.tmp 32))), none⟩,
.op ⟨(some 34), (.pure (.bin .gtr (.tmp 33) (.const (.int .i64 (80))))), none⟩])
(.cond (.tmp 34)
(.seq (.ops [
.op ⟨(some 35), (.pure (.build [(.int .i64 (0)), (.int .i64 (0)), (.int .i64 (0)), (.int .i64 (0)), (.slice none 0 0)] [])), none⟩,
.op ⟨none, (.eff (.store 5 (.tmp 4) (.tmp 35))), none⟩,
.op ⟨(some 5), (.pure (.mv (.const (.bool false)))), none⟩])
(.ret))
(.skip))))))
(.ops [
.op ⟨(some 36), (.pure (.bin .add (.tmp 21) (.const (.int .i64 (1))))), none⟩,
.op ⟨(some 21), (.pure (.mv (.tmp 36))), none⟩])))))))
(.seq (.ops [
.op ⟨(some 37), (.load (some 5) (.tmp 2)), none⟩,
.op ⟨none, (.eff (.store 5 (.tmp 4) (.tmp 37))), none⟩,
.op ⟨(some 5), (.pure (.mv (.const (.bool true)))), none⟩])
(.ret))))),
[.cell 4 (some 5), .tmp 5]⟩
theorem r_impl_RunGlances : resFun Try.prog f_impl_RunGlances = some c_impl_RunGlances := by kernel_rfl

/- loop.example/g00940/spec.RunGlances -/
abbrev f_spec_RunGlances : Nat := 7
def c_spec_RunGlances : MFun := ⟨39, .seq (.ops [
.op ⟨(some 2), (.eff (.box 25 (.tmp 0))), none⟩,
.op ⟨(some 4), (.eff (.new 25 [(.int .i64 (0)), (.int .i64 (0)), (.int .i64 (0)), (.int .i64 (0)), (.slice none 0 0)])), none⟩,
.op ⟨(some 5), (.pure (.mv (.const (.bool false)))), none⟩])
(.seq (.seq (.ops [
.op ⟨(some 9), (.load (some 5) (.tmp 2)), none⟩,
.op ⟨(some 10), (.eff (.call 37 [(.tmp 9)])), none⟩,
.op ⟨(some 11), (.pure (.bnot (.tmp 10))), none⟩,
.op ⟨(some 12), (.pure (.mv (.tmp 11))), none⟩,
.split 12,
.op ⟨(some 13), (.pure (.mv (.tmp 1))), (some (12, false))⟩,
.op ⟨(some 14), (.eff (.call 38 [(.tmp 13)])), (some (12, false))⟩,
.op ⟨(some 15), (.pure (.bnot (.tmp 14))), (some (12, false))⟩,
.op ⟨(some 16), (.pure (.pick (.tmp 12) (.const (.bool true)) (.tmp 15))), none⟩])
(.cond (.tmp 16)
(.seq (.ops [
.op ⟨(some 17), (.pure (.build [(.int .i64 (0)), (.int .i64 (0)), (.int .i64 (0)), (.int .i64 (0)), (.slice none 0 0)] [])), none⟩,
.op ⟨none, (.eff (.store 5 (.tmp 4) (.tmp 17))), none⟩,
.op ⟨(some 5), (.pure (.mv (.const (.bool false)))), none⟩])
(.ret))
(.skip)))
(.seq (.ops [
.op ⟨(some 18), (.load (some 5) (.tmp 2)), none⟩,
.op ⟨(some 6), (.eff (.new 25 [(.int .i64 (0)), (.int .i64 (0)), (.int .i64 (0)), (.int .i64 (0)), (.slice none 0 0)])), none⟩,
.op ⟨none, (.eff (.store 5 (.tmp 6) (.tmp 18))), none⟩])
(.seq (.ops [
.op ⟨(some 19), (.pure (.fieldAddr 4 (.tmp 2))), none⟩,
.op ⟨(some 20), (.load none (.tmp 19)), none⟩,
.op ⟨(some 21), (.eff (.call 39 [(.tmp 20)])), none⟩,
.op ⟨(some 22), (.pure (.fieldAddr 4 (.tmp 6))), none⟩,
.op ⟨none, (.eff (.store 1 (.tmp 22) (.tmp 21))), none⟩])
(.seq (.seq (.ops [
.op ⟨(some 23), (.pure (.mv (.tmp 1))), none⟩,
.op ⟨(some 24), (.pure (.len (.tmp 23))), none⟩,
.op ⟨(some 25), (.pure (.mv (.const (.int .i64 (0))))), none⟩])
(.block 0 (.loop (.seq (.ops [
.op ⟨(some 26), (.pure (.bin .lss (.tmp 25) (.tmp 24))), none⟩])
(.seq (.cond (.tmp 26)
(.skip)
(.exit 0))
(.seq (.block 1 (.seq (.ops [
.op ⟨(some 27), (.pure (.idx 2 (.tmp 23) (.tmp 25))), none⟩,
.op ⟨(some 28), (.load (some 2) (.tmp 27)), none⟩,
.op ⟨(some 8), (.eff (.new 32 [(.bool false), (.int .i64 (0))])), none⟩,
.op ⟨none, (.eff (.store 2 (.tmp 8) (.tmp 28))), none⟩])
(.seq (.ops [
.op ⟨(some 29), (.load (some 5) (.tmp 6)), none⟩,
.op ⟨(some 30), (.load (some 2) (.tmp 8)), none⟩,
.op ⟨(some 31), (.eff (.call 40 [(.tmp 29), (.tmp 30)])), none⟩,
.op ⟨none, (.eff (.store 5 (.tmp 6) (.tmp 31))), none⟩])
(.seq (.ops [
.op ⟨(some 32), (.pure (.fieldAddr 4 (.tmp 6))), none⟩,
.op ⟨(some 33), (.load none (.tmp 32)), none⟩,
.op ⟨(some 34), (.pure (.len (.tmp 33))), none⟩,
.op ⟨(some 35), (.pure (.bin .gtr (.tmp 34) (.const (.int .i64 (80))))), none⟩])
(.cond (.tmp 35)
(.seq (.ops [
.op ⟨(some 36), (.pure (.build [(.int .i64 (0)), (.int .i64 (0)), (.int .i64 (0)), (.int .i64 (0)), (.slice none 0 0)] [])), none⟩,
.op ⟨none, (.eff (.store 5 (.tmp 4) (.tmp 36))), none⟩,
.op ⟨(some 5), (.pure (.mv (.const (.bool false)))), none⟩])
(.ret))
(.skip))))))
(.ops [
.op ⟨(some 37), (.pure (.bin .add (.tmp 25) (.const (.int .i64 (1))))), none⟩,
.op ⟨(some 25), (.pure (.mv (.tmp 37))), none⟩])))))))
(.seq (.ops [
.op ⟨(some 38), (.load (some 5) (.tmp 6)), none⟩,
.op ⟨none, (.eff (.store 5 (.tmp 4) (.tmp 38))), none⟩,
.op ⟨(some 5), (.pure (.mv (.const (.bool true)))), none⟩])
(.ret)))))),
[.cell 4 (some 5), .tmp 5]⟩
theorem r_spec_RunGlances : resFun Try.prog f_spec_RunGlances = some c_spec_RunGlances := by kernel_rfl

/- loop.example/g00940/spec.DrawGlanceAt -/
abbrev f_spec_DrawGlanceAt : Nat := 8
def c_spec_DrawGlanceAt : MFun := ⟨25, .seq (.ops [
.op ⟨(some 2), (.eff (.new 25 [(.int .i64 (0)), (.int .i64 (0)), (.int .i64 (0)), (.int .i64 (0)), (.slice none 0 0)])), none⟩,
.op ⟨(some 3), (.eff (.new 32 [(.bool false), (.int .i64 (0))])), none⟩])
(.seq (.ops [
.op ⟨(some 6), (.pure (.mv (.tmp 0))), none⟩,
.op ⟨(some 7), (.pure (.build [(.slice none 0 0), (.int .i64 (0)), (.int .u64 (0))] [(0, 1, (.tmp 6))])), none⟩,
.op ⟨(some 8), (.eff (.box 58 (.tmp 7))), none⟩,
.op ⟨(some 4), (.pure (.mv (.tmp 8))), none⟩])
(.seq (.ops [
.op ⟨(some 9), (.pure (.mv (.tmp 4))), none⟩,
.op ⟨(some 10), (.eff (.call 32 [(.tmp 9)])), none⟩,
.op ⟨(some 5), (.eff (.new 25 [(.int .i64 (0)), (.int .i64 (0)), (.int .i64 (0)), (.int .i64 (0)), (.slice none 0 0)])), none⟩,
.op ⟨none, (.eff (.store 5 (.tmp 5) (.tmp 10))), none⟩])
(.seq (.draw true
(.take ⟨(some 12), (.pure (.mv (.tmp 4))), none⟩
(.take ⟨(some 14), (.pure (.mv (.tmp 4))), none⟩
(.take ⟨(some 15), (.pure (.fieldAddr 1 (.tmp 5))), none⟩
(.take ⟨(some 17), (.pure (.fieldAddr 1 (.tmp 5))), none⟩
(.take ⟨(some 19), (.pure (.mv (.tmp 4))), none⟩
(.take ⟨(some 11), (.load (some 5) (.tmp 5)), none⟩
(.take ⟨(some 16), (.load none (.tmp 15)), none⟩
(.take ⟨(some 18), (.load none (.tmp 17)), none⟩
(.fork
(.only false ⟨(some 13), (.eff (.call 41 [(.tmp 12), (.const (.int .i64 (2)))])), none⟩
(.only false ⟨(some 20), (.eff (.row 3 2 [(.int .i64 (0)), (.int .i64 (0))] [(0, 1, (.const (.int .i64 (-1)))), (1, 1, (.const (.int .i64 (64))))])), none⟩
(.only false ⟨(some 21), (.eff (.call 42 [(.tmp 19), (.tmp 20)])), none⟩
(.only false ⟨(some 22), (.eff (.row 3 10 [(.int .i64 (0)), (.int .i64 (0)), (.int .i64 (0)), (.int .i64 (0)), (.int .i64 (0)), (.int .i64 (0)), (.int .i64 (0)), (.int .i64 (0)), (.int .i64 (0)), (.int .i64 (0))] [(0, 1, (.const (.int .i64 (0)))), (1, 1, (.const (.int .i64 (3)))), (2, 1, (.const (.int .i64 (5)))), (3, 1, (.const (.int .i64 (60)))), (4, 1, (.const (.int .i64 (61)))), (5, 1, (.const (.int .i64 (62)))), (6, 1, (.const (.int .i64 (63)))), (7, 1, (.tmp 16)), (8, 1, (.tmp 18)), (9, 1, (.tmp 21))])), none⟩
(.only false ⟨(some 23), (.eff (.call 42 [(.tmp 14), (.tmp 22)])), none⟩
(.take ⟨(some 24), (.pure (.build [(.bool false), (.int .i64 (0))] [(0, 1, (.tmp 13)), (1, 1, (.tmp 23))])), none⟩
(.only true ⟨none, (.eff (.store 5 (.tmp 2) (.tmp 11))), none⟩
(.only true ⟨none, (.eff (.store 2 (.tmp 3) (.tmp 24))), none⟩
(.done)))))))))
(.only false ⟨(some 20), (.eff (.row 3 2 [(.int .i64 (0)), (.int .i64 (0))] [(0, 1, (.const (.int .i64 (-1)))), (1, 1, (.const (.int .i64 (64))))])), none⟩
(.only false ⟨(some 13), (.eff (.call 41 [(.tmp 12), (.const (.int .i64 (2)))])), none⟩
(.only false ⟨(some 21), (.eff (.call 42 [(.tmp 19), (.tmp 20)])), none⟩
(.only false ⟨(some 22), (.eff (.row 3 10 [(.int .i64 (0)), (.int .i64 (0)), (.int .i64 (0)), (.int .i64 (0)), (.int .i64 (0)), (.int .i64 (0)), (.int .i64 (0)), (.int .i64 (0)), (.int .i64 (0)), (.int .i64 (0))] [(0, 1, (.const (.int .i64 (0)))), (1, 1, (.const (.int .i64 (3)))), (2, 1, (.const (.int .i64 (5)))), (3, 1, (.const (.int .i64 (60)))), (4, 1, (.const (.int .i64 (61)))), (5, 1, (.const (.int .i64 (62)))), (6, 1, (.const (.int .i64 (63)))), (7, 1, (.tmp 16)), (8, 1, (.tmp 18)), (9, 1, (.tmp 21))])), none⟩
(.only false ⟨(some 23), (.eff (.call 42 [(.tmp 14), (.tmp 22)])), none⟩
(.take ⟨(some 24), (.pure (.build [(.bool false), (.int .i64 (0))] [(0, 1, (.tmp 13)), (1, 1, (.tmp 23))])), none⟩
(.only true ⟨none, (.eff (.store 5 (.tmp 2) (.tmp 11))), none⟩
(.only true ⟨none, (.eff (.store 2 (.tmp 3) (.tmp 24))), none⟩
(.done)))))))))))))))))))
(.ret)))),
[.cell 2 (some 5), .cell 3 (some 2)]⟩
theorem r_spec_DrawGlanceAt : resFun Try.prog f_spec_DrawGlanceAt = some c_spec_DrawGlanceAt := by kernel_rfl

/- loop.example/g00940/impl.GlanceAt -/
abbrev f_impl_GlanceAt : Nat := 9
def c_impl_GlanceAt : MFun := ⟨31, .seq (.ops [
.op ⟨(some 2), (.eff (.box 25 (.tmp 0))), none⟩,
.op ⟨(some 3), (.eff (.box 32 (.tmp 1))), none⟩,
.op ⟨(some 4), (.eff (.new 25 [(.int .i64 (0)), (.int .i64 (0)), (.int .i64 (0)), (.int .i64 (0)), (.slice none 0 0)])), none⟩,
.op ⟨(some 5), (.pure (.mv (.const (.bool false)))), none⟩])
(.seq (.seq (.ops [
.op ⟨(some 8), (.load (some 5) (.tmp 2)), none⟩,
.op ⟨(some 9), (.eff (.call 16 [(.tmp 8)])), none⟩,
.op ⟨(some 10), (.pure (.bnot (.tmp 9))), none⟩,
.op ⟨(some 11), (.pure (.mv (.tmp 10))), none⟩,
.split 11,
.op ⟨(some 12), (.pure (.fieldAddr 1 (.tmp 3))), (some (11, false))⟩,
.op ⟨(some 13), (.load none (.tmp 12)), (some (11, false))⟩,
.op ⟨(some 14), (.eff (.call 43 [(.tmp 13)])), (some (11, false))⟩,
.op ⟨(some 15), (.pure (.bnot (.tmp 14))), (some (11, false))⟩,
.op ⟨(some 16), (.pure (.pick (.tmp 11) (.const (.bool true)) (.tmp 15))), none⟩])
(.cond (.tmp 16)
(.seq (.ops [
.op ⟨(some 17), (.pure (.build [(.int .i64 (0)), (.int .i64 (0)), (.int .i64 (0)), (.int .i64 (0)), (.slice none 0 0)] [])), none⟩,
.op ⟨none, (.eff (.store 5 (.tmp 4) (.tmp 17))), none⟩,
.op ⟨(some 5), (.pure (.mv (.const (.bool false)))), none⟩])
(.ret))
(.skip)))
(.seq (.draw true
(.take ⟨(some 19), (.load (some 5) (.tmp 2)), none⟩
(.take ⟨(some 21), (.load (some 2) (.tmp 3)), none⟩
(.fork
(.only false ⟨(some 20), (.eff (.call 35 [(.tmp 19)])), none⟩
(.fork
(.only false ⟨(some 22), (.eff (.call 36 [(.tmp 20), (.tmp 21)])), none⟩
(.take ⟨(some 18), (.pure (.mv (.tmp 22))), none⟩
(.take ⟨(some 23), (.pure (.ext 0 (.tmp 18))), none⟩
(.take ⟨(some 24), (.pure (.ext 1 (.tmp 18))), none⟩
(.only false ⟨(some 6), (.eff (.new 25 [(.int .i64 (0)), (.int .i64 (0)), (.int .i64 (0)), (.int .i64 (0)), (.slice none 0 0)])), none⟩
(.only false ⟨none, (.eff (.store 5 (.tmp 6) (.tmp 23))), none⟩
(.take ⟨(some 7), (.pure (.mv (.tmp 24))), none⟩
(.done))))))))
(.only false ⟨(some 6), (.eff (.new 25 [(.int .i64 (0)), (.int .i64 (0)), (.int .i64 (0)), (.int .i64 (0)), (.slice none 0 0)])), none⟩
(.only false ⟨(some 22), (.eff (.call 36 [(.tmp 20), (.tmp 21)])), none⟩
(.take ⟨(some 18), (.pure (.mv (.tmp 22))), none⟩
(.take ⟨(some 23), (.pure (.ext 0 (.tmp 18))), none⟩
(.take ⟨(some 24), (.pure (.ext 1 (.tmp 18))), none⟩
(.only false ⟨none, (.eff (.store 5 (.tmp 6) (.tmp 23))), none⟩
(.take ⟨(some 7), (.pure (.mv (.tmp 24))), none⟩
(.done))))))))))
(.only false ⟨(some 6), (.eff (.new 25 [(.int .i64 (0)), (.int .i64 (0)), (.int .i64 (0)), (.int .i64 (0)), (.slice none 0 0)])), none⟩
(.only false ⟨(some 20), (.eff (.call 35 [(.tmp 19)])), none⟩
(.only false ⟨(some 22), (.eff (.call 36 [(.tmp 20), (.tmp 21)])), none⟩
(.take ⟨(some 18), (.pure (.mv (.tmp 22))), none⟩
(.take ⟨(some 23), (.pure (.ext 0 (.tmp 18))), none⟩
(.take ⟨(some 24), (.pure (.ext 1 (.tmp 18))), none⟩
(.only false ⟨none, (.eff (.store 5 (.tmp 6) (.tmp 23))), none⟩
(.take ⟨(some 7), (.pure (.mv (.tmp 24))), none⟩
(.done)))))))))))))
(.seq (.seq (.ops [
.op ⟨(some 25), (.pure (.fieldAddr 4 (.tmp 6))), none⟩,
.op ⟨(some 26), (.load none (.tmp 25)), none⟩,
.op ⟨(some 27), (.pure (.len (.tmp 26))), none⟩,
.op ⟨(some 28), (.pure (.bin .gtr (.tmp 27) (.const (.int .i64 (80))))), none⟩])
(.cond (.tmp 28)
(.seq (.ops [
.op ⟨(some 29), (.pure (.build [(.int .i64 (0)), (.int .i64 (0)), (.int .i64 (0)), (.int .i64 (0)), (.slice none 0 0)] [])), none⟩,
.op ⟨none, (.eff (.store 5 (.tmp 4) (.tmp 29))), none⟩,
.op ⟨(some 5), (.pure (.mv (.const (.bool false)))), none⟩])
(.ret))
(.skip)))
(.seq (.ops [
.op ⟨(some 30), (.load (some 5) (.tmp 6)), none⟩,
.op ⟨none, (.eff (.store 5 (.tmp 4) (.tmp 30))), none⟩,
.op ⟨(some 5), (.pure (.mv (.const (.bool true)))), none⟩])
(.ret))))),
[.cell 4 (some 5), .tmp 5]⟩
theorem r_impl_GlanceAt : resFun Try.prog f_impl_GlanceAt = some c_impl_GlanceAt := by kernel_rfl

/- loop.example/g00940/spec.GlanceAt -/
abbrev f_spec_GlanceAt : Nat := 10
def c_spec_GlanceAt : MFun := ⟨12, .seq (.ops [
.op ⟨(some 2), (.eff (.box 25 (.tmp 0))), none⟩,
.op ⟨(some 3), (.eff (.box 32 (.tmp 1))), none⟩,
.op ⟨(some 4), (.eff (.new 25 [(.int .i64 (0)), (.int .i64 (0)), (.int .i64 (0)), (.int .i64 (0)), (.slice none 0 0)])), none⟩,
.op ⟨(some 5), (.pure (.mv (.const (.bool false)))), none⟩])
(.seq (.ops [
.op ⟨(some 6), (.load (some 5) (.tmp 2)), none⟩,
.op ⟨(some 7), (.load (some 2) (.tmp 3)), none⟩,
.op ⟨(some 8), (.eff (.row 32 1 [(.bool false), (.int .i64 (0))] [(0, 2, (.tmp 7))])), none⟩,
.op ⟨(some 9), (.eff (.call 7 [(.tmp 6), (.tmp 8)])), none⟩,
.op ⟨(some 10), (.pure (.ext 0 (.tmp 9))), none⟩,
.op ⟨(some 11), (.pure (.ext 1 (.tmp 9))), none⟩,
.op ⟨none, (.eff (.store 5 (.tmp 4) (.tmp 10))), none⟩,
.op ⟨(some 5), (.pure (.mv (.tmp 11))), none⟩])
(.ret)),
[.cell 4 (some 5), .tmp 5]⟩
theorem r_spec_GlanceAt : resFun Try.prog f_spec_GlanceAt = some c_spec_GlanceAt := by kernel_rfl

/- loop.example/g00940/spec.DrawPlainGlances -/
abbrev f_spec_DrawPlainGlances : Nat := 11
def c_spec_DrawPlainGlances : MFun := ⟨54, .seq (.ops [
.op ⟨(some 2), (.pure (.mv (.const (.slice none 0 0)))), none⟩])
(.seq (.ops [
.op ⟨(some 6), (.pure (.mv (.tmp 0))), none⟩,
.op ⟨(some 7), (.pure (.build [(.slice none 0 0), (.int .i64 (0)), (.int .u64 (0))] [(0, 1, (.tmp 6))])), none⟩,
.op ⟨(some 8), (.eff (.box 58 (.tmp 7))), none⟩,
.op ⟨(some 3), (.pure (.mv (.tmp 8))), none⟩])
(.seq (.ops [
.op ⟨(some 4), (.pure (.mv (.const (.slice none 0 0)))), none⟩])
(.seq (.ops [
.op ⟨(some 9), (.pure (.mv (.tmp 3))), none⟩,
.op ⟨(some 10), (.eff (.call 44 [(.tmp 9), (.const (.int .i64 (9)))])), none⟩,
.op ⟨(some 5), (.pure (.mv (.tmp 10))), none⟩])
(.seq (.seq (.ops [
.op ⟨(some 11), (.pure (.mv (.tmp 3))), none⟩,
.op ⟨(some 12), (.eff (.call 41 [(.tmp 11), (.const (.int .i64 (20)))])), none⟩])
(.cond (.tmp 12)
(.ops [
.op ⟨(some 13), (.pure (.mv (.tmp 3))), none⟩,
.op ⟨(some 14), (.eff (.call 44 [(.tmp 13), (.const (.int .i64 (2)))])), none⟩,
.op ⟨(some 15), (.pure (.bin .add (.const (.int .i64 (40))) (.tmp 14))), none⟩,
.op ⟨(some 5), (.pure (.mv (.tmp 15))), none⟩])
(.skip)))
(.seq (.block 0 (.loop (.seq (.seq (.ops [
.op ⟨(some 16), (.pure (.mv (.tmp 4))), none⟩,
.op ⟨(some 17), (.pure (.len (.tmp 16))), none⟩,
.op ⟨(some 18), (.pure (.mv (.tmp 5))), none⟩,
.op ⟨(some 19), (.pure (.bin .lss (.tmp 17) (.tmp 18))), none⟩])
(.cond (.tmp 19)
(.skip)
(.exit 0)))
(.block 1 (.ops [
.op ⟨(some 20), (.pure (.mv (.tmp 4))), none⟩,
.op ⟨(some 21), (.pure (.mv (.tmp 3))), none⟩,
.op ⟨(some 22), (.eff (.call 44 [(.tmp 21), (.const (.int .i64 (60)))])), none⟩,
.op ⟨(some 23), (.pure (.bin .add (.const (.int .i64 (1))) (.tmp 22))), none⟩,
.op ⟨(some 24), (.eff (.row 3 1 [(.int .i64 (0))] [(0, 1, (.tmp 23))])), none⟩,
.op ⟨(some 25), (.eff (.app 3 1 8 (.tmp 20) (.tmp 24))), none⟩,
.op ⟨(some 4), (.pure (.mv (.tmp 25))), none⟩])))))
(.seq (.seq (.ops [
.op ⟨(some 26), (.pure (.mv (.tmp 3))), none⟩,
.op ⟨(some 27), (.eff (.call 41 [(.tmp 26), (.const (.int .i64 (2)))])), none⟩,
.op ⟨(some 28), (.pure (.mv (.tmp 27))), none⟩,
.split 28,
.op ⟨(some 29), (.pure (.mv (.tmp 5))), (some (28, true))⟩,
.op ⟨(some 30), (.pure (.bin .gtr (.tmp 29) (.const (.int .i64 (0))))), (some (28, true))⟩,
.op ⟨(some 31), (.pure (.pick (.tmp 28) (.tmp 30) (.const (.bool false)))), none⟩,
.op ⟨(some 32), (.pure (.mv (.tmp 31))), none⟩,
.split 32,
.op ⟨(some 33), (.pure (.mv (.tmp 5))), (some (32, true))⟩,
.op ⟨(some 34), (.pure (.bin .lss (.tmp 33) (.const (.int .i64 (40))))), (some (32, true))⟩,
.op ⟨(some 35), (.pure (.pick (.tmp 32) (.tmp 34) (.const (.bool false)))), none⟩])
(.cond (.tmp 35)
(.ops [
.op ⟨(some 36), (.pure (.mv (.tmp 4))), none⟩,
.op ⟨(some 37), (.eff (.row 3 1 [(.int .i64 (0))] [(0, 1, (.const (.int .i64 (61))))])), none⟩,
.op ⟨(some 38), (.eff (.app 3 1 8 (.tmp 36) (.tmp 37))), none⟩,
.op ⟨(some 4), (.pure (.mv (.tmp 38))), none⟩])
(.skip)))
(.seq (.seq (.ops [
.op ⟨(some 39), (.pure (.mv (.tmp 5))), none⟩,
.op ⟨(some 40), (.pure (.bin .gtr (.tmp 39) (.const (.int .i64 (0))))), none⟩,
.op ⟨(some 41), (.pure (.mv (.tmp 40))), none⟩,
.split 41,
.op ⟨(some 42), (.pure (.mv (.tmp 3))), (some (41, true))⟩,
.op ⟨(some 43), (.eff (.call 41 [(.tmp 42), (.const (.int .i64 (20)))])), (some (41, true))⟩,
.op ⟨(some 44), (.pure (.pick (.tmp 41) (.tmp 43) (.const (.bool false)))), none⟩])
(.cond (.tmp 44)
(.ops [
.op ⟨(some 45), (.pure (.mv (.tmp 4))), none⟩,
.op ⟨(some 46), (.pure (.mv (.tmp 3))), none⟩,
.op ⟨(some 47), (.pure (.mv (.tmp 5))), none⟩,
.op ⟨(some 48), (.eff (.call 44 [(.tmp 46), (.tmp 47)])), none⟩,
.op ⟨(some 49), (.pure (.mv (.tmp 3))), none⟩,
.op ⟨(some 50), (.eff (.row 3 4 [(.int .i64 (0)), (.int .i64 (0)), (.int .i64 (0)), (.int .i64 (0))] [(0, 1, (.const (.int .i64 (0)))), (1, 1, (.const (.int .i64 (60)))), (2, 1, (.const (.int .i64 (61)))), (3, 1, (.const (.int .i64 (62))))])), none⟩,
.op ⟨(some 51), (.eff (.call 42 [(.tmp 49), (.tmp 50)])), none⟩,
.op ⟨(some 52), (.pure (.idx 1 (.tmp 45) (.tmp 48))), none⟩,
.op ⟨none, (.eff (.store 1 (.tmp 52) (.tmp 51))), none⟩])
(.skip)))
(.seq (.ops [
.op ⟨(some 53), (.pure (.mv (.tmp 4))), none⟩,
.op ⟨(some 2), (.pure (.mv (.tmp 53))), none⟩])
(.ret))))))))),
[.tmp 2]⟩
theorem r_spec_DrawPlainGlances : resFun Try.prog f_spec_DrawPlainGlances = some c_spec_DrawPlainGlances := by kernel_rfl
end Go.Proofs.Ytpbjcaadnbeplaa
