/- The code of this seat's functions, resolved, written by a program of mine; each is held against the given program by the kernel. Condition: none. -/
import Derived.Test.YthagdkmalchhgaaProg
import Derived.Test.YthagdkmalchhgaaBase9
import Derived.KernelRfl
namespace Go.Proofs.Ythagdkmalchhgaa
open Go.Vc

/- loop.example/g00940/laws.FnExactWayThrough -/
abbrev f_laws_FnExactWayThrough : Nat := 13
def c_laws_FnExactWayThrough : MFun := ⟨134, .seq (.ops [
.op ⟨(some 5), (.eff (.box 25 (.tmp 0))), none⟩,
.op ⟨(some 10), (.pure (.mv (.const (.bool false)))), none⟩])
(.seq (.ops [
.op ⟨(some 11), (.pure (.mv (.const (.int .i64 (1048576))))), none⟩])
(.seq (.ops [
.op ⟨(some 23), (.load (some 2) (.tmp 5)), none⟩,
.op ⟨(some 24), (.pure (.mv (.tmp 11))), none⟩,
.op ⟨(some 25), (.eff (.call 19 [(.tmp 23), (.tmp 24)])), none⟩,
.op ⟨(some 11), (.pure (.mv (.tmp 25))), none⟩])
(.seq (.seq (.ops [
.op ⟨(some 26), (.pure (.mv (.tmp 11))), none⟩,
.op ⟨(some 27), (.pure (.bin .lss (.tmp 26) (.const (.int .i64 (0))))), none⟩])
(.cond (.tmp 27)
(.seq (.ops [
.op ⟨(some 10), (.pure (.mv (.const (.bool true)))), none⟩])
(.ret))
(.skip)))
(.seq (.ops [
.op ⟨(some 28), (.pure (.mv (.tmp 1))), none⟩,
.op ⟨(some 29), (.pure (.mv (.tmp 11))), none⟩,
.op ⟨(some 30), (.eff (.call 26 [(.tmp 28), (.tmp 29)])), none⟩,
.op ⟨(some 11), (.pure (.mv (.tmp 30))), none⟩])
(.seq (.seq (.ops [
.op ⟨(some 31), (.pure (.mv (.tmp 11))), none⟩,
.op ⟨(some 32), (.pure (.bin .lss (.tmp 31) (.const (.int .i64 (0))))), none⟩])
(.cond (.tmp 32)
(.seq (.ops [
.op ⟨(some 10), (.pure (.mv (.const (.bool true)))), none⟩])
(.ret))
(.skip)))
(.seq (.ops [
.op ⟨(some 34), (.load (some 2) (.tmp 5)), none⟩,
.op ⟨(some 35), (.eff (.call 21 [(.tmp 34)])), none⟩,
.op ⟨(some 36), (.pure (.mv (.tmp 1))), none⟩,
.op ⟨(some 37), (.eff (.call 28 [(.tmp 36)])), none⟩,
.op ⟨(some 38), (.pure (.mv (.tmp 2))), none⟩,
.op ⟨(some 39), (.pure (.mv (.tmp 3))), none⟩,
.op ⟨(some 40), (.pure (.mv (.tmp 4))), none⟩,
.op ⟨(some 41), (.eff (.call 54 [(.tmp 35), (.tmp 37), (.tmp 38), (.tmp 39), (.tmp 40)])), none⟩,
.op ⟨(some 33), (.pure (.mv (.tmp 41))), none⟩,
.op ⟨(some 42), (.pure (.ext 0 (.tmp 33))), none⟩,
.op ⟨(some 43), (.pure (.ext 1 (.tmp 33))), none⟩,
.op ⟨(some 12), (.pure (.mv (.tmp 42))), none⟩,
.op ⟨(some 13), (.pure (.mv (.tmp 43))), none⟩])
(.seq (.ops [
.op ⟨(some 44), (.load (some 2) (.tmp 5)), none⟩,
.op ⟨(some 45), (.eff (.call 21 [(.tmp 44)])), none⟩,
.op ⟨(some 14), (.eff (.new 32 [(.slice none 0 0), (.slice none 0 0)])), none⟩,
.op ⟨none, (.eff (.store 2 (.tmp 14) (.tmp 45))), none⟩])
(.seq (.ops [
.op ⟨(some 46), (.pure (.mv (.tmp 1))), none⟩,
.op ⟨(some 47), (.eff (.call 28 [(.tmp 46)])), none⟩,
.op ⟨(some 15), (.pure (.mv (.tmp 47))), none⟩])
(.seq (.ops [
.op ⟨(some 49), (.load (some 2) (.tmp 14)), none⟩,
.op ⟨(some 50), (.pure (.mv (.tmp 15))), none⟩,
.op ⟨(some 51), (.pure (.mv (.tmp 2))), none⟩,
.op ⟨(some 52), (.pure (.mv (.tmp 3))), none⟩,
.op ⟨(some 53), (.pure (.mv (.tmp 4))), none⟩,
.op ⟨(some 54), (.eff (.call 55 [(.tmp 49), (.tmp 50), (.tmp 51), (.tmp 52), (.tmp 53)])), none⟩,
.op ⟨(some 48), (.pure (.mv (.tmp 54))), none⟩,
.op ⟨(some 55), (.pure (.ext 0 (.tmp 48))), none⟩,
.op ⟨(some 56), (.pure (.ext 1 (.tmp 48))), none⟩,
.op ⟨(some 16), (.pure (.mv (.tmp 55))), none⟩,
.op ⟨(some 17), (.pure (.mv (.tmp 56))), none⟩])
(.seq (.seq (.ops [
.op ⟨(some 57), (.pure (.mv (.tmp 16))), none⟩,
.op ⟨(some 58), (.pure (.mv (.tmp 12))), none⟩,
.op ⟨(some 59), (.eff (.call 44 [(.tmp 57), (.tmp 58)])), none⟩,
.op ⟨(some 60), (.pure (.bnot (.tmp 59))), none⟩,
.op ⟨(some 61), (.pure (.mv (.tmp 60))), none⟩,
.split 61,
.op ⟨(some 62), (.pure (.mv (.tmp 17))), (some (61, false))⟩,
.op ⟨(some 63), (.pure (.mv (.tmp 13))), (some (61, false))⟩,
.op ⟨(some 64), (.pure (.eqb true (.tmp 62) (.tmp 63))), (some (61, false))⟩,
.op ⟨(some 65), (.pure (.pick (.tmp 61) (.const (.bool true)) (.tmp 64))), none⟩])
(.cond (.tmp 65)
(.seq (.ops [
.op ⟨(some 10), (.pure (.mv (.const (.bool false)))), none⟩])
(.ret))
(.skip)))
(.seq (.seq (.draw true
(.only false ⟨(some 67), (.load (some 2) (.tmp 5)), none⟩
(.take ⟨(some 66), (.load (some 2) (.tmp 14)), none⟩
(.only false ⟨(some 68), (.eff (.call 21 [(.tmp 67)])), none⟩
(.only true ⟨(some 69), (.eff (.call 23 [(.tmp 66), (.tmp 68)])), none⟩
(.take ⟨(some 70), (.pure (.bnot (.tmp 69))), none⟩
(.done)))))))
(.cond (.tmp 70)
(.seq (.ops [
.op ⟨(some 10), (.pure (.mv (.const (.bool false)))), none⟩])
(.ret))
(.skip)))
(.seq (.seq (.ops [
.op ⟨(some 71), (.pure (.mv (.tmp 15))), none⟩,
.op ⟨(some 72), (.pure (.mv (.tmp 1))), none⟩,
.op ⟨(some 73), (.eff (.call 28 [(.tmp 72)])), none⟩,
.op ⟨(some 74), (.eff (.call 30 [(.tmp 71), (.tmp 73)])), none⟩,
.op ⟨(some 75), (.pure (.bnot (.tmp 74))), none⟩])
(.cond (.tmp 75)
(.seq (.ops [
.op ⟨(some 10), (.pure (.mv (.const (.bool false)))), none⟩])
(.ret))
(.skip)))
(.seq (.ops [
.op ⟨(some 18), (.pure (.mv (.const (.int .i64 (1))))), none⟩])
(.seq (.ops [
.op ⟨(some 76), (.load (some 2) (.tmp 14)), none⟩,
.op ⟨(some 77), (.pure (.mv (.tmp 18))), none⟩,
.op ⟨(some 78), (.eff (.call 38 [(.tmp 76), (.tmp 77)])), none⟩,
.op ⟨(some 18), (.pure (.mv (.tmp 78))), none⟩])
(.seq (.ops [
.op ⟨(some 79), (.pure (.mv (.tmp 15))), none⟩,
.op ⟨(some 80), (.pure (.mv (.tmp 18))), none⟩,
.op ⟨(some 81), (.eff (.call 39 [(.tmp 79), (.tmp 80)])), none⟩,
.op ⟨(some 18), (.pure (.mv (.tmp 81))), none⟩])
(.seq (.seq (.ops [
.op ⟨(some 82), (.pure (.mv (.tmp 18))), none⟩,
.op ⟨(some 83), (.pure (.bin .lss (.tmp 82) (.const (.int .i64 (0))))), none⟩,
.op ⟨(some 84), (.pure (.mv (.tmp 83))), none⟩,
.split 84,
.op ⟨(some 85), (.pure (.mv (.tmp 16))), (some (84, false))⟩,
.op ⟨(some 86), (.pure (.mv (.tmp 12))), (some (84, false))⟩,
.op ⟨(some 87), (.eff (.call 44 [(.tmp 85), (.tmp 86)])), (some (84, false))⟩,
.op ⟨(some 88), (.pure (.bnot (.tmp 87))), (some (84, false))⟩,
.op ⟨(some 89), (.pure (.pick (.tmp 84) (.const (.bool true)) (.tmp 88))), none⟩,
.op ⟨(some 90), (.pure (.mv (.tmp 89))), none⟩,
.split 90,
.op ⟨(some 91), (.pure (.mv (.tmp 17))), (some (90, false))⟩,
.op ⟨(some 92), (.pure (.mv (.tmp 13))), (some (90, false))⟩,
.op ⟨(some 93), (.pure (.eqb true (.tmp 91) (.tmp 92))), (some (90, false))⟩,
.op ⟨(some 94), (.pure (.pick (.tmp 90) (.const (.bool true)) (.tmp 93))), none⟩])
(.cond (.tmp 94)
(.seq (.ops [
.op ⟨(some 10), (.pure (.mv (.const (.bool false)))), none⟩])
(.ret))
(.skip)))
(.seq (.ops [
.op ⟨(some 19), (.pure (.mv (.const (.int .i64 (1))))), none⟩])
(.seq (.ops [
.op ⟨(some 95), (.pure (.mv (.tmp 16))), none⟩,
.op ⟨(some 96), (.pure (.mv (.tmp 19))), none⟩,
.op ⟨(some 97), (.eff (.call 45 [(.tmp 95), (.tmp 96)])), none⟩,
.op ⟨(some 19), (.pure (.mv (.tmp 97))), none⟩])
(.seq (.ops [
.op ⟨(some 20), (.pure (.mv (.const (.int .i64 (1))))), none⟩])
(.seq (.ops [
.op ⟨(some 98), (.pure (.mv (.tmp 16))), none⟩,
.op ⟨(some 99), (.pure (.mv (.tmp 20))), none⟩,
.op ⟨(some 100), (.eff (.call 46 [(.tmp 98), (.tmp 99)])), none⟩,
.op ⟨(some 20), (.pure (.mv (.tmp 100))), none⟩])
(.seq (.seq (.ops [
.op ⟨(some 101), (.pure (.mv (.tmp 20))), none⟩,
.op ⟨(some 102), (.pure (.bin .lss (.tmp 101) (.const (.int .i64 (0))))), none⟩])
(.cond (.tmp 102)
(.seq (.ops [
.op ⟨(some 10), (.pure (.mv (.const (.bool false)))), none⟩])
(.ret))
(.skip)))
(.seq (.seq (.ops [
.op ⟨(some 103), (.pure (.mv (.tmp 20))), none⟩,
.op ⟨(some 104), (.pure (.mv (.tmp 19))), none⟩,
.op ⟨(some 105), (.pure (.bin .neq (.tmp 103) (.tmp 104))), none⟩])
(.cond (.tmp 105)
(.seq (.ops [
.op ⟨(some 10), (.pure (.mv (.const (.bool false)))), none⟩])
(.ret))
(.skip)))
(.seq (.ops [
.op ⟨(some 107), (.load (some 2) (.tmp 5)), none⟩,
.op ⟨(some 108), (.eff (.call 21 [(.tmp 107)])), none⟩,
.op ⟨(some 109), (.pure (.mv (.tmp 1))), none⟩,
.op ⟨(some 110), (.eff (.call 28 [(.tmp 109)])), none⟩,
.op ⟨(some 111), (.pure (.mv (.tmp 2))), none⟩,
.op ⟨(some 112), (.pure (.mv (.tmp 3))), none⟩,
.op ⟨(some 113), (.pure (.mv (.tmp 4))), none⟩,
.op ⟨(some 114), (.eff (.call 55 [(.tmp 108), (.tmp 110), (.tmp 111), (.tmp 112), (.tmp 113)])), none⟩,
.op ⟨(some 106), (.pure (.mv (.tmp 114))), none⟩,
.op ⟨(some 115), (.pure (.ext 0 (.tmp 106))), none⟩,
.op ⟨(some 116), (.pure (.ext 1 (.tmp 106))), none⟩,
.op ⟨(some 21), (.pure (.mv (.tmp 115))), none⟩,
.op ⟨(some 22), (.pure (.mv (.tmp 116))), none⟩])
(.seq (.seq (.ops [
.op ⟨(some 117), (.pure (.mv (.tmp 21))), none⟩,
.op ⟨(some 118), (.pure (.mv (.tmp 12))), none⟩,
.op ⟨(some 119), (.eff (.call 44 [(.tmp 117), (.tmp 118)])), none⟩,
.op ⟨(some 120), (.pure (.bnot (.tmp 119))), none⟩,
.op ⟨(some 121), (.pure (.mv (.tmp 120))), none⟩,
.split 121,
.op ⟨(some 122), (.pure (.mv (.tmp 22))), (some (121, false))⟩,
.op ⟨(some 123), (.pure (.mv (.tmp 13))), (some (121, false))⟩,
.op ⟨(some 124), (.pure (.eqb true (.tmp 122) (.tmp 123))), (some (121, false))⟩,
.op ⟨(some 125), (.pure (.pick (.tmp 121) (.const (.bool true)) (.tmp 124))), none⟩])
(.cond (.tmp 125)
(.seq (.ops [
.op ⟨(some 10), (.pure (.mv (.const (.bool false)))), none⟩])
(.ret))
(.skip)))
(.seq (.ops [
.op ⟨(some 20), (.pure (.mv (.const (.int .i64 (1))))), none⟩])
(.seq (.ops [
.op ⟨(some 126), (.pure (.mv (.tmp 16))), none⟩,
.op ⟨(some 127), (.pure (.mv (.tmp 20))), none⟩,
.op ⟨(some 128), (.eff (.call 46 [(.tmp 126), (.tmp 127)])), none⟩,
.op ⟨(some 20), (.pure (.mv (.tmp 128))), none⟩])
(.seq (.seq (.ops [
.op ⟨(some 129), (.pure (.mv (.tmp 20))), none⟩,
.op ⟨(some 130), (.pure (.bin .lss (.tmp 129) (.const (.int .i64 (0))))), none⟩])
(.cond (.tmp 130)
(.seq (.ops [
.op ⟨(some 10), (.pure (.mv (.const (.bool false)))), none⟩])
(.ret))
(.skip)))
(.seq (.seq (.ops [
.op ⟨(some 131), (.pure (.mv (.tmp 20))), none⟩,
.op ⟨(some 132), (.pure (.mv (.tmp 19))), none⟩,
.op ⟨(some 133), (.pure (.bin .neq (.tmp 131) (.tmp 132))), none⟩])
(.cond (.tmp 133)
(.seq (.ops [
.op ⟨(some 10), (.pure (.mv (.const (.bool false)))), none⟩])
(.ret))
(.skip)))
(.seq (.ops [
.op ⟨(some 10), (.pure (.mv (.const (.bool true)))), none⟩])
(.ret)))))))))))))))))))))))))))))),
[.tmp 10]⟩
theorem r_laws_FnExactWayThrough : resFun Try.prog f_laws_FnExactWayThrough = some c_laws_FnExactWayThrough := by kernel_rfl

/- loop.example/g00940/laws.FnExactAddFog -/
abbrev f_laws_FnExactAddFog : Nat := 17
def c_laws_FnExactAddFog : MFun := ⟨127, .seq (.ops [
.op ⟨(some 3), (.eff (.box 25 (.tmp 0))), none⟩,
.op ⟨(some 5), (.eff (.box 93 (.tmp 2))), none⟩,
.op ⟨(some 6), (.pure (.mv (.const (.bool false)))), none⟩])
(.seq (.ops [
.op ⟨(some 7), (.pure (.mv (.const (.int .i64 (1048576))))), none⟩])
(.seq (.ops [
.op ⟨(some 19), (.load (some 2) (.tmp 3)), none⟩,
.op ⟨(some 20), (.pure (.mv (.tmp 7))), none⟩,
.op ⟨(some 21), (.eff (.call 19 [(.tmp 19), (.tmp 20)])), none⟩,
.op ⟨(some 7), (.pure (.mv (.tmp 21))), none⟩])
(.seq (.seq (.ops [
.op ⟨(some 22), (.pure (.mv (.tmp 7))), none⟩,
.op ⟨(some 23), (.pure (.bin .lss (.tmp 22) (.const (.int .i64 (0))))), none⟩])
(.cond (.tmp 23)
(.seq (.ops [
.op ⟨(some 6), (.pure (.mv (.const (.bool true)))), none⟩])
(.ret))
(.skip)))
(.seq (.ops [
.op ⟨(some 24), (.pure (.mv (.tmp 1))), none⟩,
.op ⟨(some 25), (.pure (.mv (.tmp 7))), none⟩,
.op ⟨(some 26), (.eff (.call 26 [(.tmp 24), (.tmp 25)])), none⟩,
.op ⟨(some 7), (.pure (.mv (.tmp 26))), none⟩])
(.seq (.seq (.ops [
.op ⟨(some 27), (.pure (.mv (.tmp 7))), none⟩,
.op ⟨(some 28), (.pure (.bin .lss (.tmp 27) (.const (.int .i64 (0))))), none⟩])
(.cond (.tmp 28)
(.seq (.ops [
.op ⟨(some 6), (.pure (.mv (.const (.bool true)))), none⟩])
(.ret))
(.skip)))
(.seq (.draw true
(.take ⟨(some 32), (.pure (.mv (.tmp 1))), none⟩
(.only false ⟨(some 30), (.load (some 2) (.tmp 3)), none⟩
(.take ⟨(some 34), (.load (some 3) (.tmp 5)), none⟩
(.only false ⟨(some 31), (.eff (.call 21 [(.tmp 30)])), none⟩
(.only false ⟨(some 33), (.eff (.call 28 [(.tmp 32)])), none⟩
(.only true ⟨(some 35), (.eff (.call 87 [(.tmp 34)])), none⟩
(.only true ⟨(some 36), (.eff (.call 86 [(.tmp 31), (.tmp 33), (.tmp 35)])), none⟩
(.take ⟨(some 29), (.pure (.mv (.tmp 36))), none⟩
(.take ⟨(some 37), (.pure (.ext 0 (.tmp 29))), none⟩
(.take ⟨(some 38), (.pure (.ext 1 (.tmp 29))), none⟩
(.take ⟨(some 8), (.pure (.mv (.tmp 37))), none⟩
(.take ⟨(some 9), (.pure (.mv (.tmp 38))), none⟩
(.done))))))))))))))
(.seq (.ops [
.op ⟨(some 39), (.load (some 2) (.tmp 3)), none⟩,
.op ⟨(some 40), (.eff (.call 21 [(.tmp 39)])), none⟩,
.op ⟨(some 10), (.eff (.new 32 [(.slice none 0 0), (.slice none 0 0)])), none⟩,
.op ⟨none, (.eff (.store 2 (.tmp 10) (.tmp 40))), none⟩])
(.seq (.ops [
.op ⟨(some 41), (.pure (.mv (.tmp 1))), none⟩,
.op ⟨(some 42), (.eff (.call 28 [(.tmp 41)])), none⟩,
.op ⟨(some 11), (.pure (.mv (.tmp 42))), none⟩])
(.seq (.draw true
(.take ⟨(some 45), (.pure (.mv (.tmp 11))), none⟩
(.only false ⟨(some 46), (.load (some 3) (.tmp 5)), none⟩
(.take ⟨(some 44), (.load (some 2) (.tmp 10)), none⟩
(.only false ⟨(some 47), (.eff (.call 87 [(.tmp 46)])), none⟩
(.only true ⟨(some 48), (.eff (.call 88 [(.tmp 44), (.tmp 45), (.tmp 47)])), none⟩
(.take ⟨(some 43), (.pure (.mv (.tmp 48))), none⟩
(.take ⟨(some 49), (.pure (.ext 0 (.tmp 43))), none⟩
(.take ⟨(some 50), (.pure (.ext 1 (.tmp 43))), none⟩
(.take ⟨(some 12), (.pure (.mv (.tmp 49))), none⟩
(.take ⟨(some 13), (.pure (.mv (.tmp 50))), none⟩
(.done))))))))))))
(.seq (.seq (.ops [
.op ⟨(some 51), (.pure (.mv (.tmp 12))), none⟩,
.op ⟨(some 52), (.pure (.mv (.tmp 8))), none⟩,
.op ⟨(some 53), (.eff (.call 30 [(.tmp 51), (.tmp 52)])), none⟩,
.op ⟨(some 54), (.pure (.bnot (.tmp 53))), none⟩,
.op ⟨(some 55), (.pure (.mv (.tmp 54))), none⟩,
.split 55,
.op ⟨(some 56), (.pure (.mv (.tmp 13))), (some (55, false))⟩,
.op ⟨(some 57), (.pure (.mv (.tmp 9))), (some (55, false))⟩,
.op ⟨(some 58), (.pure (.eqb true (.tmp 56) (.tmp 57))), (some (55, false))⟩,
.op ⟨(some 59), (.pure (.pick (.tmp 55) (.const (.bool true)) (.tmp 58))), none⟩])
(.cond (.tmp 59)
(.seq (.ops [
.op ⟨(some 6), (.pure (.mv (.const (.bool false)))), none⟩])
(.ret))
(.skip)))
(.seq (.seq (.draw true
(.only false ⟨(some 61), (.load (some 2) (.tmp 3)), none⟩
(.take ⟨(some 60), (.load (some 2) (.tmp 10)), none⟩
(.only false ⟨(some 62), (.eff (.call 21 [(.tmp 61)])), none⟩
(.only true ⟨(some 63), (.eff (.call 23 [(.tmp 60), (.tmp 62)])), none⟩
(.take ⟨(some 64), (.pure (.bnot (.tmp 63))), none⟩
(.done)))))))
(.cond (.tmp 64)
(.seq (.ops [
.op ⟨(some 6), (.pure (.mv (.const (.bool false)))), none⟩])
(.ret))
(.skip)))
(.seq (.seq (.ops [
.op ⟨(some 65), (.pure (.mv (.tmp 11))), none⟩,
.op ⟨(some 66), (.pure (.mv (.tmp 1))), none⟩,
.op ⟨(some 67), (.eff (.call 28 [(.tmp 66)])), none⟩,
.op ⟨(some 68), (.eff (.call 30 [(.tmp 65), (.tmp 67)])), none⟩,
.op ⟨(some 69), (.pure (.bnot (.tmp 68))), none⟩])
(.cond (.tmp 69)
(.seq (.ops [
.op ⟨(some 6), (.pure (.mv (.const (.bool false)))), none⟩])
(.ret))
(.skip)))
(.seq (.ops [
.op ⟨(some 14), (.pure (.mv (.const (.int .i64 (1))))), none⟩])
(.seq (.ops [
.op ⟨(some 70), (.load (some 2) (.tmp 10)), none⟩,
.op ⟨(some 71), (.pure (.mv (.tmp 14))), none⟩,
.op ⟨(some 72), (.eff (.call 38 [(.tmp 70), (.tmp 71)])), none⟩,
.op ⟨(some 14), (.pure (.mv (.tmp 72))), none⟩])
(.seq (.ops [
.op ⟨(some 73), (.pure (.mv (.tmp 11))), none⟩,
.op ⟨(some 74), (.pure (.mv (.tmp 14))), none⟩,
.op ⟨(some 75), (.eff (.call 39 [(.tmp 73), (.tmp 74)])), none⟩,
.op ⟨(some 14), (.pure (.mv (.tmp 75))), none⟩])
(.seq (.seq (.ops [
.op ⟨(some 76), (.pure (.mv (.tmp 14))), none⟩,
.op ⟨(some 77), (.pure (.bin .lss (.tmp 76) (.const (.int .i64 (0))))), none⟩,
.op ⟨(some 78), (.pure (.mv (.tmp 77))), none⟩,
.split 78,
.op ⟨(some 79), (.pure (.mv (.tmp 12))), (some (78, false))⟩,
.op ⟨(some 80), (.pure (.mv (.tmp 8))), (some (78, false))⟩,
.op ⟨(some 81), (.eff (.call 30 [(.tmp 79), (.tmp 80)])), (some (78, false))⟩,
.op ⟨(some 82), (.pure (.bnot (.tmp 81))), (some (78, false))⟩,
.op ⟨(some 83), (.pure (.pick (.tmp 78) (.const (.bool true)) (.tmp 82))), none⟩,
.op ⟨(some 84), (.pure (.mv (.tmp 83))), none⟩,
.split 84,
.op ⟨(some 85), (.pure (.mv (.tmp 13))), (some (84, false))⟩,
.op ⟨(some 86), (.pure (.mv (.tmp 9))), (some (84, false))⟩,
.op ⟨(some 87), (.pure (.eqb true (.tmp 85) (.tmp 86))), (some (84, false))⟩,
.op ⟨(some 88), (.pure (.pick (.tmp 84) (.const (.bool true)) (.tmp 87))), none⟩])
(.cond (.tmp 88)
(.seq (.ops [
.op ⟨(some 6), (.pure (.mv (.const (.bool false)))), none⟩])
(.ret))
(.skip)))
(.seq (.ops [
.op ⟨(some 15), (.pure (.mv (.const (.int .i64 (1))))), none⟩])
(.seq (.ops [
.op ⟨(some 89), (.pure (.mv (.tmp 12))), none⟩,
.op ⟨(some 90), (.pure (.mv (.tmp 15))), none⟩,
.op ⟨(some 91), (.eff (.call 39 [(.tmp 89), (.tmp 90)])), none⟩,
.op ⟨(some 15), (.pure (.mv (.tmp 91))), none⟩])
(.seq (.ops [
.op ⟨(some 16), (.pure (.mv (.const (.int .i64 (1))))), none⟩])
(.seq (.ops [
.op ⟨(some 92), (.pure (.mv (.tmp 12))), none⟩,
.op ⟨(some 93), (.pure (.mv (.tmp 16))), none⟩,
.op ⟨(some 94), (.eff (.call 89 [(.tmp 92), (.tmp 93)])), none⟩,
.op ⟨(some 16), (.pure (.mv (.tmp 94))), none⟩])
(.seq (.seq (.ops [
.op ⟨(some 95), (.pure (.mv (.tmp 16))), none⟩,
.op ⟨(some 96), (.pure (.bin .lss (.tmp 95) (.const (.int .i64 (0))))), none⟩])
(.cond (.tmp 96)
(.seq (.ops [
.op ⟨(some 6), (.pure (.mv (.const (.bool false)))), none⟩])
(.ret))
(.skip)))
(.seq (.seq (.ops [
.op ⟨(some 97), (.pure (.mv (.tmp 16))), none⟩,
.op ⟨(some 98), (.pure (.mv (.tmp 15))), none⟩,
.op ⟨(some 99), (.pure (.bin .neq (.tmp 97) (.tmp 98))), none⟩])
(.cond (.tmp 99)
(.seq (.ops [
.op ⟨(some 6), (.pure (.mv (.const (.bool false)))), none⟩])
(.ret))
(.skip)))
(.seq (.draw true
(.take ⟨(some 103), (.pure (.mv (.tmp 1))), none⟩
(.only false ⟨(some 101), (.load (some 2) (.tmp 3)), none⟩
(.take ⟨(some 105), (.load (some 3) (.tmp 5)), none⟩
(.only false ⟨(some 102), (.eff (.call 21 [(.tmp 101)])), none⟩
(.only false ⟨(some 104), (.eff (.call 28 [(.tmp 103)])), none⟩
(.only true ⟨(some 106), (.eff (.call 87 [(.tmp 105)])), none⟩
(.only true ⟨(some 107), (.eff (.call 88 [(.tmp 102), (.tmp 104), (.tmp 106)])), none⟩
(.take ⟨(some 100), (.pure (.mv (.tmp 107))), none⟩
(.take ⟨(some 108), (.pure (.ext 0 (.tmp 100))), none⟩
(.take ⟨(some 109), (.pure (.ext 1 (.tmp 100))), none⟩
(.take ⟨(some 17), (.pure (.mv (.tmp 108))), none⟩
(.take ⟨(some 18), (.pure (.mv (.tmp 109))), none⟩
(.done))))))))))))))
(.seq (.seq (.ops [
.op ⟨(some 110), (.pure (.mv (.tmp 17))), none⟩,
.op ⟨(some 111), (.pure (.mv (.tmp 8))), none⟩,
.op ⟨(some 112), (.eff (.call 30 [(.tmp 110), (.tmp 111)])), none⟩,
.op ⟨(some 113), (.pure (.bnot (.tmp 112))), none⟩,
.op ⟨(some 114), (.pure (.mv (.tmp 113))), none⟩,
.split 114,
.op ⟨(some 115), (.pure (.mv (.tmp 18))), (some (114, false))⟩,
.op ⟨(some 116), (.pure (.mv (.tmp 9))), (some (114, false))⟩,
.op ⟨(some 117), (.pure (.eqb true (.tmp 115) (.tmp 116))), (some (114, false))⟩,
.op ⟨(some 118), (.pure (.pick (.tmp 114) (.const (.bool true)) (.tmp 117))), none⟩])
(.cond (.tmp 118)
(.seq (.ops [
.op ⟨(some 6), (.pure (.mv (.const (.bool false)))), none⟩])
(.ret))
(.skip)))
(.seq (.ops [
.op ⟨(some 16), (.pure (.mv (.const (.int .i64 (1))))), none⟩])
(.seq (.ops [
.op ⟨(some 119), (.pure (.mv (.tmp 12))), none⟩,
.op ⟨(some 120), (.pure (.mv (.tmp 16))), none⟩,
.op ⟨(some 121), (.eff (.call 89 [(.tmp 119), (.tmp 120)])), none⟩,
.op ⟨(some 16), (.pure (.mv (.tmp 121))), none⟩])
(.seq (.seq (.ops [
.op ⟨(some 122), (.pure (.mv (.tmp 16))), none⟩,
.op ⟨(some 123), (.pure (.bin .lss (.tmp 122) (.const (.int .i64 (0))))), none⟩])
(.cond (.tmp 123)
(.seq (.ops [
.op ⟨(some 6), (.pure (.mv (.const (.bool false)))), none⟩])
(.ret))
(.skip)))
(.seq (.seq (.ops [
.op ⟨(some 124), (.pure (.mv (.tmp 16))), none⟩,
.op ⟨(some 125), (.pure (.mv (.tmp 15))), none⟩,
.op ⟨(some 126), (.pure (.bin .neq (.tmp 124) (.tmp 125))), none⟩])
(.cond (.tmp 126)
(.seq (.ops [
.op ⟨(some 6), (.pure (.mv (.const (.bool false)))), none⟩])
(.ret))
(.skip)))
(.seq (.ops [
.op ⟨(some 6), (.pure (.mv (.const (.bool true)))), none⟩])
(.ret)))))))))))))))))))))))))))))),
[.tmp 6]⟩
theorem r_laws_FnExactAddFog : resFun Try.prog f_laws_FnExactAddFog = some c_laws_FnExactAddFog := by kernel_rfl

/- loop.example/g00940/laws.szNet -/
abbrev f_laws_szNet : Nat := 19
def c_laws_szNet : MFun := ⟨18, .seq (.ops [
.op ⟨(some 2), (.eff (.box 25 (.tmp 0))), none⟩,
.op ⟨(some 4), (.pure (.mv (.const (.int .i64 (0))))), none⟩])
(.seq (.ops [
.op ⟨(some 5), (.pure (.fieldAddr 0 (.tmp 2))), none⟩,
.op ⟨(some 6), (.load none (.tmp 5)), none⟩,
.op ⟨(some 7), (.pure (.mv (.tmp 1))), none⟩,
.op ⟨(some 8), (.eff (.call 99 [(.tmp 6), (.tmp 7)])), none⟩,
.op ⟨(some 1), (.pure (.mv (.tmp 8))), none⟩])
(.seq (.seq (.ops [
.op ⟨(some 9), (.pure (.mv (.tmp 1))), none⟩,
.op ⟨(some 10), (.pure (.bin .lss (.tmp 9) (.const (.int .i64 (0))))), none⟩])
(.cond (.tmp 10)
(.seq (.ops [
.op ⟨(some 4), (.pure (.mv (.const (.int .i64 (-1))))), none⟩])
(.ret))
(.skip)))
(.seq (.ops [
.op ⟨(some 11), (.pure (.fieldAddr 1 (.tmp 2))), none⟩,
.op ⟨(some 12), (.load none (.tmp 11)), none⟩,
.op ⟨(some 13), (.pure (.mv (.tmp 1))), none⟩,
.op ⟨(some 14), (.eff (.call 100 [(.tmp 12), (.tmp 13)])), none⟩,
.op ⟨(some 1), (.pure (.mv (.tmp 14))), none⟩])
(.seq (.seq (.ops [
.op ⟨(some 15), (.pure (.mv (.tmp 1))), none⟩,
.op ⟨(some 16), (.pure (.bin .lss (.tmp 15) (.const (.int .i64 (0))))), none⟩])
(.cond (.tmp 16)
(.seq (.ops [
.op ⟨(some 4), (.pure (.mv (.const (.int .i64 (-1))))), none⟩])
(.ret))
(.skip)))
(.seq (.ops [
.op ⟨(some 17), (.pure (.mv (.tmp 1))), none⟩,
.op ⟨(some 4), (.pure (.mv (.tmp 17))), none⟩])
(.ret)))))),
[.tmp 4]⟩
theorem r_laws_szNet : resFun Try.prog f_laws_szNet = some c_laws_szNet := by kernel_rfl

/- loop.example/g00940/spec.PlainDelay -/
abbrev f_spec_PlainDelay : Nat := 20
def c_spec_PlainDelay : MFun := ⟨14, .seq (.ops [
.op ⟨(some 3), (.eff (.box 32 (.tmp 0))), none⟩,
.op ⟨(some 6), (.pure (.mv (.const (.int .i64 (0))))), none⟩,
.op ⟨(some 7), (.pure (.mv (.const (.bool false)))), none⟩])
(.seq (.ops [
.op ⟨(some 8), (.load (some 2) (.tmp 3)), none⟩,
.op ⟨(some 9), (.pure (.mv (.tmp 1))), none⟩,
.op ⟨(some 10), (.pure (.mv (.tmp 2))), none⟩,
.op ⟨(some 11), (.eff (.call 27 [(.tmp 8), (.const (.slice none 0 0)), (.tmp 9), (.tmp 10), (.const (.int .i64 (0)))])), none⟩,
.op ⟨(some 12), (.pure (.ext 0 (.tmp 11))), none⟩,
.op ⟨(some 13), (.pure (.ext 1 (.tmp 11))), none⟩,
.op ⟨(some 6), (.pure (.mv (.tmp 12))), none⟩,
.op ⟨(some 7), (.pure (.mv (.tmp 13))), none⟩])
(.ret)),
[.tmp 6, .tmp 7]⟩
theorem r_spec_PlainDelay : resFun Try.prog f_spec_PlainDelay = some c_spec_PlainDelay := by kernel_rfl

/- loop.example/g00940/laws.toNet -/
abbrev f_laws_toNet : Nat := 21
def c_laws_toNet : MFun := ⟨13, .seq (.ops [
.op ⟨(some 1), (.eff (.box 25 (.tmp 0))), none⟩,
.op ⟨(some 2), (.eff (.new 32 [(.slice none 0 0), (.slice none 0 0)])), none⟩])
(.seq (.ops [
.op ⟨(some 3), (.eff (.new 32 [(.slice none 0 0), (.slice none 0 0)])), none⟩])
(.seq (.ops [
.op ⟨(some 4), (.pure (.fieldAddr 0 (.tmp 1))), none⟩,
.op ⟨(some 5), (.load none (.tmp 4)), none⟩,
.op ⟨(some 6), (.eff (.call 101 [(.tmp 5)])), none⟩,
.op ⟨(some 7), (.pure (.fieldAddr 0 (.tmp 3))), none⟩,
.op ⟨none, (.eff (.store 1 (.tmp 7) (.tmp 6))), none⟩])
(.seq (.ops [
.op ⟨(some 8), (.pure (.fieldAddr 1 (.tmp 1))), none⟩,
.op ⟨(some 9), (.load none (.tmp 8)), none⟩,
.op ⟨(some 10), (.eff (.call 102 [(.tmp 9)])), none⟩,
.op ⟨(some 11), (.pure (.fieldAddr 1 (.tmp 3))), none⟩,
.op ⟨none, (.eff (.store 1 (.tmp 11) (.tmp 10))), none⟩])
(.seq (.ops [
.op ⟨(some 12), (.load (some 2) (.tmp 3)), none⟩,
.op ⟨none, (.eff (.store 2 (.tmp 2) (.tmp 12))), none⟩])
(.ret))))),
[.cell 2 (some 2)]⟩
theorem r_laws_toNet : resFun Try.prog f_laws_toNet = some c_laws_toNet := by kernel_rfl

/- loop.example/g00940/impl.PlainDelay -/
abbrev f_impl_PlainDelay : Nat := 22
def c_impl_PlainDelay : MFun := ⟨24, .seq (.ops [
.op ⟨(some 3), (.eff (.box 32 (.tmp 0))), none⟩,
.op ⟨(some 6), (.pure (.mv (.const (.int .i64 (0))))), none⟩,
.op ⟨(some 7), (.pure (.mv (.const (.bool false)))), none⟩])
(.seq (.seq (.ops [
.op ⟨(some 8), (.load (some 2) (.tmp 3)), none⟩,
.op ⟨(some 9), (.pure (.mv (.tmp 1))), none⟩,
.op ⟨(some 10), (.eff (.call 103 [(.tmp 8), (.tmp 9)])), none⟩,
.op ⟨(some 11), (.pure (.bnot (.tmp 10))), none⟩,
.op ⟨(some 12), (.pure (.mv (.tmp 11))), none⟩,
.split 12,
.op ⟨(some 13), (.load (some 2) (.tmp 3)), (some (12, false))⟩,
.op ⟨(some 14), (.pure (.mv (.tmp 2))), (some (12, false))⟩,
.op ⟨(some 15), (.eff (.call 103 [(.tmp 13), (.tmp 14)])), (some (12, false))⟩,
.op ⟨(some 16), (.pure (.bnot (.tmp 15))), (some (12, false))⟩,
.op ⟨(some 17), (.pure (.pick (.tmp 12) (.const (.bool true)) (.tmp 16))), none⟩])
(.cond (.tmp 17)
(.seq (.ops [
.op ⟨(some 6), (.pure (.mv (.const (.int .i64 (0))))), none⟩,
.op ⟨(some 7), (.pure (.mv (.const (.bool false)))), none⟩])
(.ret))
(.skip)))
(.seq (.ops [
.op ⟨(some 18), (.load (some 2) (.tmp 3)), none⟩,
.op ⟨(some 19), (.pure (.mv (.tmp 1))), none⟩,
.op ⟨(some 20), (.pure (.mv (.tmp 2))), none⟩,
.op ⟨(some 21), (.eff (.call 104 [(.tmp 18), (.tmp 19), (.tmp 20)])), none⟩,
.op ⟨(some 22), (.pure (.ext 0 (.tmp 21))), none⟩,
.op ⟨(some 23), (.pure (.ext 1 (.tmp 21))), none⟩,
.op ⟨(some 6), (.pure (.mv (.tmp 22))), none⟩,
.op ⟨(some 7), (.pure (.mv (.tmp 23))), none⟩])
(.ret))),
[.tmp 6, .tmp 7]⟩
theorem r_impl_PlainDelay : resFun Try.prog f_impl_PlainDelay = some c_impl_PlainDelay := by kernel_rfl

/- loop.example/g00940/laws.eqNet -/
abbrev f_laws_eqNet : Nat := 23
def c_laws_eqNet : MFun := ⟨17, .seq (.ops [
.op ⟨(some 2), (.eff (.box 32 (.tmp 0))), none⟩,
.op ⟨(some 3), (.eff (.box 32 (.tmp 1))), none⟩,
.op ⟨(some 4), (.pure (.mv (.const (.bool false)))), none⟩])
(.seq (.seq (.ops [
.op ⟨(some 5), (.pure (.fieldAddr 0 (.tmp 2))), none⟩,
.op ⟨(some 6), (.load none (.tmp 5)), none⟩,
.op ⟨(some 7), (.pure (.fieldAddr 0 (.tmp 3))), none⟩,
.op ⟨(some 8), (.load none (.tmp 7)), none⟩,
.op ⟨(some 9), (.eff (.call 105 [(.tmp 6), (.tmp 8)])), none⟩,
.op ⟨(some 10), (.pure (.bnot (.tmp 9))), none⟩])
(.cond (.tmp 10)
(.seq (.ops [
.op ⟨(some 4), (.pure (.mv (.const (.bool false)))), none⟩])
(.ret))
(.skip)))
(.seq (.seq (.ops [
.op ⟨(some 11), (.pure (.fieldAddr 1 (.tmp 2))), none⟩,
.op ⟨(some 12), (.load none (.tmp 11)), none⟩,
.op ⟨(some 13), (.pure (.fieldAddr 1 (.tmp 3))), none⟩,
.op ⟨(some 14), (.load none (.tmp 13)), none⟩,
.op ⟨(some 15), (.eff (.call 106 [(.tmp 12), (.tmp 14)])), none⟩,
.op ⟨(some 16), (.pure (.bnot (.tmp 15))), none⟩])
(.cond (.tmp 16)
(.seq (.ops [
.op ⟨(some 4), (.pure (.mv (.const (.bool false)))), none⟩])
(.ret))
(.skip)))
(.seq (.ops [
.op ⟨(some 4), (.pure (.mv (.const (.bool true)))), none⟩])
(.ret)))),
[.tmp 4]⟩
theorem r_laws_eqNet : resFun Try.prog f_laws_eqNet = some c_laws_eqNet := by kernel_rfl

/- loop.example/g00940/spec.DelayWithout -/
abbrev f_spec_DelayWithout : Nat := 24
def c_spec_DelayWithout : MFun := ⟨30, .seq (.ops [
.op ⟨(some 4), (.eff (.box 32 (.tmp 0))), none⟩,
.op ⟨(some 8), (.pure (.mv (.const (.int .i64 (0))))), none⟩,
.op ⟨(some 9), (.pure (.mv (.const (.bool false)))), none⟩])
(.seq (.seq (.ops [
.op ⟨(some 10), (.load (some 2) (.tmp 4)), none⟩,
.op ⟨(some 11), (.eff (.call 107 [(.tmp 10)])), none⟩,
.op ⟨(some 12), (.pure (.bnot (.tmp 11))), none⟩,
.op ⟨(some 13), (.pure (.mv (.tmp 12))), none⟩,
.split 13,
.op ⟨(some 14), (.pure (.mv (.tmp 1))), (some (13, false))⟩,
.op ⟨(some 15), (.pure (.fieldAddr 1 (.tmp 4))), (some (13, false))⟩,
.op ⟨(some 16), (.load none (.tmp 15)), (some (13, false))⟩,
.op ⟨(some 17), (.pure (.len (.tmp 16))), (some (13, false))⟩,
.op ⟨(some 18), (.pure (.bin .sub (.tmp 17) (.const (.int .i64 (1))))), (some (13, false))⟩,
.op ⟨(some 19), (.eff (.call 108 [(.tmp 14), (.const (.int .i64 (0))), (.tmp 18)])), (some (13, false))⟩,
.op ⟨(some 20), (.pure (.bnot (.tmp 19))), (some (13, false))⟩,
.op ⟨(some 21), (.pure (.pick (.tmp 13) (.const (.bool true)) (.tmp 20))), none⟩])
(.cond (.tmp 21)
(.seq (.ops [
.op ⟨(some 8), (.pure (.mv (.const (.int .i64 (0))))), none⟩,
.op ⟨(some 9), (.pure (.mv (.const (.bool false)))), none⟩])
(.ret))
(.skip)))
(.seq (.ops [
.op ⟨(some 22), (.load (some 2) (.tmp 4)), none⟩,
.op ⟨(some 23), (.pure (.mv (.tmp 1))), none⟩,
.op ⟨(some 24), (.eff (.call 109 [(.tmp 22), (.tmp 23)])), none⟩,
.op ⟨(some 25), (.pure (.mv (.tmp 2))), none⟩,
.op ⟨(some 26), (.pure (.mv (.tmp 3))), none⟩,
.op ⟨(some 27), (.eff (.call 20 [(.tmp 24), (.tmp 25), (.tmp 26)])), none⟩,
.op ⟨(some 28), (.pure (.ext 0 (.tmp 27))), none⟩,
.op ⟨(some 29), (.pure (.ext 1 (.tmp 27))), none⟩,
.op ⟨(some 8), (.pure (.mv (.tmp 28))), none⟩,
.op ⟨(some 9), (.pure (.mv (.tmp 29))), none⟩])
(.ret))),
[.tmp 8, .tmp 9]⟩
theorem r_spec_DelayWithout : resFun Try.prog f_spec_DelayWithout = some c_spec_DelayWithout := by kernel_rfl

/- loop.example/g00940/impl.DelayWithout -/
abbrev f_impl_DelayWithout : Nat := 25
def c_impl_DelayWithout : MFun := ⟨34, .seq (.ops [
.op ⟨(some 4), (.eff (.box 32 (.tmp 0))), none⟩,
.op ⟨(some 8), (.pure (.mv (.const (.int .i64 (0))))), none⟩,
.op ⟨(some 9), (.pure (.mv (.const (.bool false)))), none⟩])
(.seq (.seq (.ops [
.op ⟨(some 10), (.load (some 2) (.tmp 4)), none⟩,
.op ⟨(some 11), (.pure (.mv (.tmp 1))), none⟩,
.op ⟨(some 12), (.eff (.call 110 [(.tmp 10), (.tmp 11)])), none⟩,
.op ⟨(some 13), (.pure (.bnot (.tmp 12))), none⟩,
.op ⟨(some 14), (.pure (.mv (.tmp 13))), none⟩,
.split 14,
.op ⟨(some 15), (.load (some 2) (.tmp 4)), (some (14, false))⟩,
.op ⟨(some 16), (.pure (.mv (.tmp 2))), (some (14, false))⟩,
.op ⟨(some 17), (.eff (.call 103 [(.tmp 15), (.tmp 16)])), (some (14, false))⟩,
.op ⟨(some 18), (.pure (.bnot (.tmp 17))), (some (14, false))⟩,
.op ⟨(some 19), (.pure (.pick (.tmp 14) (.const (.bool true)) (.tmp 18))), none⟩,
.op ⟨(some 20), (.pure (.mv (.tmp 19))), none⟩,
.split 20,
.op ⟨(some 21), (.load (some 2) (.tmp 4)), (some (20, false))⟩,
.op ⟨(some 22), (.pure (.mv (.tmp 3))), (some (20, false))⟩,
.op ⟨(some 23), (.eff (.call 103 [(.tmp 21), (.tmp 22)])), (some (20, false))⟩,
.op ⟨(some 24), (.pure (.bnot (.tmp 23))), (some (20, false))⟩,
.op ⟨(some 25), (.pure (.pick (.tmp 20) (.const (.bool true)) (.tmp 24))), none⟩])
(.cond (.tmp 25)
(.seq (.ops [
.op ⟨(some 8), (.pure (.mv (.const (.int .i64 (0))))), none⟩,
.op ⟨(some 9), (.pure (.mv (.const (.bool false)))), none⟩])
(.ret))
(.skip)))
(.seq (.ops [
.op ⟨(some 26), (.load (some 2) (.tmp 4)), none⟩,
.op ⟨(some 27), (.pure (.mv (.tmp 1))), none⟩,
.op ⟨(some 28), (.eff (.call 111 [(.tmp 26), (.tmp 27)])), none⟩,
.op ⟨(some 29), (.pure (.mv (.tmp 2))), none⟩,
.op ⟨(some 30), (.pure (.mv (.tmp 3))), none⟩,
.op ⟨(some 31), (.eff (.call 104 [(.tmp 28), (.tmp 29), (.tmp 30)])), none⟩,
.op ⟨(some 32), (.pure (.ext 0 (.tmp 31))), none⟩,
.op ⟨(some 33), (.pure (.ext 1 (.tmp 31))), none⟩,
.op ⟨(some 8), (.pure (.mv (.tmp 32))), none⟩,
.op ⟨(some 9), (.pure (.mv (.tmp 33))), none⟩])
(.ret))),
[.tmp 8, .tmp 9]⟩
theorem r_impl_DelayWithout : resFun Try.prog f_impl_DelayWithout = some c_impl_DelayWithout := by kernel_rfl

/- loop.example/g00940/laws.szFogS -/
abbrev f_laws_szFogS : Nat := 26
def c_laws_szFogS : MFun := ⟨12, .seq (.ops [
.op ⟨(some 4), (.pure (.mv (.const (.int .i64 (0))))), none⟩])
(.seq (.ops [
.op ⟨(some 5), (.pure (.mv (.tmp 1))), none⟩,
.op ⟨(some 6), (.pure (.mv (.tmp 0))), none⟩,
.op ⟨(some 7), (.pure (.len (.tmp 6))), none⟩,
.op ⟨(some 8), (.pure (.bin .sub (.tmp 5) (.tmp 7))), none⟩,
.op ⟨(some 1), (.pure (.mv (.tmp 8))), none⟩])
(.seq (.seq (.ops [
.op ⟨(some 9), (.pure (.mv (.tmp 1))), none⟩,
.op ⟨(some 10), (.pure (.bin .lss (.tmp 9) (.const (.int .i64 (0))))), none⟩])
(.cond (.tmp 10)
(.seq (.ops [
.op ⟨(some 4), (.pure (.mv (.const (.int .i64 (-1))))), none⟩])
(.ret))
(.skip)))
(.seq (.ops [
.op ⟨(some 11), (.pure (.mv (.tmp 1))), none⟩,
.op ⟨(some 4), (.pure (.mv (.tmp 11))), none⟩])
(.ret)))),
[.tmp 4]⟩
theorem r_laws_szFogS : resFun Try.prog f_laws_szFogS = some c_laws_szFogS := by kernel_rfl

/- loop.example/g00940/spec.FirstArrival -/
abbrev f_spec_FirstArrival : Nat := 27
def c_spec_FirstArrival : MFun := ⟨32, .seq (.ops [
.op ⟨(some 5), (.eff (.box 32 (.tmp 0))), none⟩,
.op ⟨(some 10), (.pure (.mv (.const (.int .i64 (0))))), none⟩,
.op ⟨(some 11), (.pure (.mv (.const (.bool false)))), none⟩])
(.seq (.seq (.ops [
.op ⟨(some 13), (.load (some 2) (.tmp 5)), none⟩,
.op ⟨(some 14), (.pure (.mv (.tmp 1))), none⟩,
.op ⟨(some 15), (.pure (.mv (.tmp 2))), none⟩,
.op ⟨(some 16), (.pure (.mv (.tmp 3))), none⟩,
.op ⟨(some 17), (.pure (.mv (.tmp 4))), none⟩,
.op ⟨(some 18), (.eff (.call 112 [(.tmp 13), (.tmp 14), (.tmp 15), (.tmp 16), (.tmp 17)])), none⟩,
.op ⟨(some 19), (.pure (.bnot (.tmp 18))), none⟩])
(.cond (.tmp 19)
(.seq (.ops [
.op ⟨(some 10), (.pure (.mv (.const (.int .i64 (0))))), none⟩,
.op ⟨(some 11), (.pure (.mv (.const (.bool false)))), none⟩])
(.ret))
(.skip)))
(.seq (.ops [
.op ⟨(some 20), (.load (some 2) (.tmp 5)), none⟩,
.op ⟨(some 21), (.pure (.mv (.tmp 1))), none⟩,
.op ⟨(some 22), (.pure (.mv (.tmp 2))), none⟩,
.op ⟨(some 23), (.pure (.mv (.tmp 4))), none⟩,
.op ⟨(some 24), (.eff (.call 113 [(.tmp 20), (.tmp 21), (.tmp 22), (.tmp 23)])), none⟩,
.op ⟨(some 25), (.pure (.mv (.tmp 3))), none⟩,
.op ⟨(some 26), (.pure (.idx 1 (.tmp 24) (.tmp 25))), none⟩,
.op ⟨(some 27), (.load none (.tmp 26)), none⟩,
.op ⟨(some 12), (.pure (.mv (.tmp 27))), none⟩])
(.seq (.ops [
.op ⟨(some 28), (.pure (.mv (.tmp 12))), none⟩,
.op ⟨(some 29), (.eff (.call 114 [(.tmp 28), (.const (.int .i64 (0)))])), none⟩,
.op ⟨(some 30), (.pure (.mv (.tmp 12))), none⟩,
.op ⟨(some 31), (.pure (.bin .geq (.tmp 30) (.const (.int .i64 (0))))), none⟩,
.op ⟨(some 10), (.pure (.mv (.tmp 29))), none⟩,
.op ⟨(some 11), (.pure (.mv (.tmp 31))), none⟩])
(.ret)))),
[.tmp 10, .tmp 11]⟩
theorem r_spec_FirstArrival : resFun Try.prog f_spec_FirstArrival = some c_spec_FirstArrival := by kernel_rfl

/- loop.example/g00940/laws.toFogS -/
abbrev f_laws_toFogS : Nat := 28
def c_laws_toFogS : MFun := ⟨23, .seq (.ops [
.op ⟨(some 2), (.pure (.mv (.const (.slice none 0 0)))), none⟩])
(.seq (.ops [
.op ⟨(some 5), (.pure (.mv (.tmp 0))), none⟩,
.op ⟨(some 6), (.pure (.len (.tmp 5))), none⟩,
.op ⟨(some 7), (.eff (.mk 96 3 24 [(.int .i64 (0)), (.int .i64 (0)), (.int .i64 (0))] (.tmp 6) (.tmp 6))), none⟩,
.op ⟨(some 3), (.pure (.mv (.tmp 7))), none⟩])
(.seq (.seq (.ops [
.op ⟨(some 4), (.pure (.mv (.const (.int .i64 (0))))), none⟩])
(.block 0 (.loop (.seq (.seq (.ops [
.op ⟨(some 8), (.pure (.mv (.tmp 4))), none⟩,
.op ⟨(some 9), (.pure (.mv (.tmp 0))), none⟩,
.op ⟨(some 10), (.pure (.len (.tmp 9))), none⟩,
.op ⟨(some 11), (.pure (.bin .lss (.tmp 8) (.tmp 10))), none⟩])
(.cond (.tmp 11)
(.skip)
(.exit 0)))
(.seq (.block 1 (.ops [
.op ⟨(some 14), (.pure (.mv (.tmp 3))), none⟩,
.op ⟨(some 15), (.pure (.mv (.tmp 4))), none⟩,
.op ⟨(some 16), (.pure (.mv (.tmp 0))), none⟩,
.op ⟨(some 17), (.pure (.mv (.tmp 4))), none⟩,
.op ⟨(some 18), (.pure (.idx 3 (.tmp 16) (.tmp 17))), none⟩,
.op ⟨(some 19), (.load (some 3) (.tmp 18)), none⟩,
.op ⟨(some 20), (.eff (.call 87 [(.tmp 19)])), none⟩,
.op ⟨(some 21), (.pure (.idx 3 (.tmp 14) (.tmp 15))), none⟩,
.op ⟨none, (.eff (.store 3 (.tmp 21) (.tmp 20))), none⟩]))
(.ops [
.op ⟨(some 12), (.pure (.mv (.tmp 4))), none⟩,
.op ⟨(some 13), (.pure (.bin .add (.tmp 12) (.const (.int .i64 (1))))), none⟩,
.op ⟨(some 4), (.pure (.mv (.tmp 13))), none⟩]))))))
(.seq (.ops [
.op ⟨(some 22), (.pure (.mv (.tmp 3))), none⟩,
.op ⟨(some 2), (.pure (.mv (.tmp 22))), none⟩])
(.ret)))),
[.tmp 2]⟩
theorem r_laws_toFogS : resFun Try.prog f_laws_toFogS = some c_laws_toFogS := by kernel_rfl

/- loop.example/g00940/impl.FirstArrival -/
abbrev f_impl_FirstArrival : Nat := 29
def c_impl_FirstArrival : MFun := ⟨31, .seq (.ops [
.op ⟨(some 5), (.eff (.box 32 (.tmp 0))), none⟩,
.op ⟨(some 10), (.pure (.mv (.const (.int .i64 (0))))), none⟩,
.op ⟨(some 11), (.pure (.mv (.const (.bool false)))), none⟩])
(.seq (.seq (.ops [
.op ⟨(some 13), (.load (some 2) (.tmp 5)), none⟩,
.op ⟨(some 14), (.pure (.mv (.tmp 1))), none⟩,
.op ⟨(some 15), (.pure (.mv (.tmp 2))), none⟩,
.op ⟨(some 16), (.pure (.mv (.tmp 3))), none⟩,
.op ⟨(some 17), (.pure (.mv (.tmp 4))), none⟩,
.op ⟨(some 18), (.eff (.call 115 [(.tmp 13), (.tmp 14), (.tmp 15), (.tmp 16), (.tmp 17)])), none⟩,
.op ⟨(some 19), (.pure (.bnot (.tmp 18))), none⟩])
(.cond (.tmp 19)
(.seq (.ops [
.op ⟨(some 10), (.pure (.mv (.const (.int .i64 (0))))), none⟩,
.op ⟨(some 11), (.pure (.mv (.const (.bool false)))), none⟩])
(.ret))
(.skip)))
(.seq (.ops [
.op ⟨(some 20), (.load (some 2) (.tmp 5)), none⟩,
.op ⟨(some 21), (.pure (.mv (.tmp 1))), none⟩,
.op ⟨(some 22), (.pure (.mv (.tmp 2))), none⟩,
.op ⟨(some 23), (.pure (.mv (.tmp 4))), none⟩,
.op ⟨(some 24), (.eff (.call 116 [(.tmp 20), (.tmp 21), (.tmp 22), (.tmp 23)])), none⟩,
.op ⟨(some 25), (.pure (.mv (.tmp 3))), none⟩,
.op ⟨(some 26), (.pure (.idx 1 (.tmp 24) (.tmp 25))), none⟩,
.op ⟨(some 27), (.load none (.tmp 26)), none⟩,
.op ⟨(some 12), (.pure (.mv (.tmp 27))), none⟩])
(.seq (.seq (.ops [
.op ⟨(some 28), (.pure (.mv (.tmp 12))), none⟩,
.op ⟨(some 29), (.pure (.bin .lss (.tmp 28) (.const (.int .i64 (0))))), none⟩])
(.cond (.tmp 29)
(.seq (.ops [
.op ⟨(some 10), (.pure (.mv (.const (.int .i64 (0))))), none⟩,
.op ⟨(some 11), (.pure (.mv (.const (.bool false)))), none⟩])
(.ret))
(.skip)))
(.seq (.ops [
.op ⟨(some 30), (.pure (.mv (.tmp 12))), none⟩,
.op ⟨(some 10), (.pure (.mv (.tmp 30))), none⟩,
.op ⟨(some 11), (.pure (.mv (.const (.bool true)))), none⟩])
(.ret))))),
[.tmp 10, .tmp 11]⟩
theorem r_impl_FirstArrival : resFun Try.prog f_impl_FirstArrival = some c_impl_FirstArrival := by kernel_rfl

/- loop.example/g00940/laws.eqFogS -/
abbrev f_laws_eqFogS : Nat := 30
def c_laws_eqFogS : MFun := ⟨27, .seq (.ops [
.op ⟨(some 4), (.pure (.mv (.const (.bool false)))), none⟩])
(.seq (.seq (.ops [
.op ⟨(some 6), (.pure (.mv (.tmp 0))), none⟩,
.op ⟨(some 7), (.pure (.len (.tmp 6))), none⟩,
.op ⟨(some 8), (.pure (.mv (.tmp 1))), none⟩,
.op ⟨(some 9), (.pure (.len (.tmp 8))), none⟩,
.op ⟨(some 10), (.pure (.bin .neq (.tmp 7) (.tmp 9))), none⟩])
(.cond (.tmp 10)
(.seq (.ops [
.op ⟨(some 4), (.pure (.mv (.const (.bool false)))), none⟩])
(.ret))
(.skip)))
(.seq (.seq (.ops [
.op ⟨(some 5), (.pure (.mv (.const (.int .i64 (0))))), none⟩])
(.block 0 (.loop (.seq (.seq (.ops [
.op ⟨(some 11), (.pure (.mv (.tmp 5))), none⟩,
.op ⟨(some 12), (.pure (.mv (.tmp 0))), none⟩,
.op ⟨(some 13), (.pure (.len (.tmp 12))), none⟩,
.op ⟨(some 14), (.pure (.bin .lss (.tmp 11) (.tmp 13))), none⟩])
(.cond (.tmp 14)
(.skip)
(.exit 0)))
(.seq (.block 1 (.seq (.draw false
(.take ⟨(some 17), (.pure (.mv (.tmp 0))), none⟩
(.take ⟨(some 18), (.pure (.mv (.tmp 5))), none⟩
(.take ⟨(some 19), (.pure (.idx 3 (.tmp 17) (.tmp 18))), none⟩
(.take ⟨(some 21), (.pure (.mv (.tmp 1))), none⟩
(.take ⟨(some 22), (.pure (.mv (.tmp 5))), none⟩
(.take ⟨(some 23), (.pure (.idx 3 (.tmp 21) (.tmp 22))), none⟩
(.only false ⟨(some 20), (.load (some 3) (.tmp 19)), none⟩
(.only false ⟨(some 24), (.load (some 3) (.tmp 23)), none⟩
(.only true ⟨(some 25), (.eff (.call 117 [(.tmp 20), (.tmp 24)])), none⟩
(.take ⟨(some 26), (.pure (.bnot (.tmp 25))), none⟩
(.done))))))))))))
(.cond (.tmp 26)
(.seq (.ops [
.op ⟨(some 4), (.pure (.mv (.const (.bool false)))), none⟩])
(.ret))
(.skip))))
(.ops [
.op ⟨(some 15), (.pure (.mv (.tmp 5))), none⟩,
.op ⟨(some 16), (.pure (.bin .add (.tmp 15) (.const (.int .i64 (1))))), none⟩,
.op ⟨(some 5), (.pure (.mv (.tmp 16))), none⟩]))))))
(.seq (.ops [
.op ⟨(some 4), (.pure (.mv (.const (.bool true)))), none⟩])
(.ret)))),
[.tmp 4]⟩
theorem r_laws_eqFogS : resFun Try.prog f_laws_eqFogS = some c_laws_eqFogS := by kernel_rfl

/- loop.example/g00940/spec.LatestStart -/
abbrev f_spec_LatestStart : Nat := 31
def c_spec_LatestStart : MFun := ⟨63, .seq (.ops [
.op ⟨(some 5), (.eff (.box 32 (.tmp 0))), none⟩,
.op ⟨(some 10), (.pure (.mv (.const (.int .i64 (0))))), none⟩,
.op ⟨(some 11), (.pure (.mv (.const (.bool false)))), none⟩])
(.seq (.seq (.ops [
.op ⟨(some 16), (.load (some 2) (.tmp 5)), none⟩,
.op ⟨(some 17), (.pure (.mv (.tmp 1))), none⟩,
.op ⟨(some 18), (.pure (.mv (.tmp 2))), none⟩,
.op ⟨(some 19), (.pure (.mv (.tmp 3))), none⟩,
.op ⟨(some 20), (.pure (.mv (.tmp 4))), none⟩,
.op ⟨(some 21), (.eff (.call 112 [(.tmp 16), (.tmp 17), (.tmp 18), (.tmp 19), (.tmp 20)])), none⟩,
.op ⟨(some 22), (.pure (.bnot (.tmp 21))), none⟩])
(.cond (.tmp 22)
(.seq (.ops [
.op ⟨(some 10), (.pure (.mv (.const (.int .i64 (0))))), none⟩,
.op ⟨(some 11), (.pure (.mv (.const (.bool false)))), none⟩])
(.ret))
(.skip)))
(.seq (.seq (.ops [
.op ⟨(some 23), (.load (some 2) (.tmp 5)), none⟩,
.op ⟨(some 24), (.pure (.mv (.tmp 1))), none⟩,
.op ⟨(some 25), (.pure (.mv (.tmp 2))), none⟩,
.op ⟨(some 26), (.eff (.call 113 [(.tmp 23), (.tmp 24), (.tmp 25), (.const (.int .i64 (0)))])), none⟩,
.op ⟨(some 12), (.pure (.mv (.tmp 26))), none⟩])
(.seq (.ops [
.op ⟨(some 27), (.pure (.mv (.tmp 12))), none⟩,
.op ⟨(some 28), (.pure (.mv (.tmp 3))), none⟩,
.op ⟨(some 29), (.pure (.idx 1 (.tmp 27) (.tmp 28))), none⟩,
.op ⟨(some 30), (.load none (.tmp 29)), none⟩,
.op ⟨(some 31), (.pure (.bin .lss (.tmp 30) (.const (.int .i64 (0))))), none⟩,
.op ⟨(some 32), (.pure (.mv (.tmp 31))), none⟩,
.split 32,
.op ⟨(some 33), (.pure (.mv (.tmp 12))), (some (32, false))⟩,
.op ⟨(some 34), (.pure (.mv (.tmp 3))), (some (32, false))⟩,
.op ⟨(some 35), (.pure (.idx 1 (.tmp 33) (.tmp 34))), (some (32, false))⟩,
.op ⟨(some 36), (.load none (.tmp 35)), (some (32, false))⟩,
.op ⟨(some 37), (.pure (.mv (.tmp 4))), (some (32, false))⟩,
.op ⟨(some 38), (.pure (.bin .gtr (.tmp 36) (.tmp 37))), (some (32, false))⟩,
.op ⟨(some 39), (.pure (.pick (.tmp 32) (.const (.bool true)) (.tmp 38))), none⟩])
(.cond (.tmp 39)
(.seq (.ops [
.op ⟨(some 10), (.pure (.mv (.const (.int .i64 (0))))), none⟩,
.op ⟨(some 11), (.pure (.mv (.const (.bool false)))), none⟩])
(.ret))
(.skip))))
(.seq (.ops [
.op ⟨(some 40), (.pure (.mv (.tmp 4))), none⟩,
.op ⟨(some 13), (.pure (.mv (.const (.int .i64 (0))))), none⟩,
.op ⟨(some 14), (.pure (.mv (.tmp 40))), none⟩])
(.seq (.block 0 (.loop (.seq (.seq (.ops [
.op ⟨(some 41), (.pure (.mv (.tmp 13))), none⟩,
.op ⟨(some 42), (.pure (.mv (.tmp 14))), none⟩,
.op ⟨(some 43), (.pure (.bin .lss (.tmp 41) (.tmp 42))), none⟩])
(.cond (.tmp 43)
(.skip)
(.exit 0)))
(.block 1 (.seq (.ops [
.op ⟨(some 44), (.pure (.mv (.tmp 13))), none⟩,
.op ⟨(some 45), (.pure (.mv (.tmp 14))), none⟩,
.op ⟨(some 46), (.pure (.bin .add (.tmp 44) (.tmp 45))), none⟩,
.op ⟨(some 47), (.pure (.bin .add (.tmp 46) (.const (.int .i64 (1))))), none⟩,
.op ⟨(some 48), (.pure (.bin .quo (.tmp 47) (.const (.int .i64 (2))))), none⟩,
.op ⟨(some 15), (.pure (.mv (.tmp 48))), none⟩])
(.seq (.ops [
.op ⟨(some 49), (.load (some 2) (.tmp 5)), none⟩,
.op ⟨(some 50), (.pure (.mv (.tmp 1))), none⟩,
.op ⟨(some 51), (.pure (.mv (.tmp 2))), none⟩,
.op ⟨(some 52), (.pure (.mv (.tmp 15))), none⟩,
.op ⟨(some 53), (.eff (.call 113 [(.tmp 49), (.tmp 50), (.tmp 51), (.tmp 52)])), none⟩,
.op ⟨(some 54), (.pure (.mv (.tmp 3))), none⟩,
.op ⟨(some 55), (.pure (.idx 1 (.tmp 53) (.tmp 54))), none⟩,
.op ⟨(some 56), (.load none (.tmp 55)), none⟩,
.op ⟨(some 57), (.pure (.mv (.tmp 4))), none⟩,
.op ⟨(some 58), (.pure (.bin .leq (.tmp 56) (.tmp 57))), none⟩])
(.cond (.tmp 58)
(.ops [
.op ⟨(some 59), (.pure (.mv (.tmp 15))), none⟩,
.op ⟨(some 13), (.pure (.mv (.tmp 59))), none⟩])
(.ops [
.op ⟨(some 60), (.pure (.mv (.tmp 15))), none⟩,
.op ⟨(some 61), (.pure (.bin .sub (.tmp 60) (.const (.int .i64 (1))))), none⟩,
.op ⟨(some 14), (.pure (.mv (.tmp 61))), none⟩]))))))))
(.seq (.ops [
.op ⟨(some 62), (.pure (.mv (.tmp 13))), none⟩,
.op ⟨(some 10), (.pure (.mv (.tmp 62))), none⟩,
.op ⟨(some 11), (.pure (.mv (.const (.bool true)))), none⟩])
(.ret)))))),
[.tmp 10, .tmp 11]⟩
theorem r_spec_LatestStart : resFun Try.prog f_spec_LatestStart = some c_spec_LatestStart := by kernel_rfl

/- loop.example/g00940/impl.LatestStart -/
abbrev f_impl_LatestStart : Nat := 32
def c_impl_LatestStart : MFun := ⟨60, .seq (.ops [
.op ⟨(some 5), (.eff (.box 32 (.tmp 0))), none⟩,
.op ⟨(some 10), (.pure (.mv (.const (.int .i64 (0))))), none⟩,
.op ⟨(some 11), (.pure (.mv (.const (.bool false)))), none⟩])
(.seq (.seq (.ops [
.op ⟨(some 16), (.load (some 2) (.tmp 5)), none⟩,
.op ⟨(some 17), (.pure (.mv (.tmp 1))), none⟩,
.op ⟨(some 18), (.pure (.mv (.tmp 2))), none⟩,
.op ⟨(some 19), (.pure (.mv (.tmp 3))), none⟩,
.op ⟨(some 20), (.pure (.mv (.tmp 4))), none⟩,
.op ⟨(some 21), (.eff (.call 115 [(.tmp 16), (.tmp 17), (.tmp 18), (.tmp 19), (.tmp 20)])), none⟩,
.op ⟨(some 22), (.pure (.bnot (.tmp 21))), none⟩])
(.cond (.tmp 22)
(.seq (.ops [
.op ⟨(some 10), (.pure (.mv (.const (.int .i64 (0))))), none⟩,
.op ⟨(some 11), (.pure (.mv (.const (.bool false)))), none⟩])
(.ret))
(.skip)))
(.seq (.seq (.ops [
.op ⟨(some 23), (.load (some 2) (.tmp 5)), none⟩,
.op ⟨(some 24), (.pure (.mv (.tmp 1))), none⟩,
.op ⟨(some 25), (.pure (.mv (.tmp 2))), none⟩,
.op ⟨(some 26), (.eff (.call 116 [(.tmp 23), (.tmp 24), (.tmp 25), (.const (.int .i64 (0)))])), none⟩,
.op ⟨(some 27), (.pure (.mv (.tmp 3))), none⟩,
.op ⟨(some 28), (.pure (.idx 1 (.tmp 26) (.tmp 27))), none⟩,
.op ⟨(some 29), (.load none (.tmp 28)), none⟩,
.op ⟨(some 12), (.pure (.mv (.tmp 29))), none⟩])
(.seq (.ops [
.op ⟨(some 30), (.pure (.mv (.tmp 12))), none⟩,
.op ⟨(some 31), (.pure (.bin .lss (.tmp 30) (.const (.int .i64 (0))))), none⟩,
.op ⟨(some 32), (.pure (.mv (.tmp 31))), none⟩,
.split 32,
.op ⟨(some 33), (.pure (.mv (.tmp 12))), (some (32, false))⟩,
.op ⟨(some 34), (.pure (.mv (.tmp 4))), (some (32, false))⟩,
.op ⟨(some 35), (.pure (.bin .gtr (.tmp 33) (.tmp 34))), (some (32, false))⟩,
.op ⟨(some 36), (.pure (.pick (.tmp 32) (.const (.bool true)) (.tmp 35))), none⟩])
(.cond (.tmp 36)
(.seq (.ops [
.op ⟨(some 10), (.pure (.mv (.const (.int .i64 (0))))), none⟩,
.op ⟨(some 11), (.pure (.mv (.const (.bool false)))), none⟩])
(.ret))
(.skip))))
(.seq (.ops [
.op ⟨(some 37), (.pure (.mv (.tmp 4))), none⟩,
.op ⟨(some 13), (.pure (.mv (.const (.int .i64 (0))))), none⟩,
.op ⟨(some 14), (.pure (.mv (.tmp 37))), none⟩])
(.seq (.block 0 (.loop (.seq (.seq (.ops [
.op ⟨(some 38), (.pure (.mv (.tmp 13))), none⟩,
.op ⟨(some 39), (.pure (.mv (.tmp 14))), none⟩,
.op ⟨(some 40), (.pure (.bin .lss (.tmp 38) (.tmp 39))), none⟩])
(.cond (.tmp 40)
(.skip)
(.exit 0)))
(.block 1 (.seq (.ops [
.op ⟨(some 41), (.pure (.mv (.tmp 13))), none⟩,
.op ⟨(some 42), (.pure (.mv (.tmp 14))), none⟩,
.op ⟨(some 43), (.pure (.bin .add (.tmp 41) (.tmp 42))), none⟩,
.op ⟨(some 44), (.pure (.bin .add (.tmp 43) (.const (.int .i64 (1))))), none⟩,
.op ⟨(some 45), (.pure (.bin .quo (.tmp 44) (.const (.int .i64 (2))))), none⟩,
.op ⟨(some 15), (.pure (.mv (.tmp 45))), none⟩])
(.seq (.ops [
.op ⟨(some 46), (.load (some 2) (.tmp 5)), none⟩,
.op ⟨(some 47), (.pure (.mv (.tmp 1))), none⟩,
.op ⟨(some 48), (.pure (.mv (.tmp 2))), none⟩,
.op ⟨(some 49), (.pure (.mv (.tmp 15))), none⟩,
.op ⟨(some 50), (.eff (.call 116 [(.tmp 46), (.tmp 47), (.tmp 48), (.tmp 49)])), none⟩,
.op ⟨(some 51), (.pure (.mv (.tmp 3))), none⟩,
.op ⟨(some 52), (.pure (.idx 1 (.tmp 50) (.tmp 51))), none⟩,
.op ⟨(some 53), (.load none (.tmp 52)), none⟩,
.op ⟨(some 54), (.pure (.mv (.tmp 4))), none⟩,
.op ⟨(some 55), (.pure (.bin .leq (.tmp 53) (.tmp 54))), none⟩])
(.cond (.tmp 55)
(.ops [
.op ⟨(some 56), (.pure (.mv (.tmp 15))), none⟩,
.op ⟨(some 13), (.pure (.mv (.tmp 56))), none⟩])
(.ops [
.op ⟨(some 57), (.pure (.mv (.tmp 15))), none⟩,
.op ⟨(some 58), (.pure (.bin .sub (.tmp 57) (.const (.int .i64 (1))))), none⟩,
.op ⟨(some 14), (.pure (.mv (.tmp 58))), none⟩]))))))))
(.seq (.ops [
.op ⟨(some 59), (.pure (.mv (.tmp 13))), none⟩,
.op ⟨(some 10), (.pure (.mv (.tmp 59))), none⟩,
.op ⟨(some 11), (.pure (.mv (.const (.bool true)))), none⟩])
(.ret)))))),
[.tmp 10, .tmp 11]⟩
theorem r_impl_LatestStart : resFun Try.prog f_impl_LatestStart = some c_impl_LatestStart := by kernel_rfl

/- loop.example/g00940/spec.FogDelay -/
abbrev f_spec_FogDelay : Nat := 33
def c_spec_FogDelay : MFun := ⟨39, .seq (.ops [
.op ⟨(some 5), (.eff (.box 32 (.tmp 0))), none⟩,
.op ⟨(some 10), (.pure (.mv (.const (.int .i64 (0))))), none⟩,
.op ⟨(some 11), (.pure (.mv (.const (.bool false)))), none⟩])
(.seq (.ops [
.op ⟨(some 17), (.load (some 2) (.tmp 5)), none⟩,
.op ⟨(some 18), (.pure (.mv (.tmp 1))), none⟩,
.op ⟨(some 19), (.pure (.mv (.tmp 2))), none⟩,
.op ⟨(some 20), (.pure (.mv (.tmp 3))), none⟩,
.op ⟨(some 21), (.pure (.mv (.tmp 4))), none⟩,
.op ⟨(some 22), (.eff (.call 27 [(.tmp 17), (.tmp 18), (.tmp 19), (.tmp 20), (.tmp 21)])), none⟩,
.op ⟨(some 16), (.pure (.mv (.tmp 22))), none⟩,
.op ⟨(some 23), (.pure (.ext 0 (.tmp 16))), none⟩,
.op ⟨(some 24), (.pure (.ext 1 (.tmp 16))), none⟩,
.op ⟨(some 12), (.pure (.mv (.tmp 23))), none⟩,
.op ⟨(some 13), (.pure (.mv (.tmp 24))), none⟩])
(.seq (.seq (.ops [
.op ⟨(some 25), (.pure (.mv (.tmp 13))), none⟩,
.op ⟨(some 26), (.pure (.bnot (.tmp 25))), none⟩])
(.cond (.tmp 26)
(.seq (.ops [
.op ⟨(some 10), (.pure (.mv (.const (.int .i64 (0))))), none⟩,
.op ⟨(some 11), (.pure (.mv (.const (.bool false)))), none⟩])
(.ret))
(.skip)))
(.seq (.ops [
.op ⟨(some 28), (.load (some 2) (.tmp 5)), none⟩,
.op ⟨(some 29), (.pure (.mv (.tmp 2))), none⟩,
.op ⟨(some 30), (.pure (.mv (.tmp 3))), none⟩,
.op ⟨(some 31), (.eff (.call 20 [(.tmp 28), (.tmp 29), (.tmp 30)])), none⟩,
.op ⟨(some 27), (.pure (.mv (.tmp 31))), none⟩,
.op ⟨(some 32), (.pure (.ext 0 (.tmp 27))), none⟩,
.op ⟨(some 33), (.pure (.ext 1 (.tmp 27))), none⟩,
.op ⟨(some 14), (.pure (.mv (.tmp 32))), none⟩,
.op ⟨(some 15), (.pure (.mv (.tmp 33))), none⟩])
(.seq (.ops [
.op ⟨(some 34), (.pure (.mv (.tmp 12))), none⟩,
.op ⟨(some 35), (.pure (.mv (.tmp 4))), none⟩,
.op ⟨(some 36), (.pure (.bin .sub (.tmp 34) (.tmp 35))), none⟩,
.op ⟨(some 37), (.pure (.mv (.tmp 14))), none⟩,
.op ⟨(some 38), (.pure (.bin .sub (.tmp 36) (.tmp 37))), none⟩,
.op ⟨(some 10), (.pure (.mv (.tmp 38))), none⟩,
.op ⟨(some 11), (.pure (.mv (.const (.bool true)))), none⟩])
(.ret))))),
[.tmp 10, .tmp 11]⟩
theorem r_spec_FogDelay : resFun Try.prog f_spec_FogDelay = some c_spec_FogDelay := by kernel_rfl

/- loop.example/g00940/impl.FogDelay -/
abbrev f_impl_FogDelay : Nat := 34
def c_impl_FogDelay : MFun := ⟨39, .seq (.ops [
.op ⟨(some 5), (.eff (.box 32 (.tmp 0))), none⟩,
.op ⟨(some 10), (.pure (.mv (.const (.int .i64 (0))))), none⟩,
.op ⟨(some 11), (.pure (.mv (.const (.bool false)))), none⟩])
(.seq (.ops [
.op ⟨(some 17), (.load (some 2) (.tmp 5)), none⟩,
.op ⟨(some 18), (.pure (.mv (.tmp 1))), none⟩,
.op ⟨(some 19), (.pure (.mv (.tmp 2))), none⟩,
.op ⟨(some 20), (.pure (.mv (.tmp 3))), none⟩,
.op ⟨(some 21), (.pure (.mv (.tmp 4))), none⟩,
.op ⟨(some 22), (.eff (.call 29 [(.tmp 17), (.tmp 18), (.tmp 19), (.tmp 20), (.tmp 21)])), none⟩,
.op ⟨(some 16), (.pure (.mv (.tmp 22))), none⟩,
.op ⟨(some 23), (.pure (.ext 0 (.tmp 16))), none⟩,
.op ⟨(some 24), (.pure (.ext 1 (.tmp 16))), none⟩,
.op ⟨(some 12), (.pure (.mv (.tmp 23))), none⟩,
.op ⟨(some 13), (.pure (.mv (.tmp 24))), none⟩])
(.seq (.seq (.ops [
.op ⟨(some 25), (.pure (.mv (.tmp 13))), none⟩,
.op ⟨(some 26), (.pure (.bnot (.tmp 25))), none⟩])
(.cond (.tmp 26)
(.seq (.ops [
.op ⟨(some 10), (.pure (.mv (.const (.int .i64 (0))))), none⟩,
.op ⟨(some 11), (.pure (.mv (.const (.bool false)))), none⟩])
(.ret))
(.skip)))
(.seq (.ops [
.op ⟨(some 28), (.load (some 2) (.tmp 5)), none⟩,
.op ⟨(some 29), (.pure (.mv (.tmp 2))), none⟩,
.op ⟨(some 30), (.pure (.mv (.tmp 3))), none⟩,
.op ⟨(some 31), (.eff (.call 104 [(.tmp 28), (.tmp 29), (.tmp 30)])), none⟩,
.op ⟨(some 27), (.pure (.mv (.tmp 31))), none⟩,
.op ⟨(some 32), (.pure (.ext 0 (.tmp 27))), none⟩,
.op ⟨(some 33), (.pure (.ext 1 (.tmp 27))), none⟩,
.op ⟨(some 14), (.pure (.mv (.tmp 32))), none⟩,
.op ⟨(some 15), (.pure (.mv (.tmp 33))), none⟩])
(.seq (.ops [
.op ⟨(some 34), (.pure (.mv (.tmp 12))), none⟩,
.op ⟨(some 35), (.pure (.mv (.tmp 4))), none⟩,
.op ⟨(some 36), (.pure (.bin .sub (.tmp 34) (.tmp 35))), none⟩,
.op ⟨(some 37), (.pure (.mv (.tmp 14))), none⟩,
.op ⟨(some 38), (.pure (.bin .sub (.tmp 36) (.tmp 37))), none⟩,
.op ⟨(some 10), (.pure (.mv (.tmp 38))), none⟩,
.op ⟨(some 11), (.pure (.mv (.const (.bool true)))), none⟩])
(.ret))))),
[.tmp 10, .tmp 11]⟩
theorem r_impl_FogDelay : resFun Try.prog f_impl_FogDelay = some c_impl_FogDelay := by kernel_rfl

/- loop.example/g00940/spec.ClearWindows -/
abbrev f_spec_ClearWindows : Nat := 35
def c_spec_ClearWindows : MFun := ⟨65, .seq (.ops [
.op ⟨(some 5), (.eff (.box 32 (.tmp 0))), none⟩,
.op ⟨(some 10), (.pure (.mv (.const (.slice none 0 0)))), none⟩,
.op ⟨(some 11), (.pure (.mv (.const (.bool false)))), none⟩])
(.seq (.seq (.ops [
.op ⟨(some 16), (.load (some 2) (.tmp 5)), none⟩,
.op ⟨(some 17), (.pure (.mv (.tmp 1))), none⟩,
.op ⟨(some 18), (.pure (.mv (.tmp 2))), none⟩,
.op ⟨(some 19), (.pure (.mv (.tmp 3))), none⟩,
.op ⟨(some 20), (.pure (.mv (.tmp 4))), none⟩,
.op ⟨(some 21), (.eff (.call 118 [(.tmp 16), (.tmp 17), (.tmp 18), (.tmp 19), (.tmp 20)])), none⟩,
.op ⟨(some 22), (.pure (.bnot (.tmp 21))), none⟩])
(.cond (.tmp 22)
(.seq (.ops [
.op ⟨(some 10), (.pure (.mv (.const (.slice none 0 0)))), none⟩,
.op ⟨(some 11), (.pure (.mv (.const (.bool false)))), none⟩])
(.ret))
(.skip)))
(.seq (.ops [
.op ⟨(some 12), (.pure (.mv (.const (.slice none 0 0)))), none⟩])
(.seq (.seq (.ops [
.op ⟨(some 23), (.pure (.mv (.tmp 1))), none⟩,
.op ⟨(some 24), (.pure (.len (.tmp 23))), none⟩,
.op ⟨(some 25), (.pure (.mv (.const (.int .i64 (0))))), none⟩])
(.block 0 (.loop (.seq (.ops [
.op ⟨(some 26), (.pure (.bin .lss (.tmp 25) (.tmp 24))), none⟩])
(.seq (.cond (.tmp 26)
(.skip)
(.exit 0))
(.seq (.block 1 (.seq (.ops [
.op ⟨(some 27), (.pure (.idx 3 (.tmp 23) (.tmp 25))), none⟩,
.op ⟨(some 28), (.load (some 3) (.tmp 27)), none⟩,
.op ⟨(some 14), (.eff (.new 96 [(.int .i64 (0)), (.int .i64 (0)), (.int .i64 (0))])), none⟩,
.op ⟨none, (.eff (.store 3 (.tmp 14) (.tmp 28))), none⟩])
(.seq (.seq (.ops [
.op ⟨(some 29), (.pure (.fieldAddr 0 (.tmp 14))), none⟩,
.op ⟨(some 30), (.load none (.tmp 29)), none⟩,
.op ⟨(some 31), (.pure (.mv (.tmp 2))), none⟩,
.op ⟨(some 32), (.pure (.bin .neq (.tmp 30) (.tmp 31))), none⟩,
.op ⟨(some 33), (.pure (.mv (.tmp 32))), none⟩,
.split 33,
.op ⟨(some 34), (.pure (.fieldAddr 2 (.tmp 14))), (some (33, false))⟩,
.op ⟨(some 35), (.load none (.tmp 34)), (some (33, false))⟩,
.op ⟨(some 36), (.pure (.mv (.tmp 3))), (some (33, false))⟩,
.op ⟨(some 37), (.pure (.bin .leq (.tmp 35) (.tmp 36))), (some (33, false))⟩,
.op ⟨(some 38), (.pure (.pick (.tmp 33) (.const (.bool true)) (.tmp 37))), none⟩])
(.cond (.tmp 38)
(.exit 1)
(.skip)))
(.seq (.seq (.ops [
.op ⟨(some 39), (.pure (.fieldAddr 1 (.tmp 14))), none⟩,
.op ⟨(some 40), (.load none (.tmp 39)), none⟩,
.op ⟨(some 41), (.pure (.mv (.tmp 4))), none⟩,
.op ⟨(some 42), (.eff (.call 119 [(.tmp 40), (.tmp 41)])), none⟩,
.op ⟨(some 15), (.pure (.mv (.tmp 42))), none⟩])
(.seq (.ops [
.op ⟨(some 43), (.pure (.mv (.tmp 3))), none⟩,
.op ⟨(some 44), (.pure (.mv (.tmp 15))), none⟩,
.op ⟨(some 45), (.pure (.bin .lss (.tmp 43) (.tmp 44))), none⟩])
(.cond (.tmp 45)
(.ops [
.op ⟨(some 46), (.pure (.mv (.tmp 12))), none⟩,
.op ⟨(some 47), (.pure (.mv (.tmp 3))), none⟩,
.op ⟨(some 48), (.pure (.mv (.tmp 15))), none⟩,
.op ⟨(some 49), (.eff (.row 3 2 [(.int .i64 (0)), (.int .i64 (0))] [(0, 1, (.tmp 47)), (1, 1, (.tmp 48))])), none⟩,
.op ⟨(some 50), (.eff (.row 52 1 [(.slice none 0 0)] [(0, 1, (.tmp 49))])), none⟩,
.op ⟨(some 51), (.eff (.app 52 1 24 (.tmp 46) (.tmp 50))), none⟩,
.op ⟨(some 12), (.pure (.mv (.tmp 51))), none⟩])
(.skip))))
(.ops [
.op ⟨(some 52), (.pure (.fieldAddr 2 (.tmp 14))), none⟩,
.op ⟨(some 53), (.load none (.tmp 52)), none⟩,
.op ⟨(some 3), (.pure (.mv (.tmp 53))), none⟩])))))
(.ops [
.op ⟨(some 54), (.pure (.bin .add (.tmp 25) (.const (.int .i64 (1))))), none⟩,
.op ⟨(some 25), (.pure (.mv (.tmp 54))), none⟩])))))))
(.seq (.seq (.ops [
.op ⟨(some 55), (.pure (.mv (.tmp 3))), none⟩,
.op ⟨(some 56), (.pure (.mv (.tmp 4))), none⟩,
.op ⟨(some 57), (.pure (.bin .lss (.tmp 55) (.tmp 56))), none⟩])
(.cond (.tmp 57)
(.ops [
.op ⟨(some 58), (.pure (.mv (.tmp 12))), none⟩,
.op ⟨(some 59), (.pure (.mv (.tmp 3))), none⟩,
.op ⟨(some 60), (.pure (.mv (.tmp 4))), none⟩,
.op ⟨(some 61), (.eff (.row 3 2 [(.int .i64 (0)), (.int .i64 (0))] [(0, 1, (.tmp 59)), (1, 1, (.tmp 60))])), none⟩,
.op ⟨(some 62), (.eff (.row 52 1 [(.slice none 0 0)] [(0, 1, (.tmp 61))])), none⟩,
.op ⟨(some 63), (.eff (.app 52 1 24 (.tmp 58) (.tmp 62))), none⟩,
.op ⟨(some 12), (.pure (.mv (.tmp 63))), none⟩])
(.skip)))
(.seq (.ops [
.op ⟨(some 64), (.pure (.mv (.tmp 12))), none⟩,
.op ⟨(some 10), (.pure (.mv (.tmp 64))), none⟩,
.op ⟨(some 11), (.pure (.mv (.const (.bool true)))), none⟩])
(.ret)))))),
[.tmp 10, .tmp 11]⟩
theorem r_spec_ClearWindows : resFun Try.prog f_spec_ClearWindows = some c_spec_ClearWindows := by kernel_rfl

/- loop.example/g00940/impl.ClearWindows -/
abbrev f_impl_ClearWindows : Nat := 36
def c_impl_ClearWindows : MFun := ⟨70, .seq (.ops [
.op ⟨(some 5), (.eff (.box 32 (.tmp 0))), none⟩,
.op ⟨(some 10), (.pure (.mv (.const (.slice none 0 0)))), none⟩,
.op ⟨(some 11), (.pure (.mv (.const (.bool false)))), none⟩])
(.seq (.seq (.ops [
.op ⟨(some 16), (.load (some 2) (.tmp 5)), none⟩,
.op ⟨(some 17), (.pure (.mv (.tmp 1))), none⟩,
.op ⟨(some 18), (.pure (.mv (.tmp 2))), none⟩,
.op ⟨(some 19), (.pure (.mv (.tmp 3))), none⟩,
.op ⟨(some 20), (.pure (.mv (.tmp 4))), none⟩,
.op ⟨(some 21), (.eff (.call 120 [(.tmp 16), (.tmp 17), (.tmp 18), (.tmp 19), (.tmp 20)])), none⟩,
.op ⟨(some 22), (.pure (.bnot (.tmp 21))), none⟩])
(.cond (.tmp 22)
(.seq (.ops [
.op ⟨(some 10), (.pure (.mv (.const (.slice none 0 0)))), none⟩,
.op ⟨(some 11), (.pure (.mv (.const (.bool false)))), none⟩])
(.ret))
(.skip)))
(.seq (.ops [
.op ⟨(some 12), (.pure (.mv (.const (.slice none 0 0)))), none⟩])
(.seq (.ops [
.op ⟨(some 23), (.pure (.mv (.tmp 3))), none⟩,
.op ⟨(some 13), (.pure (.mv (.tmp 23))), none⟩])
(.seq (.seq (.ops [
.op ⟨(some 24), (.pure (.mv (.tmp 1))), none⟩,
.op ⟨(some 25), (.pure (.len (.tmp 24))), none⟩,
.op ⟨(some 26), (.pure (.mv (.const (.int .i64 (0))))), none⟩])
(.block 0 (.loop (.seq (.ops [
.op ⟨(some 27), (.pure (.bin .lss (.tmp 26) (.tmp 25))), none⟩])
(.seq (.cond (.tmp 27)
(.skip)
(.exit 0))
(.seq (.block 1 (.seq (.ops [
.op ⟨(some 28), (.pure (.idx 3 (.tmp 24) (.tmp 26))), none⟩,
.op ⟨(some 29), (.load (some 3) (.tmp 28)), none⟩,
.op ⟨(some 15), (.eff (.new 96 [(.int .i64 (0)), (.int .i64 (0)), (.int .i64 (0))])), none⟩,
.op ⟨none, (.eff (.store 3 (.tmp 15) (.tmp 29))), none⟩])
(.seq (.seq (.ops [
.op ⟨(some 30), (.pure (.fieldAddr 0 (.tmp 15))), none⟩,
.op ⟨(some 31), (.load none (.tmp 30)), none⟩,
.op ⟨(some 32), (.pure (.mv (.tmp 2))), none⟩,
.op ⟨(some 33), (.pure (.bin .neq (.tmp 31) (.tmp 32))), none⟩,
.op ⟨(some 34), (.pure (.mv (.tmp 33))), none⟩,
.split 34,
.op ⟨(some 35), (.pure (.fieldAddr 2 (.tmp 15))), (some (34, false))⟩,
.op ⟨(some 36), (.load none (.tmp 35)), (some (34, false))⟩,
.op ⟨(some 37), (.pure (.mv (.tmp 3))), (some (34, false))⟩,
.op ⟨(some 38), (.pure (.bin .leq (.tmp 36) (.tmp 37))), (some (34, false))⟩,
.op ⟨(some 39), (.pure (.pick (.tmp 34) (.const (.bool true)) (.tmp 38))), none⟩,
.op ⟨(some 40), (.pure (.mv (.tmp 39))), none⟩,
.split 40,
.op ⟨(some 41), (.pure (.fieldAddr 1 (.tmp 15))), (some (40, false))⟩,
.op ⟨(some 42), (.load none (.tmp 41)), (some (40, false))⟩,
.op ⟨(some 43), (.pure (.mv (.tmp 4))), (some (40, false))⟩,
.op ⟨(some 44), (.pure (.bin .geq (.tmp 42) (.tmp 43))), (some (40, false))⟩,
.op ⟨(some 45), (.pure (.pick (.tmp 40) (.const (.bool true)) (.tmp 44))), none⟩])
(.cond (.tmp 45)
(.exit 1)
(.skip)))
(.seq (.seq (.ops [
.op ⟨(some 46), (.pure (.fieldAddr 1 (.tmp 15))), none⟩,
.op ⟨(some 47), (.load none (.tmp 46)), none⟩,
.op ⟨(some 48), (.pure (.mv (.tmp 13))), none⟩,
.op ⟨(some 49), (.pure (.bin .gtr (.tmp 47) (.tmp 48))), none⟩])
(.cond (.tmp 49)
(.ops [
.op ⟨(some 50), (.pure (.mv (.tmp 12))), none⟩,
.op ⟨(some 51), (.pure (.mv (.tmp 13))), none⟩,
.op ⟨(some 52), (.pure (.fieldAddr 1 (.tmp 15))), none⟩,
.op ⟨(some 53), (.load none (.tmp 52)), none⟩,
.op ⟨(some 54), (.eff (.row 3 2 [(.int .i64 (0)), (.int .i64 (0))] [(0, 1, (.tmp 51)), (1, 1, (.tmp 53))])), none⟩,
.op ⟨(some 55), (.eff (.row 52 1 [(.slice none 0 0)] [(0, 1, (.tmp 54))])), none⟩,
.op ⟨(some 56), (.eff (.app 52 1 24 (.tmp 50) (.tmp 55))), none⟩,
.op ⟨(some 12), (.pure (.mv (.tmp 56))), none⟩])
(.skip)))
(.ops [
.op ⟨(some 57), (.pure (.fieldAddr 2 (.tmp 15))), none⟩,
.op ⟨(some 58), (.load none (.tmp 57)), none⟩,
.op ⟨(some 13), (.pure (.mv (.tmp 58))), none⟩])))))
(.ops [
.op ⟨(some 59), (.pure (.bin .add (.tmp 26) (.const (.int .i64 (1))))), none⟩,
.op ⟨(some 26), (.pure (.mv (.tmp 59))), none⟩])))))))
(.seq (.seq (.ops [
.op ⟨(some 60), (.pure (.mv (.tmp 13))), none⟩,
.op ⟨(some 61), (.pure (.mv (.tmp 4))), none⟩,
.op ⟨(some 62), (.pure (.bin .lss (.tmp 60) (.tmp 61))), none⟩])
(.cond (.tmp 62)
(.ops [
.op ⟨(some 63), (.pure (.mv (.tmp 12))), none⟩,
.op ⟨(some 64), (.pure (.mv (.tmp 13))), none⟩,
.op ⟨(some 65), (.pure (.mv (.tmp 4))), none⟩,
.op ⟨(some 66), (.eff (.row 3 2 [(.int .i64 (0)), (.int .i64 (0))] [(0, 1, (.tmp 64)), (1, 1, (.tmp 65))])), none⟩,
.op ⟨(some 67), (.eff (.row 52 1 [(.slice none 0 0)] [(0, 1, (.tmp 66))])), none⟩,
.op ⟨(some 68), (.eff (.app 52 1 24 (.tmp 63) (.tmp 67))), none⟩,
.op ⟨(some 12), (.pure (.mv (.tmp 68))), none⟩])
(.skip)))
(.seq (.ops [
.op ⟨(some 69), (.pure (.mv (.tmp 12))), none⟩,
.op ⟨(some 10), (.pure (.mv (.tmp 69))), none⟩,
.op ⟨(some 11), (.pure (.mv (.const (.bool true)))), none⟩])
(.ret))))))),
[.tmp 10, .tmp 11]⟩
theorem r_impl_ClearWindows : resFun Try.prog f_impl_ClearWindows = some c_impl_ClearWindows := by kernel_rfl

/- loop.example/g00940/laws.eqIntSS -/
abbrev f_laws_eqIntSS : Nat := 37
def c_laws_eqIntSS : MFun := ⟨27, .seq (.ops [
.op ⟨(some 4), (.pure (.mv (.const (.bool false)))), none⟩])
(.seq (.seq (.ops [
.op ⟨(some 6), (.pure (.mv (.tmp 0))), none⟩,
.op ⟨(some 7), (.pure (.len (.tmp 6))), none⟩,
.op ⟨(some 8), (.pure (.mv (.tmp 1))), none⟩,
.op ⟨(some 9), (.pure (.len (.tmp 8))), none⟩,
.op ⟨(some 10), (.pure (.bin .neq (.tmp 7) (.tmp 9))), none⟩])
(.cond (.tmp 10)
(.seq (.ops [
.op ⟨(some 4), (.pure (.mv (.const (.bool false)))), none⟩])
(.ret))
(.skip)))
(.seq (.seq (.ops [
.op ⟨(some 5), (.pure (.mv (.const (.int .i64 (0))))), none⟩])
(.block 0 (.loop (.seq (.seq (.ops [
.op ⟨(some 11), (.pure (.mv (.tmp 5))), none⟩,
.op ⟨(some 12), (.pure (.mv (.tmp 0))), none⟩,
.op ⟨(some 13), (.pure (.len (.tmp 12))), none⟩,
.op ⟨(some 14), (.pure (.bin .lss (.tmp 11) (.tmp 13))), none⟩])
(.cond (.tmp 14)
(.skip)
(.exit 0)))
(.seq (.block 1 (.seq (.draw false
(.take ⟨(some 17), (.pure (.mv (.tmp 0))), none⟩
(.take ⟨(some 18), (.pure (.mv (.tmp 5))), none⟩
(.take ⟨(some 19), (.pure (.idx 1 (.tmp 17) (.tmp 18))), none⟩
(.take ⟨(some 21), (.pure (.mv (.tmp 1))), none⟩
(.take ⟨(some 22), (.pure (.mv (.tmp 5))), none⟩
(.take ⟨(some 23), (.pure (.idx 1 (.tmp 21) (.tmp 22))), none⟩
(.only false ⟨(some 20), (.load none (.tmp 19)), none⟩
(.only false ⟨(some 24), (.load none (.tmp 23)), none⟩
(.only true ⟨(some 25), (.eff (.call 44 [(.tmp 20), (.tmp 24)])), none⟩
(.take ⟨(some 26), (.pure (.bnot (.tmp 25))), none⟩
(.done))))))))))))
(.cond (.tmp 26)
(.seq (.ops [
.op ⟨(some 4), (.pure (.mv (.const (.bool false)))), none⟩])
(.ret))
(.skip))))
(.ops [
.op ⟨(some 15), (.pure (.mv (.tmp 5))), none⟩,
.op ⟨(some 16), (.pure (.bin .add (.tmp 15) (.const (.int .i64 (1))))), none⟩,
.op ⟨(some 5), (.pure (.mv (.tmp 16))), none⟩]))))))
(.seq (.ops [
.op ⟨(some 4), (.pure (.mv (.const (.bool true)))), none⟩])
(.ret)))),
[.tmp 4]⟩
theorem r_laws_eqIntSS : resFun Try.prog f_laws_eqIntSS = some c_laws_eqIntSS := by kernel_rfl

/- loop.example/g00940/laws.markNet -/
abbrev f_laws_markNet : Nat := 38
def c_laws_markNet : MFun := ⟨14, .seq (.ops [
.op ⟨(some 2), (.eff (.box 32 (.tmp 0))), none⟩,
.op ⟨(some 4), (.pure (.mv (.const (.int .i64 (0))))), none⟩])
(.seq (.ops [
.op ⟨(some 5), (.pure (.fieldAddr 0 (.tmp 2))), none⟩,
.op ⟨(some 6), (.load none (.tmp 5)), none⟩,
.op ⟨(some 7), (.pure (.mv (.tmp 1))), none⟩,
.op ⟨(some 8), (.eff (.call 121 [(.tmp 6), (.tmp 7)])), none⟩,
.op ⟨(some 1), (.pure (.mv (.tmp 8))), none⟩])
(.seq (.ops [
.op ⟨(some 9), (.pure (.fieldAddr 1 (.tmp 2))), none⟩,
.op ⟨(some 10), (.load none (.tmp 9)), none⟩,
.op ⟨(some 11), (.pure (.mv (.tmp 1))), none⟩,
.op ⟨(some 12), (.eff (.call 122 [(.tmp 10), (.tmp 11)])), none⟩,
.op ⟨(some 1), (.pure (.mv (.tmp 12))), none⟩])
(.seq (.ops [
.op ⟨(some 13), (.pure (.mv (.tmp 1))), none⟩,
.op ⟨(some 4), (.pure (.mv (.tmp 13))), none⟩])
(.ret)))),
[.tmp 4]⟩
theorem r_laws_markNet : resFun Try.prog f_laws_markNet = some c_laws_markNet := by kernel_rfl

/- loop.example/g00940/laws.markFogS -/
abbrev f_laws_markFogS : Nat := 39
def c_laws_markFogS : MFun := ⟨34, .seq (.ops [
.op ⟨(some 4), (.pure (.mv (.const (.int .i64 (0))))), none⟩])
(.seq (.seq (.ops [
.op ⟨(some 5), (.pure (.mv (.const (.int .i64 (0))))), none⟩])
(.block 0 (.loop (.seq (.seq (.ops [
.op ⟨(some 6), (.pure (.mv (.tmp 5))), none⟩,
.op ⟨(some 7), (.pure (.mv (.tmp 0))), none⟩,
.op ⟨(some 8), (.pure (.len (.tmp 7))), none⟩,
.op ⟨(some 9), (.pure (.bin .lss (.tmp 6) (.tmp 8))), none⟩])
(.cond (.tmp 9)
(.skip)
(.exit 0)))
(.seq (.block 1 (.seq (.ops [
.op ⟨(some 12), (.pure (.mv (.tmp 0))), none⟩,
.op ⟨(some 13), (.pure (.mv (.tmp 5))), none⟩,
.op ⟨(some 14), (.pure (.mv (.tmp 1))), none⟩,
.op ⟨(some 15), (.pure (.idx 3 (.tmp 12) (.tmp 13))), none⟩,
.op ⟨(some 16), (.pure (.fieldAddr 0 (.tmp 15))), none⟩,
.op ⟨none, (.eff (.store 1 (.tmp 16) (.tmp 14))), none⟩])
(.seq (.ops [
.op ⟨(some 17), (.pure (.mv (.tmp 1))), none⟩,
.op ⟨(some 18), (.pure (.bin .add (.tmp 17) (.const (.int .i64 (1))))), none⟩,
.op ⟨(some 1), (.pure (.mv (.tmp 18))), none⟩])
(.seq (.ops [
.op ⟨(some 19), (.pure (.mv (.tmp 0))), none⟩,
.op ⟨(some 20), (.pure (.mv (.tmp 5))), none⟩,
.op ⟨(some 21), (.pure (.mv (.tmp 1))), none⟩,
.op ⟨(some 22), (.pure (.idx 3 (.tmp 19) (.tmp 20))), none⟩,
.op ⟨(some 23), (.pure (.fieldAddr 1 (.tmp 22))), none⟩,
.op ⟨none, (.eff (.store 1 (.tmp 23) (.tmp 21))), none⟩])
(.seq (.ops [
.op ⟨(some 24), (.pure (.mv (.tmp 1))), none⟩,
.op ⟨(some 25), (.pure (.bin .add (.tmp 24) (.const (.int .i64 (1))))), none⟩,
.op ⟨(some 1), (.pure (.mv (.tmp 25))), none⟩])
(.seq (.ops [
.op ⟨(some 26), (.pure (.mv (.tmp 0))), none⟩,
.op ⟨(some 27), (.pure (.mv (.tmp 5))), none⟩,
.op ⟨(some 28), (.pure (.mv (.tmp 1))), none⟩,
.op ⟨(some 29), (.pure (.idx 3 (.tmp 26) (.tmp 27))), none⟩,
.op ⟨(some 30), (.pure (.fieldAddr 2 (.tmp 29))), none⟩,
.op ⟨none, (.eff (.store 1 (.tmp 30) (.tmp 28))), none⟩])
(.ops [
.op ⟨(some 31), (.pure (.mv (.tmp 1))), none⟩,
.op ⟨(some 32), (.pure (.bin .add (.tmp 31) (.const (.int .i64 (1))))), none⟩,
.op ⟨(some 1), (.pure (.mv (.tmp 32))), none⟩])))))))
(.ops [
.op ⟨(some 10), (.pure (.mv (.tmp 5))), none⟩,
.op ⟨(some 11), (.pure (.bin .add (.tmp 10) (.const (.int .i64 (1))))), none⟩,
.op ⟨(some 5), (.pure (.mv (.tmp 11))), none⟩]))))))
(.seq (.ops [
.op ⟨(some 33), (.pure (.mv (.tmp 1))), none⟩,
.op ⟨(some 4), (.pure (.mv (.tmp 33))), none⟩])
(.ret))),
[.tmp 4]⟩
theorem r_laws_markFogS : resFun Try.prog f_laws_markFogS = some c_laws_markFogS := by kernel_rfl
end Go.Proofs.Ythagdkmalchhgaa
