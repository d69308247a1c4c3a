/- The code of this seat's functions, resolved, written by a program of mine; each is held against the given program by the kernel. Condition: none. -/
import Derived.Test.YtckkablifoblbaaProg
import Derived.Test.YtckkablifoblbaaBase9
import Derived.KernelRfl
namespace Go.Proofs.Ytckkablifoblbaa
open Go.Vc

/- loop.example/g00940/laws.FnExactIsLine -/
abbrev f_laws_FnExactIsLine : Nat := 3
def c_laws_FnExactIsLine : MFun := ⟨14, .seq (.ops [
.op ⟨(some 1), (.eff (.box 23 (.tmp 0))), none⟩,
.op ⟨(some 2), (.pure (.mv (.const (.bool false)))), none⟩])
(.seq (.ops [
.op ⟨(some 5), (.load (some 2) (.tmp 1)), none⟩,
.op ⟨(some 6), (.eff (.call 16 [(.tmp 5)])), none⟩,
.op ⟨(some 7), (.eff (.call 15 [(.tmp 6)])), none⟩,
.op ⟨(some 3), (.pure (.mv (.tmp 7))), none⟩])
(.seq (.ops [
.op ⟨(some 8), (.load (some 2) (.tmp 1)), none⟩,
.op ⟨(some 9), (.eff (.call 16 [(.tmp 8)])), none⟩,
.op ⟨(some 10), (.eff (.call 17 [(.tmp 9)])), none⟩,
.op ⟨(some 4), (.pure (.mv (.tmp 10))), none⟩])
(.seq (.seq (.ops [
.op ⟨(some 11), (.pure (.mv (.tmp 4))), none⟩,
.op ⟨(some 12), (.pure (.mv (.tmp 3))), none⟩,
.op ⟨(some 13), (.pure (.eqb true (.tmp 11) (.tmp 12))), none⟩])
(.cond (.tmp 13)
(.seq (.ops [
.op ⟨(some 2), (.pure (.mv (.const (.bool false)))), none⟩])
(.ret))
(.skip)))
(.seq (.ops [
.op ⟨(some 2), (.pure (.mv (.const (.bool true)))), none⟩])
(.ret))))),
[.tmp 2]⟩
theorem r_laws_FnExactIsLine : resFun Try.prog f_laws_FnExactIsLine = some c_laws_FnExactIsLine := by kernel_rfl

/- loop.example/g00940/laws.FnExactPlainCount -/
abbrev f_laws_FnExactPlainCount : Nat := 4
def c_laws_FnExactPlainCount : MFun := ⟨31, .seq (.ops [
.op ⟨(some 2), (.eff (.box 23 (.tmp 0))), none⟩,
.op ⟨(some 4), (.pure (.mv (.const (.bool false)))), none⟩])
(.seq (.ops [
.op ⟨(some 10), (.load (some 2) (.tmp 2)), none⟩,
.op ⟨(some 11), (.eff (.call 16 [(.tmp 10)])), none⟩,
.op ⟨(some 12), (.pure (.mv (.tmp 1))), none⟩,
.op ⟨(some 13), (.eff (.call 18 [(.tmp 11), (.tmp 12)])), none⟩,
.op ⟨(some 9), (.pure (.mv (.tmp 13))), none⟩,
.op ⟨(some 14), (.pure (.ext 0 (.tmp 9))), none⟩,
.op ⟨(some 15), (.pure (.ext 1 (.tmp 9))), none⟩,
.op ⟨(some 5), (.pure (.mv (.tmp 14))), none⟩,
.op ⟨(some 6), (.pure (.mv (.tmp 15))), none⟩])
(.seq (.ops [
.op ⟨(some 17), (.load (some 2) (.tmp 2)), none⟩,
.op ⟨(some 18), (.eff (.call 16 [(.tmp 17)])), none⟩,
.op ⟨(some 19), (.pure (.mv (.tmp 1))), none⟩,
.op ⟨(some 20), (.eff (.call 19 [(.tmp 18), (.tmp 19)])), none⟩,
.op ⟨(some 16), (.pure (.mv (.tmp 20))), none⟩,
.op ⟨(some 21), (.pure (.ext 0 (.tmp 16))), none⟩,
.op ⟨(some 22), (.pure (.ext 1 (.tmp 16))), none⟩,
.op ⟨(some 7), (.pure (.mv (.tmp 21))), none⟩,
.op ⟨(some 8), (.pure (.mv (.tmp 22))), none⟩])
(.seq (.seq (.ops [
.op ⟨(some 23), (.pure (.mv (.tmp 7))), none⟩,
.op ⟨(some 24), (.pure (.mv (.tmp 5))), none⟩,
.op ⟨(some 25), (.pure (.bin .neq (.tmp 23) (.tmp 24))), none⟩,
.op ⟨(some 26), (.pure (.mv (.tmp 25))), none⟩,
.split 26,
.op ⟨(some 27), (.pure (.mv (.tmp 8))), (some (26, false))⟩,
.op ⟨(some 28), (.pure (.mv (.tmp 6))), (some (26, false))⟩,
.op ⟨(some 29), (.pure (.eqb true (.tmp 27) (.tmp 28))), (some (26, false))⟩,
.op ⟨(some 30), (.pure (.pick (.tmp 26) (.const (.bool true)) (.tmp 29))), none⟩])
(.cond (.tmp 30)
(.seq (.ops [
.op ⟨(some 4), (.pure (.mv (.const (.bool false)))), none⟩])
(.ret))
(.skip)))
(.seq (.ops [
.op ⟨(some 4), (.pure (.mv (.const (.bool true)))), none⟩])
(.ret))))),
[.tmp 4]⟩
theorem r_laws_FnExactPlainCount : resFun Try.prog f_laws_FnExactPlainCount = some c_laws_FnExactPlainCount := by kernel_rfl

/- loop.example/g00940/laws.FnExactWithPattern -/
abbrev f_laws_FnExactWithPattern : Nat := 5
def c_laws_FnExactWithPattern : MFun := ⟨103, .seq (.ops [
.op ⟨(some 6), (.pure (.mv (.const (.bool false)))), none⟩])
(.seq (.seq (.ops [
.op ⟨(some 17), (.pure (.mv (.tmp 0))), none⟩,
.op ⟨(some 18), (.pure (.len (.tmp 17))), none⟩,
.op ⟨(some 19), (.pure (.bin .gtr (.tmp 18) (.const (.int .i64 (1048576))))), none⟩])
(.cond (.tmp 19)
(.seq (.ops [
.op ⟨(some 6), (.pure (.mv (.const (.bool true)))), none⟩])
(.ret))
(.skip)))
(.seq (.ops [
.op ⟨(some 21), (.pure (.mv (.tmp 0))), none⟩,
.op ⟨(some 22), (.eff (.call 21 [(.tmp 21)])), none⟩,
.op ⟨(some 23), (.pure (.mv (.tmp 1))), none⟩,
.op ⟨(some 24), (.pure (.mv (.tmp 2))), none⟩,
.op ⟨(some 25), (.eff (.call 20 [(.tmp 22), (.tmp 23), (.tmp 24)])), none⟩,
.op ⟨(some 20), (.pure (.mv (.tmp 25))), none⟩,
.op ⟨(some 26), (.pure (.ext 0 (.tmp 20))), none⟩,
.op ⟨(some 27), (.pure (.ext 1 (.tmp 20))), none⟩,
.op ⟨(some 7), (.pure (.mv (.tmp 26))), none⟩,
.op ⟨(some 8), (.pure (.mv (.tmp 27))), none⟩])
(.seq (.ops [
.op ⟨(some 28), (.pure (.mv (.tmp 0))), none⟩,
.op ⟨(some 29), (.eff (.call 21 [(.tmp 28)])), none⟩,
.op ⟨(some 9), (.pure (.mv (.tmp 29))), none⟩])
(.seq (.ops [
.op ⟨(some 31), (.pure (.mv (.tmp 9))), none⟩,
.op ⟨(some 32), (.pure (.mv (.tmp 1))), none⟩,
.op ⟨(some 33), (.pure (.mv (.tmp 2))), none⟩,
.op ⟨(some 34), (.eff (.call 22 [(.tmp 31), (.tmp 32), (.tmp 33)])), none⟩,
.op ⟨(some 30), (.pure (.mv (.tmp 34))), none⟩,
.op ⟨(some 35), (.pure (.ext 0 (.tmp 30))), none⟩,
.op ⟨(some 36), (.pure (.ext 1 (.tmp 30))), none⟩,
.op ⟨(some 10), (.pure (.mv (.tmp 35))), none⟩,
.op ⟨(some 11), (.pure (.mv (.tmp 36))), none⟩])
(.seq (.seq (.ops [
.op ⟨(some 37), (.pure (.mv (.tmp 10))), none⟩,
.op ⟨(some 38), (.pure (.mv (.tmp 7))), none⟩,
.op ⟨(some 39), (.eff (.call 23 [(.tmp 37), (.tmp 38)])), none⟩,
.op ⟨(some 40), (.pure (.bnot (.tmp 39))), none⟩,
.op ⟨(some 41), (.pure (.mv (.tmp 40))), none⟩,
.split 41,
.op ⟨(some 42), (.pure (.mv (.tmp 11))), (some (41, false))⟩,
.op ⟨(some 43), (.pure (.mv (.tmp 8))), (some (41, false))⟩,
.op ⟨(some 44), (.pure (.eqb true (.tmp 42) (.tmp 43))), (some (41, false))⟩,
.op ⟨(some 45), (.pure (.pick (.tmp 41) (.const (.bool true)) (.tmp 44))), none⟩])
(.cond (.tmp 45)
(.seq (.ops [
.op ⟨(some 6), (.pure (.mv (.const (.bool false)))), none⟩])
(.ret))
(.skip)))
(.seq (.seq (.ops [
.op ⟨(some 46), (.pure (.mv (.tmp 9))), none⟩,
.op ⟨(some 47), (.pure (.mv (.tmp 0))), none⟩,
.op ⟨(some 48), (.eff (.call 21 [(.tmp 47)])), none⟩,
.op ⟨(some 49), (.eff (.call 23 [(.tmp 46), (.tmp 48)])), none⟩,
.op ⟨(some 50), (.pure (.bnot (.tmp 49))), none⟩])
(.cond (.tmp 50)
(.seq (.ops [
.op ⟨(some 6), (.pure (.mv (.const (.bool false)))), none⟩])
(.ret))
(.skip)))
(.seq (.ops [
.op ⟨(some 12), (.pure (.mv (.const (.int .i64 (1))))), none⟩])
(.seq (.ops [
.op ⟨(some 51), (.pure (.mv (.tmp 9))), none⟩,
.op ⟨(some 52), (.pure (.mv (.tmp 12))), none⟩,
.op ⟨(some 53), (.eff (.call 24 [(.tmp 51), (.tmp 52)])), none⟩,
.op ⟨(some 12), (.pure (.mv (.tmp 53))), none⟩])
(.seq (.seq (.ops [
.op ⟨(some 54), (.pure (.mv (.tmp 12))), none⟩,
.op ⟨(some 55), (.pure (.bin .lss (.tmp 54) (.const (.int .i64 (0))))), none⟩,
.op ⟨(some 56), (.pure (.mv (.tmp 55))), none⟩,
.split 56,
.op ⟨(some 57), (.pure (.mv (.tmp 10))), (some (56, false))⟩,
.op ⟨(some 58), (.pure (.mv (.tmp 7))), (some (56, false))⟩,
.op ⟨(some 59), (.eff (.call 23 [(.tmp 57), (.tmp 58)])), (some (56, false))⟩,
.op ⟨(some 60), (.pure (.bnot (.tmp 59))), (some (56, false))⟩,
.op ⟨(some 61), (.pure (.pick (.tmp 56) (.const (.bool true)) (.tmp 60))), none⟩,
.op ⟨(some 62), (.pure (.mv (.tmp 61))), none⟩,
.split 62,
.op ⟨(some 63), (.pure (.mv (.tmp 11))), (some (62, false))⟩,
.op ⟨(some 64), (.pure (.mv (.tmp 8))), (some (62, false))⟩,
.op ⟨(some 65), (.pure (.eqb true (.tmp 63) (.tmp 64))), (some (62, false))⟩,
.op ⟨(some 66), (.pure (.pick (.tmp 62) (.const (.bool true)) (.tmp 65))), none⟩])
(.cond (.tmp 66)
(.seq (.ops [
.op ⟨(some 6), (.pure (.mv (.const (.bool false)))), none⟩])
(.ret))
(.skip)))
(.seq (.ops [
.op ⟨(some 13), (.pure (.mv (.const (.int .i64 (1))))), none⟩])
(.seq (.ops [
.op ⟨(some 67), (.pure (.mv (.tmp 10))), none⟩,
.op ⟨(some 68), (.pure (.mv (.tmp 13))), none⟩,
.op ⟨(some 69), (.eff (.call 24 [(.tmp 67), (.tmp 68)])), none⟩,
.op ⟨(some 13), (.pure (.mv (.tmp 69))), none⟩])
(.seq (.ops [
.op ⟨(some 14), (.pure (.mv (.const (.int .i64 (1))))), none⟩])
(.seq (.ops [
.op ⟨(some 70), (.pure (.mv (.tmp 10))), none⟩,
.op ⟨(some 71), (.pure (.mv (.tmp 14))), none⟩,
.op ⟨(some 72), (.eff (.call 25 [(.tmp 70), (.tmp 71)])), none⟩,
.op ⟨(some 14), (.pure (.mv (.tmp 72))), none⟩])
(.seq (.seq (.ops [
.op ⟨(some 73), (.pure (.mv (.tmp 14))), none⟩,
.op ⟨(some 74), (.pure (.bin .lss (.tmp 73) (.const (.int .i64 (0))))), none⟩])
(.cond (.tmp 74)
(.seq (.ops [
.op ⟨(some 6), (.pure (.mv (.const (.bool false)))), none⟩])
(.ret))
(.skip)))
(.seq (.seq (.ops [
.op ⟨(some 75), (.pure (.mv (.tmp 14))), none⟩,
.op ⟨(some 76), (.pure (.mv (.tmp 13))), none⟩,
.op ⟨(some 77), (.pure (.bin .neq (.tmp 75) (.tmp 76))), none⟩])
(.cond (.tmp 77)
(.seq (.ops [
.op ⟨(some 6), (.pure (.mv (.const (.bool false)))), none⟩])
(.ret))
(.skip)))
(.seq (.ops [
.op ⟨(some 79), (.pure (.mv (.tmp 0))), none⟩,
.op ⟨(some 80), (.eff (.call 21 [(.tmp 79)])), none⟩,
.op ⟨(some 81), (.pure (.mv (.tmp 1))), none⟩,
.op ⟨(some 82), (.pure (.mv (.tmp 2))), none⟩,
.op ⟨(some 83), (.eff (.call 22 [(.tmp 80), (.tmp 81), (.tmp 82)])), none⟩,
.op ⟨(some 78), (.pure (.mv (.tmp 83))), none⟩,
.op ⟨(some 84), (.pure (.ext 0 (.tmp 78))), none⟩,
.op ⟨(some 85), (.pure (.ext 1 (.tmp 78))), none⟩,
.op ⟨(some 15), (.pure (.mv (.tmp 84))), none⟩,
.op ⟨(some 16), (.pure (.mv (.tmp 85))), none⟩])
(.seq (.seq (.ops [
.op ⟨(some 86), (.pure (.mv (.tmp 15))), none⟩,
.op ⟨(some 87), (.pure (.mv (.tmp 7))), none⟩,
.op ⟨(some 88), (.eff (.call 23 [(.tmp 86), (.tmp 87)])), none⟩,
.op ⟨(some 89), (.pure (.bnot (.tmp 88))), none⟩,
.op ⟨(some 90), (.pure (.mv (.tmp 89))), none⟩,
.split 90,
.op ⟨(some 91), (.pure (.mv (.tmp 16))), (some (90, false))⟩,
.op ⟨(some 92), (.pure (.mv (.tmp 8))), (some (90, false))⟩,
.op ⟨(some 93), (.pure (.eqb true (.tmp 91) (.tmp 92))), (some (90, false))⟩,
.op ⟨(some 94), (.pure (.pick (.tmp 90) (.const (.bool true)) (.tmp 93))), none⟩])
(.cond (.tmp 94)
(.seq (.ops [
.op ⟨(some 6), (.pure (.mv (.const (.bool false)))), none⟩])
(.ret))
(.skip)))
(.seq (.ops [
.op ⟨(some 14), (.pure (.mv (.const (.int .i64 (1))))), none⟩])
(.seq (.ops [
.op ⟨(some 95), (.pure (.mv (.tmp 10))), none⟩,
.op ⟨(some 96), (.pure (.mv (.tmp 14))), none⟩,
.op ⟨(some 97), (.eff (.call 25 [(.tmp 95), (.tmp 96)])), none⟩,
.op ⟨(some 14), (.pure (.mv (.tmp 97))), none⟩])
(.seq (.seq (.ops [
.op ⟨(some 98), (.pure (.mv (.tmp 14))), none⟩,
.op ⟨(some 99), (.pure (.bin .lss (.tmp 98) (.const (.int .i64 (0))))), none⟩])
(.cond (.tmp 99)
(.seq (.ops [
.op ⟨(some 6), (.pure (.mv (.const (.bool false)))), none⟩])
(.ret))
(.skip)))
(.seq (.seq (.ops [
.op ⟨(some 100), (.pure (.mv (.tmp 14))), none⟩,
.op ⟨(some 101), (.pure (.mv (.tmp 13))), none⟩,
.op ⟨(some 102), (.pure (.bin .neq (.tmp 100) (.tmp 101))), none⟩])
(.cond (.tmp 102)
(.seq (.ops [
.op ⟨(some 6), (.pure (.mv (.const (.bool false)))), none⟩])
(.ret))
(.skip)))
(.seq (.ops [
.op ⟨(some 6), (.pure (.mv (.const (.bool true)))), none⟩])
(.ret))))))))))))))))))))))),
[.tmp 6]⟩
theorem r_laws_FnExactWithPattern : resFun Try.prog f_laws_FnExactWithPattern = some c_laws_FnExactWithPattern := by kernel_rfl

/- loop.example/g00940/laws.FnExactLineGlances -/
abbrev f_laws_FnExactLineGlances : Nat := 6
def c_laws_FnExactLineGlances : MFun := ⟨59, .seq (.ops [
.op ⟨(some 3), (.eff (.box 23 (.tmp 0))), none⟩,
.op ⟨(some 6), (.pure (.mv (.const (.bool false)))), none⟩])
(.seq (.seq (.ops [
.op ⟨(some 13), (.pure (.mv (.tmp 1))), none⟩,
.op ⟨(some 14), (.pure (.len (.tmp 13))), none⟩,
.op ⟨(some 15), (.pure (.bin .gtr (.tmp 14) (.const (.int .i64 (1048576))))), none⟩])
(.cond (.tmp 15)
(.seq (.ops [
.op ⟨(some 6), (.pure (.mv (.const (.bool true)))), none⟩])
(.ret))
(.skip)))
(.seq (.seq (.ops [
.op ⟨(some 16), (.pure (.mv (.tmp 2))), none⟩,
.op ⟨(some 17), (.pure (.len (.tmp 16))), none⟩,
.op ⟨(some 18), (.pure (.bin .gtr (.tmp 17) (.const (.int .i64 (1048576))))), none⟩])
(.cond (.tmp 18)
(.seq (.ops [
.op ⟨(some 6), (.pure (.mv (.const (.bool true)))), none⟩])
(.ret))
(.skip)))
(.seq (.ops [
.op ⟨(some 20), (.load (some 2) (.tmp 3)), none⟩,
.op ⟨(some 21), (.eff (.call 16 [(.tmp 20)])), none⟩,
.op ⟨(some 22), (.pure (.mv (.tmp 1))), none⟩,
.op ⟨(some 23), (.eff (.call 21 [(.tmp 22)])), none⟩,
.op ⟨(some 24), (.pure (.mv (.tmp 2))), none⟩,
.op ⟨(some 25), (.eff (.call 21 [(.tmp 24)])), none⟩,
.op ⟨(some 26), (.eff (.call 26 [(.tmp 21), (.tmp 23), (.tmp 25)])), none⟩,
.op ⟨(some 19), (.pure (.mv (.tmp 26))), none⟩,
.op ⟨(some 27), (.pure (.ext 0 (.tmp 19))), none⟩,
.op ⟨(some 28), (.pure (.ext 1 (.tmp 19))), none⟩,
.op ⟨(some 7), (.pure (.mv (.tmp 27))), none⟩,
.op ⟨(some 8), (.pure (.mv (.tmp 28))), none⟩])
(.seq (.ops [
.op ⟨(some 29), (.pure (.mv (.tmp 1))), none⟩,
.op ⟨(some 30), (.eff (.call 21 [(.tmp 29)])), none⟩,
.op ⟨(some 9), (.pure (.mv (.tmp 30))), none⟩])
(.seq (.ops [
.op ⟨(some 31), (.pure (.mv (.tmp 2))), none⟩,
.op ⟨(some 32), (.eff (.call 21 [(.tmp 31)])), none⟩,
.op ⟨(some 10), (.pure (.mv (.tmp 32))), none⟩])
(.seq (.ops [
.op ⟨(some 34), (.load (some 2) (.tmp 3)), none⟩,
.op ⟨(some 35), (.eff (.call 16 [(.tmp 34)])), none⟩,
.op ⟨(some 36), (.pure (.mv (.tmp 9))), none⟩,
.op ⟨(some 37), (.pure (.mv (.tmp 10))), none⟩,
.op ⟨(some 38), (.eff (.call 27 [(.tmp 35), (.tmp 36), (.tmp 37)])), none⟩,
.op ⟨(some 33), (.pure (.mv (.tmp 38))), none⟩,
.op ⟨(some 39), (.pure (.ext 0 (.tmp 33))), none⟩,
.op ⟨(some 40), (.pure (.ext 1 (.tmp 33))), none⟩,
.op ⟨(some 11), (.pure (.mv (.tmp 39))), none⟩,
.op ⟨(some 12), (.pure (.mv (.tmp 40))), none⟩])
(.seq (.seq (.ops [
.op ⟨(some 41), (.pure (.mv (.tmp 11))), none⟩,
.op ⟨(some 42), (.pure (.mv (.tmp 7))), none⟩,
.op ⟨(some 43), (.pure (.bin .neq (.tmp 41) (.tmp 42))), none⟩,
.op ⟨(some 44), (.pure (.mv (.tmp 43))), none⟩,
.split 44,
.op ⟨(some 45), (.pure (.mv (.tmp 12))), (some (44, false))⟩,
.op ⟨(some 46), (.pure (.mv (.tmp 8))), (some (44, false))⟩,
.op ⟨(some 47), (.pure (.eqb true (.tmp 45) (.tmp 46))), (some (44, false))⟩,
.op ⟨(some 48), (.pure (.pick (.tmp 44) (.const (.bool true)) (.tmp 47))), none⟩])
(.cond (.tmp 48)
(.seq (.ops [
.op ⟨(some 6), (.pure (.mv (.const (.bool false)))), none⟩])
(.ret))
(.skip)))
(.seq (.seq (.ops [
.op ⟨(some 49), (.pure (.mv (.tmp 9))), none⟩,
.op ⟨(some 50), (.pure (.mv (.tmp 1))), none⟩,
.op ⟨(some 51), (.eff (.call 21 [(.tmp 50)])), none⟩,
.op ⟨(some 52), (.eff (.call 23 [(.tmp 49), (.tmp 51)])), none⟩,
.op ⟨(some 53), (.pure (.bnot (.tmp 52))), none⟩])
(.cond (.tmp 53)
(.seq (.ops [
.op ⟨(some 6), (.pure (.mv (.const (.bool false)))), none⟩])
(.ret))
(.skip)))
(.seq (.seq (.ops [
.op ⟨(some 54), (.pure (.mv (.tmp 10))), none⟩,
.op ⟨(some 55), (.pure (.mv (.tmp 2))), none⟩,
.op ⟨(some 56), (.eff (.call 21 [(.tmp 55)])), none⟩,
.op ⟨(some 57), (.eff (.call 23 [(.tmp 54), (.tmp 56)])), none⟩,
.op ⟨(some 58), (.pure (.bnot (.tmp 57))), none⟩])
(.cond (.tmp 58)
(.seq (.ops [
.op ⟨(some 6), (.pure (.mv (.const (.bool false)))), none⟩])
(.ret))
(.skip)))
(.seq (.ops [
.op ⟨(some 6), (.pure (.mv (.const (.bool true)))), none⟩])
(.ret))))))))))),
[.tmp 6]⟩
theorem r_laws_FnExactLineGlances : resFun Try.prog f_laws_FnExactLineGlances = some c_laws_FnExactLineGlances := by kernel_rfl

/- loop.example/g00940/laws.FnExactStuckAt -/
abbrev f_laws_FnExactStuckAt : Nat := 7
def c_laws_FnExactStuckAt : MFun := ⟨68, .seq (.ops [
.op ⟨(some 3), (.eff (.box 23 (.tmp 0))), none⟩,
.op ⟨(some 6), (.pure (.mv (.const (.bool false)))), none⟩])
(.seq (.seq (.ops [
.op ⟨(some 15), (.pure (.mv (.tmp 1))), none⟩,
.op ⟨(some 16), (.pure (.len (.tmp 15))), none⟩,
.op ⟨(some 17), (.pure (.bin .gtr (.tmp 16) (.const (.int .i64 (1048576))))), none⟩])
(.cond (.tmp 17)
(.seq (.ops [
.op ⟨(some 6), (.pure (.mv (.const (.bool true)))), none⟩])
(.ret))
(.skip)))
(.seq (.seq (.ops [
.op ⟨(some 18), (.pure (.mv (.tmp 2))), none⟩,
.op ⟨(some 19), (.pure (.len (.tmp 18))), none⟩,
.op ⟨(some 20), (.pure (.bin .gtr (.tmp 19) (.const (.int .i64 (1048576))))), none⟩])
(.cond (.tmp 20)
(.seq (.ops [
.op ⟨(some 6), (.pure (.mv (.const (.bool true)))), none⟩])
(.ret))
(.skip)))
(.seq (.ops [
.op ⟨(some 22), (.load (some 2) (.tmp 3)), none⟩,
.op ⟨(some 23), (.eff (.call 16 [(.tmp 22)])), none⟩,
.op ⟨(some 24), (.pure (.mv (.tmp 1))), none⟩,
.op ⟨(some 25), (.eff (.call 21 [(.tmp 24)])), none⟩,
.op ⟨(some 26), (.pure (.mv (.tmp 2))), none⟩,
.op ⟨(some 27), (.eff (.call 21 [(.tmp 26)])), none⟩,
.op ⟨(some 28), (.eff (.call 28 [(.tmp 23), (.tmp 25), (.tmp 27)])), none⟩,
.op ⟨(some 21), (.pure (.mv (.tmp 28))), none⟩,
.op ⟨(some 29), (.pure (.ext 0 (.tmp 21))), none⟩,
.op ⟨(some 30), (.pure (.ext 1 (.tmp 21))), none⟩,
.op ⟨(some 31), (.pure (.ext 2 (.tmp 21))), none⟩,
.op ⟨(some 7), (.pure (.mv (.tmp 29))), none⟩,
.op ⟨(some 8), (.pure (.mv (.tmp 30))), none⟩,
.op ⟨(some 9), (.pure (.mv (.tmp 31))), none⟩])
(.seq (.ops [
.op ⟨(some 32), (.pure (.mv (.tmp 1))), none⟩,
.op ⟨(some 33), (.eff (.call 21 [(.tmp 32)])), none⟩,
.op ⟨(some 10), (.pure (.mv (.tmp 33))), none⟩])
(.seq (.ops [
.op ⟨(some 34), (.pure (.mv (.tmp 2))), none⟩,
.op ⟨(some 35), (.eff (.call 21 [(.tmp 34)])), none⟩,
.op ⟨(some 11), (.pure (.mv (.tmp 35))), none⟩])
(.seq (.ops [
.op ⟨(some 37), (.load (some 2) (.tmp 3)), none⟩,
.op ⟨(some 38), (.eff (.call 16 [(.tmp 37)])), none⟩,
.op ⟨(some 39), (.pure (.mv (.tmp 10))), none⟩,
.op ⟨(some 40), (.pure (.mv (.tmp 11))), none⟩,
.op ⟨(some 41), (.eff (.call 29 [(.tmp 38), (.tmp 39), (.tmp 40)])), none⟩,
.op ⟨(some 36), (.pure (.mv (.tmp 41))), none⟩,
.op ⟨(some 42), (.pure (.ext 0 (.tmp 36))), none⟩,
.op ⟨(some 43), (.pure (.ext 1 (.tmp 36))), none⟩,
.op ⟨(some 44), (.pure (.ext 2 (.tmp 36))), none⟩,
.op ⟨(some 12), (.pure (.mv (.tmp 42))), none⟩,
.op ⟨(some 13), (.pure (.mv (.tmp 43))), none⟩,
.op ⟨(some 14), (.pure (.mv (.tmp 44))), none⟩])
(.seq (.seq (.ops [
.op ⟨(some 45), (.pure (.mv (.tmp 12))), none⟩,
.op ⟨(some 46), (.pure (.mv (.tmp 7))), none⟩,
.op ⟨(some 47), (.pure (.bin .neq (.tmp 45) (.tmp 46))), none⟩,
.op ⟨(some 48), (.pure (.mv (.tmp 47))), none⟩,
.split 48,
.op ⟨(some 49), (.pure (.mv (.tmp 13))), (some (48, false))⟩,
.op ⟨(some 50), (.pure (.mv (.tmp 8))), (some (48, false))⟩,
.op ⟨(some 51), (.pure (.bin .neq (.tmp 49) (.tmp 50))), (some (48, false))⟩,
.op ⟨(some 52), (.pure (.pick (.tmp 48) (.const (.bool true)) (.tmp 51))), none⟩,
.op ⟨(some 53), (.pure (.mv (.tmp 52))), none⟩,
.split 53,
.op ⟨(some 54), (.pure (.mv (.tmp 14))), (some (53, false))⟩,
.op ⟨(some 55), (.pure (.mv (.tmp 9))), (some (53, false))⟩,
.op ⟨(some 56), (.pure (.eqb true (.tmp 54) (.tmp 55))), (some (53, false))⟩,
.op ⟨(some 57), (.pure (.pick (.tmp 53) (.const (.bool true)) (.tmp 56))), none⟩])
(.cond (.tmp 57)
(.seq (.ops [
.op ⟨(some 6), (.pure (.mv (.const (.bool false)))), none⟩])
(.ret))
(.skip)))
(.seq (.seq (.ops [
.op ⟨(some 58), (.pure (.mv (.tmp 10))), none⟩,
.op ⟨(some 59), (.pure (.mv (.tmp 1))), none⟩,
.op ⟨(some 60), (.eff (.call 21 [(.tmp 59)])), none⟩,
.op ⟨(some 61), (.eff (.call 23 [(.tmp 58), (.tmp 60)])), none⟩,
.op ⟨(some 62), (.pure (.bnot (.tmp 61))), none⟩])
(.cond (.tmp 62)
(.seq (.ops [
.op ⟨(some 6), (.pure (.mv (.const (.bool false)))), none⟩])
(.ret))
(.skip)))
(.seq (.seq (.ops [
.op ⟨(some 63), (.pure (.mv (.tmp 11))), none⟩,
.op ⟨(some 64), (.pure (.mv (.tmp 2))), none⟩,
.op ⟨(some 65), (.eff (.call 21 [(.tmp 64)])), none⟩,
.op ⟨(some 66), (.eff (.call 23 [(.tmp 63), (.tmp 65)])), none⟩,
.op ⟨(some 67), (.pure (.bnot (.tmp 66))), none⟩])
(.cond (.tmp 67)
(.seq (.ops [
.op ⟨(some 6), (.pure (.mv (.const (.bool false)))), none⟩])
(.ret))
(.skip)))
(.seq (.ops [
.op ⟨(some 6), (.pure (.mv (.const (.bool true)))), none⟩])
(.ret))))))))))),
[.tmp 6]⟩
theorem r_laws_FnExactStuckAt : resFun Try.prog f_laws_FnExactStuckAt = some c_laws_FnExactStuckAt := by kernel_rfl

/- loop.example/g00940/laws.FnExactLeastLineTries -/
abbrev f_laws_FnExactLeastLineTries : Nat := 8
def c_laws_FnExactLeastLineTries : MFun := ⟨59, .seq (.ops [
.op ⟨(some 3), (.eff (.box 23 (.tmp 0))), none⟩,
.op ⟨(some 6), (.pure (.mv (.const (.bool false)))), none⟩])
(.seq (.seq (.ops [
.op ⟨(some 13), (.pure (.mv (.tmp 1))), none⟩,
.op ⟨(some 14), (.pure (.len (.tmp 13))), none⟩,
.op ⟨(some 15), (.pure (.bin .gtr (.tmp 14) (.const (.int .i64 (1048576))))), none⟩])
(.cond (.tmp 15)
(.seq (.ops [
.op ⟨(some 6), (.pure (.mv (.const (.bool true)))), none⟩])
(.ret))
(.skip)))
(.seq (.seq (.ops [
.op ⟨(some 16), (.pure (.mv (.tmp 2))), none⟩,
.op ⟨(some 17), (.pure (.len (.tmp 16))), none⟩,
.op ⟨(some 18), (.pure (.bin .gtr (.tmp 17) (.const (.int .i64 (1048576))))), none⟩])
(.cond (.tmp 18)
(.seq (.ops [
.op ⟨(some 6), (.pure (.mv (.const (.bool true)))), none⟩])
(.ret))
(.skip)))
(.seq (.ops [
.op ⟨(some 20), (.load (some 2) (.tmp 3)), none⟩,
.op ⟨(some 21), (.eff (.call 16 [(.tmp 20)])), none⟩,
.op ⟨(some 22), (.pure (.mv (.tmp 1))), none⟩,
.op ⟨(some 23), (.eff (.call 21 [(.tmp 22)])), none⟩,
.op ⟨(some 24), (.pure (.mv (.tmp 2))), none⟩,
.op ⟨(some 25), (.eff (.call 21 [(.tmp 24)])), none⟩,
.op ⟨(some 26), (.eff (.call 30 [(.tmp 21), (.tmp 23), (.tmp 25)])), none⟩,
.op ⟨(some 19), (.pure (.mv (.tmp 26))), none⟩,
.op ⟨(some 27), (.pure (.ext 0 (.tmp 19))), none⟩,
.op ⟨(some 28), (.pure (.ext 1 (.tmp 19))), none⟩,
.op ⟨(some 7), (.pure (.mv (.tmp 27))), none⟩,
.op ⟨(some 8), (.pure (.mv (.tmp 28))), none⟩])
(.seq (.ops [
.op ⟨(some 29), (.pure (.mv (.tmp 1))), none⟩,
.op ⟨(some 30), (.eff (.call 21 [(.tmp 29)])), none⟩,
.op ⟨(some 9), (.pure (.mv (.tmp 30))), none⟩])
(.seq (.ops [
.op ⟨(some 31), (.pure (.mv (.tmp 2))), none⟩,
.op ⟨(some 32), (.eff (.call 21 [(.tmp 31)])), none⟩,
.op ⟨(some 10), (.pure (.mv (.tmp 32))), none⟩])
(.seq (.ops [
.op ⟨(some 34), (.load (some 2) (.tmp 3)), none⟩,
.op ⟨(some 35), (.eff (.call 16 [(.tmp 34)])), none⟩,
.op ⟨(some 36), (.pure (.mv (.tmp 9))), none⟩,
.op ⟨(some 37), (.pure (.mv (.tmp 10))), none⟩,
.op ⟨(some 38), (.eff (.call 31 [(.tmp 35), (.tmp 36), (.tmp 37)])), none⟩,
.op ⟨(some 33), (.pure (.mv (.tmp 38))), none⟩,
.op ⟨(some 39), (.pure (.ext 0 (.tmp 33))), none⟩,
.op ⟨(some 40), (.pure (.ext 1 (.tmp 33))), none⟩,
.op ⟨(some 11), (.pure (.mv (.tmp 39))), none⟩,
.op ⟨(some 12), (.pure (.mv (.tmp 40))), none⟩])
(.seq (.seq (.ops [
.op ⟨(some 41), (.pure (.mv (.tmp 11))), none⟩,
.op ⟨(some 42), (.pure (.mv (.tmp 7))), none⟩,
.op ⟨(some 43), (.pure (.bin .neq (.tmp 41) (.tmp 42))), none⟩,
.op ⟨(some 44), (.pure (.mv (.tmp 43))), none⟩,
.split 44,
.op ⟨(some 45), (.pure (.mv (.tmp 12))), (some (44, false))⟩,
.op ⟨(some 46), (.pure (.mv (.tmp 8))), (some (44, false))⟩,
.op ⟨(some 47), (.pure (.eqb true (.tmp 45) (.tmp 46))), (some (44, false))⟩,
.op ⟨(some 48), (.pure (.pick (.tmp 44) (.const (.bool true)) (.tmp 47))), none⟩])
(.cond (.tmp 48)
(.seq (.ops [
.op ⟨(some 6), (.pure (.mv (.const (.bool false)))), none⟩])
(.ret))
(.skip)))
(.seq (.seq (.ops [
.op ⟨(some 49), (.pure (.mv (.tmp 9))), none⟩,
.op ⟨(some 50), (.pure (.mv (.tmp 1))), none⟩,
.op ⟨(some 51), (.eff (.call 21 [(.tmp 50)])), none⟩,
.op ⟨(some 52), (.eff (.call 23 [(.tmp 49), (.tmp 51)])), none⟩,
.op ⟨(some 53), (.pure (.bnot (.tmp 52))), none⟩])
(.cond (.tmp 53)
(.seq (.ops [
.op ⟨(some 6), (.pure (.mv (.const (.bool false)))), none⟩])
(.ret))
(.skip)))
(.seq (.seq (.ops [
.op ⟨(some 54), (.pure (.mv (.tmp 10))), none⟩,
.op ⟨(some 55), (.pure (.mv (.tmp 2))), none⟩,
.op ⟨(some 56), (.eff (.call 21 [(.tmp 55)])), none⟩,
.op ⟨(some 57), (.eff (.call 23 [(.tmp 54), (.tmp 56)])), none⟩,
.op ⟨(some 58), (.pure (.bnot (.tmp 57))), none⟩])
(.cond (.tmp 58)
(.seq (.ops [
.op ⟨(some 6), (.pure (.mv (.const (.bool false)))), none⟩])
(.ret))
(.skip)))
(.seq (.ops [
.op ⟨(some 6), (.pure (.mv (.const (.bool true)))), none⟩])
(.ret))))))))))),
[.tmp 6]⟩
theorem r_laws_FnExactLeastLineTries : resFun Try.prog f_laws_FnExactLeastLineTries = some c_laws_FnExactLeastLineTries := by kernel_rfl

/- loop.example/g00940/laws.FnExactHeldAtTower -/
abbrev f_laws_FnExactHeldAtTower : Nat := 9
def c_laws_FnExactHeldAtTower : MFun := ⟨127, .seq (.ops [
.op ⟨(some 4), (.eff (.box 23 (.tmp 0))), none⟩,
.op ⟨(some 8), (.pure (.mv (.const (.bool false)))), none⟩])
(.seq (.seq (.ops [
.op ⟨(some 20), (.pure (.mv (.tmp 1))), none⟩,
.op ⟨(some 21), (.pure (.len (.tmp 20))), none⟩,
.op ⟨(some 22), (.pure (.bin .gtr (.tmp 21) (.const (.int .i64 (1048576))))), none⟩])
(.cond (.tmp 22)
(.seq (.ops [
.op ⟨(some 8), (.pure (.mv (.const (.bool true)))), none⟩])
(.ret))
(.skip)))
(.seq (.seq (.ops [
.op ⟨(some 23), (.pure (.mv (.tmp 2))), none⟩,
.op ⟨(some 24), (.pure (.len (.tmp 23))), none⟩,
.op ⟨(some 25), (.pure (.bin .gtr (.tmp 24) (.const (.int .i64 (1048576))))), none⟩])
(.cond (.tmp 25)
(.seq (.ops [
.op ⟨(some 8), (.pure (.mv (.const (.bool true)))), none⟩])
(.ret))
(.skip)))
(.seq (.ops [
.op ⟨(some 27), (.load (some 2) (.tmp 4)), none⟩,
.op ⟨(some 28), (.eff (.call 16 [(.tmp 27)])), none⟩,
.op ⟨(some 29), (.pure (.mv (.tmp 1))), none⟩,
.op ⟨(some 30), (.eff (.call 21 [(.tmp 29)])), none⟩,
.op ⟨(some 31), (.pure (.mv (.tmp 2))), none⟩,
.op ⟨(some 32), (.eff (.call 21 [(.tmp 31)])), none⟩,
.op ⟨(some 33), (.pure (.mv (.tmp 3))), none⟩,
.op ⟨(some 34), (.eff (.call 32 [(.tmp 28), (.tmp 30), (.tmp 32), (.tmp 33)])), none⟩,
.op ⟨(some 26), (.pure (.mv (.tmp 34))), none⟩,
.op ⟨(some 35), (.pure (.ext 0 (.tmp 26))), none⟩,
.op ⟨(some 36), (.pure (.ext 1 (.tmp 26))), none⟩,
.op ⟨(some 9), (.pure (.mv (.tmp 35))), none⟩,
.op ⟨(some 10), (.pure (.mv (.tmp 36))), none⟩])
(.seq (.ops [
.op ⟨(some 37), (.pure (.mv (.tmp 1))), none⟩,
.op ⟨(some 38), (.eff (.call 21 [(.tmp 37)])), none⟩,
.op ⟨(some 11), (.pure (.mv (.tmp 38))), none⟩])
(.seq (.ops [
.op ⟨(some 39), (.pure (.mv (.tmp 2))), none⟩,
.op ⟨(some 40), (.eff (.call 21 [(.tmp 39)])), none⟩,
.op ⟨(some 12), (.pure (.mv (.tmp 40))), none⟩])
(.seq (.ops [
.op ⟨(some 42), (.load (some 2) (.tmp 4)), none⟩,
.op ⟨(some 43), (.eff (.call 16 [(.tmp 42)])), none⟩,
.op ⟨(some 44), (.pure (.mv (.tmp 11))), none⟩,
.op ⟨(some 45), (.pure (.mv (.tmp 12))), none⟩,
.op ⟨(some 46), (.pure (.mv (.tmp 3))), none⟩,
.op ⟨(some 47), (.eff (.call 33 [(.tmp 43), (.tmp 44), (.tmp 45), (.tmp 46)])), none⟩,
.op ⟨(some 41), (.pure (.mv (.tmp 47))), none⟩,
.op ⟨(some 48), (.pure (.ext 0 (.tmp 41))), none⟩,
.op ⟨(some 49), (.pure (.ext 1 (.tmp 41))), none⟩,
.op ⟨(some 13), (.pure (.mv (.tmp 48))), none⟩,
.op ⟨(some 14), (.pure (.mv (.tmp 49))), none⟩])
(.seq (.seq (.ops [
.op ⟨(some 50), (.pure (.mv (.tmp 13))), none⟩,
.op ⟨(some 51), (.pure (.mv (.tmp 9))), none⟩,
.op ⟨(some 52), (.eff (.call 23 [(.tmp 50), (.tmp 51)])), none⟩,
.op ⟨(some 53), (.pure (.bnot (.tmp 52))), none⟩,
.op ⟨(some 54), (.pure (.mv (.tmp 53))), none⟩,
.split 54,
.op ⟨(some 55), (.pure (.mv (.tmp 14))), (some (54, false))⟩,
.op ⟨(some 56), (.pure (.mv (.tmp 10))), (some (54, false))⟩,
.op ⟨(some 57), (.pure (.eqb true (.tmp 55) (.tmp 56))), (some (54, false))⟩,
.op ⟨(some 58), (.pure (.pick (.tmp 54) (.const (.bool true)) (.tmp 57))), none⟩])
(.cond (.tmp 58)
(.seq (.ops [
.op ⟨(some 8), (.pure (.mv (.const (.bool false)))), none⟩])
(.ret))
(.skip)))
(.seq (.seq (.ops [
.op ⟨(some 59), (.pure (.mv (.tmp 11))), none⟩,
.op ⟨(some 60), (.pure (.mv (.tmp 1))), none⟩,
.op ⟨(some 61), (.eff (.call 21 [(.tmp 60)])), none⟩,
.op ⟨(some 62), (.eff (.call 23 [(.tmp 59), (.tmp 61)])), none⟩,
.op ⟨(some 63), (.pure (.bnot (.tmp 62))), none⟩])
(.cond (.tmp 63)
(.seq (.ops [
.op ⟨(some 8), (.pure (.mv (.const (.bool false)))), none⟩])
(.ret))
(.skip)))
(.seq (.seq (.ops [
.op ⟨(some 64), (.pure (.mv (.tmp 12))), none⟩,
.op ⟨(some 65), (.pure (.mv (.tmp 2))), none⟩,
.op ⟨(some 66), (.eff (.call 21 [(.tmp 65)])), none⟩,
.op ⟨(some 67), (.eff (.call 23 [(.tmp 64), (.tmp 66)])), none⟩,
.op ⟨(some 68), (.pure (.bnot (.tmp 67))), none⟩])
(.cond (.tmp 68)
(.seq (.ops [
.op ⟨(some 8), (.pure (.mv (.const (.bool false)))), none⟩])
(.ret))
(.skip)))
(.seq (.ops [
.op ⟨(some 15), (.pure (.mv (.const (.int .i64 (1))))), none⟩])
(.seq (.ops [
.op ⟨(some 69), (.pure (.mv (.tmp 11))), none⟩,
.op ⟨(some 70), (.pure (.mv (.tmp 15))), none⟩,
.op ⟨(some 71), (.eff (.call 24 [(.tmp 69), (.tmp 70)])), none⟩,
.op ⟨(some 15), (.pure (.mv (.tmp 71))), none⟩])
(.seq (.ops [
.op ⟨(some 72), (.pure (.mv (.tmp 12))), none⟩,
.op ⟨(some 73), (.pure (.mv (.tmp 15))), none⟩,
.op ⟨(some 74), (.eff (.call 24 [(.tmp 72), (.tmp 73)])), none⟩,
.op ⟨(some 15), (.pure (.mv (.tmp 74))), none⟩])
(.seq (.seq (.ops [
.op ⟨(some 75), (.pure (.mv (.tmp 15))), none⟩,
.op ⟨(some 76), (.pure (.bin .lss (.tmp 75) (.const (.int .i64 (0))))), none⟩,
.op ⟨(some 77), (.pure (.mv (.tmp 76))), none⟩,
.split 77,
.op ⟨(some 78), (.pure (.mv (.tmp 13))), (some (77, false))⟩,
.op ⟨(some 79), (.pure (.mv (.tmp 9))), (some (77, false))⟩,
.op ⟨(some 80), (.eff (.call 23 [(.tmp 78), (.tmp 79)])), (some (77, false))⟩,
.op ⟨(some 81), (.pure (.bnot (.tmp 80))), (some (77, false))⟩,
.op ⟨(some 82), (.pure (.pick (.tmp 77) (.const (.bool true)) (.tmp 81))), none⟩,
.op ⟨(some 83), (.pure (.mv (.tmp 82))), none⟩,
.split 83,
.op ⟨(some 84), (.pure (.mv (.tmp 14))), (some (83, false))⟩,
.op ⟨(some 85), (.pure (.mv (.tmp 10))), (some (83, false))⟩,
.op ⟨(some 86), (.pure (.eqb true (.tmp 84) (.tmp 85))), (some (83, false))⟩,
.op ⟨(some 87), (.pure (.pick (.tmp 83) (.const (.bool true)) (.tmp 86))), none⟩])
(.cond (.tmp 87)
(.seq (.ops [
.op ⟨(some 8), (.pure (.mv (.const (.bool false)))), none⟩])
(.ret))
(.skip)))
(.seq (.ops [
.op ⟨(some 16), (.pure (.mv (.const (.int .i64 (1))))), none⟩])
(.seq (.ops [
.op ⟨(some 88), (.pure (.mv (.tmp 13))), none⟩,
.op ⟨(some 89), (.pure (.mv (.tmp 16))), none⟩,
.op ⟨(some 90), (.eff (.call 24 [(.tmp 88), (.tmp 89)])), none⟩,
.op ⟨(some 16), (.pure (.mv (.tmp 90))), none⟩])
(.seq (.ops [
.op ⟨(some 17), (.pure (.mv (.const (.int .i64 (1))))), none⟩])
(.seq (.ops [
.op ⟨(some 91), (.pure (.mv (.tmp 13))), none⟩,
.op ⟨(some 92), (.pure (.mv (.tmp 17))), none⟩,
.op ⟨(some 93), (.eff (.call 25 [(.tmp 91), (.tmp 92)])), none⟩,
.op ⟨(some 17), (.pure (.mv (.tmp 93))), none⟩])
(.seq (.seq (.ops [
.op ⟨(some 94), (.pure (.mv (.tmp 17))), none⟩,
.op ⟨(some 95), (.pure (.bin .lss (.tmp 94) (.const (.int .i64 (0))))), none⟩])
(.cond (.tmp 95)
(.seq (.ops [
.op ⟨(some 8), (.pure (.mv (.const (.bool false)))), none⟩])
(.ret))
(.skip)))
(.seq (.seq (.ops [
.op ⟨(some 96), (.pure (.mv (.tmp 17))), none⟩,
.op ⟨(some 97), (.pure (.mv (.tmp 16))), none⟩,
.op ⟨(some 98), (.pure (.bin .neq (.tmp 96) (.tmp 97))), none⟩])
(.cond (.tmp 98)
(.seq (.ops [
.op ⟨(some 8), (.pure (.mv (.const (.bool false)))), none⟩])
(.ret))
(.skip)))
(.seq (.ops [
.op ⟨(some 100), (.load (some 2) (.tmp 4)), none⟩,
.op ⟨(some 101), (.eff (.call 16 [(.tmp 100)])), none⟩,
.op ⟨(some 102), (.pure (.mv (.tmp 1))), none⟩,
.op ⟨(some 103), (.eff (.call 21 [(.tmp 102)])), none⟩,
.op ⟨(some 104), (.pure (.mv (.tmp 2))), none⟩,
.op ⟨(some 105), (.eff (.call 21 [(.tmp 104)])), none⟩,
.op ⟨(some 106), (.pure (.mv (.tmp 3))), none⟩,
.op ⟨(some 107), (.eff (.call 33 [(.tmp 101), (.tmp 103), (.tmp 105), (.tmp 106)])), none⟩,
.op ⟨(some 99), (.pure (.mv (.tmp 107))), none⟩,
.op ⟨(some 108), (.pure (.ext 0 (.tmp 99))), none⟩,
.op ⟨(some 109), (.pure (.ext 1 (.tmp 99))), none⟩,
.op ⟨(some 18), (.pure (.mv (.tmp 108))), none⟩,
.op ⟨(some 19), (.pure (.mv (.tmp 109))), none⟩])
(.seq (.seq (.ops [
.op ⟨(some 110), (.pure (.mv (.tmp 18))), none⟩,
.op ⟨(some 111), (.pure (.mv (.tmp 9))), none⟩,
.op ⟨(some 112), (.eff (.call 23 [(.tmp 110), (.tmp 111)])), none⟩,
.op ⟨(some 113), (.pure (.bnot (.tmp 112))), none⟩,
.op ⟨(some 114), (.pure (.mv (.tmp 113))), none⟩,
.split 114,
.op ⟨(some 115), (.pure (.mv (.tmp 19))), (some (114, false))⟩,
.op ⟨(some 116), (.pure (.mv (.tmp 10))), (some (114, false))⟩,
.op ⟨(some 117), (.pure (.eqb true (.tmp 115) (.tmp 116))), (some (114, false))⟩,
.op ⟨(some 118), (.pure (.pick (.tmp 114) (.const (.bool true)) (.tmp 117))), none⟩])
(.cond (.tmp 118)
(.seq (.ops [
.op ⟨(some 8), (.pure (.mv (.const (.bool false)))), none⟩])
(.ret))
(.skip)))
(.seq (.ops [
.op ⟨(some 17), (.pure (.mv (.const (.int .i64 (1))))), none⟩])
(.seq (.ops [
.op ⟨(some 119), (.pure (.mv (.tmp 13))), none⟩,
.op ⟨(some 120), (.pure (.mv (.tmp 17))), none⟩,
.op ⟨(some 121), (.eff (.call 25 [(.tmp 119), (.tmp 120)])), none⟩,
.op ⟨(some 17), (.pure (.mv (.tmp 121))), none⟩])
(.seq (.seq (.ops [
.op ⟨(some 122), (.pure (.mv (.tmp 17))), none⟩,
.op ⟨(some 123), (.pure (.bin .lss (.tmp 122) (.const (.int .i64 (0))))), none⟩])
(.cond (.tmp 123)
(.seq (.ops [
.op ⟨(some 8), (.pure (.mv (.const (.bool false)))), none⟩])
(.ret))
(.skip)))
(.seq (.seq (.ops [
.op ⟨(some 124), (.pure (.mv (.tmp 17))), none⟩,
.op ⟨(some 125), (.pure (.mv (.tmp 16))), none⟩,
.op ⟨(some 126), (.pure (.bin .neq (.tmp 124) (.tmp 125))), none⟩])
(.cond (.tmp 126)
(.seq (.ops [
.op ⟨(some 8), (.pure (.mv (.const (.bool false)))), none⟩])
(.ret))
(.skip)))
(.seq (.ops [
.op ⟨(some 8), (.pure (.mv (.const (.bool true)))), none⟩])
(.ret))))))))))))))))))))))))))),
[.tmp 8]⟩
theorem r_laws_FnExactHeldAtTower : resFun Try.prog f_laws_FnExactHeldAtTower = some c_laws_FnExactHeldAtTower := by kernel_rfl

/- loop.example/g00940/laws.FnExactPassLine -/
abbrev f_laws_FnExactPassLine : Nat := 10
def c_laws_FnExactPassLine : MFun := ⟨143, .seq (.ops [
.op ⟨(some 3), (.eff (.box 23 (.tmp 0))), none⟩,
.op ⟨(some 6), (.pure (.mv (.const (.bool false)))), none⟩])
(.seq (.seq (.ops [
.op ⟨(some 21), (.pure (.mv (.tmp 1))), none⟩,
.op ⟨(some 22), (.pure (.len (.tmp 21))), none⟩,
.op ⟨(some 23), (.pure (.bin .gtr (.tmp 22) (.const (.int .i64 (1048576))))), none⟩])
(.cond (.tmp 23)
(.seq (.ops [
.op ⟨(some 6), (.pure (.mv (.const (.bool true)))), none⟩])
(.ret))
(.skip)))
(.seq (.seq (.ops [
.op ⟨(some 24), (.pure (.mv (.tmp 2))), none⟩,
.op ⟨(some 25), (.pure (.len (.tmp 24))), none⟩,
.op ⟨(some 26), (.pure (.bin .gtr (.tmp 25) (.const (.int .i64 (1048576))))), none⟩])
(.cond (.tmp 26)
(.seq (.ops [
.op ⟨(some 6), (.pure (.mv (.const (.bool true)))), none⟩])
(.ret))
(.skip)))
(.seq (.ops [
.op ⟨(some 28), (.load (some 2) (.tmp 3)), none⟩,
.op ⟨(some 29), (.eff (.call 16 [(.tmp 28)])), none⟩,
.op ⟨(some 30), (.pure (.mv (.tmp 1))), none⟩,
.op ⟨(some 31), (.eff (.call 21 [(.tmp 30)])), none⟩,
.op ⟨(some 32), (.pure (.mv (.tmp 2))), none⟩,
.op ⟨(some 33), (.eff (.call 21 [(.tmp 32)])), none⟩,
.op ⟨(some 34), (.eff (.call 34 [(.tmp 29), (.tmp 31), (.tmp 33)])), none⟩,
.op ⟨(some 27), (.pure (.mv (.tmp 34))), none⟩,
.op ⟨(some 35), (.pure (.ext 0 (.tmp 27))), none⟩,
.op ⟨(some 36), (.pure (.ext 1 (.tmp 27))), none⟩,
.op ⟨(some 37), (.pure (.ext 2 (.tmp 27))), none⟩,
.op ⟨(some 7), (.pure (.mv (.tmp 35))), none⟩,
.op ⟨(some 8), (.pure (.mv (.tmp 36))), none⟩,
.op ⟨(some 9), (.pure (.mv (.tmp 37))), none⟩])
(.seq (.ops [
.op ⟨(some 38), (.pure (.mv (.tmp 1))), none⟩,
.op ⟨(some 39), (.eff (.call 21 [(.tmp 38)])), none⟩,
.op ⟨(some 10), (.pure (.mv (.tmp 39))), none⟩])
(.seq (.ops [
.op ⟨(some 40), (.pure (.mv (.tmp 2))), none⟩,
.op ⟨(some 41), (.eff (.call 21 [(.tmp 40)])), none⟩,
.op ⟨(some 11), (.pure (.mv (.tmp 41))), none⟩])
(.seq (.ops [
.op ⟨(some 43), (.load (some 2) (.tmp 3)), none⟩,
.op ⟨(some 44), (.eff (.call 16 [(.tmp 43)])), none⟩,
.op ⟨(some 45), (.pure (.mv (.tmp 10))), none⟩,
.op ⟨(some 46), (.pure (.mv (.tmp 11))), none⟩,
.op ⟨(some 47), (.eff (.call 35 [(.tmp 44), (.tmp 45), (.tmp 46)])), none⟩,
.op ⟨(some 42), (.pure (.mv (.tmp 47))), none⟩,
.op ⟨(some 48), (.pure (.ext 0 (.tmp 42))), none⟩,
.op ⟨(some 49), (.pure (.ext 1 (.tmp 42))), none⟩,
.op ⟨(some 50), (.pure (.ext 2 (.tmp 42))), none⟩,
.op ⟨(some 12), (.pure (.mv (.tmp 48))), none⟩,
.op ⟨(some 13), (.pure (.mv (.tmp 49))), none⟩,
.op ⟨(some 14), (.pure (.mv (.tmp 50))), none⟩])
(.seq (.seq (.ops [
.op ⟨(some 51), (.pure (.mv (.tmp 12))), none⟩,
.op ⟨(some 52), (.pure (.mv (.tmp 7))), none⟩,
.op ⟨(some 53), (.eff (.call 23 [(.tmp 51), (.tmp 52)])), none⟩,
.op ⟨(some 54), (.pure (.bnot (.tmp 53))), none⟩,
.op ⟨(some 55), (.pure (.mv (.tmp 54))), none⟩,
.split 55,
.op ⟨(some 56), (.pure (.mv (.tmp 13))), (some (55, false))⟩,
.op ⟨(some 57), (.pure (.mv (.tmp 8))), (some (55, false))⟩,
.op ⟨(some 58), (.pure (.eqb true (.tmp 56) (.tmp 57))), (some (55, false))⟩,
.op ⟨(some 59), (.pure (.pick (.tmp 55) (.const (.bool true)) (.tmp 58))), none⟩,
.op ⟨(some 60), (.pure (.mv (.tmp 59))), none⟩,
.split 60,
.op ⟨(some 61), (.pure (.mv (.tmp 14))), (some (60, false))⟩,
.op ⟨(some 62), (.pure (.mv (.tmp 9))), (some (60, false))⟩,
.op ⟨(some 63), (.pure (.eqb true (.tmp 61) (.tmp 62))), (some (60, false))⟩,
.op ⟨(some 64), (.pure (.pick (.tmp 60) (.const (.bool true)) (.tmp 63))), none⟩])
(.cond (.tmp 64)
(.seq (.ops [
.op ⟨(some 6), (.pure (.mv (.const (.bool false)))), none⟩])
(.ret))
(.skip)))
(.seq (.seq (.ops [
.op ⟨(some 65), (.pure (.mv (.tmp 10))), none⟩,
.op ⟨(some 66), (.pure (.mv (.tmp 1))), none⟩,
.op ⟨(some 67), (.eff (.call 21 [(.tmp 66)])), none⟩,
.op ⟨(some 68), (.eff (.call 23 [(.tmp 65), (.tmp 67)])), none⟩,
.op ⟨(some 69), (.pure (.bnot (.tmp 68))), none⟩])
(.cond (.tmp 69)
(.seq (.ops [
.op ⟨(some 6), (.pure (.mv (.const (.bool false)))), none⟩])
(.ret))
(.skip)))
(.seq (.seq (.ops [
.op ⟨(some 70), (.pure (.mv (.tmp 11))), none⟩,
.op ⟨(some 71), (.pure (.mv (.tmp 2))), none⟩,
.op ⟨(some 72), (.eff (.call 21 [(.tmp 71)])), none⟩,
.op ⟨(some 73), (.eff (.call 23 [(.tmp 70), (.tmp 72)])), none⟩,
.op ⟨(some 74), (.pure (.bnot (.tmp 73))), none⟩])
(.cond (.tmp 74)
(.seq (.ops [
.op ⟨(some 6), (.pure (.mv (.const (.bool false)))), none⟩])
(.ret))
(.skip)))
(.seq (.ops [
.op ⟨(some 15), (.pure (.mv (.const (.int .i64 (1))))), none⟩])
(.seq (.ops [
.op ⟨(some 75), (.pure (.mv (.tmp 10))), none⟩,
.op ⟨(some 76), (.pure (.mv (.tmp 15))), none⟩,
.op ⟨(some 77), (.eff (.call 24 [(.tmp 75), (.tmp 76)])), none⟩,
.op ⟨(some 15), (.pure (.mv (.tmp 77))), none⟩])
(.seq (.ops [
.op ⟨(some 78), (.pure (.mv (.tmp 11))), none⟩,
.op ⟨(some 79), (.pure (.mv (.tmp 15))), none⟩,
.op ⟨(some 80), (.eff (.call 24 [(.tmp 78), (.tmp 79)])), none⟩,
.op ⟨(some 15), (.pure (.mv (.tmp 80))), none⟩])
(.seq (.seq (.ops [
.op ⟨(some 81), (.pure (.mv (.tmp 15))), none⟩,
.op ⟨(some 82), (.pure (.bin .lss (.tmp 81) (.const (.int .i64 (0))))), none⟩,
.op ⟨(some 83), (.pure (.mv (.tmp 82))), none⟩,
.split 83,
.op ⟨(some 84), (.pure (.mv (.tmp 12))), (some (83, false))⟩,
.op ⟨(some 85), (.pure (.mv (.tmp 7))), (some (83, false))⟩,
.op ⟨(some 86), (.eff (.call 23 [(.tmp 84), (.tmp 85)])), (some (83, false))⟩,
.op ⟨(some 87), (.pure (.bnot (.tmp 86))), (some (83, false))⟩,
.op ⟨(some 88), (.pure (.pick (.tmp 83) (.const (.bool true)) (.tmp 87))), none⟩,
.op ⟨(some 89), (.pure (.mv (.tmp 88))), none⟩,
.split 89,
.op ⟨(some 90), (.pure (.mv (.tmp 13))), (some (89, false))⟩,
.op ⟨(some 91), (.pure (.mv (.tmp 8))), (some (89, false))⟩,
.op ⟨(some 92), (.pure (.eqb true (.tmp 90) (.tmp 91))), (some (89, false))⟩,
.op ⟨(some 93), (.pure (.pick (.tmp 89) (.const (.bool true)) (.tmp 92))), none⟩,
.op ⟨(some 94), (.pure (.mv (.tmp 93))), none⟩,
.split 94,
.op ⟨(some 95), (.pure (.mv (.tmp 14))), (some (94, false))⟩,
.op ⟨(some 96), (.pure (.mv (.tmp 9))), (some (94, false))⟩,
.op ⟨(some 97), (.pure (.eqb true (.tmp 95) (.tmp 96))), (some (94, false))⟩,
.op ⟨(some 98), (.pure (.pick (.tmp 94) (.const (.bool true)) (.tmp 97))), none⟩])
(.cond (.tmp 98)
(.seq (.ops [
.op ⟨(some 6), (.pure (.mv (.const (.bool false)))), none⟩])
(.ret))
(.skip)))
(.seq (.ops [
.op ⟨(some 16), (.pure (.mv (.const (.int .i64 (1))))), none⟩])
(.seq (.ops [
.op ⟨(some 99), (.pure (.mv (.tmp 12))), none⟩,
.op ⟨(some 100), (.pure (.mv (.tmp 16))), none⟩,
.op ⟨(some 101), (.eff (.call 24 [(.tmp 99), (.tmp 100)])), none⟩,
.op ⟨(some 16), (.pure (.mv (.tmp 101))), none⟩])
(.seq (.ops [
.op ⟨(some 17), (.pure (.mv (.const (.int .i64 (1))))), none⟩])
(.seq (.ops [
.op ⟨(some 102), (.pure (.mv (.tmp 12))), none⟩,
.op ⟨(some 103), (.pure (.mv (.tmp 17))), none⟩,
.op ⟨(some 104), (.eff (.call 25 [(.tmp 102), (.tmp 103)])), none⟩,
.op ⟨(some 17), (.pure (.mv (.tmp 104))), none⟩])
(.seq (.seq (.ops [
.op ⟨(some 105), (.pure (.mv (.tmp 17))), none⟩,
.op ⟨(some 106), (.pure (.bin .lss (.tmp 105) (.const (.int .i64 (0))))), none⟩])
(.cond (.tmp 106)
(.seq (.ops [
.op ⟨(some 6), (.pure (.mv (.const (.bool false)))), none⟩])
(.ret))
(.skip)))
(.seq (.seq (.ops [
.op ⟨(some 107), (.pure (.mv (.tmp 17))), none⟩,
.op ⟨(some 108), (.pure (.mv (.tmp 16))), none⟩,
.op ⟨(some 109), (.pure (.bin .neq (.tmp 107) (.tmp 108))), none⟩])
(.cond (.tmp 109)
(.seq (.ops [
.op ⟨(some 6), (.pure (.mv (.const (.bool false)))), none⟩])
(.ret))
(.skip)))
(.seq (.ops [
.op ⟨(some 111), (.load (some 2) (.tmp 3)), none⟩,
.op ⟨(some 112), (.eff (.call 16 [(.tmp 111)])), none⟩,
.op ⟨(some 113), (.pure (.mv (.tmp 1))), none⟩,
.op ⟨(some 114), (.eff (.call 21 [(.tmp 113)])), none⟩,
.op ⟨(some 115), (.pure (.mv (.tmp 2))), none⟩,
.op ⟨(some 116), (.eff (.call 21 [(.tmp 115)])), none⟩,
.op ⟨(some 117), (.eff (.call 35 [(.tmp 112), (.tmp 114), (.tmp 116)])), none⟩,
.op ⟨(some 110), (.pure (.mv (.tmp 117))), none⟩,
.op ⟨(some 118), (.pure (.ext 0 (.tmp 110))), none⟩,
.op ⟨(some 119), (.pure (.ext 1 (.tmp 110))), none⟩,
.op ⟨(some 120), (.pure (.ext 2 (.tmp 110))), none⟩,
.op ⟨(some 18), (.pure (.mv (.tmp 118))), none⟩,
.op ⟨(some 19), (.pure (.mv (.tmp 119))), none⟩,
.op ⟨(some 20), (.pure (.mv (.tmp 120))), none⟩])
(.seq (.seq (.ops [
.op ⟨(some 121), (.pure (.mv (.tmp 18))), none⟩,
.op ⟨(some 122), (.pure (.mv (.tmp 7))), none⟩,
.op ⟨(some 123), (.eff (.call 23 [(.tmp 121), (.tmp 122)])), none⟩,
.op ⟨(some 124), (.pure (.bnot (.tmp 123))), none⟩,
.op ⟨(some 125), (.pure (.mv (.tmp 124))), none⟩,
.split 125,
.op ⟨(some 126), (.pure (.mv (.tmp 19))), (some (125, false))⟩,
.op ⟨(some 127), (.pure (.mv (.tmp 8))), (some (125, false))⟩,
.op ⟨(some 128), (.pure (.eqb true (.tmp 126) (.tmp 127))), (some (125, false))⟩,
.op ⟨(some 129), (.pure (.pick (.tmp 125) (.const (.bool true)) (.tmp 128))), none⟩,
.op ⟨(some 130), (.pure (.mv (.tmp 129))), none⟩,
.split 130,
.op ⟨(some 131), (.pure (.mv (.tmp 20))), (some (130, false))⟩,
.op ⟨(some 132), (.pure (.mv (.tmp 9))), (some (130, false))⟩,
.op ⟨(some 133), (.pure (.eqb true (.tmp 131) (.tmp 132))), (some (130, false))⟩,
.op ⟨(some 134), (.pure (.pick (.tmp 130) (.const (.bool true)) (.tmp 133))), none⟩])
(.cond (.tmp 134)
(.seq (.ops [
.op ⟨(some 6), (.pure (.mv (.const (.bool false)))), none⟩])
(.ret))
(.skip)))
(.seq (.ops [
.op ⟨(some 17), (.pure (.mv (.const (.int .i64 (1))))), none⟩])
(.seq (.ops [
.op ⟨(some 135), (.pure (.mv (.tmp 12))), none⟩,
.op ⟨(some 136), (.pure (.mv (.tmp 17))), none⟩,
.op ⟨(some 137), (.eff (.call 25 [(.tmp 135), (.tmp 136)])), none⟩,
.op ⟨(some 17), (.pure (.mv (.tmp 137))), none⟩])
(.seq (.seq (.ops [
.op ⟨(some 138), (.pure (.mv (.tmp 17))), none⟩,
.op ⟨(some 139), (.pure (.bin .lss (.tmp 138) (.const (.int .i64 (0))))), none⟩])
(.cond (.tmp 139)
(.seq (.ops [
.op ⟨(some 6), (.pure (.mv (.const (.bool false)))), none⟩])
(.ret))
(.skip)))
(.seq (.seq (.ops [
.op ⟨(some 140), (.pure (.mv (.tmp 17))), none⟩,
.op ⟨(some 141), (.pure (.mv (.tmp 16))), none⟩,
.op ⟨(some 142), (.pure (.bin .neq (.tmp 140) (.tmp 141))), none⟩])
(.cond (.tmp 142)
(.seq (.ops [
.op ⟨(some 6), (.pure (.mv (.const (.bool false)))), none⟩])
(.ret))
(.skip)))
(.seq (.ops [
.op ⟨(some 6), (.pure (.mv (.const (.bool true)))), none⟩])
(.ret))))))))))))))))))))))))))),
[.tmp 6]⟩
theorem r_laws_FnExactPassLine : resFun Try.prog f_laws_FnExactPassLine = some c_laws_FnExactPassLine := by kernel_rfl

/- loop.example/g00940/laws.FnExactWrongSignals -/
abbrev f_laws_FnExactWrongSignals : Nat := 11
def c_laws_FnExactWrongSignals : MFun := ⟨122, .seq (.ops [
.op ⟨(some 3), (.eff (.box 23 (.tmp 0))), none⟩,
.op ⟨(some 6), (.pure (.mv (.const (.bool false)))), none⟩])
(.seq (.seq (.ops [
.op ⟨(some 18), (.pure (.mv (.tmp 1))), none⟩,
.op ⟨(some 19), (.pure (.len (.tmp 18))), none⟩,
.op ⟨(some 20), (.pure (.bin .gtr (.tmp 19) (.const (.int .i64 (1048576))))), none⟩])
(.cond (.tmp 20)
(.seq (.ops [
.op ⟨(some 6), (.pure (.mv (.const (.bool true)))), none⟩])
(.ret))
(.skip)))
(.seq (.seq (.ops [
.op ⟨(some 21), (.pure (.mv (.tmp 2))), none⟩,
.op ⟨(some 22), (.pure (.len (.tmp 21))), none⟩,
.op ⟨(some 23), (.pure (.bin .gtr (.tmp 22) (.const (.int .i64 (1048576))))), none⟩])
(.cond (.tmp 23)
(.seq (.ops [
.op ⟨(some 6), (.pure (.mv (.const (.bool true)))), none⟩])
(.ret))
(.skip)))
(.seq (.ops [
.op ⟨(some 25), (.load (some 2) (.tmp 3)), none⟩,
.op ⟨(some 26), (.eff (.call 16 [(.tmp 25)])), none⟩,
.op ⟨(some 27), (.pure (.mv (.tmp 1))), none⟩,
.op ⟨(some 28), (.eff (.call 21 [(.tmp 27)])), none⟩,
.op ⟨(some 29), (.pure (.mv (.tmp 2))), none⟩,
.op ⟨(some 30), (.eff (.call 21 [(.tmp 29)])), none⟩,
.op ⟨(some 31), (.eff (.call 36 [(.tmp 26), (.tmp 28), (.tmp 30)])), none⟩,
.op ⟨(some 24), (.pure (.mv (.tmp 31))), none⟩,
.op ⟨(some 32), (.pure (.ext 0 (.tmp 24))), none⟩,
.op ⟨(some 33), (.pure (.ext 1 (.tmp 24))), none⟩,
.op ⟨(some 7), (.pure (.mv (.tmp 32))), none⟩,
.op ⟨(some 8), (.pure (.mv (.tmp 33))), none⟩])
(.seq (.ops [
.op ⟨(some 34), (.pure (.mv (.tmp 1))), none⟩,
.op ⟨(some 35), (.eff (.call 21 [(.tmp 34)])), none⟩,
.op ⟨(some 9), (.pure (.mv (.tmp 35))), none⟩])
(.seq (.ops [
.op ⟨(some 36), (.pure (.mv (.tmp 2))), none⟩,
.op ⟨(some 37), (.eff (.call 21 [(.tmp 36)])), none⟩,
.op ⟨(some 10), (.pure (.mv (.tmp 37))), none⟩])
(.seq (.ops [
.op ⟨(some 39), (.load (some 2) (.tmp 3)), none⟩,
.op ⟨(some 40), (.eff (.call 16 [(.tmp 39)])), none⟩,
.op ⟨(some 41), (.pure (.mv (.tmp 9))), none⟩,
.op ⟨(some 42), (.pure (.mv (.tmp 10))), none⟩,
.op ⟨(some 43), (.eff (.call 37 [(.tmp 40), (.tmp 41), (.tmp 42)])), none⟩,
.op ⟨(some 38), (.pure (.mv (.tmp 43))), none⟩,
.op ⟨(some 44), (.pure (.ext 0 (.tmp 38))), none⟩,
.op ⟨(some 45), (.pure (.ext 1 (.tmp 38))), none⟩,
.op ⟨(some 11), (.pure (.mv (.tmp 44))), none⟩,
.op ⟨(some 12), (.pure (.mv (.tmp 45))), none⟩])
(.seq (.seq (.ops [
.op ⟨(some 46), (.pure (.mv (.tmp 11))), none⟩,
.op ⟨(some 47), (.pure (.mv (.tmp 7))), none⟩,
.op ⟨(some 48), (.eff (.call 23 [(.tmp 46), (.tmp 47)])), none⟩,
.op ⟨(some 49), (.pure (.bnot (.tmp 48))), none⟩,
.op ⟨(some 50), (.pure (.mv (.tmp 49))), none⟩,
.split 50,
.op ⟨(some 51), (.pure (.mv (.tmp 12))), (some (50, false))⟩,
.op ⟨(some 52), (.pure (.mv (.tmp 8))), (some (50, false))⟩,
.op ⟨(some 53), (.pure (.eqb true (.tmp 51) (.tmp 52))), (some (50, false))⟩,
.op ⟨(some 54), (.pure (.pick (.tmp 50) (.const (.bool true)) (.tmp 53))), none⟩])
(.cond (.tmp 54)
(.seq (.ops [
.op ⟨(some 6), (.pure (.mv (.const (.bool false)))), none⟩])
(.ret))
(.skip)))
(.seq (.seq (.ops [
.op ⟨(some 55), (.pure (.mv (.tmp 9))), none⟩,
.op ⟨(some 56), (.pure (.mv (.tmp 1))), none⟩,
.op ⟨(some 57), (.eff (.call 21 [(.tmp 56)])), none⟩,
.op ⟨(some 58), (.eff (.call 23 [(.tmp 55), (.tmp 57)])), none⟩,
.op ⟨(some 59), (.pure (.bnot (.tmp 58))), none⟩])
(.cond (.tmp 59)
(.seq (.ops [
.op ⟨(some 6), (.pure (.mv (.const (.bool false)))), none⟩])
(.ret))
(.skip)))
(.seq (.seq (.ops [
.op ⟨(some 60), (.pure (.mv (.tmp 10))), none⟩,
.op ⟨(some 61), (.pure (.mv (.tmp 2))), none⟩,
.op ⟨(some 62), (.eff (.call 21 [(.tmp 61)])), none⟩,
.op ⟨(some 63), (.eff (.call 23 [(.tmp 60), (.tmp 62)])), none⟩,
.op ⟨(some 64), (.pure (.bnot (.tmp 63))), none⟩])
(.cond (.tmp 64)
(.seq (.ops [
.op ⟨(some 6), (.pure (.mv (.const (.bool false)))), none⟩])
(.ret))
(.skip)))
(.seq (.ops [
.op ⟨(some 13), (.pure (.mv (.const (.int .i64 (1))))), none⟩])
(.seq (.ops [
.op ⟨(some 65), (.pure (.mv (.tmp 9))), none⟩,
.op ⟨(some 66), (.pure (.mv (.tmp 13))), none⟩,
.op ⟨(some 67), (.eff (.call 24 [(.tmp 65), (.tmp 66)])), none⟩,
.op ⟨(some 13), (.pure (.mv (.tmp 67))), none⟩])
(.seq (.ops [
.op ⟨(some 68), (.pure (.mv (.tmp 10))), none⟩,
.op ⟨(some 69), (.pure (.mv (.tmp 13))), none⟩,
.op ⟨(some 70), (.eff (.call 24 [(.tmp 68), (.tmp 69)])), none⟩,
.op ⟨(some 13), (.pure (.mv (.tmp 70))), none⟩])
(.seq (.seq (.ops [
.op ⟨(some 71), (.pure (.mv (.tmp 13))), none⟩,
.op ⟨(some 72), (.pure (.bin .lss (.tmp 71) (.const (.int .i64 (0))))), none⟩,
.op ⟨(some 73), (.pure (.mv (.tmp 72))), none⟩,
.split 73,
.op ⟨(some 74), (.pure (.mv (.tmp 11))), (some (73, false))⟩,
.op ⟨(some 75), (.pure (.mv (.tmp 7))), (some (73, false))⟩,
.op ⟨(some 76), (.eff (.call 23 [(.tmp 74), (.tmp 75)])), (some (73, false))⟩,
.op ⟨(some 77), (.pure (.bnot (.tmp 76))), (some (73, false))⟩,
.op ⟨(some 78), (.pure (.pick (.tmp 73) (.const (.bool true)) (.tmp 77))), none⟩,
.op ⟨(some 79), (.pure (.mv (.tmp 78))), none⟩,
.split 79,
.op ⟨(some 80), (.pure (.mv (.tmp 12))), (some (79, false))⟩,
.op ⟨(some 81), (.pure (.mv (.tmp 8))), (some (79, false))⟩,
.op ⟨(some 82), (.pure (.eqb true (.tmp 80) (.tmp 81))), (some (79, false))⟩,
.op ⟨(some 83), (.pure (.pick (.tmp 79) (.const (.bool true)) (.tmp 82))), none⟩])
(.cond (.tmp 83)
(.seq (.ops [
.op ⟨(some 6), (.pure (.mv (.const (.bool false)))), none⟩])
(.ret))
(.skip)))
(.seq (.ops [
.op ⟨(some 14), (.pure (.mv (.const (.int .i64 (1))))), none⟩])
(.seq (.ops [
.op ⟨(some 84), (.pure (.mv (.tmp 11))), none⟩,
.op ⟨(some 85), (.pure (.mv (.tmp 14))), none⟩,
.op ⟨(some 86), (.eff (.call 24 [(.tmp 84), (.tmp 85)])), none⟩,
.op ⟨(some 14), (.pure (.mv (.tmp 86))), none⟩])
(.seq (.ops [
.op ⟨(some 15), (.pure (.mv (.const (.int .i64 (1))))), none⟩])
(.seq (.ops [
.op ⟨(some 87), (.pure (.mv (.tmp 11))), none⟩,
.op ⟨(some 88), (.pure (.mv (.tmp 15))), none⟩,
.op ⟨(some 89), (.eff (.call 25 [(.tmp 87), (.tmp 88)])), none⟩,
.op ⟨(some 15), (.pure (.mv (.tmp 89))), none⟩])
(.seq (.seq (.ops [
.op ⟨(some 90), (.pure (.mv (.tmp 15))), none⟩,
.op ⟨(some 91), (.pure (.bin .lss (.tmp 90) (.const (.int .i64 (0))))), none⟩])
(.cond (.tmp 91)
(.seq (.ops [
.op ⟨(some 6), (.pure (.mv (.const (.bool false)))), none⟩])
(.ret))
(.skip)))
(.seq (.seq (.ops [
.op ⟨(some 92), (.pure (.mv (.tmp 15))), none⟩,
.op ⟨(some 93), (.pure (.mv (.tmp 14))), none⟩,
.op ⟨(some 94), (.pure (.bin .neq (.tmp 92) (.tmp 93))), none⟩])
(.cond (.tmp 94)
(.seq (.ops [
.op ⟨(some 6), (.pure (.mv (.const (.bool false)))), none⟩])
(.ret))
(.skip)))
(.seq (.ops [
.op ⟨(some 96), (.load (some 2) (.tmp 3)), none⟩,
.op ⟨(some 97), (.eff (.call 16 [(.tmp 96)])), none⟩,
.op ⟨(some 98), (.pure (.mv (.tmp 1))), none⟩,
.op ⟨(some 99), (.eff (.call 21 [(.tmp 98)])), none⟩,
.op ⟨(some 100), (.pure (.mv (.tmp 2))), none⟩,
.op ⟨(some 101), (.eff (.call 21 [(.tmp 100)])), none⟩,
.op ⟨(some 102), (.eff (.call 37 [(.tmp 97), (.tmp 99), (.tmp 101)])), none⟩,
.op ⟨(some 95), (.pure (.mv (.tmp 102))), none⟩,
.op ⟨(some 103), (.pure (.ext 0 (.tmp 95))), none⟩,
.op ⟨(some 104), (.pure (.ext 1 (.tmp 95))), none⟩,
.op ⟨(some 16), (.pure (.mv (.tmp 103))), none⟩,
.op ⟨(some 17), (.pure (.mv (.tmp 104))), none⟩])
(.seq (.seq (.ops [
.op ⟨(some 105), (.pure (.mv (.tmp 16))), none⟩,
.op ⟨(some 106), (.pure (.mv (.tmp 7))), none⟩,
.op ⟨(some 107), (.eff (.call 23 [(.tmp 105), (.tmp 106)])), none⟩,
.op ⟨(some 108), (.pure (.bnot (.tmp 107))), none⟩,
.op ⟨(some 109), (.pure (.mv (.tmp 108))), none⟩,
.split 109,
.op ⟨(some 110), (.pure (.mv (.tmp 17))), (some (109, false))⟩,
.op ⟨(some 111), (.pure (.mv (.tmp 8))), (some (109, false))⟩,
.op ⟨(some 112), (.pure (.eqb true (.tmp 110) (.tmp 111))), (some (109, false))⟩,
.op ⟨(some 113), (.pure (.pick (.tmp 109) (.const (.bool true)) (.tmp 112))), none⟩])
(.cond (.tmp 113)
(.seq (.ops [
.op ⟨(some 6), (.pure (.mv (.const (.bool false)))), none⟩])
(.ret))
(.skip)))
(.seq (.ops [
.op ⟨(some 15), (.pure (.mv (.const (.int .i64 (1))))), none⟩])
(.seq (.ops [
.op ⟨(some 114), (.pure (.mv (.tmp 11))), none⟩,
.op ⟨(some 115), (.pure (.mv (.tmp 15))), none⟩,
.op ⟨(some 116), (.eff (.call 25 [(.tmp 114), (.tmp 115)])), none⟩,
.op ⟨(some 15), (.pure (.mv (.tmp 116))), none⟩])
(.seq (.seq (.ops [
.op ⟨(some 117), (.pure (.mv (.tmp 15))), none⟩,
.op ⟨(some 118), (.pure (.bin .lss (.tmp 117) (.const (.int .i64 (0))))), none⟩])
(.cond (.tmp 118)
(.seq (.ops [
.op ⟨(some 6), (.pure (.mv (.const (.bool false)))), none⟩])
(.ret))
(.skip)))
(.seq (.seq (.ops [
.op ⟨(some 119), (.pure (.mv (.tmp 15))), none⟩,
.op ⟨(some 120), (.pure (.mv (.tmp 14))), none⟩,
.op ⟨(some 121), (.pure (.bin .neq (.tmp 119) (.tmp 120))), none⟩])
(.cond (.tmp 121)
(.seq (.ops [
.op ⟨(some 6), (.pure (.mv (.const (.bool false)))), none⟩])
(.ret))
(.skip)))
(.seq (.ops [
.op ⟨(some 6), (.pure (.mv (.const (.bool true)))), none⟩])
(.ret))))))))))))))))))))))))))),
[.tmp 6]⟩
theorem r_laws_FnExactWrongSignals : resFun Try.prog f_laws_FnExactWrongSignals = some c_laws_FnExactWrongSignals := by kernel_rfl

/- loop.example/g00940/laws.FnExactLineTable -/
abbrev f_laws_FnExactLineTable : Nat := 12
def c_laws_FnExactLineTable : MFun := ⟨125, .seq (.ops [
.op ⟨(some 3), (.eff (.box 23 (.tmp 0))), none⟩,
.op ⟨(some 6), (.pure (.mv (.const (.bool false)))), none⟩])
(.seq (.seq (.ops [
.op ⟨(some 19), (.pure (.mv (.tmp 1))), none⟩,
.op ⟨(some 20), (.pure (.len (.tmp 19))), none⟩,
.op ⟨(some 21), (.pure (.bin .gtr (.tmp 20) (.const (.int .i64 (1048576))))), none⟩])
(.cond (.tmp 21)
(.seq (.ops [
.op ⟨(some 6), (.pure (.mv (.const (.bool true)))), none⟩])
(.ret))
(.skip)))
(.seq (.ops [
.op ⟨(some 7), (.pure (.mv (.const (.int .i64 (1048576))))), none⟩])
(.seq (.ops [
.op ⟨(some 22), (.pure (.mv (.tmp 2))), none⟩,
.op ⟨(some 23), (.pure (.mv (.tmp 7))), none⟩,
.op ⟨(some 24), (.eff (.call 38 [(.tmp 22), (.tmp 23)])), none⟩,
.op ⟨(some 7), (.pure (.mv (.tmp 24))), none⟩])
(.seq (.seq (.ops [
.op ⟨(some 25), (.pure (.mv (.tmp 7))), none⟩,
.op ⟨(some 26), (.pure (.bin .lss (.tmp 25) (.const (.int .i64 (0))))), none⟩])
(.cond (.tmp 26)
(.seq (.ops [
.op ⟨(some 6), (.pure (.mv (.const (.bool true)))), none⟩])
(.ret))
(.skip)))
(.seq (.ops [
.op ⟨(some 28), (.load (some 2) (.tmp 3)), none⟩,
.op ⟨(some 29), (.eff (.call 16 [(.tmp 28)])), none⟩,
.op ⟨(some 30), (.pure (.mv (.tmp 1))), none⟩,
.op ⟨(some 31), (.eff (.call 21 [(.tmp 30)])), none⟩,
.op ⟨(some 32), (.pure (.mv (.tmp 2))), none⟩,
.op ⟨(some 33), (.eff (.call 40 [(.tmp 32)])), none⟩,
.op ⟨(some 34), (.eff (.call 39 [(.tmp 29), (.tmp 31), (.tmp 33)])), none⟩,
.op ⟨(some 27), (.pure (.mv (.tmp 34))), none⟩,
.op ⟨(some 35), (.pure (.ext 0 (.tmp 27))), none⟩,
.op ⟨(some 36), (.pure (.ext 1 (.tmp 27))), none⟩,
.op ⟨(some 8), (.pure (.mv (.tmp 35))), none⟩,
.op ⟨(some 9), (.pure (.mv (.tmp 36))), none⟩])
(.seq (.ops [
.op ⟨(some 37), (.pure (.mv (.tmp 1))), none⟩,
.op ⟨(some 38), (.eff (.call 21 [(.tmp 37)])), none⟩,
.op ⟨(some 10), (.pure (.mv (.tmp 38))), none⟩])
(.seq (.ops [
.op ⟨(some 39), (.pure (.mv (.tmp 2))), none⟩,
.op ⟨(some 40), (.eff (.call 40 [(.tmp 39)])), none⟩,
.op ⟨(some 11), (.pure (.mv (.tmp 40))), none⟩])
(.seq (.ops [
.op ⟨(some 42), (.load (some 2) (.tmp 3)), none⟩,
.op ⟨(some 43), (.eff (.call 16 [(.tmp 42)])), none⟩,
.op ⟨(some 44), (.pure (.mv (.tmp 10))), none⟩,
.op ⟨(some 45), (.pure (.mv (.tmp 11))), none⟩,
.op ⟨(some 46), (.eff (.call 41 [(.tmp 43), (.tmp 44), (.tmp 45)])), none⟩,
.op ⟨(some 41), (.pure (.mv (.tmp 46))), none⟩,
.op ⟨(some 47), (.pure (.ext 0 (.tmp 41))), none⟩,
.op ⟨(some 48), (.pure (.ext 1 (.tmp 41))), none⟩,
.op ⟨(some 12), (.pure (.mv (.tmp 47))), none⟩,
.op ⟨(some 13), (.pure (.mv (.tmp 48))), none⟩])
(.seq (.seq (.ops [
.op ⟨(some 49), (.pure (.mv (.tmp 12))), none⟩,
.op ⟨(some 50), (.pure (.mv (.tmp 8))), none⟩,
.op ⟨(some 51), (.eff (.call 23 [(.tmp 49), (.tmp 50)])), none⟩,
.op ⟨(some 52), (.pure (.bnot (.tmp 51))), none⟩,
.op ⟨(some 53), (.pure (.mv (.tmp 52))), none⟩,
.split 53,
.op ⟨(some 54), (.pure (.mv (.tmp 13))), (some (53, false))⟩,
.op ⟨(some 55), (.pure (.mv (.tmp 9))), (some (53, false))⟩,
.op ⟨(some 56), (.pure (.eqb true (.tmp 54) (.tmp 55))), (some (53, false))⟩,
.op ⟨(some 57), (.pure (.pick (.tmp 53) (.const (.bool true)) (.tmp 56))), none⟩])
(.cond (.tmp 57)
(.seq (.ops [
.op ⟨(some 6), (.pure (.mv (.const (.bool false)))), none⟩])
(.ret))
(.skip)))
(.seq (.seq (.ops [
.op ⟨(some 58), (.pure (.mv (.tmp 10))), none⟩,
.op ⟨(some 59), (.pure (.mv (.tmp 1))), none⟩,
.op ⟨(some 60), (.eff (.call 21 [(.tmp 59)])), none⟩,
.op ⟨(some 61), (.eff (.call 23 [(.tmp 58), (.tmp 60)])), none⟩,
.op ⟨(some 62), (.pure (.bnot (.tmp 61))), none⟩])
(.cond (.tmp 62)
(.seq (.ops [
.op ⟨(some 6), (.pure (.mv (.const (.bool false)))), none⟩])
(.ret))
(.skip)))
(.seq (.seq (.ops [
.op ⟨(some 63), (.pure (.mv (.tmp 11))), none⟩,
.op ⟨(some 64), (.pure (.mv (.tmp 2))), none⟩,
.op ⟨(some 65), (.eff (.call 40 [(.tmp 64)])), none⟩,
.op ⟨(some 66), (.eff (.call 42 [(.tmp 63), (.tmp 65)])), none⟩,
.op ⟨(some 67), (.pure (.bnot (.tmp 66))), none⟩])
(.cond (.tmp 67)
(.seq (.ops [
.op ⟨(some 6), (.pure (.mv (.const (.bool false)))), none⟩])
(.ret))
(.skip)))
(.seq (.ops [
.op ⟨(some 14), (.pure (.mv (.const (.int .i64 (1))))), none⟩])
(.seq (.ops [
.op ⟨(some 68), (.pure (.mv (.tmp 10))), none⟩,
.op ⟨(some 69), (.pure (.mv (.tmp 14))), none⟩,
.op ⟨(some 70), (.eff (.call 24 [(.tmp 68), (.tmp 69)])), none⟩,
.op ⟨(some 14), (.pure (.mv (.tmp 70))), none⟩])
(.seq (.ops [
.op ⟨(some 71), (.pure (.mv (.tmp 11))), none⟩,
.op ⟨(some 72), (.pure (.mv (.tmp 14))), none⟩,
.op ⟨(some 73), (.eff (.call 43 [(.tmp 71), (.tmp 72)])), none⟩,
.op ⟨(some 14), (.pure (.mv (.tmp 73))), none⟩])
(.seq (.seq (.ops [
.op ⟨(some 74), (.pure (.mv (.tmp 14))), none⟩,
.op ⟨(some 75), (.pure (.bin .lss (.tmp 74) (.const (.int .i64 (0))))), none⟩,
.op ⟨(some 76), (.pure (.mv (.tmp 75))), none⟩,
.split 76,
.op ⟨(some 77), (.pure (.mv (.tmp 12))), (some (76, false))⟩,
.op ⟨(some 78), (.pure (.mv (.tmp 8))), (some (76, false))⟩,
.op ⟨(some 79), (.eff (.call 23 [(.tmp 77), (.tmp 78)])), (some (76, false))⟩,
.op ⟨(some 80), (.pure (.bnot (.tmp 79))), (some (76, false))⟩,
.op ⟨(some 81), (.pure (.pick (.tmp 76) (.const (.bool true)) (.tmp 80))), none⟩,
.op ⟨(some 82), (.pure (.mv (.tmp 81))), none⟩,
.split 82,
.op ⟨(some 83), (.pure (.mv (.tmp 13))), (some (82, false))⟩,
.op ⟨(some 84), (.pure (.mv (.tmp 9))), (some (82, false))⟩,
.op ⟨(some 85), (.pure (.eqb true (.tmp 83) (.tmp 84))), (some (82, false))⟩,
.op ⟨(some 86), (.pure (.pick (.tmp 82) (.const (.bool true)) (.tmp 85))), none⟩])
(.cond (.tmp 86)
(.seq (.ops [
.op ⟨(some 6), (.pure (.mv (.const (.bool false)))), none⟩])
(.ret))
(.skip)))
(.seq (.ops [
.op ⟨(some 15), (.pure (.mv (.const (.int .i64 (1))))), none⟩])
(.seq (.ops [
.op ⟨(some 87), (.pure (.mv (.tmp 12))), none⟩,
.op ⟨(some 88), (.pure (.mv (.tmp 15))), none⟩,
.op ⟨(some 89), (.eff (.call 24 [(.tmp 87), (.tmp 88)])), none⟩,
.op ⟨(some 15), (.pure (.mv (.tmp 89))), none⟩])
(.seq (.ops [
.op ⟨(some 16), (.pure (.mv (.const (.int .i64 (1))))), none⟩])
(.seq (.ops [
.op ⟨(some 90), (.pure (.mv (.tmp 12))), none⟩,
.op ⟨(some 91), (.pure (.mv (.tmp 16))), none⟩,
.op ⟨(some 92), (.eff (.call 25 [(.tmp 90), (.tmp 91)])), none⟩,
.op ⟨(some 16), (.pure (.mv (.tmp 92))), none⟩])
(.seq (.seq (.ops [
.op ⟨(some 93), (.pure (.mv (.tmp 16))), none⟩,
.op ⟨(some 94), (.pure (.bin .lss (.tmp 93) (.const (.int .i64 (0))))), none⟩])
(.cond (.tmp 94)
(.seq (.ops [
.op ⟨(some 6), (.pure (.mv (.const (.bool false)))), none⟩])
(.ret))
(.skip)))
(.seq (.seq (.ops [
.op ⟨(some 95), (.pure (.mv (.tmp 16))), none⟩,
.op ⟨(some 96), (.pure (.mv (.tmp 15))), none⟩,
.op ⟨(some 97), (.pure (.bin .neq (.tmp 95) (.tmp 96))), none⟩])
(.cond (.tmp 97)
(.seq (.ops [
.op ⟨(some 6), (.pure (.mv (.const (.bool false)))), none⟩])
(.ret))
(.skip)))
(.seq (.ops [
.op ⟨(some 99), (.load (some 2) (.tmp 3)), none⟩,
.op ⟨(some 100), (.eff (.call 16 [(.tmp 99)])), none⟩,
.op ⟨(some 101), (.pure (.mv (.tmp 1))), none⟩,
.op ⟨(some 102), (.eff (.call 21 [(.tmp 101)])), none⟩,
.op ⟨(some 103), (.pure (.mv (.tmp 2))), none⟩,
.op ⟨(some 104), (.eff (.call 40 [(.tmp 103)])), none⟩,
.op ⟨(some 105), (.eff (.call 41 [(.tmp 100), (.tmp 102), (.tmp 104)])), none⟩,
.op ⟨(some 98), (.pure (.mv (.tmp 105))), none⟩,
.op ⟨(some 106), (.pure (.ext 0 (.tmp 98))), none⟩,
.op ⟨(some 107), (.pure (.ext 1 (.tmp 98))), none⟩,
.op ⟨(some 17), (.pure (.mv (.tmp 106))), none⟩,
.op ⟨(some 18), (.pure (.mv (.tmp 107))), none⟩])
(.seq (.seq (.ops [
.op ⟨(some 108), (.pure (.mv (.tmp 17))), none⟩,
.op ⟨(some 109), (.pure (.mv (.tmp 8))), none⟩,
.op ⟨(some 110), (.eff (.call 23 [(.tmp 108), (.tmp 109)])), none⟩,
.op ⟨(some 111), (.pure (.bnot (.tmp 110))), none⟩,
.op ⟨(some 112), (.pure (.mv (.tmp 111))), none⟩,
.split 112,
.op ⟨(some 113), (.pure (.mv (.tmp 18))), (some (112, false))⟩,
.op ⟨(some 114), (.pure (.mv (.tmp 9))), (some (112, false))⟩,
.op ⟨(some 115), (.pure (.eqb true (.tmp 113) (.tmp 114))), (some (112, false))⟩,
.op ⟨(some 116), (.pure (.pick (.tmp 112) (.const (.bool true)) (.tmp 115))), none⟩])
(.cond (.tmp 116)
(.seq (.ops [
.op ⟨(some 6), (.pure (.mv (.const (.bool false)))), none⟩])
(.ret))
(.skip)))
(.seq (.ops [
.op ⟨(some 16), (.pure (.mv (.const (.int .i64 (1))))), none⟩])
(.seq (.ops [
.op ⟨(some 117), (.pure (.mv (.tmp 12))), none⟩,
.op ⟨(some 118), (.pure (.mv (.tmp 16))), none⟩,
.op ⟨(some 119), (.eff (.call 25 [(.tmp 117), (.tmp 118)])), none⟩,
.op ⟨(some 16), (.pure (.mv (.tmp 119))), none⟩])
(.seq (.seq (.ops [
.op ⟨(some 120), (.pure (.mv (.tmp 16))), none⟩,
.op ⟨(some 121), (.pure (.bin .lss (.tmp 120) (.const (.int .i64 (0))))), none⟩])
(.cond (.tmp 121)
(.seq (.ops [
.op ⟨(some 6), (.pure (.mv (.const (.bool false)))), none⟩])
(.ret))
(.skip)))
(.seq (.seq (.ops [
.op ⟨(some 122), (.pure (.mv (.tmp 16))), none⟩,
.op ⟨(some 123), (.pure (.mv (.tmp 15))), none⟩,
.op ⟨(some 124), (.pure (.bin .neq (.tmp 122) (.tmp 123))), none⟩])
(.cond (.tmp 124)
(.seq (.ops [
.op ⟨(some 6), (.pure (.mv (.const (.bool false)))), none⟩])
(.ret))
(.skip)))
(.seq (.ops [
.op ⟨(some 6), (.pure (.mv (.const (.bool true)))), none⟩])
(.ret))))))))))))))))))))))))))))),
[.tmp 6]⟩
theorem r_laws_FnExactLineTable : resFun Try.prog f_laws_FnExactLineTable = some c_laws_FnExactLineTable := by kernel_rfl

/- loop.example/g00940/laws.FnLines -/
abbrev f_laws_FnLines : Nat := 13
def c_laws_FnLines : MFun := ⟨315, .seq (.ops [
.op ⟨(some 4), (.pure (.mv (.const (.bool false)))), none⟩])
(.seq (.seq (.ops [
.op ⟨(some 47), (.pure (.mv (.tmp 0))), none⟩,
.op ⟨(some 48), (.pure (.mv (.tmp 1))), none⟩,
.op ⟨(some 49), (.eff (.call 44 [(.tmp 47), (.tmp 48)])), none⟩])
(.cond (.tmp 49)
(.seq (.ops [
.op ⟨(some 4), (.pure (.mv (.const (.bool true)))), none⟩])
(.ret))
(.skip)))
(.seq (.ops [
.op ⟨(some 51), (.pure (.mv (.tmp 0))), none⟩,
.op ⟨(some 52), (.eff (.call 45 [(.tmp 51)])), none⟩,
.op ⟨(some 50), (.pure (.mv (.tmp 52))), none⟩,
.op ⟨(some 53), (.pure (.ext 0 (.tmp 50))), none⟩,
.op ⟨(some 54), (.pure (.ext 1 (.tmp 50))), none⟩,
.op ⟨(some 55), (.pure (.ext 2 (.tmp 50))), none⟩,
.op ⟨(some 5), (.eff (.new 25 [(.int .i64 (0)), (.int .i64 (0))])), none⟩,
.op ⟨none, (.eff (.store 2 (.tmp 5) (.tmp 53))), none⟩,
.op ⟨(some 6), (.pure (.mv (.tmp 54))), none⟩,
.op ⟨(some 7), (.pure (.mv (.tmp 55))), none⟩])
(.seq (.ops [
.op ⟨(some 57), (.load (some 2) (.tmp 5)), none⟩,
.op ⟨(some 58), (.pure (.mv (.tmp 6))), none⟩,
.op ⟨(some 59), (.pure (.mv (.tmp 7))), none⟩,
.op ⟨(some 60), (.eff (.call 35 [(.tmp 57), (.tmp 58), (.tmp 59)])), none⟩,
.op ⟨(some 56), (.pure (.mv (.tmp 60))), none⟩,
.op ⟨(some 61), (.pure (.ext 0 (.tmp 56))), none⟩,
.op ⟨(some 62), (.pure (.ext 1 (.tmp 56))), none⟩,
.op ⟨(some 63), (.pure (.ext 2 (.tmp 56))), none⟩,
.op ⟨(some 8), (.pure (.mv (.tmp 61))), none⟩,
.op ⟨(some 9), (.pure (.mv (.tmp 62))), none⟩,
.op ⟨(some 10), (.pure (.mv (.tmp 63))), none⟩])
(.seq (.ops [
.op ⟨(some 65), (.load (some 2) (.tmp 5)), none⟩,
.op ⟨(some 66), (.pure (.mv (.tmp 6))), none⟩,
.op ⟨(some 67), (.pure (.mv (.tmp 7))), none⟩,
.op ⟨(some 68), (.eff (.call 34 [(.tmp 65), (.tmp 66), (.tmp 67)])), none⟩,
.op ⟨(some 64), (.pure (.mv (.tmp 68))), none⟩,
.op ⟨(some 69), (.pure (.ext 0 (.tmp 64))), none⟩,
.op ⟨(some 70), (.pure (.ext 1 (.tmp 64))), none⟩,
.op ⟨(some 71), (.pure (.ext 2 (.tmp 64))), none⟩,
.op ⟨(some 11), (.pure (.mv (.tmp 69))), none⟩,
.op ⟨(some 12), (.pure (.mv (.tmp 70))), none⟩,
.op ⟨(some 13), (.pure (.mv (.tmp 71))), none⟩])
(.seq (.ops [
.op ⟨(some 73), (.load (some 2) (.tmp 5)), none⟩,
.op ⟨(some 74), (.pure (.mv (.tmp 6))), none⟩,
.op ⟨(some 75), (.pure (.mv (.tmp 7))), none⟩,
.op ⟨(some 76), (.eff (.call 27 [(.tmp 73), (.tmp 74), (.tmp 75)])), none⟩,
.op ⟨(some 72), (.pure (.mv (.tmp 76))), none⟩,
.op ⟨(some 77), (.pure (.ext 0 (.tmp 72))), none⟩,
.op ⟨(some 78), (.pure (.ext 1 (.tmp 72))), none⟩,
.op ⟨(some 14), (.pure (.mv (.tmp 77))), none⟩,
.op ⟨(some 15), (.pure (.mv (.tmp 78))), none⟩])
(.seq (.ops [
.op ⟨(some 80), (.load (some 2) (.tmp 5)), none⟩,
.op ⟨(some 81), (.pure (.mv (.tmp 6))), none⟩,
.op ⟨(some 82), (.pure (.mv (.tmp 7))), none⟩,
.op ⟨(some 83), (.eff (.call 26 [(.tmp 80), (.tmp 81), (.tmp 82)])), none⟩,
.op ⟨(some 79), (.pure (.mv (.tmp 83))), none⟩,
.op ⟨(some 84), (.pure (.ext 0 (.tmp 79))), none⟩,
.op ⟨(some 85), (.pure (.ext 1 (.tmp 79))), none⟩,
.op ⟨(some 16), (.pure (.mv (.tmp 84))), none⟩,
.op ⟨(some 17), (.pure (.mv (.tmp 85))), none⟩])
(.seq (.ops [
.op ⟨(some 87), (.load (some 2) (.tmp 5)), none⟩,
.op ⟨(some 88), (.pure (.mv (.tmp 6))), none⟩,
.op ⟨(some 89), (.pure (.mv (.tmp 7))), none⟩,
.op ⟨(some 90), (.eff (.call 37 [(.tmp 87), (.tmp 88), (.tmp 89)])), none⟩,
.op ⟨(some 86), (.pure (.mv (.tmp 90))), none⟩,
.op ⟨(some 91), (.pure (.ext 0 (.tmp 86))), none⟩,
.op ⟨(some 92), (.pure (.ext 1 (.tmp 86))), none⟩,
.op ⟨(some 18), (.pure (.mv (.tmp 91))), none⟩,
.op ⟨(some 19), (.pure (.mv (.tmp 92))), none⟩])
(.seq (.ops [
.op ⟨(some 94), (.load (some 2) (.tmp 5)), none⟩,
.op ⟨(some 95), (.pure (.mv (.tmp 6))), none⟩,
.op ⟨(some 96), (.pure (.mv (.tmp 7))), none⟩,
.op ⟨(some 97), (.eff (.call 36 [(.tmp 94), (.tmp 95), (.tmp 96)])), none⟩,
.op ⟨(some 93), (.pure (.mv (.tmp 97))), none⟩,
.op ⟨(some 98), (.pure (.ext 0 (.tmp 93))), none⟩,
.op ⟨(some 99), (.pure (.ext 1 (.tmp 93))), none⟩,
.op ⟨(some 20), (.pure (.mv (.tmp 98))), none⟩,
.op ⟨(some 21), (.pure (.mv (.tmp 99))), none⟩])
(.seq (.seq (.draw true
(.take ⟨(some 100), (.pure (.mv (.tmp 10))), none⟩
(.take ⟨(some 101), (.pure (.mv (.tmp 13))), none⟩
(.take ⟨(some 102), (.pure (.eqb true (.tmp 100) (.tmp 101))), none⟩
(.take ⟨(some 103), (.pure (.mv (.tmp 102))), none⟩
(.split 103
(.take ⟨(some 104), (.pure (.mv (.tmp 8))), (some (103, false))⟩
(.take ⟨(some 105), (.pure (.mv (.tmp 11))), (some (103, false))⟩
(.only false ⟨(some 106), (.eff (.call 46 [(.tmp 104), (.tmp 105)])), (some (103, false))⟩
(.take ⟨(some 107), (.pure (.bnot (.tmp 106))), (some (103, false))⟩
(.take ⟨(some 108), (.pure (.pick (.tmp 103) (.const (.bool true)) (.tmp 107))), none⟩
(.take ⟨(some 109), (.pure (.mv (.tmp 108))), none⟩
(.split 109
(.take ⟨(some 110), (.pure (.mv (.tmp 9))), (some (109, false))⟩
(.take ⟨(some 111), (.pure (.mv (.tmp 12))), (some (109, false))⟩
(.take ⟨(some 112), (.pure (.eqb true (.tmp 110) (.tmp 111))), (some (109, false))⟩
(.take ⟨(some 113), (.pure (.pick (.tmp 109) (.const (.bool true)) (.tmp 112))), none⟩
(.take ⟨(some 114), (.pure (.mv (.tmp 113))), none⟩
(.split 114
(.take ⟨(some 115), (.pure (.mv (.tmp 15))), (some (114, false))⟩
(.take ⟨(some 116), (.pure (.mv (.tmp 17))), (some (114, false))⟩
(.take ⟨(some 117), (.pure (.eqb true (.tmp 115) (.tmp 116))), (some (114, false))⟩
(.take ⟨(some 118), (.pure (.pick (.tmp 114) (.const (.bool true)) (.tmp 117))), none⟩
(.take ⟨(some 119), (.pure (.mv (.tmp 118))), none⟩
(.split 119
(.take ⟨(some 120), (.pure (.mv (.tmp 14))), (some (119, false))⟩
(.take ⟨(some 121), (.pure (.mv (.tmp 16))), (some (119, false))⟩
(.take ⟨(some 122), (.pure (.bin .neq (.tmp 120) (.tmp 121))), (some (119, false))⟩
(.take ⟨(some 123), (.pure (.pick (.tmp 119) (.const (.bool true)) (.tmp 122))), none⟩
(.take ⟨(some 124), (.pure (.mv (.tmp 123))), none⟩
(.split 124
(.take ⟨(some 125), (.pure (.mv (.tmp 19))), (some (124, false))⟩
(.take ⟨(some 126), (.pure (.mv (.tmp 21))), (some (124, false))⟩
(.take ⟨(some 127), (.pure (.eqb true (.tmp 125) (.tmp 126))), (some (124, false))⟩
(.take ⟨(some 128), (.pure (.pick (.tmp 124) (.const (.bool true)) (.tmp 127))), none⟩
(.take ⟨(some 129), (.pure (.mv (.tmp 128))), none⟩
(.split 129
(.take ⟨(some 130), (.pure (.mv (.tmp 18))), (some (129, false))⟩
(.take ⟨(some 131), (.pure (.mv (.tmp 20))), (some (129, false))⟩
(.only false ⟨(some 132), (.eff (.call 46 [(.tmp 130), (.tmp 131)])), (some (129, false))⟩
(.take ⟨(some 133), (.pure (.bnot (.tmp 132))), (some (129, false))⟩
(.take ⟨(some 134), (.pure (.pick (.tmp 129) (.const (.bool true)) (.tmp 133))), none⟩
(.take ⟨(some 135), (.pure (.mv (.tmp 134))), none⟩
(.split 135
(.take ⟨(some 136), (.pure (.mv (.tmp 15))), (some (135, false))⟩
(.take ⟨(some 137), (.pure (.mv (.tmp 10))), (some (135, false))⟩
(.take ⟨(some 138), (.pure (.eqb true (.tmp 136) (.tmp 137))), (some (135, false))⟩
(.take ⟨(some 139), (.pure (.pick (.tmp 135) (.const (.bool true)) (.tmp 138))), none⟩
(.take ⟨(some 140), (.pure (.mv (.tmp 139))), none⟩
(.split 140
(.take ⟨(some 141), (.pure (.mv (.tmp 19))), (some (140, false))⟩
(.take ⟨(some 142), (.pure (.mv (.tmp 10))), (some (140, false))⟩
(.take ⟨(some 143), (.pure (.eqb true (.tmp 141) (.tmp 142))), (some (140, false))⟩
(.take ⟨(some 144), (.pure (.pick (.tmp 140) (.const (.bool true)) (.tmp 143))), none⟩
(.take ⟨(some 145), (.pure (.mv (.tmp 144))), none⟩
(.split 145
(.take ⟨(some 146), (.load (some 2) (.tmp 5)), (some (145, false))⟩
(.take ⟨(some 148), (.load (some 2) (.tmp 5)), (some (145, false))⟩
(.only false ⟨(some 147), (.eff (.call 17 [(.tmp 146)])), (some (145, false))⟩
(.only true ⟨(some 149), (.eff (.call 15 [(.tmp 148)])), (some (145, false))⟩
(.take ⟨(some 150), (.pure (.eqb true (.tmp 147) (.tmp 149))), (some (145, false))⟩
(.take ⟨(some 151), (.pure (.pick (.tmp 145) (.const (.bool true)) (.tmp 150))), none⟩
(.done)))))))))))))))))))))))))))))))))))))))))))))))))))))))))))))))
(.cond (.tmp 151)
(.seq (.ops [
.op ⟨(some 4), (.pure (.mv (.const (.bool false)))), none⟩])
(.ret))
(.skip)))
(.seq (.seq (.ops [
.op ⟨(some 152), (.pure (.mv (.tmp 10))), none⟩])
(.cond (.tmp 152)
(.seq (.seq (.ops [
.op ⟨(some 153), (.pure (.mv (.tmp 11))), none⟩,
.op ⟨(some 154), (.pure (.len (.tmp 153))), none⟩,
.op ⟨(some 155), (.pure (.mv (.tmp 6))), none⟩,
.op ⟨(some 156), (.pure (.len (.tmp 155))), none⟩,
.op ⟨(some 157), (.pure (.bin .gtr (.tmp 154) (.tmp 156))), none⟩,
.op ⟨(some 158), (.pure (.mv (.tmp 157))), none⟩,
.split 158,
.op ⟨(some 159), (.pure (.mv (.tmp 12))), (some (158, false))⟩,
.op ⟨(some 160), (.pure (.mv (.tmp 11))), (some (158, false))⟩,
.op ⟨(some 161), (.pure (.len (.tmp 160))), (some (158, false))⟩,
.op ⟨(some 162), (.pure (.mv (.tmp 6))), (some (158, false))⟩,
.op ⟨(some 163), (.pure (.len (.tmp 162))), (some (158, false))⟩,
.op ⟨(some 164), (.pure (.bin .eql (.tmp 161) (.tmp 163))), (some (158, false))⟩,
.op ⟨(some 165), (.pure (.eqb true (.tmp 159) (.tmp 164))), (some (158, false))⟩,
.op ⟨(some 166), (.pure (.pick (.tmp 158) (.const (.bool true)) (.tmp 165))), none⟩,
.op ⟨(some 167), (.pure (.mv (.tmp 166))), none⟩,
.split 167,
.op ⟨(some 168), (.pure (.mv (.tmp 12))), (some (167, false))⟩,
.op ⟨(some 169), (.pure (.mv (.tmp 168))), (some (167, false))⟩,
.split 169,
.op ⟨(some 170), (.pure (.mv (.tmp 16))), (some (169, true))⟩,
.op ⟨(some 171), (.pure (.mv (.tmp 6))), (some (169, true))⟩,
.op ⟨(some 172), (.pure (.len (.tmp 171))), (some (169, true))⟩,
.op ⟨(some 173), (.pure (.bin .mul (.const (.int .i64 (2))) (.tmp 172))), (some (169, true))⟩,
.op ⟨(some 174), (.pure (.fieldAddr 0 (.tmp 5))), (some (169, true))⟩,
.op ⟨(some 175), (.load none (.tmp 174)), (some (169, true))⟩,
.op ⟨(some 176), (.pure (.bin .sub (.tmp 175) (.const (.int .i64 (1))))), (some (169, true))⟩,
.op ⟨(some 177), (.pure (.bin .mul (.tmp 173) (.tmp 176))), (some (169, true))⟩,
.op ⟨(some 178), (.pure (.bin .lss (.tmp 170) (.tmp 177))), (some (169, true))⟩,
.op ⟨(some 179), (.pure (.pick (.tmp 169) (.tmp 178) (.const (.bool false)))), (some (167, false))⟩,
.op ⟨(some 180), (.pure (.pick (.tmp 167) (.const (.bool true)) (.tmp 179))), none⟩])
(.cond (.tmp 180)
(.seq (.ops [
.op ⟨(some 4), (.pure (.mv (.const (.bool false)))), none⟩])
(.ret))
(.skip)))
(.seq (.ops [
.op ⟨(some 181), (.pure (.mv (.tmp 6))), none⟩,
.op ⟨(some 182), (.pure (.len (.tmp 181))), none⟩,
.op ⟨(some 22), (.pure (.mv (.tmp 182))), none⟩])
(.seq (.seq (.ops [
.op ⟨(some 23), (.pure (.mv (.const (.int .i64 (0))))), none⟩])
(.block 0 (.loop (.seq (.seq (.ops [
.op ⟨(some 183), (.pure (.mv (.tmp 23))), none⟩,
.op ⟨(some 184), (.pure (.fieldAddr 0 (.tmp 5))), none⟩,
.op ⟨(some 185), (.load none (.tmp 184)), none⟩,
.op ⟨(some 186), (.pure (.bin .lss (.tmp 183) (.tmp 185))), none⟩])
(.cond (.tmp 186)
(.skip)
(.exit 0)))
(.seq (.block 1 (.seq (.ops [
.op ⟨(some 190), (.load (some 2) (.tmp 5)), none⟩,
.op ⟨(some 191), (.pure (.mv (.tmp 6))), none⟩,
.op ⟨(some 192), (.pure (.mv (.tmp 7))), none⟩,
.op ⟨(some 193), (.pure (.mv (.tmp 23))), none⟩,
.op ⟨(some 194), (.eff (.call 33 [(.tmp 190), (.tmp 191), (.tmp 192), (.tmp 193)])), none⟩,
.op ⟨(some 189), (.pure (.mv (.tmp 194))), none⟩,
.op ⟨(some 195), (.pure (.ext 0 (.tmp 189))), none⟩,
.op ⟨(some 196), (.pure (.ext 1 (.tmp 189))), none⟩,
.op ⟨(some 24), (.pure (.mv (.tmp 195))), none⟩,
.op ⟨(some 25), (.pure (.mv (.tmp 196))), none⟩])
(.seq (.ops [
.op ⟨(some 198), (.load (some 2) (.tmp 5)), none⟩,
.op ⟨(some 199), (.pure (.mv (.tmp 6))), none⟩,
.op ⟨(some 200), (.pure (.mv (.tmp 7))), none⟩,
.op ⟨(some 201), (.pure (.mv (.tmp 23))), none⟩,
.op ⟨(some 202), (.eff (.call 32 [(.tmp 198), (.tmp 199), (.tmp 200), (.tmp 201)])), none⟩,
.op ⟨(some 197), (.pure (.mv (.tmp 202))), none⟩,
.op ⟨(some 203), (.pure (.ext 0 (.tmp 197))), none⟩,
.op ⟨(some 204), (.pure (.ext 1 (.tmp 197))), none⟩,
.op ⟨(some 26), (.pure (.mv (.tmp 203))), none⟩,
.op ⟨(some 27), (.pure (.mv (.tmp 204))), none⟩])
(.seq (.seq (.ops [
.op ⟨(some 205), (.pure (.mv (.tmp 25))), none⟩,
.op ⟨(some 206), (.pure (.bnot (.tmp 205))), none⟩,
.op ⟨(some 207), (.pure (.mv (.tmp 206))), none⟩,
.split 207,
.op ⟨(some 208), (.pure (.mv (.tmp 27))), (some (207, false))⟩,
.op ⟨(some 209), (.pure (.bnot (.tmp 208))), (some (207, false))⟩,
.op ⟨(some 210), (.pure (.pick (.tmp 207) (.const (.bool true)) (.tmp 209))), none⟩,
.op ⟨(some 211), (.pure (.mv (.tmp 210))), none⟩,
.split 211,
.op ⟨(some 212), (.pure (.mv (.tmp 24))), (some (211, false))⟩,
.op ⟨(some 213), (.pure (.mv (.tmp 26))), (some (211, false))⟩,
.op ⟨(some 214), (.eff (.call 46 [(.tmp 212), (.tmp 213)])), (some (211, false))⟩,
.op ⟨(some 215), (.pure (.bnot (.tmp 214))), (some (211, false))⟩,
.op ⟨(some 216), (.pure (.pick (.tmp 211) (.const (.bool true)) (.tmp 215))), none⟩,
.op ⟨(some 217), (.pure (.mv (.tmp 216))), none⟩,
.split 217,
.op ⟨(some 218), (.pure (.mv (.tmp 26))), (some (217, false))⟩,
.op ⟨(some 219), (.pure (.len (.tmp 218))), (some (217, false))⟩,
.op ⟨(some 220), (.pure (.mv (.tmp 22))), (some (217, false))⟩,
.op ⟨(some 221), (.pure (.bin .gtr (.tmp 219) (.tmp 220))), (some (217, false))⟩,
.op ⟨(some 222), (.pure (.pick (.tmp 217) (.const (.bool true)) (.tmp 221))), none⟩])
(.cond (.tmp 222)
(.seq (.ops [
.op ⟨(some 4), (.pure (.mv (.const (.bool false)))), none⟩])
(.ret))
(.skip)))
(.ops [
.op ⟨(some 223), (.pure (.mv (.tmp 26))), none⟩,
.op ⟨(some 224), (.pure (.len (.tmp 223))), none⟩,
.op ⟨(some 22), (.pure (.mv (.tmp 224))), none⟩])))))
(.ops [
.op ⟨(some 187), (.pure (.mv (.tmp 23))), none⟩,
.op ⟨(some 188), (.pure (.bin .add (.tmp 187) (.const (.int .i64 (1))))), none⟩,
.op ⟨(some 23), (.pure (.mv (.tmp 188))), none⟩]))))))
(.seq (.ops [
.op ⟨(some 226), (.load (some 2) (.tmp 5)), none⟩,
.op ⟨(some 227), (.pure (.mv (.tmp 6))), none⟩,
.op ⟨(some 228), (.eff (.call 35 [(.tmp 226), (.tmp 227), (.const (.slice none 0 0))])), none⟩,
.op ⟨(some 225), (.pure (.mv (.tmp 228))), none⟩,
.op ⟨(some 229), (.pure (.ext 0 (.tmp 225))), none⟩,
.op ⟨(some 230), (.pure (.ext 1 (.tmp 225))), none⟩,
.op ⟨(some 231), (.pure (.ext 2 (.tmp 225))), none⟩,
.op ⟨(some 28), (.pure (.mv (.tmp 229))), none⟩,
.op ⟨(some 29), (.pure (.mv (.tmp 230))), none⟩,
.op ⟨(some 30), (.pure (.mv (.tmp 231))), none⟩])
(.seq (.ops [
.op ⟨(some 232), (.pure (.mv (.tmp 30))), none⟩,
.op ⟨(some 233), (.pure (.bnot (.tmp 232))), none⟩,
.op ⟨(some 234), (.pure (.mv (.tmp 233))), none⟩,
.split 234,
.op ⟨(some 235), (.pure (.mv (.tmp 29))), (some (234, false))⟩,
.op ⟨(some 236), (.pure (.bnot (.tmp 235))), (some (234, false))⟩,
.op ⟨(some 237), (.pure (.pick (.tmp 234) (.const (.bool true)) (.tmp 236))), none⟩,
.op ⟨(some 238), (.pure (.mv (.tmp 237))), none⟩,
.split 238,
.op ⟨(some 239), (.pure (.mv (.tmp 28))), (some (238, false))⟩,
.op ⟨(some 240), (.pure (.mv (.tmp 6))), (some (238, false))⟩,
.op ⟨(some 241), (.eff (.call 46 [(.tmp 239), (.tmp 240)])), (some (238, false))⟩,
.op ⟨(some 242), (.pure (.bnot (.tmp 241))), (some (238, false))⟩,
.op ⟨(some 243), (.pure (.pick (.tmp 238) (.const (.bool true)) (.tmp 242))), none⟩])
(.cond (.tmp 243)
(.seq (.ops [
.op ⟨(some 4), (.pure (.mv (.const (.bool false)))), none⟩])
(.ret))
(.skip)))))))
(.skip)))
(.seq (.ops [
.op ⟨(some 245), (.pure (.mv (.tmp 1))), none⟩,
.op ⟨(some 246), (.eff (.call 47 [(.tmp 245)])), none⟩,
.op ⟨(some 244), (.pure (.mv (.tmp 246))), none⟩,
.op ⟨(some 247), (.pure (.ext 0 (.tmp 244))), none⟩,
.op ⟨(some 248), (.pure (.ext 1 (.tmp 244))), none⟩,
.op ⟨(some 31), (.eff (.new 25 [(.int .i64 (0)), (.int .i64 (0))])), none⟩,
.op ⟨none, (.eff (.store 2 (.tmp 31) (.tmp 247))), none⟩,
.op ⟨(some 32), (.pure (.mv (.tmp 248))), none⟩])
(.seq (.ops [
.op ⟨(some 250), (.load (some 2) (.tmp 31)), none⟩,
.op ⟨(some 251), (.pure (.mv (.tmp 32))), none⟩,
.op ⟨(some 252), (.eff (.call 19 [(.tmp 250), (.tmp 251)])), none⟩,
.op ⟨(some 249), (.pure (.mv (.tmp 252))), none⟩,
.op ⟨(some 253), (.pure (.ext 0 (.tmp 249))), none⟩,
.op ⟨(some 254), (.pure (.ext 1 (.tmp 249))), none⟩,
.op ⟨(some 33), (.pure (.mv (.tmp 253))), none⟩,
.op ⟨(some 34), (.pure (.mv (.tmp 254))), none⟩])
(.seq (.ops [
.op ⟨(some 256), (.load (some 2) (.tmp 31)), none⟩,
.op ⟨(some 257), (.pure (.mv (.tmp 32))), none⟩,
.op ⟨(some 258), (.eff (.call 18 [(.tmp 256), (.tmp 257)])), none⟩,
.op ⟨(some 255), (.pure (.mv (.tmp 258))), none⟩,
.op ⟨(some 259), (.pure (.ext 0 (.tmp 255))), none⟩,
.op ⟨(some 260), (.pure (.ext 1 (.tmp 255))), none⟩,
.op ⟨(some 35), (.pure (.mv (.tmp 259))), none⟩,
.op ⟨(some 36), (.pure (.mv (.tmp 260))), none⟩])
(.seq (.seq (.ops [
.op ⟨(some 261), (.pure (.mv (.tmp 34))), none⟩,
.op ⟨(some 262), (.pure (.mv (.tmp 36))), none⟩,
.op ⟨(some 263), (.pure (.eqb true (.tmp 261) (.tmp 262))), none⟩,
.op ⟨(some 264), (.pure (.mv (.tmp 263))), none⟩,
.split 264,
.op ⟨(some 265), (.pure (.mv (.tmp 33))), (some (264, false))⟩,
.op ⟨(some 266), (.pure (.mv (.tmp 35))), (some (264, false))⟩,
.op ⟨(some 267), (.pure (.bin .neq (.tmp 265) (.tmp 266))), (some (264, false))⟩,
.op ⟨(some 268), (.pure (.pick (.tmp 264) (.const (.bool true)) (.tmp 267))), none⟩])
(.cond (.tmp 268)
(.seq (.ops [
.op ⟨(some 4), (.pure (.mv (.const (.bool false)))), none⟩])
(.ret))
(.skip)))
(.seq (.seq (.ops [
.op ⟨(some 269), (.pure (.mv (.tmp 34))), none⟩])
(.cond (.tmp 269)
(.seq (.draw true
(.take ⟨(some 272), (.pure (.mv (.tmp 32))), none⟩
(.take ⟨(some 271), (.load (some 2) (.tmp 31)), none⟩
(.only false ⟨(some 273), (.eff (.mk 3 1 8 [(.int .i64 (0))] (.tmp 272) (.tmp 272))), none⟩
(.only true ⟨(some 274), (.eff (.call 27 [(.tmp 271), (.tmp 273), (.const (.slice none 0 0))])), none⟩
(.take ⟨(some 270), (.pure (.mv (.tmp 274))), none⟩
(.take ⟨(some 275), (.pure (.ext 0 (.tmp 270))), none⟩
(.take ⟨(some 276), (.pure (.ext 1 (.tmp 270))), none⟩
(.take ⟨(some 37), (.pure (.mv (.tmp 275))), none⟩
(.take ⟨(some 38), (.pure (.mv (.tmp 276))), none⟩
(.done)))))))))))
(.seq (.ops [
.op ⟨(some 277), (.pure (.mv (.tmp 38))), none⟩,
.op ⟨(some 278), (.pure (.bnot (.tmp 277))), none⟩,
.op ⟨(some 279), (.pure (.mv (.tmp 278))), none⟩,
.split 279,
.op ⟨(some 280), (.pure (.mv (.tmp 37))), (some (279, false))⟩,
.op ⟨(some 281), (.pure (.mv (.tmp 35))), (some (279, false))⟩,
.op ⟨(some 282), (.pure (.bin .neq (.tmp 280) (.tmp 281))), (some (279, false))⟩,
.op ⟨(some 283), (.pure (.pick (.tmp 279) (.const (.bool true)) (.tmp 282))), none⟩])
(.cond (.tmp 283)
(.seq (.ops [
.op ⟨(some 4), (.pure (.mv (.const (.bool false)))), none⟩])
(.ret))
(.skip))))
(.skip)))
(.seq (.ops [
.op ⟨(some 285), (.pure (.mv (.tmp 1))), none⟩,
.op ⟨(some 286), (.eff (.call 48 [(.tmp 285)])), none⟩,
.op ⟨(some 284), (.pure (.mv (.tmp 286))), none⟩,
.op ⟨(some 287), (.pure (.ext 0 (.tmp 284))), none⟩,
.op ⟨(some 288), (.pure (.ext 1 (.tmp 284))), none⟩,
.op ⟨(some 289), (.pure (.ext 2 (.tmp 284))), none⟩,
.op ⟨(some 290), (.pure (.ext 3 (.tmp 284))), none⟩,
.op ⟨(some 39), (.eff (.new 25 [(.int .i64 (0)), (.int .i64 (0))])), none⟩,
.op ⟨none, (.eff (.store 2 (.tmp 39) (.tmp 287))), none⟩,
.op ⟨(some 40), (.pure (.mv (.tmp 288))), none⟩,
.op ⟨(some 41), (.pure (.mv (.tmp 289))), none⟩,
.op ⟨(some 42), (.pure (.mv (.tmp 290))), none⟩])
(.seq (.ops [
.op ⟨(some 292), (.load (some 2) (.tmp 39)), none⟩,
.op ⟨(some 293), (.pure (.mv (.tmp 40))), none⟩,
.op ⟨(some 294), (.pure (.mv (.tmp 41))), none⟩,
.op ⟨(some 295), (.pure (.mv (.tmp 42))), none⟩,
.op ⟨(some 296), (.eff (.call 33 [(.tmp 292), (.tmp 293), (.tmp 294), (.tmp 295)])), none⟩,
.op ⟨(some 291), (.pure (.mv (.tmp 296))), none⟩,
.op ⟨(some 297), (.pure (.ext 0 (.tmp 291))), none⟩,
.op ⟨(some 298), (.pure (.ext 1 (.tmp 291))), none⟩,
.op ⟨(some 43), (.pure (.mv (.tmp 297))), none⟩,
.op ⟨(some 44), (.pure (.mv (.tmp 298))), none⟩])
(.seq (.ops [
.op ⟨(some 300), (.load (some 2) (.tmp 39)), none⟩,
.op ⟨(some 301), (.pure (.mv (.tmp 40))), none⟩,
.op ⟨(some 302), (.pure (.mv (.tmp 41))), none⟩,
.op ⟨(some 303), (.pure (.mv (.tmp 42))), none⟩,
.op ⟨(some 304), (.eff (.call 32 [(.tmp 300), (.tmp 301), (.tmp 302), (.tmp 303)])), none⟩,
.op ⟨(some 299), (.pure (.mv (.tmp 304))), none⟩,
.op ⟨(some 305), (.pure (.ext 0 (.tmp 299))), none⟩,
.op ⟨(some 306), (.pure (.ext 1 (.tmp 299))), none⟩,
.op ⟨(some 45), (.pure (.mv (.tmp 305))), none⟩,
.op ⟨(some 46), (.pure (.mv (.tmp 306))), none⟩])
(.seq (.ops [
.op ⟨(some 307), (.pure (.mv (.tmp 44))), none⟩,
.op ⟨(some 308), (.pure (.mv (.tmp 46))), none⟩,
.op ⟨(some 309), (.pure (.eqb false (.tmp 307) (.tmp 308))), none⟩,
.op ⟨(some 310), (.pure (.mv (.tmp 309))), none⟩,
.split 310,
.op ⟨(some 311), (.pure (.mv (.tmp 43))), (some (310, true))⟩,
.op ⟨(some 312), (.pure (.mv (.tmp 45))), (some (310, true))⟩,
.op ⟨(some 313), (.eff (.call 46 [(.tmp 311), (.tmp 312)])), (some (310, true))⟩,
.op ⟨(some 314), (.pure (.pick (.tmp 310) (.tmp 313) (.const (.bool false)))), none⟩,
.op ⟨(some 4), (.pure (.mv (.tmp 314))), none⟩])
(.ret)))))))))))))))))))),
[.tmp 4]⟩
theorem r_laws_FnLines : resFun Try.prog f_laws_FnLines = some c_laws_FnLines := by kernel_rfl
end Go.Proofs.Ytckkablifoblbaa
