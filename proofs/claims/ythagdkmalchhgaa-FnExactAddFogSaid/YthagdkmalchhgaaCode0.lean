/- The code of this seat's functions, resolved, written by a program of mine; each is held against the given program by the kernel. Condition: none. -/
import Derived.Test.YthagdkmalchhgaaProg
import Derived.Test.YthagdkmalchhgaaBase9
import Derived.KernelRfl
namespace Go.Proofs.Ythagdkmalchhgaa
open Go.Vc

/- loop.example/g00940/laws.FnExactPlainDelay -/
abbrev f_laws_FnExactPlainDelay : Nat := 3
def c_laws_FnExactPlainDelay : MFun := ⟨48, .seq (.ops [
.op ⟨(some 3), (.eff (.box 25 (.tmp 0))), none⟩,
.op ⟨(some 6), (.pure (.mv (.const (.bool false)))), none⟩])
(.seq (.ops [
.op ⟨(some 7), (.pure (.mv (.const (.int .i64 (1048576))))), none⟩])
(.seq (.ops [
.op ⟨(some 13), (.load (some 2) (.tmp 3)), none⟩,
.op ⟨(some 14), (.pure (.mv (.tmp 7))), none⟩,
.op ⟨(some 15), (.eff (.call 19 [(.tmp 13), (.tmp 14)])), none⟩,
.op ⟨(some 7), (.pure (.mv (.tmp 15))), none⟩])
(.seq (.seq (.ops [
.op ⟨(some 16), (.pure (.mv (.tmp 7))), none⟩,
.op ⟨(some 17), (.pure (.bin .lss (.tmp 16) (.const (.int .i64 (0))))), none⟩])
(.cond (.tmp 17)
(.seq (.ops [
.op ⟨(some 6), (.pure (.mv (.const (.bool true)))), none⟩])
(.ret))
(.skip)))
(.seq (.ops [
.op ⟨(some 19), (.load (some 2) (.tmp 3)), none⟩,
.op ⟨(some 20), (.eff (.call 21 [(.tmp 19)])), none⟩,
.op ⟨(some 21), (.pure (.mv (.tmp 1))), none⟩,
.op ⟨(some 22), (.pure (.mv (.tmp 2))), none⟩,
.op ⟨(some 23), (.eff (.call 20 [(.tmp 20), (.tmp 21), (.tmp 22)])), none⟩,
.op ⟨(some 18), (.pure (.mv (.tmp 23))), none⟩,
.op ⟨(some 24), (.pure (.ext 0 (.tmp 18))), none⟩,
.op ⟨(some 25), (.pure (.ext 1 (.tmp 18))), none⟩,
.op ⟨(some 8), (.pure (.mv (.tmp 24))), none⟩,
.op ⟨(some 9), (.pure (.mv (.tmp 25))), none⟩])
(.seq (.ops [
.op ⟨(some 26), (.load (some 2) (.tmp 3)), none⟩,
.op ⟨(some 27), (.eff (.call 21 [(.tmp 26)])), none⟩,
.op ⟨(some 10), (.eff (.new 32 [(.slice none 0 0), (.slice none 0 0)])), none⟩,
.op ⟨none, (.eff (.store 2 (.tmp 10) (.tmp 27))), none⟩])
(.seq (.ops [
.op ⟨(some 29), (.load (some 2) (.tmp 10)), none⟩,
.op ⟨(some 30), (.pure (.mv (.tmp 1))), none⟩,
.op ⟨(some 31), (.pure (.mv (.tmp 2))), none⟩,
.op ⟨(some 32), (.eff (.call 22 [(.tmp 29), (.tmp 30), (.tmp 31)])), none⟩,
.op ⟨(some 28), (.pure (.mv (.tmp 32))), none⟩,
.op ⟨(some 33), (.pure (.ext 0 (.tmp 28))), none⟩,
.op ⟨(some 34), (.pure (.ext 1 (.tmp 28))), none⟩,
.op ⟨(some 11), (.pure (.mv (.tmp 33))), none⟩,
.op ⟨(some 12), (.pure (.mv (.tmp 34))), none⟩])
(.seq (.seq (.ops [
.op ⟨(some 35), (.pure (.mv (.tmp 11))), none⟩,
.op ⟨(some 36), (.pure (.mv (.tmp 8))), none⟩,
.op ⟨(some 37), (.pure (.bin .neq (.tmp 35) (.tmp 36))), none⟩,
.op ⟨(some 38), (.pure (.mv (.tmp 37))), none⟩,
.split 38,
.op ⟨(some 39), (.pure (.mv (.tmp 12))), (some (38, false))⟩,
.op ⟨(some 40), (.pure (.mv (.tmp 9))), (some (38, false))⟩,
.op ⟨(some 41), (.pure (.eqb true (.tmp 39) (.tmp 40))), (some (38, false))⟩,
.op ⟨(some 42), (.pure (.pick (.tmp 38) (.const (.bool true)) (.tmp 41))), none⟩])
(.cond (.tmp 42)
(.seq (.ops [
.op ⟨(some 6), (.pure (.mv (.const (.bool false)))), none⟩])
(.ret))
(.skip)))
(.seq (.seq (.draw true
(.only false ⟨(some 44), (.load (some 2) (.tmp 3)), none⟩
(.take ⟨(some 43), (.load (some 2) (.tmp 10)), none⟩
(.only false ⟨(some 45), (.eff (.call 21 [(.tmp 44)])), none⟩
(.only true ⟨(some 46), (.eff (.call 23 [(.tmp 43), (.tmp 45)])), none⟩
(.take ⟨(some 47), (.pure (.bnot (.tmp 46))), none⟩
(.done)))))))
(.cond (.tmp 47)
(.seq (.ops [
.op ⟨(some 6), (.pure (.mv (.const (.bool false)))), none⟩])
(.ret))
(.skip)))
(.seq (.ops [
.op ⟨(some 6), (.pure (.mv (.const (.bool true)))), none⟩])
(.ret)))))))))),
[.tmp 6]⟩
theorem r_laws_FnExactPlainDelay : resFun Try.prog f_laws_FnExactPlainDelay = some c_laws_FnExactPlainDelay := by kernel_rfl

/- loop.example/g00940/laws.FnExactDelayWithout -/
abbrev f_laws_FnExactDelayWithout : Nat := 4
def c_laws_FnExactDelayWithout : MFun := ⟨52, .seq (.ops [
.op ⟨(some 4), (.eff (.box 25 (.tmp 0))), none⟩,
.op ⟨(some 8), (.pure (.mv (.const (.bool false)))), none⟩])
(.seq (.ops [
.op ⟨(some 9), (.pure (.mv (.const (.int .i64 (1048576))))), none⟩])
(.seq (.ops [
.op ⟨(some 15), (.load (some 2) (.tmp 4)), none⟩,
.op ⟨(some 16), (.pure (.mv (.tmp 9))), none⟩,
.op ⟨(some 17), (.eff (.call 19 [(.tmp 15), (.tmp 16)])), none⟩,
.op ⟨(some 9), (.pure (.mv (.tmp 17))), none⟩])
(.seq (.seq (.ops [
.op ⟨(some 18), (.pure (.mv (.tmp 9))), none⟩,
.op ⟨(some 19), (.pure (.bin .lss (.tmp 18) (.const (.int .i64 (0))))), none⟩])
(.cond (.tmp 19)
(.seq (.ops [
.op ⟨(some 8), (.pure (.mv (.const (.bool true)))), none⟩])
(.ret))
(.skip)))
(.seq (.ops [
.op ⟨(some 21), (.load (some 2) (.tmp 4)), none⟩,
.op ⟨(some 22), (.eff (.call 21 [(.tmp 21)])), none⟩,
.op ⟨(some 23), (.pure (.mv (.tmp 1))), none⟩,
.op ⟨(some 24), (.pure (.mv (.tmp 2))), none⟩,
.op ⟨(some 25), (.pure (.mv (.tmp 3))), none⟩,
.op ⟨(some 26), (.eff (.call 24 [(.tmp 22), (.tmp 23), (.tmp 24), (.tmp 25)])), none⟩,
.op ⟨(some 20), (.pure (.mv (.tmp 26))), none⟩,
.op ⟨(some 27), (.pure (.ext 0 (.tmp 20))), none⟩,
.op ⟨(some 28), (.pure (.ext 1 (.tmp 20))), none⟩,
.op ⟨(some 10), (.pure (.mv (.tmp 27))), none⟩,
.op ⟨(some 11), (.pure (.mv (.tmp 28))), none⟩])
(.seq (.ops [
.op ⟨(some 29), (.load (some 2) (.tmp 4)), none⟩,
.op ⟨(some 30), (.eff (.call 21 [(.tmp 29)])), none⟩,
.op ⟨(some 12), (.eff (.new 32 [(.slice none 0 0), (.slice none 0 0)])), none⟩,
.op ⟨none, (.eff (.store 2 (.tmp 12) (.tmp 30))), none⟩])
(.seq (.ops [
.op ⟨(some 32), (.load (some 2) (.tmp 12)), none⟩,
.op ⟨(some 33), (.pure (.mv (.tmp 1))), none⟩,
.op ⟨(some 34), (.pure (.mv (.tmp 2))), none⟩,
.op ⟨(some 35), (.pure (.mv (.tmp 3))), none⟩,
.op ⟨(some 36), (.eff (.call 25 [(.tmp 32), (.tmp 33), (.tmp 34), (.tmp 35)])), none⟩,
.op ⟨(some 31), (.pure (.mv (.tmp 36))), none⟩,
.op ⟨(some 37), (.pure (.ext 0 (.tmp 31))), none⟩,
.op ⟨(some 38), (.pure (.ext 1 (.tmp 31))), none⟩,
.op ⟨(some 13), (.pure (.mv (.tmp 37))), none⟩,
.op ⟨(some 14), (.pure (.mv (.tmp 38))), none⟩])
(.seq (.seq (.ops [
.op ⟨(some 39), (.pure (.mv (.tmp 13))), none⟩,
.op ⟨(some 40), (.pure (.mv (.tmp 10))), none⟩,
.op ⟨(some 41), (.pure (.bin .neq (.tmp 39) (.tmp 40))), none⟩,
.op ⟨(some 42), (.pure (.mv (.tmp 41))), none⟩,
.split 42,
.op ⟨(some 43), (.pure (.mv (.tmp 14))), (some (42, false))⟩,
.op ⟨(some 44), (.pure (.mv (.tmp 11))), (some (42, false))⟩,
.op ⟨(some 45), (.pure (.eqb true (.tmp 43) (.tmp 44))), (some (42, false))⟩,
.op ⟨(some 46), (.pure (.pick (.tmp 42) (.const (.bool true)) (.tmp 45))), none⟩])
(.cond (.tmp 46)
(.seq (.ops [
.op ⟨(some 8), (.pure (.mv (.const (.bool false)))), none⟩])
(.ret))
(.skip)))
(.seq (.seq (.draw true
(.only false ⟨(some 48), (.load (some 2) (.tmp 4)), none⟩
(.take ⟨(some 47), (.load (some 2) (.tmp 12)), none⟩
(.only false ⟨(some 49), (.eff (.call 21 [(.tmp 48)])), none⟩
(.only true ⟨(some 50), (.eff (.call 23 [(.tmp 47), (.tmp 49)])), none⟩
(.take ⟨(some 51), (.pure (.bnot (.tmp 50))), none⟩
(.done)))))))
(.cond (.tmp 51)
(.seq (.ops [
.op ⟨(some 8), (.pure (.mv (.const (.bool false)))), none⟩])
(.ret))
(.skip)))
(.seq (.ops [
.op ⟨(some 8), (.pure (.mv (.const (.bool true)))), none⟩])
(.ret)))))))))),
[.tmp 8]⟩
theorem r_laws_FnExactDelayWithout : resFun Try.prog f_laws_FnExactDelayWithout = some c_laws_FnExactDelayWithout := by kernel_rfl

/- loop.example/g00940/laws.FnExactFirstArrival -/
abbrev f_laws_FnExactFirstArrival : Nat := 5
def c_laws_FnExactFirstArrival : MFun := ⟨70, .seq (.ops [
.op ⟨(some 5), (.eff (.box 25 (.tmp 0))), none⟩,
.op ⟨(some 10), (.pure (.mv (.const (.bool false)))), none⟩])
(.seq (.ops [
.op ⟨(some 11), (.pure (.mv (.const (.int .i64 (1048576))))), none⟩])
(.seq (.ops [
.op ⟨(some 18), (.load (some 2) (.tmp 5)), none⟩,
.op ⟨(some 19), (.pure (.mv (.tmp 11))), none⟩,
.op ⟨(some 20), (.eff (.call 19 [(.tmp 18), (.tmp 19)])), none⟩,
.op ⟨(some 11), (.pure (.mv (.tmp 20))), none⟩])
(.seq (.seq (.ops [
.op ⟨(some 21), (.pure (.mv (.tmp 11))), none⟩,
.op ⟨(some 22), (.pure (.bin .lss (.tmp 21) (.const (.int .i64 (0))))), none⟩])
(.cond (.tmp 22)
(.seq (.ops [
.op ⟨(some 10), (.pure (.mv (.const (.bool true)))), none⟩])
(.ret))
(.skip)))
(.seq (.ops [
.op ⟨(some 23), (.pure (.mv (.tmp 1))), none⟩,
.op ⟨(some 24), (.pure (.mv (.tmp 11))), none⟩,
.op ⟨(some 25), (.eff (.call 26 [(.tmp 23), (.tmp 24)])), none⟩,
.op ⟨(some 11), (.pure (.mv (.tmp 25))), none⟩])
(.seq (.seq (.ops [
.op ⟨(some 26), (.pure (.mv (.tmp 11))), none⟩,
.op ⟨(some 27), (.pure (.bin .lss (.tmp 26) (.const (.int .i64 (0))))), none⟩])
(.cond (.tmp 27)
(.seq (.ops [
.op ⟨(some 10), (.pure (.mv (.const (.bool true)))), none⟩])
(.ret))
(.skip)))
(.seq (.ops [
.op ⟨(some 29), (.load (some 2) (.tmp 5)), none⟩,
.op ⟨(some 30), (.eff (.call 21 [(.tmp 29)])), none⟩,
.op ⟨(some 31), (.pure (.mv (.tmp 1))), none⟩,
.op ⟨(some 32), (.eff (.call 28 [(.tmp 31)])), none⟩,
.op ⟨(some 33), (.pure (.mv (.tmp 2))), none⟩,
.op ⟨(some 34), (.pure (.mv (.tmp 3))), none⟩,
.op ⟨(some 35), (.pure (.mv (.tmp 4))), none⟩,
.op ⟨(some 36), (.eff (.call 27 [(.tmp 30), (.tmp 32), (.tmp 33), (.tmp 34), (.tmp 35)])), none⟩,
.op ⟨(some 28), (.pure (.mv (.tmp 36))), none⟩,
.op ⟨(some 37), (.pure (.ext 0 (.tmp 28))), none⟩,
.op ⟨(some 38), (.pure (.ext 1 (.tmp 28))), none⟩,
.op ⟨(some 12), (.pure (.mv (.tmp 37))), none⟩,
.op ⟨(some 13), (.pure (.mv (.tmp 38))), none⟩])
(.seq (.ops [
.op ⟨(some 39), (.load (some 2) (.tmp 5)), none⟩,
.op ⟨(some 40), (.eff (.call 21 [(.tmp 39)])), none⟩,
.op ⟨(some 14), (.eff (.new 32 [(.slice none 0 0), (.slice none 0 0)])), none⟩,
.op ⟨none, (.eff (.store 2 (.tmp 14) (.tmp 40))), none⟩])
(.seq (.ops [
.op ⟨(some 41), (.pure (.mv (.tmp 1))), none⟩,
.op ⟨(some 42), (.eff (.call 28 [(.tmp 41)])), none⟩,
.op ⟨(some 15), (.pure (.mv (.tmp 42))), none⟩])
(.seq (.ops [
.op ⟨(some 44), (.load (some 2) (.tmp 14)), none⟩,
.op ⟨(some 45), (.pure (.mv (.tmp 15))), none⟩,
.op ⟨(some 46), (.pure (.mv (.tmp 2))), none⟩,
.op ⟨(some 47), (.pure (.mv (.tmp 3))), none⟩,
.op ⟨(some 48), (.pure (.mv (.tmp 4))), none⟩,
.op ⟨(some 49), (.eff (.call 29 [(.tmp 44), (.tmp 45), (.tmp 46), (.tmp 47), (.tmp 48)])), none⟩,
.op ⟨(some 43), (.pure (.mv (.tmp 49))), none⟩,
.op ⟨(some 50), (.pure (.ext 0 (.tmp 43))), none⟩,
.op ⟨(some 51), (.pure (.ext 1 (.tmp 43))), none⟩,
.op ⟨(some 16), (.pure (.mv (.tmp 50))), none⟩,
.op ⟨(some 17), (.pure (.mv (.tmp 51))), none⟩])
(.seq (.seq (.ops [
.op ⟨(some 52), (.pure (.mv (.tmp 16))), none⟩,
.op ⟨(some 53), (.pure (.mv (.tmp 12))), none⟩,
.op ⟨(some 54), (.pure (.bin .neq (.tmp 52) (.tmp 53))), none⟩,
.op ⟨(some 55), (.pure (.mv (.tmp 54))), none⟩,
.split 55,
.op ⟨(some 56), (.pure (.mv (.tmp 17))), (some (55, false))⟩,
.op ⟨(some 57), (.pure (.mv (.tmp 13))), (some (55, false))⟩,
.op ⟨(some 58), (.pure (.eqb true (.tmp 56) (.tmp 57))), (some (55, false))⟩,
.op ⟨(some 59), (.pure (.pick (.tmp 55) (.const (.bool true)) (.tmp 58))), none⟩])
(.cond (.tmp 59)
(.seq (.ops [
.op ⟨(some 10), (.pure (.mv (.const (.bool false)))), none⟩])
(.ret))
(.skip)))
(.seq (.seq (.draw true
(.only false ⟨(some 61), (.load (some 2) (.tmp 5)), none⟩
(.take ⟨(some 60), (.load (some 2) (.tmp 14)), none⟩
(.only false ⟨(some 62), (.eff (.call 21 [(.tmp 61)])), none⟩
(.only true ⟨(some 63), (.eff (.call 23 [(.tmp 60), (.tmp 62)])), none⟩
(.take ⟨(some 64), (.pure (.bnot (.tmp 63))), none⟩
(.done)))))))
(.cond (.tmp 64)
(.seq (.ops [
.op ⟨(some 10), (.pure (.mv (.const (.bool false)))), none⟩])
(.ret))
(.skip)))
(.seq (.seq (.ops [
.op ⟨(some 65), (.pure (.mv (.tmp 15))), none⟩,
.op ⟨(some 66), (.pure (.mv (.tmp 1))), none⟩,
.op ⟨(some 67), (.eff (.call 28 [(.tmp 66)])), none⟩,
.op ⟨(some 68), (.eff (.call 30 [(.tmp 65), (.tmp 67)])), none⟩,
.op ⟨(some 69), (.pure (.bnot (.tmp 68))), none⟩])
(.cond (.tmp 69)
(.seq (.ops [
.op ⟨(some 10), (.pure (.mv (.const (.bool false)))), none⟩])
(.ret))
(.skip)))
(.seq (.ops [
.op ⟨(some 10), (.pure (.mv (.const (.bool true)))), none⟩])
(.ret)))))))))))))),
[.tmp 10]⟩
theorem r_laws_FnExactFirstArrival : resFun Try.prog f_laws_FnExactFirstArrival = some c_laws_FnExactFirstArrival := by kernel_rfl

/- loop.example/g00940/laws.FnExactLatestStart -/
abbrev f_laws_FnExactLatestStart : Nat := 6
def c_laws_FnExactLatestStart : MFun := ⟨70, .seq (.ops [
.op ⟨(some 5), (.eff (.box 25 (.tmp 0))), none⟩,
.op ⟨(some 10), (.pure (.mv (.const (.bool false)))), none⟩])
(.seq (.ops [
.op ⟨(some 11), (.pure (.mv (.const (.int .i64 (1048576))))), none⟩])
(.seq (.ops [
.op ⟨(some 18), (.load (some 2) (.tmp 5)), none⟩,
.op ⟨(some 19), (.pure (.mv (.tmp 11))), none⟩,
.op ⟨(some 20), (.eff (.call 19 [(.tmp 18), (.tmp 19)])), none⟩,
.op ⟨(some 11), (.pure (.mv (.tmp 20))), none⟩])
(.seq (.seq (.ops [
.op ⟨(some 21), (.pure (.mv (.tmp 11))), none⟩,
.op ⟨(some 22), (.pure (.bin .lss (.tmp 21) (.const (.int .i64 (0))))), none⟩])
(.cond (.tmp 22)
(.seq (.ops [
.op ⟨(some 10), (.pure (.mv (.const (.bool true)))), none⟩])
(.ret))
(.skip)))
(.seq (.ops [
.op ⟨(some 23), (.pure (.mv (.tmp 1))), none⟩,
.op ⟨(some 24), (.pure (.mv (.tmp 11))), none⟩,
.op ⟨(some 25), (.eff (.call 26 [(.tmp 23), (.tmp 24)])), none⟩,
.op ⟨(some 11), (.pure (.mv (.tmp 25))), none⟩])
(.seq (.seq (.ops [
.op ⟨(some 26), (.pure (.mv (.tmp 11))), none⟩,
.op ⟨(some 27), (.pure (.bin .lss (.tmp 26) (.const (.int .i64 (0))))), none⟩])
(.cond (.tmp 27)
(.seq (.ops [
.op ⟨(some 10), (.pure (.mv (.const (.bool true)))), none⟩])
(.ret))
(.skip)))
(.seq (.ops [
.op ⟨(some 29), (.load (some 2) (.tmp 5)), none⟩,
.op ⟨(some 30), (.eff (.call 21 [(.tmp 29)])), none⟩,
.op ⟨(some 31), (.pure (.mv (.tmp 1))), none⟩,
.op ⟨(some 32), (.eff (.call 28 [(.tmp 31)])), none⟩,
.op ⟨(some 33), (.pure (.mv (.tmp 2))), none⟩,
.op ⟨(some 34), (.pure (.mv (.tmp 3))), none⟩,
.op ⟨(some 35), (.pure (.mv (.tmp 4))), none⟩,
.op ⟨(some 36), (.eff (.call 31 [(.tmp 30), (.tmp 32), (.tmp 33), (.tmp 34), (.tmp 35)])), none⟩,
.op ⟨(some 28), (.pure (.mv (.tmp 36))), none⟩,
.op ⟨(some 37), (.pure (.ext 0 (.tmp 28))), none⟩,
.op ⟨(some 38), (.pure (.ext 1 (.tmp 28))), none⟩,
.op ⟨(some 12), (.pure (.mv (.tmp 37))), none⟩,
.op ⟨(some 13), (.pure (.mv (.tmp 38))), none⟩])
(.seq (.ops [
.op ⟨(some 39), (.load (some 2) (.tmp 5)), none⟩,
.op ⟨(some 40), (.eff (.call 21 [(.tmp 39)])), none⟩,
.op ⟨(some 14), (.eff (.new 32 [(.slice none 0 0), (.slice none 0 0)])), none⟩,
.op ⟨none, (.eff (.store 2 (.tmp 14) (.tmp 40))), none⟩])
(.seq (.ops [
.op ⟨(some 41), (.pure (.mv (.tmp 1))), none⟩,
.op ⟨(some 42), (.eff (.call 28 [(.tmp 41)])), none⟩,
.op ⟨(some 15), (.pure (.mv (.tmp 42))), none⟩])
(.seq (.ops [
.op ⟨(some 44), (.load (some 2) (.tmp 14)), none⟩,
.op ⟨(some 45), (.pure (.mv (.tmp 15))), none⟩,
.op ⟨(some 46), (.pure (.mv (.tmp 2))), none⟩,
.op ⟨(some 47), (.pure (.mv (.tmp 3))), none⟩,
.op ⟨(some 48), (.pure (.mv (.tmp 4))), none⟩,
.op ⟨(some 49), (.eff (.call 32 [(.tmp 44), (.tmp 45), (.tmp 46), (.tmp 47), (.tmp 48)])), none⟩,
.op ⟨(some 43), (.pure (.mv (.tmp 49))), none⟩,
.op ⟨(some 50), (.pure (.ext 0 (.tmp 43))), none⟩,
.op ⟨(some 51), (.pure (.ext 1 (.tmp 43))), none⟩,
.op ⟨(some 16), (.pure (.mv (.tmp 50))), none⟩,
.op ⟨(some 17), (.pure (.mv (.tmp 51))), none⟩])
(.seq (.seq (.ops [
.op ⟨(some 52), (.pure (.mv (.tmp 16))), none⟩,
.op ⟨(some 53), (.pure (.mv (.tmp 12))), none⟩,
.op ⟨(some 54), (.pure (.bin .neq (.tmp 52) (.tmp 53))), none⟩,
.op ⟨(some 55), (.pure (.mv (.tmp 54))), none⟩,
.split 55,
.op ⟨(some 56), (.pure (.mv (.tmp 17))), (some (55, false))⟩,
.op ⟨(some 57), (.pure (.mv (.tmp 13))), (some (55, false))⟩,
.op ⟨(some 58), (.pure (.eqb true (.tmp 56) (.tmp 57))), (some (55, false))⟩,
.op ⟨(some 59), (.pure (.pick (.tmp 55) (.const (.bool true)) (.tmp 58))), none⟩])
(.cond (.tmp 59)
(.seq (.ops [
.op ⟨(some 10), (.pure (.mv (.const (.bool false)))), none⟩])
(.ret))
(.skip)))
(.seq (.seq (.draw true
(.only false ⟨(some 61), (.load (some 2) (.tmp 5)), none⟩
(.take ⟨(some 60), (.load (some 2) (.tmp 14)), none⟩
(.only false ⟨(some 62), (.eff (.call 21 [(.tmp 61)])), none⟩
(.only true ⟨(some 63), (.eff (.call 23 [(.tmp 60), (.tmp 62)])), none⟩
(.take ⟨(some 64), (.pure (.bnot (.tmp 63))), none⟩
(.done)))))))
(.cond (.tmp 64)
(.seq (.ops [
.op ⟨(some 10), (.pure (.mv (.const (.bool false)))), none⟩])
(.ret))
(.skip)))
(.seq (.seq (.ops [
.op ⟨(some 65), (.pure (.mv (.tmp 15))), none⟩,
.op ⟨(some 66), (.pure (.mv (.tmp 1))), none⟩,
.op ⟨(some 67), (.eff (.call 28 [(.tmp 66)])), none⟩,
.op ⟨(some 68), (.eff (.call 30 [(.tmp 65), (.tmp 67)])), none⟩,
.op ⟨(some 69), (.pure (.bnot (.tmp 68))), none⟩])
(.cond (.tmp 69)
(.seq (.ops [
.op ⟨(some 10), (.pure (.mv (.const (.bool false)))), none⟩])
(.ret))
(.skip)))
(.seq (.ops [
.op ⟨(some 10), (.pure (.mv (.const (.bool true)))), none⟩])
(.ret)))))))))))))),
[.tmp 10]⟩
theorem r_laws_FnExactLatestStart : resFun Try.prog f_laws_FnExactLatestStart = some c_laws_FnExactLatestStart := by kernel_rfl

/- loop.example/g00940/laws.FnExactFogDelay -/
abbrev f_laws_FnExactFogDelay : Nat := 7
def c_laws_FnExactFogDelay : MFun := ⟨70, .seq (.ops [
.op ⟨(some 5), (.eff (.box 25 (.tmp 0))), none⟩,
.op ⟨(some 10), (.pure (.mv (.const (.bool false)))), none⟩])
(.seq (.ops [
.op ⟨(some 11), (.pure (.mv (.const (.int .i64 (1048576))))), none⟩])
(.seq (.ops [
.op ⟨(some 18), (.load (some 2) (.tmp 5)), none⟩,
.op ⟨(some 19), (.pure (.mv (.tmp 11))), none⟩,
.op ⟨(some 20), (.eff (.call 19 [(.tmp 18), (.tmp 19)])), none⟩,
.op ⟨(some 11), (.pure (.mv (.tmp 20))), none⟩])
(.seq (.seq (.ops [
.op ⟨(some 21), (.pure (.mv (.tmp 11))), none⟩,
.op ⟨(some 22), (.pure (.bin .lss (.tmp 21) (.const (.int .i64 (0))))), none⟩])
(.cond (.tmp 22)
(.seq (.ops [
.op ⟨(some 10), (.pure (.mv (.const (.bool true)))), none⟩])
(.ret))
(.skip)))
(.seq (.ops [
.op ⟨(some 23), (.pure (.mv (.tmp 1))), none⟩,
.op ⟨(some 24), (.pure (.mv (.tmp 11))), none⟩,
.op ⟨(some 25), (.eff (.call 26 [(.tmp 23), (.tmp 24)])), none⟩,
.op ⟨(some 11), (.pure (.mv (.tmp 25))), none⟩])
(.seq (.seq (.ops [
.op ⟨(some 26), (.pure (.mv (.tmp 11))), none⟩,
.op ⟨(some 27), (.pure (.bin .lss (.tmp 26) (.const (.int .i64 (0))))), none⟩])
(.cond (.tmp 27)
(.seq (.ops [
.op ⟨(some 10), (.pure (.mv (.const (.bool true)))), none⟩])
(.ret))
(.skip)))
(.seq (.ops [
.op ⟨(some 29), (.load (some 2) (.tmp 5)), none⟩,
.op ⟨(some 30), (.eff (.call 21 [(.tmp 29)])), none⟩,
.op ⟨(some 31), (.pure (.mv (.tmp 1))), none⟩,
.op ⟨(some 32), (.eff (.call 28 [(.tmp 31)])), none⟩,
.op ⟨(some 33), (.pure (.mv (.tmp 2))), none⟩,
.op ⟨(some 34), (.pure (.mv (.tmp 3))), none⟩,
.op ⟨(some 35), (.pure (.mv (.tmp 4))), none⟩,
.op ⟨(some 36), (.eff (.call 33 [(.tmp 30), (.tmp 32), (.tmp 33), (.tmp 34), (.tmp 35)])), none⟩,
.op ⟨(some 28), (.pure (.mv (.tmp 36))), none⟩,
.op ⟨(some 37), (.pure (.ext 0 (.tmp 28))), none⟩,
.op ⟨(some 38), (.pure (.ext 1 (.tmp 28))), none⟩,
.op ⟨(some 12), (.pure (.mv (.tmp 37))), none⟩,
.op ⟨(some 13), (.pure (.mv (.tmp 38))), none⟩])
(.seq (.ops [
.op ⟨(some 39), (.load (some 2) (.tmp 5)), none⟩,
.op ⟨(some 40), (.eff (.call 21 [(.tmp 39)])), none⟩,
.op ⟨(some 14), (.eff (.new 32 [(.slice none 0 0), (.slice none 0 0)])), none⟩,
.op ⟨none, (.eff (.store 2 (.tmp 14) (.tmp 40))), none⟩])
(.seq (.ops [
.op ⟨(some 41), (.pure (.mv (.tmp 1))), none⟩,
.op ⟨(some 42), (.eff (.call 28 [(.tmp 41)])), none⟩,
.op ⟨(some 15), (.pure (.mv (.tmp 42))), none⟩])
(.seq (.ops [
.op ⟨(some 44), (.load (some 2) (.tmp 14)), none⟩,
.op ⟨(some 45), (.pure (.mv (.tmp 15))), none⟩,
.op ⟨(some 46), (.pure (.mv (.tmp 2))), none⟩,
.op ⟨(some 47), (.pure (.mv (.tmp 3))), none⟩,
.op ⟨(some 48), (.pure (.mv (.tmp 4))), none⟩,
.op ⟨(some 49), (.eff (.call 34 [(.tmp 44), (.tmp 45), (.tmp 46), (.tmp 47), (.tmp 48)])), none⟩,
.op ⟨(some 43), (.pure (.mv (.tmp 49))), none⟩,
.op ⟨(some 50), (.pure (.ext 0 (.tmp 43))), none⟩,
.op ⟨(some 51), (.pure (.ext 1 (.tmp 43))), none⟩,
.op ⟨(some 16), (.pure (.mv (.tmp 50))), none⟩,
.op ⟨(some 17), (.pure (.mv (.tmp 51))), none⟩])
(.seq (.seq (.ops [
.op ⟨(some 52), (.pure (.mv (.tmp 16))), none⟩,
.op ⟨(some 53), (.pure (.mv (.tmp 12))), none⟩,
.op ⟨(some 54), (.pure (.bin .neq (.tmp 52) (.tmp 53))), none⟩,
.op ⟨(some 55), (.pure (.mv (.tmp 54))), none⟩,
.split 55,
.op ⟨(some 56), (.pure (.mv (.tmp 17))), (some (55, false))⟩,
.op ⟨(some 57), (.pure (.mv (.tmp 13))), (some (55, false))⟩,
.op ⟨(some 58), (.pure (.eqb true (.tmp 56) (.tmp 57))), (some (55, false))⟩,
.op ⟨(some 59), (.pure (.pick (.tmp 55) (.const (.bool true)) (.tmp 58))), none⟩])
(.cond (.tmp 59)
(.seq (.ops [
.op ⟨(some 10), (.pure (.mv (.const (.bool false)))), none⟩])
(.ret))
(.skip)))
(.seq (.seq (.draw true
(.only false ⟨(some 61), (.load (some 2) (.tmp 5)), none⟩
(.take ⟨(some 60), (.load (some 2) (.tmp 14)), none⟩
(.only false ⟨(some 62), (.eff (.call 21 [(.tmp 61)])), none⟩
(.only true ⟨(some 63), (.eff (.call 23 [(.tmp 60), (.tmp 62)])), none⟩
(.take ⟨(some 64), (.pure (.bnot (.tmp 63))), none⟩
(.done)))))))
(.cond (.tmp 64)
(.seq (.ops [
.op ⟨(some 10), (.pure (.mv (.const (.bool false)))), none⟩])
(.ret))
(.skip)))
(.seq (.seq (.ops [
.op ⟨(some 65), (.pure (.mv (.tmp 15))), none⟩,
.op ⟨(some 66), (.pure (.mv (.tmp 1))), none⟩,
.op ⟨(some 67), (.eff (.call 28 [(.tmp 66)])), none⟩,
.op ⟨(some 68), (.eff (.call 30 [(.tmp 65), (.tmp 67)])), none⟩,
.op ⟨(some 69), (.pure (.bnot (.tmp 68))), none⟩])
(.cond (.tmp 69)
(.seq (.ops [
.op ⟨(some 10), (.pure (.mv (.const (.bool false)))), none⟩])
(.ret))
(.skip)))
(.seq (.ops [
.op ⟨(some 10), (.pure (.mv (.const (.bool true)))), none⟩])
(.ret)))))))))))))),
[.tmp 10]⟩
theorem r_laws_FnExactFogDelay : resFun Try.prog f_laws_FnExactFogDelay = some c_laws_FnExactFogDelay := by kernel_rfl

/- loop.example/g00940/laws.FnExactClearWindows -/
abbrev f_laws_FnExactClearWindows : Nat := 8
def c_laws_FnExactClearWindows : MFun := ⟨134, .seq (.ops [
.op ⟨(some 5), (.eff (.box 25 (.tmp 0))), none⟩,
.op ⟨(some 10), (.pure (.mv (.const (.bool false)))), none⟩])
(.seq (.ops [
.op ⟨(some 11), (.pure (.mv (.const (.int .i64 (1048576))))), none⟩])
(.seq (.ops [
.op ⟨(some 23), (.load (some 2) (.tmp 5)), none⟩,
.op ⟨(some 24), (.pure (.mv (.tmp 11))), none⟩,
.op ⟨(some 25), (.eff (.call 19 [(.tmp 23), (.tmp 24)])), none⟩,
.op ⟨(some 11), (.pure (.mv (.tmp 25))), none⟩])
(.seq (.seq (.ops [
.op ⟨(some 26), (.pure (.mv (.tmp 11))), none⟩,
.op ⟨(some 27), (.pure (.bin .lss (.tmp 26) (.const (.int .i64 (0))))), none⟩])
(.cond (.tmp 27)
(.seq (.ops [
.op ⟨(some 10), (.pure (.mv (.const (.bool true)))), none⟩])
(.ret))
(.skip)))
(.seq (.ops [
.op ⟨(some 28), (.pure (.mv (.tmp 1))), none⟩,
.op ⟨(some 29), (.pure (.mv (.tmp 11))), none⟩,
.op ⟨(some 30), (.eff (.call 26 [(.tmp 28), (.tmp 29)])), none⟩,
.op ⟨(some 11), (.pure (.mv (.tmp 30))), none⟩])
(.seq (.seq (.ops [
.op ⟨(some 31), (.pure (.mv (.tmp 11))), none⟩,
.op ⟨(some 32), (.pure (.bin .lss (.tmp 31) (.const (.int .i64 (0))))), none⟩])
(.cond (.tmp 32)
(.seq (.ops [
.op ⟨(some 10), (.pure (.mv (.const (.bool true)))), none⟩])
(.ret))
(.skip)))
(.seq (.ops [
.op ⟨(some 34), (.load (some 2) (.tmp 5)), none⟩,
.op ⟨(some 35), (.eff (.call 21 [(.tmp 34)])), none⟩,
.op ⟨(some 36), (.pure (.mv (.tmp 1))), none⟩,
.op ⟨(some 37), (.eff (.call 28 [(.tmp 36)])), none⟩,
.op ⟨(some 38), (.pure (.mv (.tmp 2))), none⟩,
.op ⟨(some 39), (.pure (.mv (.tmp 3))), none⟩,
.op ⟨(some 40), (.pure (.mv (.tmp 4))), none⟩,
.op ⟨(some 41), (.eff (.call 35 [(.tmp 35), (.tmp 37), (.tmp 38), (.tmp 39), (.tmp 40)])), none⟩,
.op ⟨(some 33), (.pure (.mv (.tmp 41))), none⟩,
.op ⟨(some 42), (.pure (.ext 0 (.tmp 33))), none⟩,
.op ⟨(some 43), (.pure (.ext 1 (.tmp 33))), none⟩,
.op ⟨(some 12), (.pure (.mv (.tmp 42))), none⟩,
.op ⟨(some 13), (.pure (.mv (.tmp 43))), none⟩])
(.seq (.ops [
.op ⟨(some 44), (.load (some 2) (.tmp 5)), none⟩,
.op ⟨(some 45), (.eff (.call 21 [(.tmp 44)])), none⟩,
.op ⟨(some 14), (.eff (.new 32 [(.slice none 0 0), (.slice none 0 0)])), none⟩,
.op ⟨none, (.eff (.store 2 (.tmp 14) (.tmp 45))), none⟩])
(.seq (.ops [
.op ⟨(some 46), (.pure (.mv (.tmp 1))), none⟩,
.op ⟨(some 47), (.eff (.call 28 [(.tmp 46)])), none⟩,
.op ⟨(some 15), (.pure (.mv (.tmp 47))), none⟩])
(.seq (.ops [
.op ⟨(some 49), (.load (some 2) (.tmp 14)), none⟩,
.op ⟨(some 50), (.pure (.mv (.tmp 15))), none⟩,
.op ⟨(some 51), (.pure (.mv (.tmp 2))), none⟩,
.op ⟨(some 52), (.pure (.mv (.tmp 3))), none⟩,
.op ⟨(some 53), (.pure (.mv (.tmp 4))), none⟩,
.op ⟨(some 54), (.eff (.call 36 [(.tmp 49), (.tmp 50), (.tmp 51), (.tmp 52), (.tmp 53)])), none⟩,
.op ⟨(some 48), (.pure (.mv (.tmp 54))), none⟩,
.op ⟨(some 55), (.pure (.ext 0 (.tmp 48))), none⟩,
.op ⟨(some 56), (.pure (.ext 1 (.tmp 48))), none⟩,
.op ⟨(some 16), (.pure (.mv (.tmp 55))), none⟩,
.op ⟨(some 17), (.pure (.mv (.tmp 56))), none⟩])
(.seq (.seq (.ops [
.op ⟨(some 57), (.pure (.mv (.tmp 16))), none⟩,
.op ⟨(some 58), (.pure (.mv (.tmp 12))), none⟩,
.op ⟨(some 59), (.eff (.call 37 [(.tmp 57), (.tmp 58)])), none⟩,
.op ⟨(some 60), (.pure (.bnot (.tmp 59))), none⟩,
.op ⟨(some 61), (.pure (.mv (.tmp 60))), none⟩,
.split 61,
.op ⟨(some 62), (.pure (.mv (.tmp 17))), (some (61, false))⟩,
.op ⟨(some 63), (.pure (.mv (.tmp 13))), (some (61, false))⟩,
.op ⟨(some 64), (.pure (.eqb true (.tmp 62) (.tmp 63))), (some (61, false))⟩,
.op ⟨(some 65), (.pure (.pick (.tmp 61) (.const (.bool true)) (.tmp 64))), none⟩])
(.cond (.tmp 65)
(.seq (.ops [
.op ⟨(some 10), (.pure (.mv (.const (.bool false)))), none⟩])
(.ret))
(.skip)))
(.seq (.seq (.draw true
(.only false ⟨(some 67), (.load (some 2) (.tmp 5)), none⟩
(.take ⟨(some 66), (.load (some 2) (.tmp 14)), none⟩
(.only false ⟨(some 68), (.eff (.call 21 [(.tmp 67)])), none⟩
(.only true ⟨(some 69), (.eff (.call 23 [(.tmp 66), (.tmp 68)])), none⟩
(.take ⟨(some 70), (.pure (.bnot (.tmp 69))), none⟩
(.done)))))))
(.cond (.tmp 70)
(.seq (.ops [
.op ⟨(some 10), (.pure (.mv (.const (.bool false)))), none⟩])
(.ret))
(.skip)))
(.seq (.seq (.ops [
.op ⟨(some 71), (.pure (.mv (.tmp 15))), none⟩,
.op ⟨(some 72), (.pure (.mv (.tmp 1))), none⟩,
.op ⟨(some 73), (.eff (.call 28 [(.tmp 72)])), none⟩,
.op ⟨(some 74), (.eff (.call 30 [(.tmp 71), (.tmp 73)])), none⟩,
.op ⟨(some 75), (.pure (.bnot (.tmp 74))), none⟩])
(.cond (.tmp 75)
(.seq (.ops [
.op ⟨(some 10), (.pure (.mv (.const (.bool false)))), none⟩])
(.ret))
(.skip)))
(.seq (.ops [
.op ⟨(some 18), (.pure (.mv (.const (.int .i64 (1))))), none⟩])
(.seq (.ops [
.op ⟨(some 76), (.load (some 2) (.tmp 14)), none⟩,
.op ⟨(some 77), (.pure (.mv (.tmp 18))), none⟩,
.op ⟨(some 78), (.eff (.call 38 [(.tmp 76), (.tmp 77)])), none⟩,
.op ⟨(some 18), (.pure (.mv (.tmp 78))), none⟩])
(.seq (.ops [
.op ⟨(some 79), (.pure (.mv (.tmp 15))), none⟩,
.op ⟨(some 80), (.pure (.mv (.tmp 18))), none⟩,
.op ⟨(some 81), (.eff (.call 39 [(.tmp 79), (.tmp 80)])), none⟩,
.op ⟨(some 18), (.pure (.mv (.tmp 81))), none⟩])
(.seq (.seq (.ops [
.op ⟨(some 82), (.pure (.mv (.tmp 18))), none⟩,
.op ⟨(some 83), (.pure (.bin .lss (.tmp 82) (.const (.int .i64 (0))))), none⟩,
.op ⟨(some 84), (.pure (.mv (.tmp 83))), none⟩,
.split 84,
.op ⟨(some 85), (.pure (.mv (.tmp 16))), (some (84, false))⟩,
.op ⟨(some 86), (.pure (.mv (.tmp 12))), (some (84, false))⟩,
.op ⟨(some 87), (.eff (.call 37 [(.tmp 85), (.tmp 86)])), (some (84, false))⟩,
.op ⟨(some 88), (.pure (.bnot (.tmp 87))), (some (84, false))⟩,
.op ⟨(some 89), (.pure (.pick (.tmp 84) (.const (.bool true)) (.tmp 88))), none⟩,
.op ⟨(some 90), (.pure (.mv (.tmp 89))), none⟩,
.split 90,
.op ⟨(some 91), (.pure (.mv (.tmp 17))), (some (90, false))⟩,
.op ⟨(some 92), (.pure (.mv (.tmp 13))), (some (90, false))⟩,
.op ⟨(some 93), (.pure (.eqb true (.tmp 91) (.tmp 92))), (some (90, false))⟩,
.op ⟨(some 94), (.pure (.pick (.tmp 90) (.const (.bool true)) (.tmp 93))), none⟩])
(.cond (.tmp 94)
(.seq (.ops [
.op ⟨(some 10), (.pure (.mv (.const (.bool false)))), none⟩])
(.ret))
(.skip)))
(.seq (.ops [
.op ⟨(some 19), (.pure (.mv (.const (.int .i64 (1))))), none⟩])
(.seq (.ops [
.op ⟨(some 95), (.pure (.mv (.tmp 16))), none⟩,
.op ⟨(some 96), (.pure (.mv (.tmp 19))), none⟩,
.op ⟨(some 97), (.eff (.call 40 [(.tmp 95), (.tmp 96)])), none⟩,
.op ⟨(some 19), (.pure (.mv (.tmp 97))), none⟩])
(.seq (.ops [
.op ⟨(some 20), (.pure (.mv (.const (.int .i64 (1))))), none⟩])
(.seq (.ops [
.op ⟨(some 98), (.pure (.mv (.tmp 16))), none⟩,
.op ⟨(some 99), (.pure (.mv (.tmp 20))), none⟩,
.op ⟨(some 100), (.eff (.call 41 [(.tmp 98), (.tmp 99)])), none⟩,
.op ⟨(some 20), (.pure (.mv (.tmp 100))), none⟩])
(.seq (.seq (.ops [
.op ⟨(some 101), (.pure (.mv (.tmp 20))), none⟩,
.op ⟨(some 102), (.pure (.bin .lss (.tmp 101) (.const (.int .i64 (0))))), none⟩])
(.cond (.tmp 102)
(.seq (.ops [
.op ⟨(some 10), (.pure (.mv (.const (.bool false)))), none⟩])
(.ret))
(.skip)))
(.seq (.seq (.ops [
.op ⟨(some 103), (.pure (.mv (.tmp 20))), none⟩,
.op ⟨(some 104), (.pure (.mv (.tmp 19))), none⟩,
.op ⟨(some 105), (.pure (.bin .neq (.tmp 103) (.tmp 104))), none⟩])
(.cond (.tmp 105)
(.seq (.ops [
.op ⟨(some 10), (.pure (.mv (.const (.bool false)))), none⟩])
(.ret))
(.skip)))
(.seq (.ops [
.op ⟨(some 107), (.load (some 2) (.tmp 5)), none⟩,
.op ⟨(some 108), (.eff (.call 21 [(.tmp 107)])), none⟩,
.op ⟨(some 109), (.pure (.mv (.tmp 1))), none⟩,
.op ⟨(some 110), (.eff (.call 28 [(.tmp 109)])), none⟩,
.op ⟨(some 111), (.pure (.mv (.tmp 2))), none⟩,
.op ⟨(some 112), (.pure (.mv (.tmp 3))), none⟩,
.op ⟨(some 113), (.pure (.mv (.tmp 4))), none⟩,
.op ⟨(some 114), (.eff (.call 36 [(.tmp 108), (.tmp 110), (.tmp 111), (.tmp 112), (.tmp 113)])), none⟩,
.op ⟨(some 106), (.pure (.mv (.tmp 114))), none⟩,
.op ⟨(some 115), (.pure (.ext 0 (.tmp 106))), none⟩,
.op ⟨(some 116), (.pure (.ext 1 (.tmp 106))), none⟩,
.op ⟨(some 21), (.pure (.mv (.tmp 115))), none⟩,
.op ⟨(some 22), (.pure (.mv (.tmp 116))), none⟩])
(.seq (.seq (.ops [
.op ⟨(some 117), (.pure (.mv (.tmp 21))), none⟩,
.op ⟨(some 118), (.pure (.mv (.tmp 12))), none⟩,
.op ⟨(some 119), (.eff (.call 37 [(.tmp 117), (.tmp 118)])), none⟩,
.op ⟨(some 120), (.pure (.bnot (.tmp 119))), none⟩,
.op ⟨(some 121), (.pure (.mv (.tmp 120))), none⟩,
.split 121,
.op ⟨(some 122), (.pure (.mv (.tmp 22))), (some (121, false))⟩,
.op ⟨(some 123), (.pure (.mv (.tmp 13))), (some (121, false))⟩,
.op ⟨(some 124), (.pure (.eqb true (.tmp 122) (.tmp 123))), (some (121, false))⟩,
.op ⟨(some 125), (.pure (.pick (.tmp 121) (.const (.bool true)) (.tmp 124))), none⟩])
(.cond (.tmp 125)
(.seq (.ops [
.op ⟨(some 10), (.pure (.mv (.const (.bool false)))), none⟩])
(.ret))
(.skip)))
(.seq (.ops [
.op ⟨(some 20), (.pure (.mv (.const (.int .i64 (1))))), none⟩])
(.seq (.ops [
.op ⟨(some 126), (.pure (.mv (.tmp 16))), none⟩,
.op ⟨(some 127), (.pure (.mv (.tmp 20))), none⟩,
.op ⟨(some 128), (.eff (.call 41 [(.tmp 126), (.tmp 127)])), none⟩,
.op ⟨(some 20), (.pure (.mv (.tmp 128))), none⟩])
(.seq (.seq (.ops [
.op ⟨(some 129), (.pure (.mv (.tmp 20))), none⟩,
.op ⟨(some 130), (.pure (.bin .lss (.tmp 129) (.const (.int .i64 (0))))), none⟩])
(.cond (.tmp 130)
(.seq (.ops [
.op ⟨(some 10), (.pure (.mv (.const (.bool false)))), none⟩])
(.ret))
(.skip)))
(.seq (.seq (.ops [
.op ⟨(some 131), (.pure (.mv (.tmp 20))), none⟩,
.op ⟨(some 132), (.pure (.mv (.tmp 19))), none⟩,
.op ⟨(some 133), (.pure (.bin .neq (.tmp 131) (.tmp 132))), none⟩])
(.cond (.tmp 133)
(.seq (.ops [
.op ⟨(some 10), (.pure (.mv (.const (.bool false)))), none⟩])
(.ret))
(.skip)))
(.seq (.ops [
.op ⟨(some 10), (.pure (.mv (.const (.bool true)))), none⟩])
(.ret)))))))))))))))))))))))))))))),
[.tmp 10]⟩
theorem r_laws_FnExactClearWindows : resFun Try.prog f_laws_FnExactClearWindows = some c_laws_FnExactClearWindows := by kernel_rfl

/- loop.example/g00940/laws.FnExactLinksThatMatter -/
abbrev f_laws_FnExactLinksThatMatter : Nat := 9
def c_laws_FnExactLinksThatMatter : MFun := ⟨106, .seq (.ops [
.op ⟨(some 3), (.eff (.box 25 (.tmp 0))), none⟩,
.op ⟨(some 6), (.pure (.mv (.const (.bool false)))), none⟩])
(.seq (.ops [
.op ⟨(some 7), (.pure (.mv (.const (.int .i64 (1048576))))), none⟩])
(.seq (.ops [
.op ⟨(some 18), (.load (some 2) (.tmp 3)), none⟩,
.op ⟨(some 19), (.pure (.mv (.tmp 7))), none⟩,
.op ⟨(some 20), (.eff (.call 19 [(.tmp 18), (.tmp 19)])), none⟩,
.op ⟨(some 7), (.pure (.mv (.tmp 20))), none⟩])
(.seq (.seq (.ops [
.op ⟨(some 21), (.pure (.mv (.tmp 7))), none⟩,
.op ⟨(some 22), (.pure (.bin .lss (.tmp 21) (.const (.int .i64 (0))))), none⟩])
(.cond (.tmp 22)
(.seq (.ops [
.op ⟨(some 6), (.pure (.mv (.const (.bool true)))), none⟩])
(.ret))
(.skip)))
(.seq (.ops [
.op ⟨(some 24), (.load (some 2) (.tmp 3)), none⟩,
.op ⟨(some 25), (.eff (.call 21 [(.tmp 24)])), none⟩,
.op ⟨(some 26), (.pure (.mv (.tmp 1))), none⟩,
.op ⟨(some 27), (.pure (.mv (.tmp 2))), none⟩,
.op ⟨(some 28), (.eff (.call 42 [(.tmp 25), (.tmp 26), (.tmp 27)])), none⟩,
.op ⟨(some 23), (.pure (.mv (.tmp 28))), none⟩,
.op ⟨(some 29), (.pure (.ext 0 (.tmp 23))), none⟩,
.op ⟨(some 30), (.pure (.ext 1 (.tmp 23))), none⟩,
.op ⟨(some 8), (.pure (.mv (.tmp 29))), none⟩,
.op ⟨(some 9), (.pure (.mv (.tmp 30))), none⟩])
(.seq (.ops [
.op ⟨(some 31), (.load (some 2) (.tmp 3)), none⟩,
.op ⟨(some 32), (.eff (.call 21 [(.tmp 31)])), none⟩,
.op ⟨(some 10), (.eff (.new 32 [(.slice none 0 0), (.slice none 0 0)])), none⟩,
.op ⟨none, (.eff (.store 2 (.tmp 10) (.tmp 32))), none⟩])
(.seq (.ops [
.op ⟨(some 34), (.load (some 2) (.tmp 10)), none⟩,
.op ⟨(some 35), (.pure (.mv (.tmp 1))), none⟩,
.op ⟨(some 36), (.pure (.mv (.tmp 2))), none⟩,
.op ⟨(some 37), (.eff (.call 43 [(.tmp 34), (.tmp 35), (.tmp 36)])), none⟩,
.op ⟨(some 33), (.pure (.mv (.tmp 37))), none⟩,
.op ⟨(some 38), (.pure (.ext 0 (.tmp 33))), none⟩,
.op ⟨(some 39), (.pure (.ext 1 (.tmp 33))), none⟩,
.op ⟨(some 11), (.pure (.mv (.tmp 38))), none⟩,
.op ⟨(some 12), (.pure (.mv (.tmp 39))), none⟩])
(.seq (.seq (.ops [
.op ⟨(some 40), (.pure (.mv (.tmp 11))), none⟩,
.op ⟨(some 41), (.pure (.mv (.tmp 8))), none⟩,
.op ⟨(some 42), (.eff (.call 44 [(.tmp 40), (.tmp 41)])), none⟩,
.op ⟨(some 43), (.pure (.bnot (.tmp 42))), none⟩,
.op ⟨(some 44), (.pure (.mv (.tmp 43))), none⟩,
.split 44,
.op ⟨(some 45), (.pure (.mv (.tmp 12))), (some (44, false))⟩,
.op ⟨(some 46), (.pure (.mv (.tmp 9))), (some (44, false))⟩,
.op ⟨(some 47), (.pure (.eqb true (.tmp 45) (.tmp 46))), (some (44, false))⟩,
.op ⟨(some 48), (.pure (.pick (.tmp 44) (.const (.bool true)) (.tmp 47))), none⟩])
(.cond (.tmp 48)
(.seq (.ops [
.op ⟨(some 6), (.pure (.mv (.const (.bool false)))), none⟩])
(.ret))
(.skip)))
(.seq (.seq (.draw true
(.only false ⟨(some 50), (.load (some 2) (.tmp 3)), none⟩
(.take ⟨(some 49), (.load (some 2) (.tmp 10)), none⟩
(.only false ⟨(some 51), (.eff (.call 21 [(.tmp 50)])), none⟩
(.only true ⟨(some 52), (.eff (.call 23 [(.tmp 49), (.tmp 51)])), none⟩
(.take ⟨(some 53), (.pure (.bnot (.tmp 52))), none⟩
(.done)))))))
(.cond (.tmp 53)
(.seq (.ops [
.op ⟨(some 6), (.pure (.mv (.const (.bool false)))), none⟩])
(.ret))
(.skip)))
(.seq (.ops [
.op ⟨(some 13), (.pure (.mv (.const (.int .i64 (1))))), none⟩])
(.seq (.ops [
.op ⟨(some 54), (.load (some 2) (.tmp 10)), none⟩,
.op ⟨(some 55), (.pure (.mv (.tmp 13))), none⟩,
.op ⟨(some 56), (.eff (.call 38 [(.tmp 54), (.tmp 55)])), none⟩,
.op ⟨(some 13), (.pure (.mv (.tmp 56))), none⟩])
(.seq (.seq (.ops [
.op ⟨(some 57), (.pure (.mv (.tmp 13))), none⟩,
.op ⟨(some 58), (.pure (.bin .lss (.tmp 57) (.const (.int .i64 (0))))), none⟩,
.op ⟨(some 59), (.pure (.mv (.tmp 58))), none⟩,
.split 59,
.op ⟨(some 60), (.pure (.mv (.tmp 11))), (some (59, false))⟩,
.op ⟨(some 61), (.pure (.mv (.tmp 8))), (some (59, false))⟩,
.op ⟨(some 62), (.eff (.call 44 [(.tmp 60), (.tmp 61)])), (some (59, false))⟩,
.op ⟨(some 63), (.pure (.bnot (.tmp 62))), (some (59, false))⟩,
.op ⟨(some 64), (.pure (.pick (.tmp 59) (.const (.bool true)) (.tmp 63))), none⟩,
.op ⟨(some 65), (.pure (.mv (.tmp 64))), none⟩,
.split 65,
.op ⟨(some 66), (.pure (.mv (.tmp 12))), (some (65, false))⟩,
.op ⟨(some 67), (.pure (.mv (.tmp 9))), (some (65, false))⟩,
.op ⟨(some 68), (.pure (.eqb true (.tmp 66) (.tmp 67))), (some (65, false))⟩,
.op ⟨(some 69), (.pure (.pick (.tmp 65) (.const (.bool true)) (.tmp 68))), none⟩])
(.cond (.tmp 69)
(.seq (.ops [
.op ⟨(some 6), (.pure (.mv (.const (.bool false)))), none⟩])
(.ret))
(.skip)))
(.seq (.ops [
.op ⟨(some 14), (.pure (.mv (.const (.int .i64 (1))))), none⟩])
(.seq (.ops [
.op ⟨(some 70), (.pure (.mv (.tmp 11))), none⟩,
.op ⟨(some 71), (.pure (.mv (.tmp 14))), none⟩,
.op ⟨(some 72), (.eff (.call 45 [(.tmp 70), (.tmp 71)])), none⟩,
.op ⟨(some 14), (.pure (.mv (.tmp 72))), none⟩])
(.seq (.ops [
.op ⟨(some 15), (.pure (.mv (.const (.int .i64 (1))))), none⟩])
(.seq (.ops [
.op ⟨(some 73), (.pure (.mv (.tmp 11))), none⟩,
.op ⟨(some 74), (.pure (.mv (.tmp 15))), none⟩,
.op ⟨(some 75), (.eff (.call 46 [(.tmp 73), (.tmp 74)])), none⟩,
.op ⟨(some 15), (.pure (.mv (.tmp 75))), none⟩])
(.seq (.seq (.ops [
.op ⟨(some 76), (.pure (.mv (.tmp 15))), none⟩,
.op ⟨(some 77), (.pure (.bin .lss (.tmp 76) (.const (.int .i64 (0))))), none⟩])
(.cond (.tmp 77)
(.seq (.ops [
.op ⟨(some 6), (.pure (.mv (.const (.bool false)))), none⟩])
(.ret))
(.skip)))
(.seq (.seq (.ops [
.op ⟨(some 78), (.pure (.mv (.tmp 15))), none⟩,
.op ⟨(some 79), (.pure (.mv (.tmp 14))), none⟩,
.op ⟨(some 80), (.pure (.bin .neq (.tmp 78) (.tmp 79))), none⟩])
(.cond (.tmp 80)
(.seq (.ops [
.op ⟨(some 6), (.pure (.mv (.const (.bool false)))), none⟩])
(.ret))
(.skip)))
(.seq (.ops [
.op ⟨(some 82), (.load (some 2) (.tmp 3)), none⟩,
.op ⟨(some 83), (.eff (.call 21 [(.tmp 82)])), none⟩,
.op ⟨(some 84), (.pure (.mv (.tmp 1))), none⟩,
.op ⟨(some 85), (.pure (.mv (.tmp 2))), none⟩,
.op ⟨(some 86), (.eff (.call 43 [(.tmp 83), (.tmp 84), (.tmp 85)])), none⟩,
.op ⟨(some 81), (.pure (.mv (.tmp 86))), none⟩,
.op ⟨(some 87), (.pure (.ext 0 (.tmp 81))), none⟩,
.op ⟨(some 88), (.pure (.ext 1 (.tmp 81))), none⟩,
.op ⟨(some 16), (.pure (.mv (.tmp 87))), none⟩,
.op ⟨(some 17), (.pure (.mv (.tmp 88))), none⟩])
(.seq (.seq (.ops [
.op ⟨(some 89), (.pure (.mv (.tmp 16))), none⟩,
.op ⟨(some 90), (.pure (.mv (.tmp 8))), none⟩,
.op ⟨(some 91), (.eff (.call 44 [(.tmp 89), (.tmp 90)])), none⟩,
.op ⟨(some 92), (.pure (.bnot (.tmp 91))), none⟩,
.op ⟨(some 93), (.pure (.mv (.tmp 92))), none⟩,
.split 93,
.op ⟨(some 94), (.pure (.mv (.tmp 17))), (some (93, false))⟩,
.op ⟨(some 95), (.pure (.mv (.tmp 9))), (some (93, false))⟩,
.op ⟨(some 96), (.pure (.eqb true (.tmp 94) (.tmp 95))), (some (93, false))⟩,
.op ⟨(some 97), (.pure (.pick (.tmp 93) (.const (.bool true)) (.tmp 96))), none⟩])
(.cond (.tmp 97)
(.seq (.ops [
.op ⟨(some 6), (.pure (.mv (.const (.bool false)))), none⟩])
(.ret))
(.skip)))
(.seq (.ops [
.op ⟨(some 15), (.pure (.mv (.const (.int .i64 (1))))), none⟩])
(.seq (.ops [
.op ⟨(some 98), (.pure (.mv (.tmp 11))), none⟩,
.op ⟨(some 99), (.pure (.mv (.tmp 15))), none⟩,
.op ⟨(some 100), (.eff (.call 46 [(.tmp 98), (.tmp 99)])), none⟩,
.op ⟨(some 15), (.pure (.mv (.tmp 100))), none⟩])
(.seq (.seq (.ops [
.op ⟨(some 101), (.pure (.mv (.tmp 15))), none⟩,
.op ⟨(some 102), (.pure (.bin .lss (.tmp 101) (.const (.int .i64 (0))))), none⟩])
(.cond (.tmp 102)
(.seq (.ops [
.op ⟨(some 6), (.pure (.mv (.const (.bool false)))), none⟩])
(.ret))
(.skip)))
(.seq (.seq (.ops [
.op ⟨(some 103), (.pure (.mv (.tmp 15))), none⟩,
.op ⟨(some 104), (.pure (.mv (.tmp 14))), none⟩,
.op ⟨(some 105), (.pure (.bin .neq (.tmp 103) (.tmp 104))), none⟩])
(.cond (.tmp 105)
(.seq (.ops [
.op ⟨(some 6), (.pure (.mv (.const (.bool false)))), none⟩])
(.ret))
(.skip)))
(.seq (.ops [
.op ⟨(some 6), (.pure (.mv (.const (.bool true)))), none⟩])
(.ret))))))))))))))))))))))))),
[.tmp 6]⟩
theorem r_laws_FnExactLinksThatMatter : resFun Try.prog f_laws_FnExactLinksThatMatter = some c_laws_FnExactLinksThatMatter := by kernel_rfl

/- loop.example/g00940/laws.FnExactArrivalAlong -/
abbrev f_laws_FnExactArrivalAlong : Nat := 10
def c_laws_FnExactArrivalAlong : MFun := ⟨78, .seq (.ops [
.op ⟨(some 4), (.eff (.box 25 (.tmp 0))), none⟩,
.op ⟨(some 8), (.pure (.mv (.const (.bool false)))), none⟩])
(.seq (.seq (.ops [
.op ⟨(some 17), (.pure (.mv (.tmp 2))), none⟩,
.op ⟨(some 18), (.pure (.len (.tmp 17))), none⟩,
.op ⟨(some 19), (.pure (.bin .gtr (.tmp 18) (.const (.int .i64 (1048576))))), none⟩])
(.cond (.tmp 19)
(.seq (.ops [
.op ⟨(some 8), (.pure (.mv (.const (.bool true)))), none⟩])
(.ret))
(.skip)))
(.seq (.ops [
.op ⟨(some 9), (.pure (.mv (.const (.int .i64 (1048576))))), none⟩])
(.seq (.ops [
.op ⟨(some 20), (.load (some 2) (.tmp 4)), none⟩,
.op ⟨(some 21), (.pure (.mv (.tmp 9))), none⟩,
.op ⟨(some 22), (.eff (.call 19 [(.tmp 20), (.tmp 21)])), none⟩,
.op ⟨(some 9), (.pure (.mv (.tmp 22))), none⟩])
(.seq (.seq (.ops [
.op ⟨(some 23), (.pure (.mv (.tmp 9))), none⟩,
.op ⟨(some 24), (.pure (.bin .lss (.tmp 23) (.const (.int .i64 (0))))), none⟩])
(.cond (.tmp 24)
(.seq (.ops [
.op ⟨(some 8), (.pure (.mv (.const (.bool true)))), none⟩])
(.ret))
(.skip)))
(.seq (.ops [
.op ⟨(some 25), (.pure (.mv (.tmp 1))), none⟩,
.op ⟨(some 26), (.pure (.mv (.tmp 9))), none⟩,
.op ⟨(some 27), (.eff (.call 26 [(.tmp 25), (.tmp 26)])), none⟩,
.op ⟨(some 9), (.pure (.mv (.tmp 27))), none⟩])
(.seq (.seq (.ops [
.op ⟨(some 28), (.pure (.mv (.tmp 9))), none⟩,
.op ⟨(some 29), (.pure (.bin .lss (.tmp 28) (.const (.int .i64 (0))))), none⟩])
(.cond (.tmp 29)
(.seq (.ops [
.op ⟨(some 8), (.pure (.mv (.const (.bool true)))), none⟩])
(.ret))
(.skip)))
(.seq (.ops [
.op ⟨(some 31), (.load (some 2) (.tmp 4)), none⟩,
.op ⟨(some 32), (.eff (.call 21 [(.tmp 31)])), none⟩,
.op ⟨(some 33), (.pure (.mv (.tmp 1))), none⟩,
.op ⟨(some 34), (.eff (.call 28 [(.tmp 33)])), none⟩,
.op ⟨(some 35), (.pure (.mv (.tmp 2))), none⟩,
.op ⟨(some 36), (.eff (.call 48 [(.tmp 35)])), none⟩,
.op ⟨(some 37), (.pure (.mv (.tmp 3))), none⟩,
.op ⟨(some 38), (.eff (.call 47 [(.tmp 32), (.tmp 34), (.tmp 36), (.tmp 37)])), none⟩,
.op ⟨(some 30), (.pure (.mv (.tmp 38))), none⟩,
.op ⟨(some 39), (.pure (.ext 0 (.tmp 30))), none⟩,
.op ⟨(some 40), (.pure (.ext 1 (.tmp 30))), none⟩,
.op ⟨(some 10), (.pure (.mv (.tmp 39))), none⟩,
.op ⟨(some 11), (.pure (.mv (.tmp 40))), none⟩])
(.seq (.ops [
.op ⟨(some 41), (.load (some 2) (.tmp 4)), none⟩,
.op ⟨(some 42), (.eff (.call 21 [(.tmp 41)])), none⟩,
.op ⟨(some 12), (.eff (.new 32 [(.slice none 0 0), (.slice none 0 0)])), none⟩,
.op ⟨none, (.eff (.store 2 (.tmp 12) (.tmp 42))), none⟩])
(.seq (.ops [
.op ⟨(some 43), (.pure (.mv (.tmp 1))), none⟩,
.op ⟨(some 44), (.eff (.call 28 [(.tmp 43)])), none⟩,
.op ⟨(some 13), (.pure (.mv (.tmp 44))), none⟩])
(.seq (.ops [
.op ⟨(some 45), (.pure (.mv (.tmp 2))), none⟩,
.op ⟨(some 46), (.eff (.call 48 [(.tmp 45)])), none⟩,
.op ⟨(some 14), (.pure (.mv (.tmp 46))), none⟩])
(.seq (.ops [
.op ⟨(some 48), (.load (some 2) (.tmp 12)), none⟩,
.op ⟨(some 49), (.pure (.mv (.tmp 13))), none⟩,
.op ⟨(some 50), (.pure (.mv (.tmp 14))), none⟩,
.op ⟨(some 51), (.pure (.mv (.tmp 3))), none⟩,
.op ⟨(some 52), (.eff (.call 49 [(.tmp 48), (.tmp 49), (.tmp 50), (.tmp 51)])), none⟩,
.op ⟨(some 47), (.pure (.mv (.tmp 52))), none⟩,
.op ⟨(some 53), (.pure (.ext 0 (.tmp 47))), none⟩,
.op ⟨(some 54), (.pure (.ext 1 (.tmp 47))), none⟩,
.op ⟨(some 15), (.pure (.mv (.tmp 53))), none⟩,
.op ⟨(some 16), (.pure (.mv (.tmp 54))), none⟩])
(.seq (.seq (.ops [
.op ⟨(some 55), (.pure (.mv (.tmp 15))), none⟩,
.op ⟨(some 56), (.pure (.mv (.tmp 10))), none⟩,
.op ⟨(some 57), (.pure (.bin .neq (.tmp 55) (.tmp 56))), none⟩,
.op ⟨(some 58), (.pure (.mv (.tmp 57))), none⟩,
.split 58,
.op ⟨(some 59), (.pure (.mv (.tmp 16))), (some (58, false))⟩,
.op ⟨(some 60), (.pure (.mv (.tmp 11))), (some (58, false))⟩,
.op ⟨(some 61), (.pure (.eqb true (.tmp 59) (.tmp 60))), (some (58, false))⟩,
.op ⟨(some 62), (.pure (.pick (.tmp 58) (.const (.bool true)) (.tmp 61))), none⟩])
(.cond (.tmp 62)
(.seq (.ops [
.op ⟨(some 8), (.pure (.mv (.const (.bool false)))), none⟩])
(.ret))
(.skip)))
(.seq (.seq (.draw true
(.only false ⟨(some 64), (.load (some 2) (.tmp 4)), none⟩
(.take ⟨(some 63), (.load (some 2) (.tmp 12)), none⟩
(.only false ⟨(some 65), (.eff (.call 21 [(.tmp 64)])), none⟩
(.only true ⟨(some 66), (.eff (.call 23 [(.tmp 63), (.tmp 65)])), none⟩
(.take ⟨(some 67), (.pure (.bnot (.tmp 66))), none⟩
(.done)))))))
(.cond (.tmp 67)
(.seq (.ops [
.op ⟨(some 8), (.pure (.mv (.const (.bool false)))), none⟩])
(.ret))
(.skip)))
(.seq (.seq (.ops [
.op ⟨(some 68), (.pure (.mv (.tmp 13))), none⟩,
.op ⟨(some 69), (.pure (.mv (.tmp 1))), none⟩,
.op ⟨(some 70), (.eff (.call 28 [(.tmp 69)])), none⟩,
.op ⟨(some 71), (.eff (.call 30 [(.tmp 68), (.tmp 70)])), none⟩,
.op ⟨(some 72), (.pure (.bnot (.tmp 71))), none⟩])
(.cond (.tmp 72)
(.seq (.ops [
.op ⟨(some 8), (.pure (.mv (.const (.bool false)))), none⟩])
(.ret))
(.skip)))
(.seq (.seq (.ops [
.op ⟨(some 73), (.pure (.mv (.tmp 14))), none⟩,
.op ⟨(some 74), (.pure (.mv (.tmp 2))), none⟩,
.op ⟨(some 75), (.eff (.call 48 [(.tmp 74)])), none⟩,
.op ⟨(some 76), (.eff (.call 44 [(.tmp 73), (.tmp 75)])), none⟩,
.op ⟨(some 77), (.pure (.bnot (.tmp 76))), none⟩])
(.cond (.tmp 77)
(.seq (.ops [
.op ⟨(some 8), (.pure (.mv (.const (.bool false)))), none⟩])
(.ret))
(.skip)))
(.seq (.ops [
.op ⟨(some 8), (.pure (.mv (.const (.bool true)))), none⟩])
(.ret))))))))))))))))),
[.tmp 8]⟩
theorem r_laws_FnExactArrivalAlong : resFun Try.prog f_laws_FnExactArrivalAlong = some c_laws_FnExactArrivalAlong := by kernel_rfl

/- loop.example/g00940/laws.FnExactArrivalsFrom -/
abbrev f_laws_FnExactArrivalsFrom : Nat := 11
def c_laws_FnExactArrivalsFrom : MFun := ⟨129, .seq (.ops [
.op ⟨(some 4), (.eff (.box 25 (.tmp 0))), none⟩,
.op ⟨(some 8), (.pure (.mv (.const (.bool false)))), none⟩])
(.seq (.ops [
.op ⟨(some 9), (.pure (.mv (.const (.int .i64 (1048576))))), none⟩])
(.seq (.ops [
.op ⟨(some 21), (.load (some 2) (.tmp 4)), none⟩,
.op ⟨(some 22), (.pure (.mv (.tmp 9))), none⟩,
.op ⟨(some 23), (.eff (.call 19 [(.tmp 21), (.tmp 22)])), none⟩,
.op ⟨(some 9), (.pure (.mv (.tmp 23))), none⟩])
(.seq (.seq (.ops [
.op ⟨(some 24), (.pure (.mv (.tmp 9))), none⟩,
.op ⟨(some 25), (.pure (.bin .lss (.tmp 24) (.const (.int .i64 (0))))), none⟩])
(.cond (.tmp 25)
(.seq (.ops [
.op ⟨(some 8), (.pure (.mv (.const (.bool true)))), none⟩])
(.ret))
(.skip)))
(.seq (.ops [
.op ⟨(some 26), (.pure (.mv (.tmp 1))), none⟩,
.op ⟨(some 27), (.pure (.mv (.tmp 9))), none⟩,
.op ⟨(some 28), (.eff (.call 26 [(.tmp 26), (.tmp 27)])), none⟩,
.op ⟨(some 9), (.pure (.mv (.tmp 28))), none⟩])
(.seq (.seq (.ops [
.op ⟨(some 29), (.pure (.mv (.tmp 9))), none⟩,
.op ⟨(some 30), (.pure (.bin .lss (.tmp 29) (.const (.int .i64 (0))))), none⟩])
(.cond (.tmp 30)
(.seq (.ops [
.op ⟨(some 8), (.pure (.mv (.const (.bool true)))), none⟩])
(.ret))
(.skip)))
(.seq (.ops [
.op ⟨(some 32), (.load (some 2) (.tmp 4)), none⟩,
.op ⟨(some 33), (.eff (.call 21 [(.tmp 32)])), none⟩,
.op ⟨(some 34), (.pure (.mv (.tmp 1))), none⟩,
.op ⟨(some 35), (.eff (.call 28 [(.tmp 34)])), none⟩,
.op ⟨(some 36), (.pure (.mv (.tmp 2))), none⟩,
.op ⟨(some 37), (.pure (.mv (.tmp 3))), none⟩,
.op ⟨(some 38), (.eff (.call 50 [(.tmp 33), (.tmp 35), (.tmp 36), (.tmp 37)])), none⟩,
.op ⟨(some 31), (.pure (.mv (.tmp 38))), none⟩,
.op ⟨(some 39), (.pure (.ext 0 (.tmp 31))), none⟩,
.op ⟨(some 40), (.pure (.ext 1 (.tmp 31))), none⟩,
.op ⟨(some 10), (.pure (.mv (.tmp 39))), none⟩,
.op ⟨(some 11), (.pure (.mv (.tmp 40))), none⟩])
(.seq (.ops [
.op ⟨(some 41), (.load (some 2) (.tmp 4)), none⟩,
.op ⟨(some 42), (.eff (.call 21 [(.tmp 41)])), none⟩,
.op ⟨(some 12), (.eff (.new 32 [(.slice none 0 0), (.slice none 0 0)])), none⟩,
.op ⟨none, (.eff (.store 2 (.tmp 12) (.tmp 42))), none⟩])
(.seq (.ops [
.op ⟨(some 43), (.pure (.mv (.tmp 1))), none⟩,
.op ⟨(some 44), (.eff (.call 28 [(.tmp 43)])), none⟩,
.op ⟨(some 13), (.pure (.mv (.tmp 44))), none⟩])
(.seq (.ops [
.op ⟨(some 46), (.load (some 2) (.tmp 12)), none⟩,
.op ⟨(some 47), (.pure (.mv (.tmp 13))), none⟩,
.op ⟨(some 48), (.pure (.mv (.tmp 2))), none⟩,
.op ⟨(some 49), (.pure (.mv (.tmp 3))), none⟩,
.op ⟨(some 50), (.eff (.call 51 [(.tmp 46), (.tmp 47), (.tmp 48), (.tmp 49)])), none⟩,
.op ⟨(some 45), (.pure (.mv (.tmp 50))), none⟩,
.op ⟨(some 51), (.pure (.ext 0 (.tmp 45))), none⟩,
.op ⟨(some 52), (.pure (.ext 1 (.tmp 45))), none⟩,
.op ⟨(some 14), (.pure (.mv (.tmp 51))), none⟩,
.op ⟨(some 15), (.pure (.mv (.tmp 52))), none⟩])
(.seq (.seq (.ops [
.op ⟨(some 53), (.pure (.mv (.tmp 14))), none⟩,
.op ⟨(some 54), (.pure (.mv (.tmp 10))), none⟩,
.op ⟨(some 55), (.eff (.call 44 [(.tmp 53), (.tmp 54)])), none⟩,
.op ⟨(some 56), (.pure (.bnot (.tmp 55))), none⟩,
.op ⟨(some 57), (.pure (.mv (.tmp 56))), none⟩,
.split 57,
.op ⟨(some 58), (.pure (.mv (.tmp 15))), (some (57, false))⟩,
.op ⟨(some 59), (.pure (.mv (.tmp 11))), (some (57, false))⟩,
.op ⟨(some 60), (.pure (.eqb true (.tmp 58) (.tmp 59))), (some (57, false))⟩,
.op ⟨(some 61), (.pure (.pick (.tmp 57) (.const (.bool true)) (.tmp 60))), none⟩])
(.cond (.tmp 61)
(.seq (.ops [
.op ⟨(some 8), (.pure (.mv (.const (.bool false)))), none⟩])
(.ret))
(.skip)))
(.seq (.seq (.draw true
(.only false ⟨(some 63), (.load (some 2) (.tmp 4)), none⟩
(.take ⟨(some 62), (.load (some 2) (.tmp 12)), none⟩
(.only false ⟨(some 64), (.eff (.call 21 [(.tmp 63)])), none⟩
(.only true ⟨(some 65), (.eff (.call 23 [(.tmp 62), (.tmp 64)])), none⟩
(.take ⟨(some 66), (.pure (.bnot (.tmp 65))), none⟩
(.done)))))))
(.cond (.tmp 66)
(.seq (.ops [
.op ⟨(some 8), (.pure (.mv (.const (.bool false)))), none⟩])
(.ret))
(.skip)))
(.seq (.seq (.ops [
.op ⟨(some 67), (.pure (.mv (.tmp 13))), none⟩,
.op ⟨(some 68), (.pure (.mv (.tmp 1))), none⟩,
.op ⟨(some 69), (.eff (.call 28 [(.tmp 68)])), none⟩,
.op ⟨(some 70), (.eff (.call 30 [(.tmp 67), (.tmp 69)])), none⟩,
.op ⟨(some 71), (.pure (.bnot (.tmp 70))), none⟩])
(.cond (.tmp 71)
(.seq (.ops [
.op ⟨(some 8), (.pure (.mv (.const (.bool false)))), none⟩])
(.ret))
(.skip)))
(.seq (.ops [
.op ⟨(some 16), (.pure (.mv (.const (.int .i64 (1))))), none⟩])
(.seq (.ops [
.op ⟨(some 72), (.load (some 2) (.tmp 12)), none⟩,
.op ⟨(some 73), (.pure (.mv (.tmp 16))), none⟩,
.op ⟨(some 74), (.eff (.call 38 [(.tmp 72), (.tmp 73)])), none⟩,
.op ⟨(some 16), (.pure (.mv (.tmp 74))), none⟩])
(.seq (.ops [
.op ⟨(some 75), (.pure (.mv (.tmp 13))), none⟩,
.op ⟨(some 76), (.pure (.mv (.tmp 16))), none⟩,
.op ⟨(some 77), (.eff (.call 39 [(.tmp 75), (.tmp 76)])), none⟩,
.op ⟨(some 16), (.pure (.mv (.tmp 77))), none⟩])
(.seq (.seq (.ops [
.op ⟨(some 78), (.pure (.mv (.tmp 16))), none⟩,
.op ⟨(some 79), (.pure (.bin .lss (.tmp 78) (.const (.int .i64 (0))))), none⟩,
.op ⟨(some 80), (.pure (.mv (.tmp 79))), none⟩,
.split 80,
.op ⟨(some 81), (.pure (.mv (.tmp 14))), (some (80, false))⟩,
.op ⟨(some 82), (.pure (.mv (.tmp 10))), (some (80, false))⟩,
.op ⟨(some 83), (.eff (.call 44 [(.tmp 81), (.tmp 82)])), (some (80, false))⟩,
.op ⟨(some 84), (.pure (.bnot (.tmp 83))), (some (80, false))⟩,
.op ⟨(some 85), (.pure (.pick (.tmp 80) (.const (.bool true)) (.tmp 84))), none⟩,
.op ⟨(some 86), (.pure (.mv (.tmp 85))), none⟩,
.split 86,
.op ⟨(some 87), (.pure (.mv (.tmp 15))), (some (86, false))⟩,
.op ⟨(some 88), (.pure (.mv (.tmp 11))), (some (86, false))⟩,
.op ⟨(some 89), (.pure (.eqb true (.tmp 87) (.tmp 88))), (some (86, false))⟩,
.op ⟨(some 90), (.pure (.pick (.tmp 86) (.const (.bool true)) (.tmp 89))), none⟩])
(.cond (.tmp 90)
(.seq (.ops [
.op ⟨(some 8), (.pure (.mv (.const (.bool false)))), none⟩])
(.ret))
(.skip)))
(.seq (.ops [
.op ⟨(some 17), (.pure (.mv (.const (.int .i64 (1))))), none⟩])
(.seq (.ops [
.op ⟨(some 91), (.pure (.mv (.tmp 14))), none⟩,
.op ⟨(some 92), (.pure (.mv (.tmp 17))), none⟩,
.op ⟨(some 93), (.eff (.call 45 [(.tmp 91), (.tmp 92)])), none⟩,
.op ⟨(some 17), (.pure (.mv (.tmp 93))), none⟩])
(.seq (.ops [
.op ⟨(some 18), (.pure (.mv (.const (.int .i64 (1))))), none⟩])
(.seq (.ops [
.op ⟨(some 94), (.pure (.mv (.tmp 14))), none⟩,
.op ⟨(some 95), (.pure (.mv (.tmp 18))), none⟩,
.op ⟨(some 96), (.eff (.call 46 [(.tmp 94), (.tmp 95)])), none⟩,
.op ⟨(some 18), (.pure (.mv (.tmp 96))), none⟩])
(.seq (.seq (.ops [
.op ⟨(some 97), (.pure (.mv (.tmp 18))), none⟩,
.op ⟨(some 98), (.pure (.bin .lss (.tmp 97) (.const (.int .i64 (0))))), none⟩])
(.cond (.tmp 98)
(.seq (.ops [
.op ⟨(some 8), (.pure (.mv (.const (.bool false)))), none⟩])
(.ret))
(.skip)))
(.seq (.seq (.ops [
.op ⟨(some 99), (.pure (.mv (.tmp 18))), none⟩,
.op ⟨(some 100), (.pure (.mv (.tmp 17))), none⟩,
.op ⟨(some 101), (.pure (.bin .neq (.tmp 99) (.tmp 100))), none⟩])
(.cond (.tmp 101)
(.seq (.ops [
.op ⟨(some 8), (.pure (.mv (.const (.bool false)))), none⟩])
(.ret))
(.skip)))
(.seq (.ops [
.op ⟨(some 103), (.load (some 2) (.tmp 4)), none⟩,
.op ⟨(some 104), (.eff (.call 21 [(.tmp 103)])), none⟩,
.op ⟨(some 105), (.pure (.mv (.tmp 1))), none⟩,
.op ⟨(some 106), (.eff (.call 28 [(.tmp 105)])), none⟩,
.op ⟨(some 107), (.pure (.mv (.tmp 2))), none⟩,
.op ⟨(some 108), (.pure (.mv (.tmp 3))), none⟩,
.op ⟨(some 109), (.eff (.call 51 [(.tmp 104), (.tmp 106), (.tmp 107), (.tmp 108)])), none⟩,
.op ⟨(some 102), (.pure (.mv (.tmp 109))), none⟩,
.op ⟨(some 110), (.pure (.ext 0 (.tmp 102))), none⟩,
.op ⟨(some 111), (.pure (.ext 1 (.tmp 102))), none⟩,
.op ⟨(some 19), (.pure (.mv (.tmp 110))), none⟩,
.op ⟨(some 20), (.pure (.mv (.tmp 111))), none⟩])
(.seq (.seq (.ops [
.op ⟨(some 112), (.pure (.mv (.tmp 19))), none⟩,
.op ⟨(some 113), (.pure (.mv (.tmp 10))), none⟩,
.op ⟨(some 114), (.eff (.call 44 [(.tmp 112), (.tmp 113)])), none⟩,
.op ⟨(some 115), (.pure (.bnot (.tmp 114))), none⟩,
.op ⟨(some 116), (.pure (.mv (.tmp 115))), none⟩,
.split 116,
.op ⟨(some 117), (.pure (.mv (.tmp 20))), (some (116, false))⟩,
.op ⟨(some 118), (.pure (.mv (.tmp 11))), (some (116, false))⟩,
.op ⟨(some 119), (.pure (.eqb true (.tmp 117) (.tmp 118))), (some (116, false))⟩,
.op ⟨(some 120), (.pure (.pick (.tmp 116) (.const (.bool true)) (.tmp 119))), none⟩])
(.cond (.tmp 120)
(.seq (.ops [
.op ⟨(some 8), (.pure (.mv (.const (.bool false)))), none⟩])
(.ret))
(.skip)))
(.seq (.ops [
.op ⟨(some 18), (.pure (.mv (.const (.int .i64 (1))))), none⟩])
(.seq (.ops [
.op ⟨(some 121), (.pure (.mv (.tmp 14))), none⟩,
.op ⟨(some 122), (.pure (.mv (.tmp 18))), none⟩,
.op ⟨(some 123), (.eff (.call 46 [(.tmp 121), (.tmp 122)])), none⟩,
.op ⟨(some 18), (.pure (.mv (.tmp 123))), none⟩])
(.seq (.seq (.ops [
.op ⟨(some 124), (.pure (.mv (.tmp 18))), none⟩,
.op ⟨(some 125), (.pure (.bin .lss (.tmp 124) (.const (.int .i64 (0))))), none⟩])
(.cond (.tmp 125)
(.seq (.ops [
.op ⟨(some 8), (.pure (.mv (.const (.bool false)))), none⟩])
(.ret))
(.skip)))
(.seq (.seq (.ops [
.op ⟨(some 126), (.pure (.mv (.tmp 18))), none⟩,
.op ⟨(some 127), (.pure (.mv (.tmp 17))), none⟩,
.op ⟨(some 128), (.pure (.bin .neq (.tmp 126) (.tmp 127))), none⟩])
(.cond (.tmp 128)
(.seq (.ops [
.op ⟨(some 8), (.pure (.mv (.const (.bool false)))), none⟩])
(.ret))
(.skip)))
(.seq (.ops [
.op ⟨(some 8), (.pure (.mv (.const (.bool true)))), none⟩])
(.ret)))))))))))))))))))))))))))))),
[.tmp 8]⟩
theorem r_laws_FnExactArrivalsFrom : resFun Try.prog f_laws_FnExactArrivalsFrom = some c_laws_FnExactArrivalsFrom := by kernel_rfl

/- loop.example/g00940/laws.FnExactWaitsAlong -/
abbrev f_laws_FnExactWaitsAlong : Nat := 12
def c_laws_FnExactWaitsAlong : MFun := ⟨145, .seq (.ops [
.op ⟨(some 4), (.eff (.box 25 (.tmp 0))), none⟩,
.op ⟨(some 8), (.pure (.mv (.const (.bool false)))), none⟩])
(.seq (.seq (.ops [
.op ⟨(some 22), (.pure (.mv (.tmp 2))), none⟩,
.op ⟨(some 23), (.pure (.len (.tmp 22))), none⟩,
.op ⟨(some 24), (.pure (.bin .gtr (.tmp 23) (.const (.int .i64 (1048576))))), none⟩])
(.cond (.tmp 24)
(.seq (.ops [
.op ⟨(some 8), (.pure (.mv (.const (.bool true)))), none⟩])
(.ret))
(.skip)))
(.seq (.ops [
.op ⟨(some 9), (.pure (.mv (.const (.int .i64 (1048576))))), none⟩])
(.seq (.ops [
.op ⟨(some 25), (.load (some 2) (.tmp 4)), none⟩,
.op ⟨(some 26), (.pure (.mv (.tmp 9))), none⟩,
.op ⟨(some 27), (.eff (.call 19 [(.tmp 25), (.tmp 26)])), none⟩,
.op ⟨(some 9), (.pure (.mv (.tmp 27))), none⟩])
(.seq (.seq (.ops [
.op ⟨(some 28), (.pure (.mv (.tmp 9))), none⟩,
.op ⟨(some 29), (.pure (.bin .lss (.tmp 28) (.const (.int .i64 (0))))), none⟩])
(.cond (.tmp 29)
(.seq (.ops [
.op ⟨(some 8), (.pure (.mv (.const (.bool true)))), none⟩])
(.ret))
(.skip)))
(.seq (.ops [
.op ⟨(some 30), (.pure (.mv (.tmp 1))), none⟩,
.op ⟨(some 31), (.pure (.mv (.tmp 9))), none⟩,
.op ⟨(some 32), (.eff (.call 26 [(.tmp 30), (.tmp 31)])), none⟩,
.op ⟨(some 9), (.pure (.mv (.tmp 32))), none⟩])
(.seq (.seq (.ops [
.op ⟨(some 33), (.pure (.mv (.tmp 9))), none⟩,
.op ⟨(some 34), (.pure (.bin .lss (.tmp 33) (.const (.int .i64 (0))))), none⟩])
(.cond (.tmp 34)
(.seq (.ops [
.op ⟨(some 8), (.pure (.mv (.const (.bool true)))), none⟩])
(.ret))
(.skip)))
(.seq (.ops [
.op ⟨(some 36), (.load (some 2) (.tmp 4)), none⟩,
.op ⟨(some 37), (.eff (.call 21 [(.tmp 36)])), none⟩,
.op ⟨(some 38), (.pure (.mv (.tmp 1))), none⟩,
.op ⟨(some 39), (.eff (.call 28 [(.tmp 38)])), none⟩,
.op ⟨(some 40), (.pure (.mv (.tmp 2))), none⟩,
.op ⟨(some 41), (.eff (.call 48 [(.tmp 40)])), none⟩,
.op ⟨(some 42), (.pure (.mv (.tmp 3))), none⟩,
.op ⟨(some 43), (.eff (.call 52 [(.tmp 37), (.tmp 39), (.tmp 41), (.tmp 42)])), none⟩,
.op ⟨(some 35), (.pure (.mv (.tmp 43))), none⟩,
.op ⟨(some 44), (.pure (.ext 0 (.tmp 35))), none⟩,
.op ⟨(some 45), (.pure (.ext 1 (.tmp 35))), none⟩,
.op ⟨(some 10), (.pure (.mv (.tmp 44))), none⟩,
.op ⟨(some 11), (.pure (.mv (.tmp 45))), none⟩])
(.seq (.ops [
.op ⟨(some 46), (.load (some 2) (.tmp 4)), none⟩,
.op ⟨(some 47), (.eff (.call 21 [(.tmp 46)])), none⟩,
.op ⟨(some 12), (.eff (.new 32 [(.slice none 0 0), (.slice none 0 0)])), none⟩,
.op ⟨none, (.eff (.store 2 (.tmp 12) (.tmp 47))), none⟩])
(.seq (.ops [
.op ⟨(some 48), (.pure (.mv (.tmp 1))), none⟩,
.op ⟨(some 49), (.eff (.call 28 [(.tmp 48)])), none⟩,
.op ⟨(some 13), (.pure (.mv (.tmp 49))), none⟩])
(.seq (.ops [
.op ⟨(some 50), (.pure (.mv (.tmp 2))), none⟩,
.op ⟨(some 51), (.eff (.call 48 [(.tmp 50)])), none⟩,
.op ⟨(some 14), (.pure (.mv (.tmp 51))), none⟩])
(.seq (.ops [
.op ⟨(some 53), (.load (some 2) (.tmp 12)), none⟩,
.op ⟨(some 54), (.pure (.mv (.tmp 13))), none⟩,
.op ⟨(some 55), (.pure (.mv (.tmp 14))), none⟩,
.op ⟨(some 56), (.pure (.mv (.tmp 3))), none⟩,
.op ⟨(some 57), (.eff (.call 53 [(.tmp 53), (.tmp 54), (.tmp 55), (.tmp 56)])), none⟩,
.op ⟨(some 52), (.pure (.mv (.tmp 57))), none⟩,
.op ⟨(some 58), (.pure (.ext 0 (.tmp 52))), none⟩,
.op ⟨(some 59), (.pure (.ext 1 (.tmp 52))), none⟩,
.op ⟨(some 15), (.pure (.mv (.tmp 58))), none⟩,
.op ⟨(some 16), (.pure (.mv (.tmp 59))), none⟩])
(.seq (.seq (.ops [
.op ⟨(some 60), (.pure (.mv (.tmp 15))), none⟩,
.op ⟨(some 61), (.pure (.mv (.tmp 10))), none⟩,
.op ⟨(some 62), (.eff (.call 44 [(.tmp 60), (.tmp 61)])), none⟩,
.op ⟨(some 63), (.pure (.bnot (.tmp 62))), none⟩,
.op ⟨(some 64), (.pure (.mv (.tmp 63))), none⟩,
.split 64,
.op ⟨(some 65), (.pure (.mv (.tmp 16))), (some (64, false))⟩,
.op ⟨(some 66), (.pure (.mv (.tmp 11))), (some (64, false))⟩,
.op ⟨(some 67), (.pure (.eqb true (.tmp 65) (.tmp 66))), (some (64, false))⟩,
.op ⟨(some 68), (.pure (.pick (.tmp 64) (.const (.bool true)) (.tmp 67))), none⟩])
(.cond (.tmp 68)
(.seq (.ops [
.op ⟨(some 8), (.pure (.mv (.const (.bool false)))), none⟩])
(.ret))
(.skip)))
(.seq (.seq (.draw true
(.only false ⟨(some 70), (.load (some 2) (.tmp 4)), none⟩
(.take ⟨(some 69), (.load (some 2) (.tmp 12)), none⟩
(.only false ⟨(some 71), (.eff (.call 21 [(.tmp 70)])), none⟩
(.only true ⟨(some 72), (.eff (.call 23 [(.tmp 69), (.tmp 71)])), none⟩
(.take ⟨(some 73), (.pure (.bnot (.tmp 72))), none⟩
(.done)))))))
(.cond (.tmp 73)
(.seq (.ops [
.op ⟨(some 8), (.pure (.mv (.const (.bool false)))), none⟩])
(.ret))
(.skip)))
(.seq (.seq (.ops [
.op ⟨(some 74), (.pure (.mv (.tmp 13))), none⟩,
.op ⟨(some 75), (.pure (.mv (.tmp 1))), none⟩,
.op ⟨(some 76), (.eff (.call 28 [(.tmp 75)])), none⟩,
.op ⟨(some 77), (.eff (.call 30 [(.tmp 74), (.tmp 76)])), none⟩,
.op ⟨(some 78), (.pure (.bnot (.tmp 77))), none⟩])
(.cond (.tmp 78)
(.seq (.ops [
.op ⟨(some 8), (.pure (.mv (.const (.bool false)))), none⟩])
(.ret))
(.skip)))
(.seq (.seq (.ops [
.op ⟨(some 79), (.pure (.mv (.tmp 14))), none⟩,
.op ⟨(some 80), (.pure (.mv (.tmp 2))), none⟩,
.op ⟨(some 81), (.eff (.call 48 [(.tmp 80)])), none⟩,
.op ⟨(some 82), (.eff (.call 44 [(.tmp 79), (.tmp 81)])), none⟩,
.op ⟨(some 83), (.pure (.bnot (.tmp 82))), none⟩])
(.cond (.tmp 83)
(.seq (.ops [
.op ⟨(some 8), (.pure (.mv (.const (.bool false)))), none⟩])
(.ret))
(.skip)))
(.seq (.ops [
.op ⟨(some 17), (.pure (.mv (.const (.int .i64 (1))))), none⟩])
(.seq (.ops [
.op ⟨(some 84), (.load (some 2) (.tmp 12)), none⟩,
.op ⟨(some 85), (.pure (.mv (.tmp 17))), none⟩,
.op ⟨(some 86), (.eff (.call 38 [(.tmp 84), (.tmp 85)])), none⟩,
.op ⟨(some 17), (.pure (.mv (.tmp 86))), none⟩])
(.seq (.ops [
.op ⟨(some 87), (.pure (.mv (.tmp 13))), none⟩,
.op ⟨(some 88), (.pure (.mv (.tmp 17))), none⟩,
.op ⟨(some 89), (.eff (.call 39 [(.tmp 87), (.tmp 88)])), none⟩,
.op ⟨(some 17), (.pure (.mv (.tmp 89))), none⟩])
(.seq (.ops [
.op ⟨(some 90), (.pure (.mv (.tmp 14))), none⟩,
.op ⟨(some 91), (.pure (.mv (.tmp 17))), none⟩,
.op ⟨(some 92), (.eff (.call 45 [(.tmp 90), (.tmp 91)])), none⟩,
.op ⟨(some 17), (.pure (.mv (.tmp 92))), none⟩])
(.seq (.seq (.ops [
.op ⟨(some 93), (.pure (.mv (.tmp 17))), none⟩,
.op ⟨(some 94), (.pure (.bin .lss (.tmp 93) (.const (.int .i64 (0))))), none⟩,
.op ⟨(some 95), (.pure (.mv (.tmp 94))), none⟩,
.split 95,
.op ⟨(some 96), (.pure (.mv (.tmp 15))), (some (95, false))⟩,
.op ⟨(some 97), (.pure (.mv (.tmp 10))), (some (95, false))⟩,
.op ⟨(some 98), (.eff (.call 44 [(.tmp 96), (.tmp 97)])), (some (95, false))⟩,
.op ⟨(some 99), (.pure (.bnot (.tmp 98))), (some (95, false))⟩,
.op ⟨(some 100), (.pure (.pick (.tmp 95) (.const (.bool true)) (.tmp 99))), none⟩,
.op ⟨(some 101), (.pure (.mv (.tmp 100))), none⟩,
.split 101,
.op ⟨(some 102), (.pure (.mv (.tmp 16))), (some (101, false))⟩,
.op ⟨(some 103), (.pure (.mv (.tmp 11))), (some (101, false))⟩,
.op ⟨(some 104), (.pure (.eqb true (.tmp 102) (.tmp 103))), (some (101, false))⟩,
.op ⟨(some 105), (.pure (.pick (.tmp 101) (.const (.bool true)) (.tmp 104))), none⟩])
(.cond (.tmp 105)
(.seq (.ops [
.op ⟨(some 8), (.pure (.mv (.const (.bool false)))), none⟩])
(.ret))
(.skip)))
(.seq (.ops [
.op ⟨(some 18), (.pure (.mv (.const (.int .i64 (1))))), none⟩])
(.seq (.ops [
.op ⟨(some 106), (.pure (.mv (.tmp 15))), none⟩,
.op ⟨(some 107), (.pure (.mv (.tmp 18))), none⟩,
.op ⟨(some 108), (.eff (.call 45 [(.tmp 106), (.tmp 107)])), none⟩,
.op ⟨(some 18), (.pure (.mv (.tmp 108))), none⟩])
(.seq (.ops [
.op ⟨(some 19), (.pure (.mv (.const (.int .i64 (1))))), none⟩])
(.seq (.ops [
.op ⟨(some 109), (.pure (.mv (.tmp 15))), none⟩,
.op ⟨(some 110), (.pure (.mv (.tmp 19))), none⟩,
.op ⟨(some 111), (.eff (.call 46 [(.tmp 109), (.tmp 110)])), none⟩,
.op ⟨(some 19), (.pure (.mv (.tmp 111))), none⟩])
(.seq (.seq (.ops [
.op ⟨(some 112), (.pure (.mv (.tmp 19))), none⟩,
.op ⟨(some 113), (.pure (.bin .lss (.tmp 112) (.const (.int .i64 (0))))), none⟩])
(.cond (.tmp 113)
(.seq (.ops [
.op ⟨(some 8), (.pure (.mv (.const (.bool false)))), none⟩])
(.ret))
(.skip)))
(.seq (.seq (.ops [
.op ⟨(some 114), (.pure (.mv (.tmp 19))), none⟩,
.op ⟨(some 115), (.pure (.mv (.tmp 18))), none⟩,
.op ⟨(some 116), (.pure (.bin .neq (.tmp 114) (.tmp 115))), none⟩])
(.cond (.tmp 116)
(.seq (.ops [
.op ⟨(some 8), (.pure (.mv (.const (.bool false)))), none⟩])
(.ret))
(.skip)))
(.seq (.ops [
.op ⟨(some 118), (.load (some 2) (.tmp 4)), none⟩,
.op ⟨(some 119), (.eff (.call 21 [(.tmp 118)])), none⟩,
.op ⟨(some 120), (.pure (.mv (.tmp 1))), none⟩,
.op ⟨(some 121), (.eff (.call 28 [(.tmp 120)])), none⟩,
.op ⟨(some 122), (.pure (.mv (.tmp 2))), none⟩,
.op ⟨(some 123), (.eff (.call 48 [(.tmp 122)])), none⟩,
.op ⟨(some 124), (.pure (.mv (.tmp 3))), none⟩,
.op ⟨(some 125), (.eff (.call 53 [(.tmp 119), (.tmp 121), (.tmp 123), (.tmp 124)])), none⟩,
.op ⟨(some 117), (.pure (.mv (.tmp 125))), none⟩,
.op ⟨(some 126), (.pure (.ext 0 (.tmp 117))), none⟩,
.op ⟨(some 127), (.pure (.ext 1 (.tmp 117))), none⟩,
.op ⟨(some 20), (.pure (.mv (.tmp 126))), none⟩,
.op ⟨(some 21), (.pure (.mv (.tmp 127))), none⟩])
(.seq (.seq (.ops [
.op ⟨(some 128), (.pure (.mv (.tmp 20))), none⟩,
.op ⟨(some 129), (.pure (.mv (.tmp 10))), none⟩,
.op ⟨(some 130), (.eff (.call 44 [(.tmp 128), (.tmp 129)])), none⟩,
.op ⟨(some 131), (.pure (.bnot (.tmp 130))), none⟩,
.op ⟨(some 132), (.pure (.mv (.tmp 131))), none⟩,
.split 132,
.op ⟨(some 133), (.pure (.mv (.tmp 21))), (some (132, false))⟩,
.op ⟨(some 134), (.pure (.mv (.tmp 11))), (some (132, false))⟩,
.op ⟨(some 135), (.pure (.eqb true (.tmp 133) (.tmp 134))), (some (132, false))⟩,
.op ⟨(some 136), (.pure (.pick (.tmp 132) (.const (.bool true)) (.tmp 135))), none⟩])
(.cond (.tmp 136)
(.seq (.ops [
.op ⟨(some 8), (.pure (.mv (.const (.bool false)))), none⟩])
(.ret))
(.skip)))
(.seq (.ops [
.op ⟨(some 19), (.pure (.mv (.const (.int .i64 (1))))), none⟩])
(.seq (.ops [
.op ⟨(some 137), (.pure (.mv (.tmp 15))), none⟩,
.op ⟨(some 138), (.pure (.mv (.tmp 19))), none⟩,
.op ⟨(some 139), (.eff (.call 46 [(.tmp 137), (.tmp 138)])), none⟩,
.op ⟨(some 19), (.pure (.mv (.tmp 139))), none⟩])
(.seq (.seq (.ops [
.op ⟨(some 140), (.pure (.mv (.tmp 19))), none⟩,
.op ⟨(some 141), (.pure (.bin .lss (.tmp 140) (.const (.int .i64 (0))))), none⟩])
(.cond (.tmp 141)
(.seq (.ops [
.op ⟨(some 8), (.pure (.mv (.const (.bool false)))), none⟩])
(.ret))
(.skip)))
(.seq (.seq (.ops [
.op ⟨(some 142), (.pure (.mv (.tmp 19))), none⟩,
.op ⟨(some 143), (.pure (.mv (.tmp 18))), none⟩,
.op ⟨(some 144), (.pure (.bin .neq (.tmp 142) (.tmp 143))), none⟩])
(.cond (.tmp 144)
(.seq (.ops [
.op ⟨(some 8), (.pure (.mv (.const (.bool false)))), none⟩])
(.ret))
(.skip)))
(.seq (.ops [
.op ⟨(some 8), (.pure (.mv (.const (.bool true)))), none⟩])
(.ret)))))))))))))))))))))))))))))))))),
[.tmp 8]⟩
theorem r_laws_FnExactWaitsAlong : resFun Try.prog f_laws_FnExactWaitsAlong = some c_laws_FnExactWaitsAlong := by kernel_rfl
end Go.Proofs.Ythagdkmalchhgaa
