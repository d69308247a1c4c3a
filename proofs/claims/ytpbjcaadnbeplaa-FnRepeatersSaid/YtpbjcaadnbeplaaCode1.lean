/- The code of this seat's functions, resolved, written by a program of mine; each is held against the given program by the kernel. Condition: none. -/
import Derived.Test.YtpbjcaadnbeplaaProg
import Derived.Test.YtpbjcaadnbeplaaBase9
import Derived.KernelRfl
namespace Go.Proofs.Ytpbjcaadnbeplaa
open Go.Vc

/- loop.example/g00940/impl.PlainGlances -/
abbrev f_impl_PlainGlances : Nat := 12
def c_impl_PlainGlances : MFun := ⟨28, .seq (.ops [
.op ⟨(some 2), (.pure (.mv (.const (.slice none 0 0)))), none⟩,
.op ⟨(some 3), (.pure (.mv (.const (.bool false)))), none⟩])
(.seq (.seq (.ops [
.op ⟨(some 7), (.pure (.mv (.tmp 0))), none⟩,
.op ⟨(some 8), (.pure (.len (.tmp 7))), none⟩,
.op ⟨(some 9), (.pure (.bin .gtr (.tmp 8) (.const (.int .i64 (40))))), none⟩])
(.cond (.tmp 9)
(.seq (.ops [
.op ⟨(some 2), (.pure (.mv (.const (.slice none 0 0)))), none⟩,
.op ⟨(some 3), (.pure (.mv (.const (.bool false)))), none⟩])
(.ret))
(.skip)))
(.seq (.ops [
.op ⟨(some 4), (.pure (.mv (.const (.slice none 0 0)))), none⟩])
(.seq (.seq (.ops [
.op ⟨(some 10), (.pure (.mv (.tmp 0))), none⟩,
.op ⟨(some 11), (.pure (.len (.tmp 10))), none⟩,
.op ⟨(some 12), (.pure (.mv (.const (.int .i64 (0))))), none⟩])
(.block 0 (.loop (.seq (.ops [
.op ⟨(some 13), (.pure (.bin .lss (.tmp 12) (.tmp 11))), none⟩])
(.seq (.cond (.tmp 13)
(.skip)
(.exit 0))
(.seq (.block 1 (.seq (.ops [
.op ⟨(some 14), (.pure (.idx 1 (.tmp 10) (.tmp 12))), none⟩,
.op ⟨(some 15), (.load none (.tmp 14)), none⟩,
.op ⟨(some 6), (.pure (.mv (.tmp 15))), none⟩])
(.seq (.seq (.ops [
.op ⟨(some 16), (.pure (.mv (.tmp 6))), none⟩,
.op ⟨(some 17), (.eff (.call 45 [(.tmp 16)])), none⟩,
.op ⟨(some 18), (.pure (.bnot (.tmp 17))), none⟩])
(.cond (.tmp 18)
(.seq (.ops [
.op ⟨(some 2), (.pure (.mv (.const (.slice none 0 0)))), none⟩,
.op ⟨(some 3), (.pure (.mv (.const (.bool false)))), none⟩])
(.ret))
(.skip)))
(.ops [
.op ⟨(some 19), (.pure (.mv (.tmp 4))), none⟩,
.op ⟨(some 20), (.pure (.mv (.tmp 6))), none⟩,
.op ⟨(some 21), (.pure (.build [(.bool false), (.int .i64 (0))] [(0, 1, (.const (.bool false))), (1, 1, (.tmp 20))])), none⟩,
.op ⟨(some 22), (.pure (.mv (.tmp 6))), none⟩,
.op ⟨(some 23), (.pure (.build [(.bool false), (.int .i64 (0))] [(0, 1, (.const (.bool true))), (1, 1, (.tmp 22))])), none⟩,
.op ⟨(some 24), (.eff (.row 32 2 [(.bool false), (.int .i64 (0)), (.bool false), (.int .i64 (0))] [(0, 2, (.tmp 21)), (2, 2, (.tmp 23))])), none⟩,
.op ⟨(some 25), (.eff (.app 32 2 16 (.tmp 19) (.tmp 24))), none⟩,
.op ⟨(some 4), (.pure (.mv (.tmp 25))), none⟩]))))
(.ops [
.op ⟨(some 26), (.pure (.bin .add (.tmp 12) (.const (.int .i64 (1))))), none⟩,
.op ⟨(some 12), (.pure (.mv (.tmp 26))), none⟩])))))))
(.seq (.ops [
.op ⟨(some 27), (.pure (.mv (.tmp 4))), none⟩,
.op ⟨(some 2), (.pure (.mv (.tmp 27))), none⟩,
.op ⟨(some 3), (.pure (.mv (.const (.bool true)))), none⟩])
(.ret))))),
[.tmp 2, .tmp 3]⟩
theorem r_impl_PlainGlances : resFun Try.prog f_impl_PlainGlances = some c_impl_PlainGlances := by kernel_rfl

/- loop.example/g00940/spec.PlainGlances -/
abbrev f_spec_PlainGlances : Nat := 13
def c_spec_PlainGlances : MFun := ⟨28, .seq (.ops [
.op ⟨(some 2), (.pure (.mv (.const (.slice none 0 0)))), none⟩,
.op ⟨(some 3), (.pure (.mv (.const (.bool false)))), none⟩])
(.seq (.seq (.ops [
.op ⟨(some 7), (.pure (.mv (.tmp 0))), none⟩,
.op ⟨(some 8), (.pure (.len (.tmp 7))), none⟩,
.op ⟨(some 9), (.pure (.bin .gtr (.tmp 8) (.const (.int .i64 (40))))), none⟩])
(.cond (.tmp 9)
(.seq (.ops [
.op ⟨(some 2), (.pure (.mv (.const (.slice none 0 0)))), none⟩,
.op ⟨(some 3), (.pure (.mv (.const (.bool false)))), none⟩])
(.ret))
(.skip)))
(.seq (.ops [
.op ⟨(some 4), (.pure (.mv (.const (.slice none 0 0)))), none⟩])
(.seq (.seq (.ops [
.op ⟨(some 10), (.pure (.mv (.tmp 0))), none⟩,
.op ⟨(some 11), (.pure (.len (.tmp 10))), none⟩,
.op ⟨(some 12), (.pure (.mv (.const (.int .i64 (0))))), none⟩])
(.block 0 (.loop (.seq (.ops [
.op ⟨(some 13), (.pure (.bin .lss (.tmp 12) (.tmp 11))), none⟩])
(.seq (.cond (.tmp 13)
(.skip)
(.exit 0))
(.seq (.block 1 (.seq (.ops [
.op ⟨(some 14), (.pure (.idx 1 (.tmp 10) (.tmp 12))), none⟩,
.op ⟨(some 15), (.load none (.tmp 14)), none⟩,
.op ⟨(some 6), (.pure (.mv (.tmp 15))), none⟩])
(.seq (.seq (.ops [
.op ⟨(some 16), (.pure (.mv (.tmp 6))), none⟩,
.op ⟨(some 17), (.eff (.call 46 [(.tmp 16)])), none⟩,
.op ⟨(some 18), (.pure (.bnot (.tmp 17))), none⟩])
(.cond (.tmp 18)
(.seq (.ops [
.op ⟨(some 2), (.pure (.mv (.const (.slice none 0 0)))), none⟩,
.op ⟨(some 3), (.pure (.mv (.const (.bool false)))), none⟩])
(.ret))
(.skip)))
(.ops [
.op ⟨(some 19), (.pure (.mv (.tmp 4))), none⟩,
.op ⟨(some 20), (.pure (.mv (.tmp 6))), none⟩,
.op ⟨(some 21), (.pure (.build [(.bool false), (.int .i64 (0))] [(1, 1, (.tmp 20))])), none⟩,
.op ⟨(some 22), (.pure (.mv (.tmp 6))), none⟩,
.op ⟨(some 23), (.pure (.build [(.bool false), (.int .i64 (0))] [(0, 1, (.const (.bool true))), (1, 1, (.tmp 22))])), none⟩,
.op ⟨(some 24), (.eff (.row 32 2 [(.bool false), (.int .i64 (0)), (.bool false), (.int .i64 (0))] [(0, 2, (.tmp 21)), (2, 2, (.tmp 23))])), none⟩,
.op ⟨(some 25), (.eff (.app 32 2 16 (.tmp 19) (.tmp 24))), none⟩,
.op ⟨(some 4), (.pure (.mv (.tmp 25))), none⟩]))))
(.ops [
.op ⟨(some 26), (.pure (.bin .add (.tmp 12) (.const (.int .i64 (1))))), none⟩,
.op ⟨(some 12), (.pure (.mv (.tmp 26))), none⟩])))))))
(.seq (.ops [
.op ⟨(some 27), (.pure (.mv (.tmp 4))), none⟩,
.op ⟨(some 2), (.pure (.mv (.tmp 27))), none⟩,
.op ⟨(some 3), (.pure (.mv (.const (.bool true)))), none⟩])
(.ret))))),
[.tmp 2, .tmp 3]⟩
theorem r_spec_PlainGlances : resFun Try.prog f_spec_PlainGlances = some c_spec_PlainGlances := by kernel_rfl

/- loop.example/g00940/laws.qRepeater -/
abbrev f_laws_qRepeater : Nat := 14
def c_laws_qRepeater : MFun := ⟨38, .seq (.ops [
.op ⟨(some 2), (.eff (.box 25 (.tmp 0))), none⟩,
.op ⟨(some 3), (.eff (.box 25 (.tmp 1))), none⟩,
.op ⟨(some 4), (.pure (.mv (.const (.bool false)))), none⟩])
(.seq (.ops [
.op ⟨(some 5), (.pure (.fieldAddr 0 (.tmp 2))), none⟩,
.op ⟨(some 6), (.load none (.tmp 5)), none⟩,
.op ⟨(some 7), (.pure (.fieldAddr 0 (.tmp 3))), none⟩,
.op ⟨(some 8), (.load none (.tmp 7)), none⟩,
.op ⟨(some 9), (.pure (.bin .eql (.tmp 6) (.tmp 8))), none⟩,
.op ⟨(some 10), (.pure (.mv (.tmp 9))), none⟩,
.split 10,
.op ⟨(some 11), (.pure (.fieldAddr 1 (.tmp 2))), (some (10, true))⟩,
.op ⟨(some 12), (.load none (.tmp 11)), (some (10, true))⟩,
.op ⟨(some 13), (.pure (.fieldAddr 1 (.tmp 3))), (some (10, true))⟩,
.op ⟨(some 14), (.load none (.tmp 13)), (some (10, true))⟩,
.op ⟨(some 15), (.pure (.bin .eql (.tmp 12) (.tmp 14))), (some (10, true))⟩,
.op ⟨(some 16), (.pure (.pick (.tmp 10) (.tmp 15) (.const (.bool false)))), none⟩,
.op ⟨(some 17), (.pure (.mv (.tmp 16))), none⟩,
.split 17,
.op ⟨(some 18), (.pure (.fieldAddr 2 (.tmp 2))), (some (17, true))⟩,
.op ⟨(some 19), (.load none (.tmp 18)), (some (17, true))⟩,
.op ⟨(some 20), (.pure (.fieldAddr 2 (.tmp 3))), (some (17, true))⟩,
.op ⟨(some 21), (.load none (.tmp 20)), (some (17, true))⟩,
.op ⟨(some 22), (.pure (.bin .eql (.tmp 19) (.tmp 21))), (some (17, true))⟩,
.op ⟨(some 23), (.pure (.pick (.tmp 17) (.tmp 22) (.const (.bool false)))), none⟩,
.op ⟨(some 24), (.pure (.mv (.tmp 23))), none⟩,
.split 24,
.op ⟨(some 25), (.pure (.fieldAddr 3 (.tmp 2))), (some (24, true))⟩,
.op ⟨(some 26), (.load none (.tmp 25)), (some (24, true))⟩,
.op ⟨(some 27), (.pure (.fieldAddr 3 (.tmp 3))), (some (24, true))⟩,
.op ⟨(some 28), (.load none (.tmp 27)), (some (24, true))⟩,
.op ⟨(some 29), (.pure (.bin .eql (.tmp 26) (.tmp 28))), (some (24, true))⟩,
.op ⟨(some 30), (.pure (.pick (.tmp 24) (.tmp 29) (.const (.bool false)))), none⟩,
.op ⟨(some 31), (.pure (.mv (.tmp 30))), none⟩,
.split 31,
.op ⟨(some 32), (.pure (.fieldAddr 4 (.tmp 2))), (some (31, true))⟩,
.op ⟨(some 33), (.load none (.tmp 32)), (some (31, true))⟩,
.op ⟨(some 34), (.pure (.fieldAddr 4 (.tmp 3))), (some (31, true))⟩,
.op ⟨(some 35), (.load none (.tmp 34)), (some (31, true))⟩,
.op ⟨(some 36), (.eff (.call 18 [(.tmp 33), (.tmp 35)])), (some (31, true))⟩,
.op ⟨(some 37), (.pure (.pick (.tmp 31) (.tmp 36) (.const (.bool false)))), none⟩,
.op ⟨(some 4), (.pure (.mv (.tmp 37))), none⟩])
(.ret)),
[.tmp 4]⟩
theorem r_laws_qRepeater : resFun Try.prog f_laws_qRepeater = some c_laws_qRepeater := by kernel_rfl

/- loop.example/g00940/laws.qGlances -/
abbrev f_laws_qGlances : Nat := 15
def c_laws_qGlances : MFun := ⟨26, .seq (.ops [
.op ⟨(some 4), (.pure (.mv (.const (.bool false)))), none⟩])
(.seq (.seq (.ops [
.op ⟨(some 6), (.pure (.mv (.tmp 0))), none⟩,
.op ⟨(some 7), (.pure (.len (.tmp 6))), none⟩,
.op ⟨(some 8), (.pure (.mv (.tmp 1))), none⟩,
.op ⟨(some 9), (.pure (.len (.tmp 8))), none⟩,
.op ⟨(some 10), (.pure (.bin .neq (.tmp 7) (.tmp 9))), none⟩])
(.cond (.tmp 10)
(.seq (.ops [
.op ⟨(some 4), (.pure (.mv (.const (.bool false)))), none⟩])
(.ret))
(.skip)))
(.seq (.seq (.ops [
.op ⟨(some 11), (.pure (.mv (.tmp 0))), none⟩,
.op ⟨(some 12), (.pure (.len (.tmp 11))), none⟩,
.op ⟨(some 13), (.pure (.mv (.const (.int .i64 (0))))), none⟩])
(.block 0 (.loop (.seq (.ops [
.op ⟨(some 14), (.pure (.bin .lss (.tmp 13) (.tmp 12))), none⟩])
(.seq (.cond (.tmp 14)
(.skip)
(.exit 0))
(.seq (.block 1 (.seq (.ops [
.op ⟨(some 15), (.pure (.mv (.tmp 13))), none⟩,
.op ⟨(some 5), (.pure (.mv (.tmp 15))), none⟩])
(.seq (.ops [
.op ⟨(some 16), (.pure (.mv (.tmp 0))), none⟩,
.op ⟨(some 17), (.pure (.mv (.tmp 5))), none⟩,
.op ⟨(some 18), (.pure (.idx 2 (.tmp 16) (.tmp 17))), none⟩,
.op ⟨(some 20), (.pure (.mv (.tmp 1))), none⟩,
.op ⟨(some 21), (.pure (.mv (.tmp 5))), none⟩,
.op ⟨(some 22), (.pure (.idx 2 (.tmp 20) (.tmp 21))), none⟩,
.op ⟨(some 19), (.load (some 2) (.tmp 18)), none⟩,
.op ⟨(some 23), (.load (some 2) (.tmp 22)), none⟩,
.op ⟨(some 24), (.pure (.eqs true [false, true] (.tmp 19) (.tmp 23))), none⟩])
(.cond (.tmp 24)
(.seq (.ops [
.op ⟨(some 4), (.pure (.mv (.const (.bool false)))), none⟩])
(.ret))
(.skip)))))
(.ops [
.op ⟨(some 25), (.pure (.bin .add (.tmp 13) (.const (.int .i64 (1))))), none⟩,
.op ⟨(some 13), (.pure (.mv (.tmp 25))), none⟩])))))))
(.seq (.ops [
.op ⟨(some 4), (.pure (.mv (.const (.bool true)))), none⟩])
(.ret)))),
[.tmp 4]⟩
theorem r_laws_qGlances : resFun Try.prog f_laws_qGlances = some c_laws_qGlances := by kernel_rfl

/- loop.example/g00940/impl.IsRepeater -/
abbrev f_impl_IsRepeater : Nat := 16
def c_impl_IsRepeater : MFun := ⟨119, .seq (.ops [
.op ⟨(some 1), (.eff (.box 25 (.tmp 0))), none⟩,
.op ⟨(some 2), (.pure (.mv (.const (.bool false)))), none⟩])
(.seq (.ops [
.op ⟨(some 6), (.pure (.fieldAddr 4 (.tmp 1))), none⟩,
.op ⟨(some 7), (.load none (.tmp 6)), none⟩,
.op ⟨(some 8), (.pure (.len (.tmp 7))), none⟩,
.op ⟨(some 9), (.pure (.bin .sub (.tmp 8) (.const (.int .i64 (1))))), none⟩,
.op ⟨(some 3), (.pure (.mv (.tmp 9))), none⟩])
(.seq (.seq (.ops [
.op ⟨(some 10), (.pure (.mv (.tmp 3))), none⟩,
.op ⟨(some 11), (.pure (.bin .geq (.tmp 10) (.const (.int .i64 (80))))), none⟩])
(.cond (.tmp 11)
(.seq (.ops [
.op ⟨(some 2), (.pure (.mv (.const (.bool false)))), none⟩])
(.ret))
(.skip)))
(.seq (.seq (.ops [
.op ⟨(some 12), (.pure (.fieldAddr 4 (.tmp 1))), none⟩,
.op ⟨(some 13), (.load none (.tmp 12)), none⟩,
.op ⟨(some 14), (.pure (.len (.tmp 13))), none⟩,
.op ⟨(some 15), (.pure (.mv (.const (.int .i64 (0))))), none⟩])
(.block 0 (.loop (.seq (.ops [
.op ⟨(some 16), (.pure (.bin .lss (.tmp 15) (.tmp 14))), none⟩])
(.seq (.cond (.tmp 16)
(.skip)
(.exit 0))
(.seq (.block 1 (.seq (.ops [
.op ⟨(some 17), (.pure (.mv (.tmp 15))), none⟩,
.op ⟨(some 18), (.pure (.idx 1 (.tmp 13) (.tmp 15))), none⟩,
.op ⟨(some 19), (.load none (.tmp 18)), none⟩,
.op ⟨(some 4), (.pure (.mv (.tmp 17))), none⟩,
.op ⟨(some 5), (.pure (.mv (.tmp 19))), none⟩])
(.seq (.ops [
.op ⟨(some 20), (.pure (.mv (.tmp 5))), none⟩,
.op ⟨(some 21), (.eff (.call 45 [(.tmp 20)])), none⟩,
.op ⟨(some 22), (.pure (.bnot (.tmp 21))), none⟩,
.op ⟨(some 23), (.pure (.mv (.tmp 22))), none⟩,
.split 23,
.op ⟨(some 24), (.pure (.mv (.tmp 5))), (some (23, false))⟩,
.op ⟨(some 25), (.pure (.bin .eql (.tmp 24) (.const (.int .i64 (61))))), (some (23, false))⟩,
.op ⟨(some 26), (.pure (.mv (.tmp 25))), (some (23, false))⟩,
.split 26,
.op ⟨(some 27), (.pure (.mv (.tmp 4))), (some (26, true))⟩,
.op ⟨(some 28), (.pure (.mv (.tmp 3))), (some (26, true))⟩,
.op ⟨(some 29), (.pure (.bin .lss (.tmp 27) (.tmp 28))), (some (26, true))⟩,
.op ⟨(some 30), (.pure (.mv (.tmp 29))), (some (26, true))⟩,
.split 30,
.op ⟨(some 31), (.pure (.fieldAddr 0 (.tmp 1))), (some (30, false))⟩,
.op ⟨(some 32), (.load none (.tmp 31)), (some (30, false))⟩,
.op ⟨(some 33), (.pure (.bin .neq (.tmp 32) (.const (.int .i64 (3))))), (some (30, false))⟩,
.op ⟨(some 34), (.pure (.pick (.tmp 30) (.const (.bool true)) (.tmp 33))), (some (26, true))⟩,
.op ⟨(some 35), (.pure (.pick (.tmp 26) (.tmp 34) (.const (.bool false)))), (some (23, false))⟩,
.op ⟨(some 36), (.pure (.pick (.tmp 23) (.const (.bool true)) (.tmp 35))), none⟩])
(.cond (.tmp 36)
(.seq (.ops [
.op ⟨(some 2), (.pure (.mv (.const (.bool false)))), none⟩])
(.ret))
(.skip)))))
(.ops [
.op ⟨(some 37), (.pure (.bin .add (.tmp 15) (.const (.int .i64 (1))))), none⟩,
.op ⟨(some 15), (.pure (.mv (.tmp 37))), none⟩])))))))
(.seq (.seq (.ops [
.op ⟨(some 38), (.pure (.fieldAddr 0 (.tmp 1))), none⟩,
.op ⟨(some 39), (.load none (.tmp 38)), none⟩])
(.block 2 (.seq (.ops [
.op ⟨(some 41), (.pure (.bin .eql (.tmp 39) (.const (.int .i64 (0))))), none⟩,
.op ⟨(some 40), (.pure (.mv (.tmp 41))), none⟩])
(.cond (.tmp 40)
(.seq (.ops [
.op ⟨(some 42), (.pure (.fieldAddr 1 (.tmp 1))), none⟩,
.op ⟨(some 43), (.load none (.tmp 42)), none⟩,
.op ⟨(some 44), (.pure (.bin .eql (.tmp 43) (.const (.int .i64 (0))))), none⟩,
.op ⟨(some 45), (.pure (.mv (.tmp 44))), none⟩,
.split 45,
.op ⟨(some 46), (.pure (.fieldAddr 2 (.tmp 1))), (some (45, true))⟩,
.op ⟨(some 47), (.load none (.tmp 46)), (some (45, true))⟩,
.op ⟨(some 48), (.pure (.bin .eql (.tmp 47) (.const (.int .i64 (0))))), (some (45, true))⟩,
.op ⟨(some 49), (.pure (.pick (.tmp 45) (.tmp 48) (.const (.bool false)))), none⟩,
.op ⟨(some 50), (.pure (.mv (.tmp 49))), none⟩,
.split 50,
.op ⟨(some 51), (.pure (.fieldAddr 3 (.tmp 1))), (some (50, true))⟩,
.op ⟨(some 52), (.load none (.tmp 51)), (some (50, true))⟩,
.op ⟨(some 53), (.pure (.bin .eql (.tmp 52) (.const (.int .i64 (0))))), (some (50, true))⟩,
.op ⟨(some 54), (.pure (.mv (.tmp 53))), (some (50, true))⟩,
.split 54,
.op ⟨(some 55), (.pure (.fieldAddr 3 (.tmp 1))), (some (54, false))⟩,
.op ⟨(some 56), (.load none (.tmp 55)), (some (54, false))⟩,
.op ⟨(some 57), (.pure (.bin .eql (.tmp 56) (.const (.int .i64 (62))))), (some (54, false))⟩,
.op ⟨(some 58), (.pure (.pick (.tmp 54) (.const (.bool true)) (.tmp 57))), (some (50, true))⟩,
.op ⟨(some 59), (.pure (.pick (.tmp 50) (.tmp 58) (.const (.bool false)))), none⟩,
.op ⟨(some 2), (.pure (.mv (.tmp 59))), none⟩])
(.ret))
(.seq (.ops [
.op ⟨(some 61), (.pure (.bin .eql (.tmp 39) (.const (.int .i64 (1))))), none⟩,
.op ⟨(some 60), (.pure (.mv (.tmp 61))), none⟩])
(.cond (.tmp 60)
(.seq (.ops [
.op ⟨(some 62), (.pure (.fieldAddr 1 (.tmp 1))), none⟩,
.op ⟨(some 63), (.load none (.tmp 62)), none⟩,
.op ⟨(some 64), (.eff (.call 45 [(.tmp 63)])), none⟩,
.op ⟨(some 65), (.pure (.mv (.tmp 64))), none⟩,
.split 65,
.op ⟨(some 66), (.pure (.fieldAddr 3 (.tmp 1))), (some (65, true))⟩,
.op ⟨(some 67), (.load none (.tmp 66)), (some (65, true))⟩,
.op ⟨(some 68), (.pure (.fieldAddr 1 (.tmp 1))), (some (65, true))⟩,
.op ⟨(some 69), (.load none (.tmp 68)), (some (65, true))⟩,
.op ⟨(some 70), (.pure (.bin .eql (.tmp 67) (.tmp 69))), (some (65, true))⟩,
.op ⟨(some 71), (.pure (.pick (.tmp 65) (.tmp 70) (.const (.bool false)))), none⟩,
.op ⟨(some 72), (.pure (.mv (.tmp 71))), none⟩,
.split 72,
.op ⟨(some 73), (.pure (.fieldAddr 2 (.tmp 1))), (some (72, true))⟩,
.op ⟨(some 74), (.load none (.tmp 73)), (some (72, true))⟩,
.op ⟨(some 75), (.eff (.call 47 [(.tmp 74), (.const (.int .i64 (0))), (.const (.int .i64 (3)))])), (some (72, true))⟩,
.op ⟨(some 76), (.pure (.pick (.tmp 72) (.tmp 75) (.const (.bool false)))), none⟩,
.op ⟨(some 2), (.pure (.mv (.tmp 76))), none⟩])
(.ret))
(.seq (.ops [
.op ⟨(some 78), (.pure (.bin .eql (.tmp 39) (.const (.int .i64 (2))))), none⟩,
.op ⟨(some 77), (.pure (.mv (.tmp 78))), none⟩])
(.cond (.tmp 77)
(.seq (.ops [
.op ⟨(some 79), (.pure (.fieldAddr 1 (.tmp 1))), none⟩,
.op ⟨(some 80), (.load none (.tmp 79)), none⟩,
.op ⟨(some 81), (.eff (.call 45 [(.tmp 80)])), none⟩,
.op ⟨(some 82), (.pure (.mv (.tmp 81))), none⟩,
.split 82,
.op ⟨(some 83), (.pure (.fieldAddr 2 (.tmp 1))), (some (82, true))⟩,
.op ⟨(some 84), (.load none (.tmp 83)), (some (82, true))⟩,
.op ⟨(some 85), (.pure (.bin .eql (.tmp 84) (.const (.int .i64 (3))))), (some (82, true))⟩,
.op ⟨(some 86), (.pure (.pick (.tmp 82) (.tmp 85) (.const (.bool false)))), none⟩,
.op ⟨(some 87), (.pure (.mv (.tmp 86))), none⟩,
.split 87,
.op ⟨(some 88), (.pure (.fieldAddr 3 (.tmp 1))), (some (87, true))⟩,
.op ⟨(some 89), (.load none (.tmp 88)), (some (87, true))⟩,
.op ⟨(some 90), (.pure (.bin .eql (.tmp 89) (.const (.int .i64 (63))))), (some (87, true))⟩,
.op ⟨(some 91), (.pure (.pick (.tmp 87) (.tmp 90) (.const (.bool false)))), none⟩,
.op ⟨(some 2), (.pure (.mv (.tmp 91))), none⟩])
(.ret))
(.seq (.ops [
.op ⟨(some 93), (.pure (.bin .eql (.tmp 39) (.const (.int .i64 (3))))), none⟩,
.op ⟨(some 92), (.pure (.mv (.tmp 93))), none⟩])
(.cond (.tmp 92)
(.seq (.ops [
.op ⟨(some 94), (.pure (.fieldAddr 1 (.tmp 1))), none⟩,
.op ⟨(some 95), (.load none (.tmp 94)), none⟩,
.op ⟨(some 96), (.pure (.bin .eql (.tmp 95) (.const (.int .i64 (0))))), none⟩,
.op ⟨(some 97), (.pure (.mv (.tmp 96))), none⟩,
.split 97,
.op ⟨(some 98), (.pure (.fieldAddr 2 (.tmp 1))), (some (97, true))⟩,
.op ⟨(some 99), (.load none (.tmp 98)), (some (97, true))⟩,
.op ⟨(some 100), (.pure (.bin .eql (.tmp 99) (.const (.int .i64 (0))))), (some (97, true))⟩,
.op ⟨(some 101), (.pure (.pick (.tmp 97) (.tmp 100) (.const (.bool false)))), none⟩,
.op ⟨(some 102), (.pure (.mv (.tmp 101))), none⟩,
.split 102,
.op ⟨(some 103), (.pure (.fieldAddr 3 (.tmp 1))), (some (102, true))⟩,
.op ⟨(some 104), (.load none (.tmp 103)), (some (102, true))⟩,
.op ⟨(some 105), (.pure (.bin .eql (.tmp 104) (.const (.int .i64 (0))))), (some (102, true))⟩,
.op ⟨(some 106), (.pure (.pick (.tmp 102) (.tmp 105) (.const (.bool false)))), none⟩,
.op ⟨(some 107), (.pure (.mv (.tmp 106))), none⟩,
.split 107,
.op ⟨(some 108), (.pure (.mv (.tmp 3))), (some (107, true))⟩,
.op ⟨(some 109), (.pure (.bin .geq (.tmp 108) (.const (.int .i64 (0))))), (some (107, true))⟩,
.op ⟨(some 110), (.pure (.pick (.tmp 107) (.tmp 109) (.const (.bool false)))), none⟩,
.op ⟨(some 111), (.pure (.mv (.tmp 110))), none⟩,
.split 111,
.op ⟨(some 112), (.pure (.fieldAddr 4 (.tmp 1))), (some (111, true))⟩,
.op ⟨(some 113), (.load none (.tmp 112)), (some (111, true))⟩,
.op ⟨(some 114), (.pure (.mv (.tmp 3))), (some (111, true))⟩,
.op ⟨(some 115), (.pure (.idx 1 (.tmp 113) (.tmp 114))), (some (111, true))⟩,
.op ⟨(some 116), (.load none (.tmp 115)), (some (111, true))⟩,
.op ⟨(some 117), (.pure (.bin .eql (.tmp 116) (.const (.int .i64 (61))))), (some (111, true))⟩,
.op ⟨(some 118), (.pure (.pick (.tmp 111) (.tmp 117) (.const (.bool false)))), none⟩,
.op ⟨(some 2), (.pure (.mv (.tmp 118))), none⟩])
(.ret))
(.skip)))))))))))
(.seq (.ops [
.op ⟨(some 2), (.pure (.mv (.const (.bool false)))), none⟩])
(.ret)))))),
[.tmp 2]⟩
theorem r_impl_IsRepeater : resFun Try.prog f_impl_IsRepeater = some c_impl_IsRepeater := by kernel_rfl

/- loop.example/g00940/spec.IsRepeater -/
abbrev f_spec_IsRepeater : Nat := 17
def c_spec_IsRepeater : MFun := ⟨5, .seq (.ops [
.op ⟨(some 1), (.eff (.box 25 (.tmp 0))), none⟩,
.op ⟨(some 2), (.pure (.mv (.const (.bool false)))), none⟩])
(.seq (.ops [
.op ⟨(some 3), (.load (some 5) (.tmp 1)), none⟩,
.op ⟨(some 4), (.eff (.call 37 [(.tmp 3)])), none⟩,
.op ⟨(some 2), (.pure (.mv (.tmp 4))), none⟩])
(.ret)),
[.tmp 2]⟩
theorem r_spec_IsRepeater : resFun Try.prog f_spec_IsRepeater = some c_spec_IsRepeater := by kernel_rfl

/- loop.example/g00940/laws.qInts -/
abbrev f_laws_qInts : Nat := 18
def c_laws_qInts : MFun := ⟨26, .seq (.ops [
.op ⟨(some 4), (.pure (.mv (.const (.bool false)))), none⟩])
(.seq (.seq (.ops [
.op ⟨(some 6), (.pure (.mv (.tmp 0))), none⟩,
.op ⟨(some 7), (.pure (.len (.tmp 6))), none⟩,
.op ⟨(some 8), (.pure (.mv (.tmp 1))), none⟩,
.op ⟨(some 9), (.pure (.len (.tmp 8))), none⟩,
.op ⟨(some 10), (.pure (.bin .neq (.tmp 7) (.tmp 9))), none⟩])
(.cond (.tmp 10)
(.seq (.ops [
.op ⟨(some 4), (.pure (.mv (.const (.bool false)))), none⟩])
(.ret))
(.skip)))
(.seq (.seq (.ops [
.op ⟨(some 11), (.pure (.mv (.tmp 0))), none⟩,
.op ⟨(some 12), (.pure (.len (.tmp 11))), none⟩,
.op ⟨(some 13), (.pure (.mv (.const (.int .i64 (0))))), none⟩])
(.block 0 (.loop (.seq (.ops [
.op ⟨(some 14), (.pure (.bin .lss (.tmp 13) (.tmp 12))), none⟩])
(.seq (.cond (.tmp 14)
(.skip)
(.exit 0))
(.seq (.block 1 (.seq (.ops [
.op ⟨(some 15), (.pure (.mv (.tmp 13))), none⟩,
.op ⟨(some 5), (.pure (.mv (.tmp 15))), none⟩])
(.seq (.ops [
.op ⟨(some 16), (.pure (.mv (.tmp 0))), none⟩,
.op ⟨(some 17), (.pure (.mv (.tmp 5))), none⟩,
.op ⟨(some 18), (.pure (.idx 1 (.tmp 16) (.tmp 17))), none⟩,
.op ⟨(some 20), (.pure (.mv (.tmp 1))), none⟩,
.op ⟨(some 21), (.pure (.mv (.tmp 5))), none⟩,
.op ⟨(some 22), (.pure (.idx 1 (.tmp 20) (.tmp 21))), none⟩,
.op ⟨(some 19), (.load none (.tmp 18)), none⟩,
.op ⟨(some 23), (.load none (.tmp 22)), none⟩,
.op ⟨(some 24), (.pure (.bin .neq (.tmp 19) (.tmp 23))), none⟩])
(.cond (.tmp 24)
(.seq (.ops [
.op ⟨(some 4), (.pure (.mv (.const (.bool false)))), none⟩])
(.ret))
(.skip)))))
(.ops [
.op ⟨(some 25), (.pure (.bin .add (.tmp 13) (.const (.int .i64 (1))))), none⟩,
.op ⟨(some 13), (.pure (.mv (.tmp 25))), none⟩])))))))
(.seq (.ops [
.op ⟨(some 4), (.pure (.mv (.const (.bool true)))), none⟩])
(.ret)))),
[.tmp 4]⟩
theorem r_laws_qInts : resFun Try.prog f_laws_qInts = some c_laws_qInts := by kernel_rfl

/- loop.example/g00940/impl.PassedBy -/
abbrev f_impl_PassedBy : Nat := 19
def c_impl_PassedBy : MFun := ⟨18, .seq (.ops [
.op ⟨(some 2), (.pure (.mv (.const (.slice none 0 0)))), none⟩,
.op ⟨(some 3), (.pure (.mv (.const (.int .i64 (0))))), none⟩,
.op ⟨(some 4), (.pure (.mv (.const (.bool false)))), none⟩])
(.seq (.ops [
.op ⟨(some 8), (.pure (.build [(.int .i64 (0)), (.int .i64 (0)), (.int .i64 (0)), (.int .i64 (0)), (.slice none 0 0)] [])), none⟩,
.op ⟨(some 9), (.pure (.mv (.tmp 0))), none⟩,
.op ⟨(some 10), (.eff (.call 6 [(.tmp 8), (.tmp 9)])), none⟩,
.op ⟨(some 7), (.pure (.mv (.tmp 10))), none⟩,
.op ⟨(some 11), (.pure (.ext 0 (.tmp 7))), none⟩,
.op ⟨(some 12), (.pure (.ext 1 (.tmp 7))), none⟩,
.op ⟨(some 5), (.eff (.new 25 [(.int .i64 (0)), (.int .i64 (0)), (.int .i64 (0)), (.int .i64 (0)), (.slice none 0 0)])), none⟩,
.op ⟨none, (.eff (.store 5 (.tmp 5) (.tmp 11))), none⟩,
.op ⟨(some 6), (.pure (.mv (.tmp 12))), none⟩])
(.seq (.ops [
.op ⟨(some 13), (.pure (.fieldAddr 4 (.tmp 5))), none⟩,
.op ⟨(some 15), (.pure (.fieldAddr 0 (.tmp 5))), none⟩,
.op ⟨(some 17), (.pure (.mv (.tmp 6))), none⟩,
.op ⟨(some 14), (.load none (.tmp 13)), none⟩,
.op ⟨(some 2), (.pure (.mv (.tmp 14))), none⟩,
.op ⟨(some 16), (.load none (.tmp 15)), none⟩,
.op ⟨(some 3), (.pure (.mv (.tmp 16))), none⟩,
.op ⟨(some 4), (.pure (.mv (.tmp 17))), none⟩])
(.ret))),
[.tmp 2, .tmp 3, .tmp 4]⟩
theorem r_impl_PassedBy : resFun Try.prog f_impl_PassedBy = some c_impl_PassedBy := by kernel_rfl

/- loop.example/g00940/spec.DrawUsefulGlances -/
abbrev f_spec_DrawUsefulGlances : Nat := 20
def c_spec_DrawUsefulGlances : MFun := ⟨5, .seq (.ops [
.op ⟨(some 2), (.pure (.mv (.const (.slice none 0 0)))), none⟩])
(.seq (.ops [
.op ⟨(some 3), (.pure (.mv (.tmp 0))), none⟩,
.op ⟨(some 4), (.eff (.call 48 [(.tmp 3)])), none⟩,
.op ⟨(some 2), (.pure (.mv (.tmp 4))), none⟩])
(.ret)),
[.tmp 2]⟩
theorem r_spec_DrawUsefulGlances : resFun Try.prog f_spec_DrawUsefulGlances = some c_spec_DrawUsefulGlances := by kernel_rfl

/- loop.example/g00940/impl.UsefulGlances -/
abbrev f_impl_UsefulGlances : Nat := 21
def c_impl_UsefulGlances : MFun := ⟨68, .seq (.ops [
.op ⟨(some 2), (.pure (.mv (.const (.slice none 0 0)))), none⟩,
.op ⟨(some 3), (.pure (.mv (.const (.bool false)))), none⟩])
(.seq (.seq (.ops [
.op ⟨(some 10), (.pure (.mv (.tmp 0))), none⟩,
.op ⟨(some 11), (.eff (.call 34 [(.tmp 10)])), none⟩,
.op ⟨(some 12), (.pure (.bnot (.tmp 11))), none⟩])
(.cond (.tmp 12)
(.seq (.ops [
.op ⟨(some 2), (.pure (.mv (.const (.slice none 0 0)))), none⟩,
.op ⟨(some 3), (.pure (.mv (.const (.bool false)))), none⟩])
(.ret))
(.skip)))
(.seq (.ops [
.op ⟨(some 4), (.eff (.new 25 [(.int .i64 (0)), (.int .i64 (0)), (.int .i64 (0)), (.int .i64 (0)), (.slice none 0 0)])), none⟩])
(.seq (.ops [
.op ⟨(some 5), (.pure (.mv (.const (.slice none 0 0)))), none⟩])
(.seq (.seq (.ops [
.op ⟨(some 13), (.pure (.mv (.tmp 0))), none⟩,
.op ⟨(some 14), (.pure (.len (.tmp 13))), none⟩,
.op ⟨(some 15), (.pure (.mv (.const (.int .i64 (0))))), none⟩])
(.block 0 (.loop (.seq (.ops [
.op ⟨(some 16), (.pure (.bin .lss (.tmp 15) (.tmp 14))), none⟩])
(.seq (.cond (.tmp 16)
(.skip)
(.exit 0))
(.seq (.block 1 (.seq (.ops [
.op ⟨(some 17), (.pure (.mv (.tmp 15))), none⟩,
.op ⟨(some 18), (.pure (.idx 2 (.tmp 13) (.tmp 15))), none⟩,
.op ⟨(some 19), (.load (some 2) (.tmp 18)), none⟩,
.op ⟨(some 7), (.eff (.new 32 [(.bool false), (.int .i64 (0))])), none⟩,
.op ⟨(some 6), (.pure (.mv (.tmp 17))), none⟩,
.op ⟨none, (.eff (.store 2 (.tmp 7) (.tmp 19))), none⟩])
(.seq (.ops [
.op ⟨(some 21), (.load (some 5) (.tmp 4)), none⟩,
.op ⟨(some 22), (.load (some 2) (.tmp 7)), none⟩,
.op ⟨(some 23), (.eff (.call 36 [(.tmp 21), (.tmp 22)])), none⟩,
.op ⟨(some 20), (.pure (.mv (.tmp 23))), none⟩,
.op ⟨(some 24), (.pure (.ext 0 (.tmp 20))), none⟩,
.op ⟨(some 25), (.pure (.ext 1 (.tmp 20))), none⟩,
.op ⟨(some 8), (.eff (.new 25 [(.int .i64 (0)), (.int .i64 (0)), (.int .i64 (0)), (.int .i64 (0)), (.slice none 0 0)])), none⟩,
.op ⟨none, (.eff (.store 5 (.tmp 8) (.tmp 24))), none⟩,
.op ⟨(some 9), (.pure (.mv (.tmp 25))), none⟩])
(.seq (.seq (.ops [
.op ⟨(some 26), (.pure (.fieldAddr 0 (.tmp 8))), none⟩,
.op ⟨(some 27), (.load none (.tmp 26)), none⟩,
.op ⟨(some 28), (.pure (.fieldAddr 0 (.tmp 4))), none⟩,
.op ⟨(some 29), (.load none (.tmp 28)), none⟩,
.op ⟨(some 30), (.pure (.bin .neq (.tmp 27) (.tmp 29))), none⟩,
.op ⟨(some 31), (.pure (.mv (.tmp 30))), none⟩,
.split 31,
.op ⟨(some 32), (.pure (.fieldAddr 1 (.tmp 8))), (some (31, false))⟩,
.op ⟨(some 33), (.load none (.tmp 32)), (some (31, false))⟩,
.op ⟨(some 34), (.pure (.fieldAddr 1 (.tmp 4))), (some (31, false))⟩,
.op ⟨(some 35), (.load none (.tmp 34)), (some (31, false))⟩,
.op ⟨(some 36), (.pure (.bin .neq (.tmp 33) (.tmp 35))), (some (31, false))⟩,
.op ⟨(some 37), (.pure (.pick (.tmp 31) (.const (.bool true)) (.tmp 36))), none⟩,
.op ⟨(some 38), (.pure (.mv (.tmp 37))), none⟩,
.split 38,
.op ⟨(some 39), (.pure (.fieldAddr 2 (.tmp 8))), (some (38, false))⟩,
.op ⟨(some 40), (.load none (.tmp 39)), (some (38, false))⟩,
.op ⟨(some 41), (.pure (.fieldAddr 2 (.tmp 4))), (some (38, false))⟩,
.op ⟨(some 42), (.load none (.tmp 41)), (some (38, false))⟩,
.op ⟨(some 43), (.pure (.bin .neq (.tmp 40) (.tmp 42))), (some (38, false))⟩,
.op ⟨(some 44), (.pure (.pick (.tmp 38) (.const (.bool true)) (.tmp 43))), none⟩,
.op ⟨(some 45), (.pure (.mv (.tmp 44))), none⟩,
.split 45,
.op ⟨(some 46), (.pure (.fieldAddr 3 (.tmp 8))), (some (45, false))⟩,
.op ⟨(some 47), (.load none (.tmp 46)), (some (45, false))⟩,
.op ⟨(some 48), (.pure (.fieldAddr 3 (.tmp 4))), (some (45, false))⟩,
.op ⟨(some 49), (.load none (.tmp 48)), (some (45, false))⟩,
.op ⟨(some 50), (.pure (.bin .neq (.tmp 47) (.tmp 49))), (some (45, false))⟩,
.op ⟨(some 51), (.pure (.pick (.tmp 45) (.const (.bool true)) (.tmp 50))), none⟩,
.op ⟨(some 52), (.pure (.mv (.tmp 51))), none⟩,
.split 52,
.op ⟨(some 53), (.pure (.fieldAddr 4 (.tmp 8))), (some (52, false))⟩,
.op ⟨(some 54), (.load none (.tmp 53)), (some (52, false))⟩,
.op ⟨(some 55), (.pure (.len (.tmp 54))), (some (52, false))⟩,
.op ⟨(some 56), (.pure (.fieldAddr 4 (.tmp 4))), (some (52, false))⟩,
.op ⟨(some 57), (.load none (.tmp 56)), (some (52, false))⟩,
.op ⟨(some 58), (.pure (.len (.tmp 57))), (some (52, false))⟩,
.op ⟨(some 59), (.pure (.bin .neq (.tmp 55) (.tmp 58))), (some (52, false))⟩,
.op ⟨(some 60), (.pure (.pick (.tmp 52) (.const (.bool true)) (.tmp 59))), none⟩])
(.cond (.tmp 60)
(.ops [
.op ⟨(some 61), (.pure (.mv (.tmp 5))), none⟩,
.op ⟨(some 62), (.pure (.mv (.tmp 6))), none⟩,
.op ⟨(some 63), (.eff (.row 3 1 [(.int .i64 (0))] [(0, 1, (.tmp 62))])), none⟩,
.op ⟨(some 64), (.eff (.app 3 1 8 (.tmp 61) (.tmp 63))), none⟩,
.op ⟨(some 5), (.pure (.mv (.tmp 64))), none⟩])
(.skip)))
(.ops [
.op ⟨(some 65), (.load (some 5) (.tmp 8)), none⟩,
.op ⟨none, (.eff (.store 5 (.tmp 4) (.tmp 65))), none⟩])))))
(.ops [
.op ⟨(some 66), (.pure (.bin .add (.tmp 15) (.const (.int .i64 (1))))), none⟩,
.op ⟨(some 15), (.pure (.mv (.tmp 66))), none⟩])))))))
(.seq (.ops [
.op ⟨(some 67), (.pure (.mv (.tmp 5))), none⟩,
.op ⟨(some 2), (.pure (.mv (.tmp 67))), none⟩,
.op ⟨(some 3), (.pure (.mv (.const (.bool true)))), none⟩])
(.ret)))))),
[.tmp 2, .tmp 3]⟩
theorem r_impl_UsefulGlances : resFun Try.prog f_impl_UsefulGlances = some c_impl_UsefulGlances := by kernel_rfl

/- loop.example/g00940/spec.UsefulGlances -/
abbrev f_spec_UsefulGlances : Nat := 22
def c_spec_UsefulGlances : MFun := ⟨34, .seq (.ops [
.op ⟨(some 2), (.pure (.mv (.const (.slice none 0 0)))), none⟩,
.op ⟨(some 3), (.pure (.mv (.const (.bool false)))), none⟩])
(.seq (.seq (.ops [
.op ⟨(some 9), (.pure (.mv (.tmp 0))), none⟩,
.op ⟨(some 10), (.eff (.call 38 [(.tmp 9)])), none⟩,
.op ⟨(some 11), (.pure (.bnot (.tmp 10))), none⟩])
(.cond (.tmp 11)
(.seq (.ops [
.op ⟨(some 2), (.pure (.mv (.const (.slice none 0 0)))), none⟩,
.op ⟨(some 3), (.pure (.mv (.const (.bool false)))), none⟩])
(.ret))
(.skip)))
(.seq (.ops [
.op ⟨(some 4), (.pure (.mv (.const (.slice none 0 0)))), none⟩])
(.seq (.ops [
.op ⟨(some 12), (.eff (.call 49 [])), none⟩,
.op ⟨(some 5), (.eff (.new 25 [(.int .i64 (0)), (.int .i64 (0)), (.int .i64 (0)), (.int .i64 (0)), (.slice none 0 0)])), none⟩,
.op ⟨none, (.eff (.store 5 (.tmp 5) (.tmp 12))), none⟩])
(.seq (.seq (.ops [
.op ⟨(some 13), (.pure (.mv (.tmp 0))), none⟩,
.op ⟨(some 14), (.pure (.len (.tmp 13))), none⟩,
.op ⟨(some 15), (.pure (.mv (.const (.int .i64 (0))))), none⟩])
(.block 0 (.loop (.seq (.ops [
.op ⟨(some 16), (.pure (.bin .lss (.tmp 15) (.tmp 14))), none⟩])
(.seq (.cond (.tmp 16)
(.skip)
(.exit 0))
(.seq (.block 1 (.seq (.ops [
.op ⟨(some 17), (.pure (.mv (.tmp 15))), none⟩,
.op ⟨(some 18), (.pure (.idx 2 (.tmp 13) (.tmp 15))), none⟩,
.op ⟨(some 19), (.load (some 2) (.tmp 18)), none⟩,
.op ⟨(some 7), (.eff (.new 32 [(.bool false), (.int .i64 (0))])), none⟩,
.op ⟨(some 6), (.pure (.mv (.tmp 17))), none⟩,
.op ⟨none, (.eff (.store 2 (.tmp 7) (.tmp 19))), none⟩])
(.seq (.ops [
.op ⟨(some 20), (.load (some 5) (.tmp 5)), none⟩,
.op ⟨(some 21), (.load (some 2) (.tmp 7)), none⟩,
.op ⟨(some 22), (.eff (.call 40 [(.tmp 20), (.tmp 21)])), none⟩,
.op ⟨(some 8), (.eff (.new 25 [(.int .i64 (0)), (.int .i64 (0)), (.int .i64 (0)), (.int .i64 (0)), (.slice none 0 0)])), none⟩,
.op ⟨none, (.eff (.store 5 (.tmp 8) (.tmp 22))), none⟩])
(.seq (.seq (.ops [
.op ⟨(some 23), (.load (some 5) (.tmp 5)), none⟩,
.op ⟨(some 24), (.load (some 5) (.tmp 8)), none⟩,
.op ⟨(some 25), (.eff (.call 50 [(.tmp 23), (.tmp 24)])), none⟩,
.op ⟨(some 26), (.pure (.bnot (.tmp 25))), none⟩])
(.cond (.tmp 26)
(.ops [
.op ⟨(some 27), (.pure (.mv (.tmp 4))), none⟩,
.op ⟨(some 28), (.pure (.mv (.tmp 6))), none⟩,
.op ⟨(some 29), (.eff (.row 3 1 [(.int .i64 (0))] [(0, 1, (.tmp 28))])), none⟩,
.op ⟨(some 30), (.eff (.app 3 1 8 (.tmp 27) (.tmp 29))), none⟩,
.op ⟨(some 4), (.pure (.mv (.tmp 30))), none⟩])
(.skip)))
(.ops [
.op ⟨(some 31), (.load (some 5) (.tmp 8)), none⟩,
.op ⟨none, (.eff (.store 5 (.tmp 5) (.tmp 31))), none⟩])))))
(.ops [
.op ⟨(some 32), (.pure (.bin .add (.tmp 15) (.const (.int .i64 (1))))), none⟩,
.op ⟨(some 15), (.pure (.mv (.tmp 32))), none⟩])))))))
(.seq (.ops [
.op ⟨(some 33), (.pure (.mv (.tmp 4))), none⟩,
.op ⟨(some 2), (.pure (.mv (.tmp 33))), none⟩,
.op ⟨(some 3), (.pure (.mv (.const (.bool true)))), none⟩])
(.ret)))))),
[.tmp 2, .tmp 3]⟩
theorem r_spec_UsefulGlances : resFun Try.prog f_spec_UsefulGlances = some c_spec_UsefulGlances := by kernel_rfl

/- loop.example/g00940/spec.PassedBy -/
abbrev f_spec_PassedBy : Nat := 23
def c_spec_PassedBy : MFun := ⟨19, .seq (.ops [
.op ⟨(some 2), (.pure (.mv (.const (.slice none 0 0)))), none⟩,
.op ⟨(some 3), (.pure (.mv (.const (.int .i64 (0))))), none⟩,
.op ⟨(some 4), (.pure (.mv (.const (.bool false)))), none⟩])
(.seq (.ops [
.op ⟨(some 8), (.eff (.call 49 [])), none⟩,
.op ⟨(some 9), (.pure (.mv (.tmp 0))), none⟩,
.op ⟨(some 10), (.eff (.call 7 [(.tmp 8), (.tmp 9)])), none⟩,
.op ⟨(some 7), (.pure (.mv (.tmp 10))), none⟩,
.op ⟨(some 11), (.pure (.ext 0 (.tmp 7))), none⟩,
.op ⟨(some 12), (.pure (.ext 1 (.tmp 7))), none⟩,
.op ⟨(some 5), (.eff (.new 25 [(.int .i64 (0)), (.int .i64 (0)), (.int .i64 (0)), (.int .i64 (0)), (.slice none 0 0)])), none⟩,
.op ⟨none, (.eff (.store 5 (.tmp 5) (.tmp 11))), none⟩,
.op ⟨(some 6), (.pure (.mv (.tmp 12))), none⟩])
(.seq (.seq (.ops [
.op ⟨(some 13), (.pure (.mv (.tmp 6))), none⟩,
.op ⟨(some 14), (.pure (.bnot (.tmp 13))), none⟩])
(.cond (.tmp 14)
(.seq (.ops [
.op ⟨(some 2), (.pure (.mv (.const (.slice none 0 0)))), none⟩,
.op ⟨(some 3), (.pure (.mv (.const (.int .i64 (0))))), none⟩,
.op ⟨(some 4), (.pure (.mv (.const (.bool false)))), none⟩])
(.ret))
(.skip)))
(.seq (.ops [
.op ⟨(some 15), (.pure (.fieldAddr 4 (.tmp 5))), none⟩,
.op ⟨(some 17), (.pure (.fieldAddr 0 (.tmp 5))), none⟩,
.op ⟨(some 16), (.load none (.tmp 15)), none⟩,
.op ⟨(some 2), (.pure (.mv (.tmp 16))), none⟩,
.op ⟨(some 18), (.load none (.tmp 17)), none⟩,
.op ⟨(some 3), (.pure (.mv (.tmp 18))), none⟩,
.op ⟨(some 4), (.pure (.mv (.const (.bool true)))), none⟩])
(.ret)))),
[.tmp 2, .tmp 3, .tmp 4]⟩
theorem r_spec_PassedBy : resFun Try.prog f_spec_PassedBy = some c_spec_PassedBy := by kernel_rfl

/- loop.example/g00940/impl.ShownAfter -/
abbrev f_impl_ShownAfter : Nat := 24
def c_impl_ShownAfter : MFun := ⟨30, .seq (.ops [
.op ⟨(some 2), (.pure (.mv (.const (.slice none 0 0)))), none⟩,
.op ⟨(some 3), (.pure (.mv (.const (.bool false)))), none⟩])
(.seq (.seq (.ops [
.op ⟨(some 8), (.pure (.mv (.tmp 0))), none⟩,
.op ⟨(some 9), (.eff (.call 34 [(.tmp 8)])), none⟩,
.op ⟨(some 10), (.pure (.bnot (.tmp 9))), none⟩])
(.cond (.tmp 10)
(.seq (.ops [
.op ⟨(some 2), (.pure (.mv (.const (.slice none 0 0)))), none⟩,
.op ⟨(some 3), (.pure (.mv (.const (.bool false)))), none⟩])
(.ret))
(.skip)))
(.seq (.ops [
.op ⟨(some 4), (.eff (.new 25 [(.int .i64 (0)), (.int .i64 (0)), (.int .i64 (0)), (.int .i64 (0)), (.slice none 0 0)])), none⟩])
(.seq (.ops [
.op ⟨(some 5), (.pure (.mv (.const (.slice none 0 0)))), none⟩])
(.seq (.seq (.ops [
.op ⟨(some 11), (.pure (.mv (.tmp 0))), none⟩,
.op ⟨(some 12), (.pure (.len (.tmp 11))), none⟩,
.op ⟨(some 13), (.pure (.mv (.const (.int .i64 (0))))), none⟩])
(.block 0 (.loop (.seq (.ops [
.op ⟨(some 14), (.pure (.bin .lss (.tmp 13) (.tmp 12))), none⟩])
(.seq (.cond (.tmp 14)
(.skip)
(.exit 0))
(.seq (.block 1 (.seq (.ops [
.op ⟨(some 15), (.pure (.idx 2 (.tmp 11) (.tmp 13))), none⟩,
.op ⟨(some 16), (.load (some 2) (.tmp 15)), none⟩,
.op ⟨(some 7), (.eff (.new 32 [(.bool false), (.int .i64 (0))])), none⟩,
.op ⟨none, (.eff (.store 2 (.tmp 7) (.tmp 16))), none⟩])
(.seq (.ops [
.op ⟨(some 18), (.load (some 5) (.tmp 4)), none⟩,
.op ⟨(some 19), (.load (some 2) (.tmp 7)), none⟩,
.op ⟨(some 20), (.eff (.call 36 [(.tmp 18), (.tmp 19)])), none⟩,
.op ⟨(some 17), (.pure (.mv (.tmp 20))), none⟩,
.op ⟨(some 21), (.pure (.ext 0 (.tmp 17))), none⟩,
.op ⟨(some 22), (.pure (.ext 1 (.tmp 17))), none⟩,
.op ⟨none, (.eff (.store 5 (.tmp 4) (.tmp 21))), none⟩])
(.ops [
.op ⟨(some 23), (.pure (.mv (.tmp 5))), none⟩,
.op ⟨(some 24), (.pure (.fieldAddr 3 (.tmp 4))), none⟩,
.op ⟨(some 25), (.load none (.tmp 24)), none⟩,
.op ⟨(some 26), (.eff (.row 3 1 [(.int .i64 (0))] [(0, 1, (.tmp 25))])), none⟩,
.op ⟨(some 27), (.eff (.app 3 1 8 (.tmp 23) (.tmp 26))), none⟩,
.op ⟨(some 5), (.pure (.mv (.tmp 27))), none⟩]))))
(.ops [
.op ⟨(some 28), (.pure (.bin .add (.tmp 13) (.const (.int .i64 (1))))), none⟩,
.op ⟨(some 13), (.pure (.mv (.tmp 28))), none⟩])))))))
(.seq (.ops [
.op ⟨(some 29), (.pure (.mv (.tmp 5))), none⟩,
.op ⟨(some 2), (.pure (.mv (.tmp 29))), none⟩,
.op ⟨(some 3), (.pure (.mv (.const (.bool true)))), none⟩])
(.ret)))))),
[.tmp 2, .tmp 3]⟩
theorem r_impl_ShownAfter : resFun Try.prog f_impl_ShownAfter = some c_impl_ShownAfter := by kernel_rfl

/- loop.example/g00940/spec.ShownAfter -/
abbrev f_spec_ShownAfter : Nat := 25
def c_spec_ShownAfter : MFun := ⟨28, .seq (.ops [
.op ⟨(some 2), (.pure (.mv (.const (.slice none 0 0)))), none⟩,
.op ⟨(some 3), (.pure (.mv (.const (.bool false)))), none⟩])
(.seq (.seq (.ops [
.op ⟨(some 8), (.pure (.mv (.tmp 0))), none⟩,
.op ⟨(some 9), (.eff (.call 38 [(.tmp 8)])), none⟩,
.op ⟨(some 10), (.pure (.bnot (.tmp 9))), none⟩])
(.cond (.tmp 10)
(.seq (.ops [
.op ⟨(some 2), (.pure (.mv (.const (.slice none 0 0)))), none⟩,
.op ⟨(some 3), (.pure (.mv (.const (.bool false)))), none⟩])
(.ret))
(.skip)))
(.seq (.ops [
.op ⟨(some 4), (.pure (.mv (.const (.slice none 0 0)))), none⟩])
(.seq (.ops [
.op ⟨(some 11), (.eff (.call 49 [])), none⟩,
.op ⟨(some 5), (.eff (.new 25 [(.int .i64 (0)), (.int .i64 (0)), (.int .i64 (0)), (.int .i64 (0)), (.slice none 0 0)])), none⟩,
.op ⟨none, (.eff (.store 5 (.tmp 5) (.tmp 11))), none⟩])
(.seq (.seq (.ops [
.op ⟨(some 12), (.pure (.mv (.tmp 0))), none⟩,
.op ⟨(some 13), (.pure (.len (.tmp 12))), none⟩,
.op ⟨(some 14), (.pure (.mv (.const (.int .i64 (0))))), none⟩])
(.block 0 (.loop (.seq (.ops [
.op ⟨(some 15), (.pure (.bin .lss (.tmp 14) (.tmp 13))), none⟩])
(.seq (.cond (.tmp 15)
(.skip)
(.exit 0))
(.seq (.block 1 (.seq (.ops [
.op ⟨(some 16), (.pure (.idx 2 (.tmp 12) (.tmp 14))), none⟩,
.op ⟨(some 17), (.load (some 2) (.tmp 16)), none⟩,
.op ⟨(some 7), (.eff (.new 32 [(.bool false), (.int .i64 (0))])), none⟩,
.op ⟨none, (.eff (.store 2 (.tmp 7) (.tmp 17))), none⟩])
(.seq (.ops [
.op ⟨(some 18), (.load (some 5) (.tmp 5)), none⟩,
.op ⟨(some 19), (.load (some 2) (.tmp 7)), none⟩,
.op ⟨(some 20), (.eff (.call 40 [(.tmp 18), (.tmp 19)])), none⟩,
.op ⟨none, (.eff (.store 5 (.tmp 5) (.tmp 20))), none⟩])
(.ops [
.op ⟨(some 21), (.pure (.mv (.tmp 4))), none⟩,
.op ⟨(some 22), (.pure (.fieldAddr 3 (.tmp 5))), none⟩,
.op ⟨(some 23), (.load none (.tmp 22)), none⟩,
.op ⟨(some 24), (.eff (.row 3 1 [(.int .i64 (0))] [(0, 1, (.tmp 23))])), none⟩,
.op ⟨(some 25), (.eff (.app 3 1 8 (.tmp 21) (.tmp 24))), none⟩,
.op ⟨(some 4), (.pure (.mv (.tmp 25))), none⟩]))))
(.ops [
.op ⟨(some 26), (.pure (.bin .add (.tmp 14) (.const (.int .i64 (1))))), none⟩,
.op ⟨(some 14), (.pure (.mv (.tmp 26))), none⟩])))))))
(.seq (.ops [
.op ⟨(some 27), (.pure (.mv (.tmp 4))), none⟩,
.op ⟨(some 2), (.pure (.mv (.tmp 27))), none⟩,
.op ⟨(some 3), (.pure (.mv (.const (.bool true)))), none⟩])
(.ret)))))),
[.tmp 2, .tmp 3]⟩
theorem r_spec_ShownAfter : resFun Try.prog f_spec_ShownAfter = some c_spec_ShownAfter := by kernel_rfl

/- loop.example/g00940/impl.WrongShows -/
abbrev f_impl_WrongShows : Nat := 26
def c_impl_WrongShows : MFun := ⟨31, .seq (.ops [
.op ⟨(some 2), (.pure (.mv (.const (.int .i64 (0))))), none⟩,
.op ⟨(some 3), (.pure (.mv (.const (.bool false)))), none⟩])
(.seq (.seq (.ops [
.op ⟨(some 10), (.pure (.mv (.tmp 0))), none⟩,
.op ⟨(some 11), (.eff (.call 34 [(.tmp 10)])), none⟩,
.op ⟨(some 12), (.pure (.bnot (.tmp 11))), none⟩])
(.cond (.tmp 12)
(.seq (.ops [
.op ⟨(some 2), (.pure (.mv (.const (.int .i64 (0))))), none⟩,
.op ⟨(some 3), (.pure (.mv (.const (.bool false)))), none⟩])
(.ret))
(.skip)))
(.seq (.ops [
.op ⟨(some 4), (.eff (.new 25 [(.int .i64 (0)), (.int .i64 (0)), (.int .i64 (0)), (.int .i64 (0)), (.slice none 0 0)])), none⟩])
(.seq (.ops [
.op ⟨(some 5), (.pure (.mv (.const (.int .i64 (0))))), none⟩])
(.seq (.seq (.ops [
.op ⟨(some 13), (.pure (.mv (.tmp 0))), none⟩,
.op ⟨(some 14), (.pure (.len (.tmp 13))), none⟩,
.op ⟨(some 15), (.pure (.mv (.const (.int .i64 (0))))), none⟩])
(.block 0 (.loop (.seq (.ops [
.op ⟨(some 16), (.pure (.bin .lss (.tmp 15) (.tmp 14))), none⟩])
(.seq (.cond (.tmp 16)
(.skip)
(.exit 0))
(.seq (.block 1 (.seq (.ops [
.op ⟨(some 17), (.pure (.idx 2 (.tmp 13) (.tmp 15))), none⟩,
.op ⟨(some 18), (.load (some 2) (.tmp 17)), none⟩,
.op ⟨(some 7), (.eff (.new 32 [(.bool false), (.int .i64 (0))])), none⟩,
.op ⟨none, (.eff (.store 2 (.tmp 7) (.tmp 18))), none⟩])
(.seq (.ops [
.op ⟨(some 20), (.load (some 5) (.tmp 4)), none⟩,
.op ⟨(some 21), (.load (some 2) (.tmp 7)), none⟩,
.op ⟨(some 22), (.eff (.call 36 [(.tmp 20), (.tmp 21)])), none⟩,
.op ⟨(some 19), (.pure (.mv (.tmp 22))), none⟩,
.op ⟨(some 23), (.pure (.ext 0 (.tmp 19))), none⟩,
.op ⟨(some 24), (.pure (.ext 1 (.tmp 19))), none⟩,
.op ⟨(some 8), (.eff (.new 25 [(.int .i64 (0)), (.int .i64 (0)), (.int .i64 (0)), (.int .i64 (0)), (.slice none 0 0)])), none⟩,
.op ⟨none, (.eff (.store 5 (.tmp 8) (.tmp 23))), none⟩,
.op ⟨(some 9), (.pure (.mv (.tmp 24))), none⟩])
(.seq (.seq (.ops [
.op ⟨(some 25), (.pure (.mv (.tmp 9))), none⟩])
(.cond (.tmp 25)
(.ops [
.op ⟨(some 26), (.pure (.mv (.tmp 5))), none⟩,
.op ⟨(some 27), (.pure (.bin .add (.tmp 26) (.const (.int .i64 (1))))), none⟩,
.op ⟨(some 5), (.pure (.mv (.tmp 27))), none⟩])
(.skip)))
(.ops [
.op ⟨(some 28), (.load (some 5) (.tmp 8)), none⟩,
.op ⟨none, (.eff (.store 5 (.tmp 4) (.tmp 28))), none⟩])))))
(.ops [
.op ⟨(some 29), (.pure (.bin .add (.tmp 15) (.const (.int .i64 (1))))), none⟩,
.op ⟨(some 15), (.pure (.mv (.tmp 29))), none⟩])))))))
(.seq (.ops [
.op ⟨(some 30), (.pure (.mv (.tmp 5))), none⟩,
.op ⟨(some 2), (.pure (.mv (.tmp 30))), none⟩,
.op ⟨(some 3), (.pure (.mv (.const (.bool true)))), none⟩])
(.ret)))))),
[.tmp 2, .tmp 3]⟩
theorem r_impl_WrongShows : resFun Try.prog f_impl_WrongShows = some c_impl_WrongShows := by kernel_rfl

/- loop.example/g00940/spec.WrongShows -/
abbrev f_spec_WrongShows : Nat := 27
def c_spec_WrongShows : MFun := ⟨42, .seq (.ops [
.op ⟨(some 2), (.pure (.mv (.const (.int .i64 (0))))), none⟩,
.op ⟨(some 3), (.pure (.mv (.const (.bool false)))), none⟩])
(.seq (.seq (.ops [
.op ⟨(some 9), (.pure (.mv (.tmp 0))), none⟩,
.op ⟨(some 10), (.eff (.call 38 [(.tmp 9)])), none⟩,
.op ⟨(some 11), (.pure (.bnot (.tmp 10))), none⟩])
(.cond (.tmp 11)
(.seq (.ops [
.op ⟨(some 2), (.pure (.mv (.const (.int .i64 (0))))), none⟩,
.op ⟨(some 3), (.pure (.mv (.const (.bool false)))), none⟩])
(.ret))
(.skip)))
(.seq (.ops [
.op ⟨(some 4), (.pure (.mv (.const (.int .i64 (0))))), none⟩])
(.seq (.ops [
.op ⟨(some 12), (.eff (.call 49 [])), none⟩,
.op ⟨(some 5), (.eff (.new 25 [(.int .i64 (0)), (.int .i64 (0)), (.int .i64 (0)), (.int .i64 (0)), (.slice none 0 0)])), none⟩,
.op ⟨none, (.eff (.store 5 (.tmp 5) (.tmp 12))), none⟩])
(.seq (.seq (.ops [
.op ⟨(some 13), (.pure (.mv (.tmp 0))), none⟩,
.op ⟨(some 14), (.pure (.len (.tmp 13))), none⟩,
.op ⟨(some 15), (.pure (.mv (.const (.int .i64 (0))))), none⟩])
(.block 0 (.loop (.seq (.ops [
.op ⟨(some 16), (.pure (.bin .lss (.tmp 15) (.tmp 14))), none⟩])
(.seq (.cond (.tmp 16)
(.skip)
(.exit 0))
(.seq (.block 1 (.seq (.ops [
.op ⟨(some 17), (.pure (.idx 2 (.tmp 13) (.tmp 15))), none⟩,
.op ⟨(some 18), (.load (some 2) (.tmp 17)), none⟩,
.op ⟨(some 7), (.eff (.new 32 [(.bool false), (.int .i64 (0))])), none⟩,
.op ⟨none, (.eff (.store 2 (.tmp 7) (.tmp 18))), none⟩])
(.seq (.ops [
.op ⟨(some 19), (.load (some 5) (.tmp 5)), none⟩,
.op ⟨(some 20), (.load (some 2) (.tmp 7)), none⟩,
.op ⟨(some 21), (.eff (.call 40 [(.tmp 19), (.tmp 20)])), none⟩,
.op ⟨(some 8), (.eff (.new 25 [(.int .i64 (0)), (.int .i64 (0)), (.int .i64 (0)), (.int .i64 (0)), (.slice none 0 0)])), none⟩,
.op ⟨none, (.eff (.store 5 (.tmp 8) (.tmp 21))), none⟩])
(.seq (.seq (.ops [
.op ⟨(some 22), (.pure (.fieldAddr 2 (.tmp 8))), none⟩,
.op ⟨(some 23), (.load none (.tmp 22)), none⟩,
.op ⟨(some 24), (.pure (.fieldAddr 2 (.tmp 5))), none⟩,
.op ⟨(some 25), (.load none (.tmp 24)), none⟩,
.op ⟨(some 26), (.pure (.bin .gtr (.tmp 23) (.tmp 25))), none⟩,
.op ⟨(some 27), (.pure (.mv (.tmp 26))), none⟩,
.split 27,
.op ⟨(some 28), (.pure (.fieldAddr 0 (.tmp 8))), (some (27, false))⟩,
.op ⟨(some 29), (.load none (.tmp 28)), (some (27, false))⟩,
.op ⟨(some 30), (.pure (.bin .eql (.tmp 29) (.const (.int .i64 (2))))), (some (27, false))⟩,
.op ⟨(some 31), (.pure (.mv (.tmp 30))), (some (27, false))⟩,
.split 31,
.op ⟨(some 32), (.pure (.fieldAddr 0 (.tmp 5))), (some (31, true))⟩,
.op ⟨(some 33), (.load none (.tmp 32)), (some (31, true))⟩,
.op ⟨(some 34), (.pure (.bin .neq (.tmp 33) (.const (.int .i64 (2))))), (some (31, true))⟩,
.op ⟨(some 35), (.pure (.pick (.tmp 31) (.tmp 34) (.const (.bool false)))), (some (27, false))⟩,
.op ⟨(some 36), (.pure (.pick (.tmp 27) (.const (.bool true)) (.tmp 35))), none⟩])
(.cond (.tmp 36)
(.ops [
.op ⟨(some 37), (.pure (.mv (.tmp 4))), none⟩,
.op ⟨(some 38), (.pure (.bin .add (.tmp 37) (.const (.int .i64 (1))))), none⟩,
.op ⟨(some 4), (.pure (.mv (.tmp 38))), none⟩])
(.skip)))
(.ops [
.op ⟨(some 39), (.load (some 5) (.tmp 8)), none⟩,
.op ⟨none, (.eff (.store 5 (.tmp 5) (.tmp 39))), none⟩])))))
(.ops [
.op ⟨(some 40), (.pure (.bin .add (.tmp 15) (.const (.int .i64 (1))))), none⟩,
.op ⟨(some 15), (.pure (.mv (.tmp 40))), none⟩])))))))
(.seq (.ops [
.op ⟨(some 41), (.pure (.mv (.tmp 4))), none⟩,
.op ⟨(some 2), (.pure (.mv (.tmp 41))), none⟩,
.op ⟨(some 3), (.pure (.mv (.const (.bool true)))), none⟩])
(.ret)))))),
[.tmp 2, .tmp 3]⟩
theorem r_spec_WrongShows : resFun Try.prog f_spec_WrongShows = some c_spec_WrongShows := by kernel_rfl

/- loop.example/g00940/spec.DrawWithMisreading -/
abbrev f_spec_DrawWithMisreading : Nat := 28
def c_spec_DrawWithMisreading : MFun := ⟨31, .seq (.ops [
.op ⟨(some 2), (.pure (.mv (.const (.slice none 0 0)))), none⟩,
.op ⟨(some 3), (.pure (.mv (.const (.int .i64 (0))))), none⟩,
.op ⟨(some 4), (.pure (.mv (.const (.int .i64 (0))))), none⟩])
(.seq (.ops [
.op ⟨(some 7), (.pure (.mv (.tmp 0))), none⟩,
.op ⟨(some 8), (.pure (.build [(.slice none 0 0), (.int .i64 (0)), (.int .u64 (0))] [(0, 1, (.tmp 7))])), none⟩,
.op ⟨(some 9), (.eff (.box 58 (.tmp 8))), none⟩,
.op ⟨(some 5), (.pure (.mv (.tmp 9))), none⟩])
(.seq (.ops [
.op ⟨(some 10), (.pure (.mv (.tmp 5))), none⟩,
.op ⟨(some 11), (.eff (.call 33 [(.tmp 10)])), none⟩,
.op ⟨(some 6), (.pure (.mv (.tmp 11))), none⟩])
(.seq (.ops [
.op ⟨(some 12), (.pure (.mv (.tmp 6))), none⟩,
.op ⟨(some 13), (.pure (.mv (.tmp 5))), none⟩,
.op ⟨(some 14), (.pure (.mv (.tmp 6))), none⟩,
.op ⟨(some 15), (.pure (.len (.tmp 14))), none⟩,
.op ⟨(some 16), (.pure (.mv (.tmp 5))), none⟩,
.op ⟨(some 17), (.eff (.call 44 [(.tmp 16), (.const (.int .i64 (16)))])), none⟩,
.op ⟨(some 18), (.pure (.bin .quo (.tmp 17) (.const (.int .i64 (15))))), none⟩,
.op ⟨(some 19), (.pure (.bin .add (.tmp 15) (.tmp 18))), none⟩,
.op ⟨(some 20), (.eff (.call 44 [(.tmp 13), (.tmp 19)])), none⟩,
.op ⟨(some 21), (.pure (.mv (.tmp 5))), none⟩,
.op ⟨(some 22), (.eff (.call 44 [(.tmp 21), (.const (.int .i64 (20)))])), none⟩,
.op ⟨(some 23), (.pure (.bin .quo (.tmp 22) (.const (.int .i64 (19))))), none⟩,
.op ⟨(some 24), (.pure (.bin .sub (.tmp 20) (.tmp 23))), none⟩,
.op ⟨(some 25), (.pure (.mv (.tmp 5))), none⟩,
.op ⟨(some 26), (.pure (.mv (.tmp 5))), none⟩,
.op ⟨(some 27), (.eff (.row 3 2 [(.int .i64 (0)), (.int .i64 (0))] [(0, 1, (.const (.int .i64 (-1)))), (1, 1, (.const (.int .i64 (64))))])), none⟩,
.op ⟨(some 28), (.eff (.call 42 [(.tmp 26), (.tmp 27)])), none⟩,
.op ⟨(some 29), (.eff (.row 3 5 [(.int .i64 (0)), (.int .i64 (0)), (.int .i64 (0)), (.int .i64 (0)), (.int .i64 (0))] [(0, 1, (.const (.int .i64 (0)))), (1, 1, (.const (.int .i64 (5)))), (2, 1, (.const (.int .i64 (63)))), (3, 1, (.const (.int .i64 (62)))), (4, 1, (.tmp 28))])), none⟩,
.op ⟨(some 30), (.eff (.call 42 [(.tmp 25), (.tmp 29)])), none⟩,
.op ⟨(some 2), (.pure (.mv (.tmp 12))), none⟩,
.op ⟨(some 3), (.pure (.mv (.tmp 24))), none⟩,
.op ⟨(some 4), (.pure (.mv (.tmp 30))), none⟩])
(.ret)))),
[.tmp 2, .tmp 3, .tmp 4]⟩
theorem r_spec_DrawWithMisreading : resFun Try.prog f_spec_DrawWithMisreading = some c_spec_DrawWithMisreading := by kernel_rfl

/- loop.example/g00940/impl.WithMisreading -/
abbrev f_impl_WithMisreading : Nat := 29
def c_impl_WithMisreading : MFun := ⟨33, .seq (.ops [
.op ⟨(some 6), (.pure (.mv (.const (.slice none 0 0)))), none⟩,
.op ⟨(some 7), (.pure (.mv (.const (.bool false)))), none⟩])
(.seq (.seq (.ops [
.op ⟨(some 9), (.pure (.mv (.tmp 0))), none⟩,
.op ⟨(some 10), (.eff (.call 34 [(.tmp 9)])), none⟩,
.op ⟨(some 11), (.pure (.bnot (.tmp 10))), none⟩,
.op ⟨(some 12), (.pure (.mv (.tmp 11))), none⟩,
.split 12,
.op ⟨(some 13), (.pure (.mv (.tmp 1))), (some (12, false))⟩,
.op ⟨(some 14), (.pure (.mv (.tmp 0))), (some (12, false))⟩,
.op ⟨(some 15), (.pure (.len (.tmp 14))), (some (12, false))⟩,
.op ⟨(some 16), (.pure (.bin .sub (.tmp 15) (.const (.int .i64 (1))))), (some (12, false))⟩,
.op ⟨(some 17), (.eff (.call 47 [(.tmp 13), (.const (.int .i64 (0))), (.tmp 16)])), (some (12, false))⟩,
.op ⟨(some 18), (.pure (.bnot (.tmp 17))), (some (12, false))⟩,
.op ⟨(some 19), (.pure (.pick (.tmp 12) (.const (.bool true)) (.tmp 18))), none⟩,
.op ⟨(some 20), (.pure (.mv (.tmp 19))), none⟩,
.split 20,
.op ⟨(some 21), (.pure (.mv (.tmp 2))), (some (20, false))⟩,
.op ⟨(some 22), (.eff (.call 43 [(.tmp 21)])), (some (20, false))⟩,
.op ⟨(some 23), (.pure (.bnot (.tmp 22))), (some (20, false))⟩,
.op ⟨(some 24), (.pure (.pick (.tmp 20) (.const (.bool true)) (.tmp 23))), none⟩])
(.cond (.tmp 24)
(.seq (.ops [
.op ⟨(some 6), (.pure (.mv (.const (.slice none 0 0)))), none⟩,
.op ⟨(some 7), (.pure (.mv (.const (.bool false)))), none⟩])
(.ret))
(.skip)))
(.seq (.ops [
.op ⟨(some 25), (.pure (.mv (.tmp 0))), none⟩,
.op ⟨(some 26), (.eff (.call 51 [(.tmp 25)])), none⟩,
.op ⟨(some 8), (.pure (.mv (.tmp 26))), none⟩])
(.seq (.ops [
.op ⟨(some 27), (.pure (.mv (.tmp 8))), none⟩,
.op ⟨(some 28), (.pure (.mv (.tmp 1))), none⟩,
.op ⟨(some 29), (.pure (.mv (.tmp 2))), none⟩,
.op ⟨(some 30), (.pure (.idx 2 (.tmp 27) (.tmp 28))), none⟩,
.op ⟨(some 31), (.pure (.fieldAddr 1 (.tmp 30))), none⟩,
.op ⟨none, (.eff (.store 1 (.tmp 31) (.tmp 29))), none⟩])
(.seq (.ops [
.op ⟨(some 32), (.pure (.mv (.tmp 8))), none⟩,
.op ⟨(some 6), (.pure (.mv (.tmp 32))), none⟩,
.op ⟨(some 7), (.pure (.mv (.const (.bool true)))), none⟩])
(.ret))))),
[.tmp 6, .tmp 7]⟩
theorem r_impl_WithMisreading : resFun Try.prog f_impl_WithMisreading = some c_impl_WithMisreading := by kernel_rfl

/- loop.example/g00940/spec.WithMisreading -/
abbrev f_spec_WithMisreading : Nat := 30
def c_spec_WithMisreading : MFun := ⟨34, .seq (.ops [
.op ⟨(some 6), (.pure (.mv (.const (.slice none 0 0)))), none⟩,
.op ⟨(some 7), (.pure (.mv (.const (.bool false)))), none⟩])
(.seq (.seq (.ops [
.op ⟨(some 9), (.pure (.mv (.tmp 0))), none⟩,
.op ⟨(some 10), (.eff (.call 38 [(.tmp 9)])), none⟩,
.op ⟨(some 11), (.pure (.bnot (.tmp 10))), none⟩,
.op ⟨(some 12), (.pure (.mv (.tmp 11))), none⟩,
.split 12,
.op ⟨(some 13), (.pure (.mv (.tmp 1))), (some (12, false))⟩,
.op ⟨(some 14), (.pure (.mv (.tmp 0))), (some (12, false))⟩,
.op ⟨(some 15), (.pure (.len (.tmp 14))), (some (12, false))⟩,
.op ⟨(some 16), (.pure (.bin .sub (.tmp 15) (.const (.int .i64 (1))))), (some (12, false))⟩,
.op ⟨(some 17), (.eff (.call 52 [(.tmp 13), (.const (.int .i64 (0))), (.tmp 16)])), (some (12, false))⟩,
.op ⟨(some 18), (.pure (.bnot (.tmp 17))), (some (12, false))⟩,
.op ⟨(some 19), (.pure (.pick (.tmp 12) (.const (.bool true)) (.tmp 18))), none⟩,
.op ⟨(some 20), (.pure (.mv (.tmp 19))), none⟩,
.split 20,
.op ⟨(some 21), (.pure (.mv (.tmp 2))), (some (20, false))⟩,
.op ⟨(some 22), (.eff (.call 53 [(.tmp 21)])), (some (20, false))⟩,
.op ⟨(some 23), (.pure (.bnot (.tmp 22))), (some (20, false))⟩,
.op ⟨(some 24), (.pure (.pick (.tmp 20) (.const (.bool true)) (.tmp 23))), none⟩])
(.cond (.tmp 24)
(.seq (.ops [
.op ⟨(some 6), (.pure (.mv (.const (.slice none 0 0)))), none⟩,
.op ⟨(some 7), (.pure (.mv (.const (.bool false)))), none⟩])
(.ret))
(.skip)))
(.seq (.ops [
.op ⟨(some 25), (.eff (.row 32 0 [] [])), none⟩,
.op ⟨(some 26), (.pure (.mv (.tmp 0))), none⟩,
.op ⟨(some 27), (.eff (.app 32 2 16 (.tmp 25) (.tmp 26))), none⟩,
.op ⟨(some 8), (.pure (.mv (.tmp 27))), none⟩])
(.seq (.ops [
.op ⟨(some 28), (.pure (.mv (.tmp 8))), none⟩,
.op ⟨(some 29), (.pure (.mv (.tmp 1))), none⟩,
.op ⟨(some 30), (.pure (.mv (.tmp 2))), none⟩,
.op ⟨(some 31), (.pure (.idx 2 (.tmp 28) (.tmp 29))), none⟩,
.op ⟨(some 32), (.pure (.fieldAddr 1 (.tmp 31))), none⟩,
.op ⟨none, (.eff (.store 1 (.tmp 32) (.tmp 30))), none⟩])
(.seq (.ops [
.op ⟨(some 33), (.pure (.mv (.tmp 8))), none⟩,
.op ⟨(some 6), (.pure (.mv (.tmp 33))), none⟩,
.op ⟨(some 7), (.pure (.mv (.const (.bool true)))), none⟩])
(.ret))))),
[.tmp 6, .tmp 7]⟩
theorem r_spec_WithMisreading : resFun Try.prog f_spec_WithMisreading = some c_spec_WithMisreading := by kernel_rfl

/- loop.example/g00940/laws.qHas -/
abbrev f_laws_qHas : Nat := 31
def c_laws_qHas : MFun := ⟨17, .seq (.ops [
.op ⟨(some 4), (.pure (.mv (.const (.bool false)))), none⟩])
(.seq (.seq (.ops [
.op ⟨(some 7), (.pure (.mv (.tmp 0))), none⟩,
.op ⟨(some 8), (.pure (.len (.tmp 7))), none⟩,
.op ⟨(some 9), (.pure (.mv (.const (.int .i64 (0))))), none⟩])
(.block 0 (.loop (.seq (.ops [
.op ⟨(some 10), (.pure (.bin .lss (.tmp 9) (.tmp 8))), none⟩])
(.seq (.cond (.tmp 10)
(.skip)
(.exit 0))
(.seq (.block 1 (.seq (.ops [
.op ⟨(some 11), (.pure (.idx 1 (.tmp 7) (.tmp 9))), none⟩,
.op ⟨(some 12), (.load none (.tmp 11)), none⟩,
.op ⟨(some 6), (.pure (.mv (.tmp 12))), none⟩])
(.seq (.ops [
.op ⟨(some 13), (.pure (.mv (.tmp 6))), none⟩,
.op ⟨(some 14), (.pure (.mv (.tmp 1))), none⟩,
.op ⟨(some 15), (.pure (.bin .eql (.tmp 13) (.tmp 14))), none⟩])
(.cond (.tmp 15)
(.seq (.ops [
.op ⟨(some 4), (.pure (.mv (.const (.bool true)))), none⟩])
(.ret))
(.skip)))))
(.ops [
.op ⟨(some 16), (.pure (.bin .add (.tmp 9) (.const (.int .i64 (1))))), none⟩,
.op ⟨(some 9), (.pure (.mv (.tmp 16))), none⟩])))))))
(.seq (.ops [
.op ⟨(some 4), (.pure (.mv (.const (.bool false)))), none⟩])
(.ret))),
[.tmp 4]⟩
theorem r_laws_qHas : resFun Try.prog f_laws_qHas = some c_laws_qHas := by kernel_rfl

/- (*loop.example/g00940/spec.l1Cur).repeater -/
abbrev f_spec_l1Cur_repeater : Nat := 32
def c_spec_l1Cur_repeater : MFun := ⟨70, .seq (.ops [
.op ⟨(some 2), (.eff (.new 25 [(.int .i64 (0)), (.int .i64 (0)), (.int .i64 (0)), (.int .i64 (0)), (.slice none 0 0)])), none⟩])
(.seq (.ops [
.op ⟨(some 6), (.eff (.call 49 [])), none⟩,
.op ⟨(some 3), (.eff (.new 25 [(.int .i64 (0)), (.int .i64 (0)), (.int .i64 (0)), (.int .i64 (0)), (.slice none 0 0)])), none⟩,
.op ⟨none, (.eff (.store 5 (.tmp 3) (.tmp 6))), none⟩])
(.seq (.seq (.ops [
.op ⟨(some 7), (.pure (.mv (.tmp 0))), none⟩,
.op ⟨(some 8), (.eff (.call 33 [(.tmp 7)])), none⟩,
.op ⟨(some 4), (.pure (.mv (.tmp 8))), none⟩])
(.seq (.ops [
.op ⟨(some 9), (.pure (.mv (.tmp 4))), none⟩,
.op ⟨(some 10), (.eff (.call 38 [(.tmp 9)])), none⟩])
(.cond (.tmp 10)
(.ops [
.op ⟨(some 12), (.load (some 5) (.tmp 3)), none⟩,
.op ⟨(some 13), (.pure (.mv (.tmp 4))), none⟩,
.op ⟨(some 14), (.eff (.call 7 [(.tmp 12), (.tmp 13)])), none⟩,
.op ⟨(some 11), (.pure (.mv (.tmp 14))), none⟩,
.op ⟨(some 15), (.pure (.ext 0 (.tmp 11))), none⟩,
.op ⟨(some 16), (.pure (.ext 1 (.tmp 11))), none⟩,
.op ⟨none, (.eff (.store 5 (.tmp 3) (.tmp 15))), none⟩])
(.skip))))
(.seq (.seq (.ops [
.op ⟨(some 17), (.pure (.mv (.tmp 0))), none⟩,
.op ⟨(some 18), (.eff (.call 44 [(.tmp 17), (.const (.int .i64 (30)))])), none⟩])
(.block 0 (.seq (.ops [
.op ⟨(some 20), (.pure (.bin .eql (.tmp 18) (.const (.int .i64 (0))))), none⟩,
.op ⟨(some 19), (.pure (.mv (.tmp 20))), none⟩])
(.cond (.tmp 19)
(.ops [
.op ⟨(some 21), (.pure (.mv (.tmp 0))), none⟩,
.op ⟨(some 22), (.eff (.call 44 [(.tmp 21), (.const (.int .i64 (6)))])), none⟩,
.op ⟨(some 23), (.pure (.bin .sub (.tmp 22) (.const (.int .i64 (1))))), none⟩,
.op ⟨(some 24), (.pure (.fieldAddr 0 (.tmp 3))), none⟩,
.op ⟨none, (.eff (.store 1 (.tmp 24) (.tmp 23))), none⟩])
(.seq (.ops [
.op ⟨(some 26), (.pure (.bin .eql (.tmp 18) (.const (.int .i64 (1))))), none⟩,
.op ⟨(some 25), (.pure (.mv (.tmp 26))), none⟩])
(.cond (.tmp 25)
(.ops [
.op ⟨(some 27), (.pure (.mv (.tmp 0))), none⟩,
.op ⟨(some 28), (.eff (.row 3 5 [(.int .i64 (0)), (.int .i64 (0)), (.int .i64 (0)), (.int .i64 (0)), (.int .i64 (0))] [(0, 1, (.const (.int .i64 (0)))), (1, 1, (.const (.int .i64 (5)))), (2, 1, (.const (.int .i64 (61)))), (3, 1, (.const (.int .i64 (62)))), (4, 1, (.const (.int .i64 (-1))))])), none⟩,
.op ⟨(some 29), (.eff (.call 42 [(.tmp 27), (.tmp 28)])), none⟩,
.op ⟨(some 30), (.pure (.fieldAddr 1 (.tmp 3))), none⟩,
.op ⟨none, (.eff (.store 1 (.tmp 30) (.tmp 29))), none⟩])
(.seq (.ops [
.op ⟨(some 32), (.pure (.bin .eql (.tmp 18) (.const (.int .i64 (2))))), none⟩,
.op ⟨(some 31), (.pure (.mv (.tmp 32))), none⟩])
(.cond (.tmp 31)
(.ops [
.op ⟨(some 33), (.pure (.mv (.tmp 0))), none⟩,
.op ⟨(some 34), (.eff (.row 3 4 [(.int .i64 (0)), (.int .i64 (0)), (.int .i64 (0)), (.int .i64 (0))] [(0, 1, (.const (.int .i64 (-1)))), (1, 1, (.const (.int .i64 (3)))), (2, 1, (.const (.int .i64 (4)))), (3, 1, (.const (.int .i64 (1))))])), none⟩,
.op ⟨(some 35), (.eff (.call 42 [(.tmp 33), (.tmp 34)])), none⟩,
.op ⟨(some 36), (.pure (.fieldAddr 2 (.tmp 3))), none⟩,
.op ⟨none, (.eff (.store 1 (.tmp 36) (.tmp 35))), none⟩])
(.seq (.ops [
.op ⟨(some 38), (.pure (.bin .eql (.tmp 18) (.const (.int .i64 (3))))), none⟩,
.op ⟨(some 37), (.pure (.mv (.tmp 38))), none⟩])
(.cond (.tmp 37)
(.ops [
.op ⟨(some 39), (.pure (.mv (.tmp 0))), none⟩,
.op ⟨(some 40), (.eff (.row 3 5 [(.int .i64 (0)), (.int .i64 (0)), (.int .i64 (0)), (.int .i64 (0)), (.int .i64 (0))] [(0, 1, (.const (.int .i64 (0)))), (1, 1, (.const (.int .i64 (5)))), (2, 1, (.const (.int .i64 (62)))), (3, 1, (.const (.int .i64 (63)))), (4, 1, (.const (.int .i64 (64))))])), none⟩,
.op ⟨(some 41), (.eff (.call 42 [(.tmp 39), (.tmp 40)])), none⟩,
.op ⟨(some 42), (.pure (.fieldAddr 3 (.tmp 3))), none⟩,
.op ⟨none, (.eff (.store 1 (.tmp 42) (.tmp 41))), none⟩])
(.seq (.ops [
.op ⟨(some 44), (.pure (.bin .eql (.tmp 18) (.const (.int .i64 (4))))), none⟩,
.op ⟨(some 43), (.pure (.mv (.tmp 44))), none⟩])
(.cond (.tmp 43)
(.draw true
(.take ⟨(some 45), (.pure (.fieldAddr 4 (.tmp 3))), none⟩
(.take ⟨(some 47), (.pure (.mv (.tmp 0))), none⟩
(.take ⟨(some 46), (.load none (.tmp 45)), none⟩
(.only false ⟨(some 48), (.eff (.row 3 4 [(.int .i64 (0)), (.int .i64 (0)), (.int .i64 (0)), (.int .i64 (0))] [(0, 1, (.const (.int .i64 (0)))), (1, 1, (.const (.int .i64 (61)))), (2, 1, (.const (.int .i64 (62)))), (3, 1, (.const (.int .i64 (5))))])), none⟩
(.only false ⟨(some 49), (.eff (.call 42 [(.tmp 47), (.tmp 48)])), none⟩
(.only false ⟨(some 50), (.eff (.row 3 1 [(.int .i64 (0))] [(0, 1, (.tmp 49))])), none⟩
(.only true ⟨(some 51), (.eff (.app 3 1 8 (.tmp 46) (.tmp 50))), none⟩
(.take ⟨(some 52), (.pure (.fieldAddr 4 (.tmp 3))), none⟩
(.only true ⟨none, (.eff (.store 1 (.tmp 52) (.tmp 51))), none⟩
(.done)))))))))))
(.seq (.ops [
.op ⟨(some 54), (.pure (.bin .eql (.tmp 18) (.const (.int .i64 (5))))), none⟩,
.op ⟨(some 53), (.pure (.mv (.tmp 54))), none⟩])
(.cond (.tmp 53)
(.seq (.ops [
.op ⟨(some 55), (.pure (.build [(.int .i64 (0)), (.int .i64 (0)), (.int .i64 (0)), (.int .i64 (0)), (.slice none 0 0)] [(0, 1, (.const (.int .i64 (1)))), (1, 1, (.const (.int .i64 (3)))), (3, 1, (.const (.int .i64 (3))))])), none⟩,
.op ⟨none, (.eff (.store 5 (.tmp 3) (.tmp 55))), none⟩])
(.seq (.ops [
.op ⟨(some 56), (.pure (.mv (.tmp 0))), none⟩,
.op ⟨(some 57), (.eff (.call 44 [(.tmp 56), (.const (.int .i64 (3)))])), none⟩,
.op ⟨(some 58), (.pure (.bin .add (.const (.int .i64 (79))) (.tmp 57))), none⟩,
.op ⟨(some 5), (.pure (.mv (.tmp 58))), none⟩])
(.block 1 (.loop (.seq (.seq (.ops [
.op ⟨(some 59), (.pure (.fieldAddr 4 (.tmp 3))), none⟩,
.op ⟨(some 60), (.load none (.tmp 59)), none⟩,
.op ⟨(some 61), (.pure (.len (.tmp 60))), none⟩,
.op ⟨(some 62), (.pure (.mv (.tmp 5))), none⟩,
.op ⟨(some 63), (.pure (.bin .lss (.tmp 61) (.tmp 62))), none⟩])
(.cond (.tmp 63)
(.skip)
(.exit 1)))
(.block 2 (.ops [
.op ⟨(some 64), (.pure (.fieldAddr 4 (.tmp 3))), none⟩,
.op ⟨(some 65), (.load none (.tmp 64)), none⟩,
.op ⟨(some 66), (.eff (.row 3 1 [(.int .i64 (0))] [(0, 1, (.const (.int .i64 (4))))])), none⟩,
.op ⟨(some 67), (.eff (.app 3 1 8 (.tmp 65) (.tmp 66))), none⟩,
.op ⟨(some 68), (.pure (.fieldAddr 4 (.tmp 3))), none⟩,
.op ⟨none, (.eff (.store 1 (.tmp 68) (.tmp 67))), none⟩])))))))
(.skip)))))))))))))))
(.seq (.ops [
.op ⟨(some 69), (.load (some 5) (.tmp 3)), none⟩,
.op ⟨none, (.eff (.store 5 (.tmp 2) (.tmp 69))), none⟩])
(.ret))))),
[.cell 2 (some 5)]⟩
theorem r_spec_l1Cur_repeater : resFun Try.prog f_spec_l1Cur_repeater = some c_spec_l1Cur_repeater := by kernel_rfl

/- (*loop.example/g00940/spec.l1Cur).glances -/
abbrev f_spec_l1Cur_glances : Nat := 33
def c_spec_l1Cur_glances : MFun := ⟨111, .seq (.ops [
.op ⟨(some 2), (.pure (.mv (.const (.slice none 0 0)))), none⟩])
(.seq (.ops [
.op ⟨(some 3), (.pure (.mv (.const (.slice none 0 0)))), none⟩])
(.seq (.seq (.ops [
.op ⟨(some 8), (.pure (.mv (.tmp 0))), none⟩,
.op ⟨(some 9), (.eff (.call 44 [(.tmp 8), (.const (.int .i64 (7)))])), none⟩,
.op ⟨(some 4), (.pure (.mv (.tmp 9))), none⟩])
(.block 0 (.loop (.seq (.seq (.ops [
.op ⟨(some 10), (.pure (.mv (.tmp 4))), none⟩,
.op ⟨(some 11), (.pure (.bin .gtr (.tmp 10) (.const (.int .i64 (0))))), none⟩])
(.cond (.tmp 11)
(.skip)
(.exit 0)))
(.seq (.block 1 (.seq (.ops [
.op ⟨(some 14), (.pure (.mv (.tmp 0))), none⟩,
.op ⟨(some 15), (.pure (.mv (.tmp 0))), none⟩,
.op ⟨(some 16), (.eff (.call 44 [(.tmp 15), (.const (.int .i64 (60)))])), none⟩,
.op ⟨(some 17), (.pure (.bin .add (.const (.int .i64 (1))) (.tmp 16))), none⟩,
.op ⟨(some 18), (.eff (.row 3 6 [(.int .i64 (0)), (.int .i64 (0)), (.int .i64 (0)), (.int .i64 (0)), (.int .i64 (0)), (.int .i64 (0))] [(0, 1, (.const (.int .i64 (1)))), (1, 1, (.const (.int .i64 (5)))), (2, 1, (.const (.int .i64 (17)))), (3, 1, (.const (.int .i64 (60)))), (4, 1, (.tmp 17)), (5, 1, (.const (.int .i64 (61))))])), none⟩,
.op ⟨(some 19), (.eff (.call 42 [(.tmp 14), (.tmp 18)])), none⟩,
.op ⟨(some 5), (.pure (.mv (.tmp 19))), none⟩])
(.seq (.seq (.ops [
.op ⟨(some 20), (.pure (.mv (.tmp 5))), none⟩,
.op ⟨(some 21), (.pure (.bin .eql (.tmp 20) (.const (.int .i64 (61))))), none⟩,
.op ⟨(some 22), (.pure (.mv (.tmp 21))), none⟩,
.split 22,
.op ⟨(some 23), (.pure (.mv (.tmp 0))), (some (22, true))⟩,
.op ⟨(some 24), (.eff (.call 41 [(.tmp 23), (.const (.int .i64 (3)))])), (some (22, true))⟩,
.op ⟨(some 25), (.pure (.bnot (.tmp 24))), (some (22, true))⟩,
.op ⟨(some 26), (.pure (.pick (.tmp 22) (.tmp 25) (.const (.bool false)))), none⟩])
(.cond (.tmp 26)
(.ops [
.op ⟨(some 5), (.pure (.mv (.const (.int .i64 (2))))), none⟩])
(.skip)))
(.seq (.seq (.ops [
.op ⟨(some 27), (.pure (.mv (.tmp 0))), none⟩,
.op ⟨(some 28), (.eff (.call 41 [(.tmp 27), (.const (.int .i64 (6)))])), none⟩])
(.cond (.tmp 28)
(.ops [
.op ⟨(some 29), (.pure (.mv (.tmp 3))), none⟩,
.op ⟨(some 30), (.pure (.mv (.tmp 0))), none⟩,
.op ⟨(some 31), (.eff (.row 3 3 [(.int .i64 (0)), (.int .i64 (0)), (.int .i64 (0))] [(0, 1, (.const (.int .i64 (0)))), (1, 1, (.const (.int .i64 (62)))), (2, 1, (.const (.int .i64 (63))))])), none⟩,
.op ⟨(some 32), (.eff (.call 42 [(.tmp 30), (.tmp 31)])), none⟩,
.op ⟨(some 33), (.pure (.build [(.bool false), (.int .i64 (0))] [(1, 1, (.tmp 32))])), none⟩,
.op ⟨(some 34), (.eff (.row 32 1 [(.bool false), (.int .i64 (0))] [(0, 2, (.tmp 33))])), none⟩,
.op ⟨(some 35), (.eff (.app 32 2 16 (.tmp 29) (.tmp 34))), none⟩,
.op ⟨(some 3), (.pure (.mv (.tmp 35))), none⟩])
(.skip)))
(.seq (.ops [
.op ⟨(some 36), (.pure (.mv (.tmp 3))), none⟩,
.op ⟨(some 37), (.pure (.mv (.tmp 5))), none⟩,
.op ⟨(some 38), (.pure (.build [(.bool false), (.int .i64 (0))] [(1, 1, (.tmp 37))])), none⟩,
.op ⟨(some 39), (.eff (.row 32 1 [(.bool false), (.int .i64 (0))] [(0, 2, (.tmp 38))])), none⟩,
.op ⟨(some 40), (.eff (.app 32 2 16 (.tmp 36) (.tmp 39))), none⟩,
.op ⟨(some 3), (.pure (.mv (.tmp 40))), none⟩])
(.seq (.block 2 (.loop (.seq (.seq (.ops [
.op ⟨(some 41), (.pure (.mv (.tmp 0))), none⟩,
.op ⟨(some 42), (.eff (.call 41 [(.tmp 41), (.const (.int .i64 (3)))])), none⟩,
.op ⟨(some 43), (.pure (.mv (.tmp 42))), none⟩,
.split 43,
.op ⟨(some 44), (.pure (.mv (.tmp 3))), (some (43, true))⟩,
.op ⟨(some 45), (.pure (.len (.tmp 44))), (some (43, true))⟩,
.op ⟨(some 46), (.pure (.bin .lss (.tmp 45) (.const (.int .i64 (70))))), (some (43, true))⟩,
.op ⟨(some 47), (.pure (.pick (.tmp 43) (.tmp 46) (.const (.bool false)))), none⟩])
(.cond (.tmp 47)
(.skip)
(.exit 2)))
(.block 3 (.ops [
.op ⟨(some 48), (.pure (.mv (.tmp 3))), none⟩,
.op ⟨(some 49), (.pure (.mv (.tmp 0))), none⟩,
.op ⟨(some 50), (.eff (.call 41 [(.tmp 49), (.const (.int .i64 (6)))])), none⟩,
.op ⟨(some 51), (.pure (.bnot (.tmp 50))), none⟩,
.op ⟨(some 52), (.pure (.mv (.tmp 0))), none⟩,
.op ⟨(some 53), (.pure (.mv (.tmp 5))), none⟩,
.op ⟨(some 54), (.pure (.bin .xor (.tmp 53) (.const (.int .i64 (1))))), none⟩,
.op ⟨(some 55), (.pure (.mv (.tmp 5))), none⟩,
.op ⟨(some 56), (.pure (.bin .xor (.tmp 55) (.const (.int .i64 (8))))), none⟩,
.op ⟨(some 57), (.eff (.row 3 5 [(.int .i64 (0)), (.int .i64 (0)), (.int .i64 (0)), (.int .i64 (0)), (.int .i64 (0))] [(0, 1, (.const (.int .i64 (0)))), (1, 1, (.const (.int .i64 (62)))), (2, 1, (.const (.int .i64 (63)))), (3, 1, (.tmp 54)), (4, 1, (.tmp 56))])), none⟩,
.op ⟨(some 58), (.eff (.call 42 [(.tmp 52), (.tmp 57)])), none⟩,
.op ⟨(some 59), (.pure (.build [(.bool false), (.int .i64 (0))] [(0, 1, (.tmp 51)), (1, 1, (.tmp 58))])), none⟩,
.op ⟨(some 60), (.eff (.row 32 1 [(.bool false), (.int .i64 (0))] [(0, 2, (.tmp 59))])), none⟩,
.op ⟨(some 61), (.eff (.app 32 2 16 (.tmp 48) (.tmp 60))), none⟩,
.op ⟨(some 3), (.pure (.mv (.tmp 61))), none⟩])))))
(.ops [
.op ⟨(some 62), (.pure (.mv (.tmp 3))), none⟩,
.op ⟨(some 63), (.pure (.mv (.tmp 5))), none⟩,
.op ⟨(some 64), (.pure (.build [(.bool false), (.int .i64 (0))] [(0, 1, (.const (.bool true))), (1, 1, (.tmp 63))])), none⟩,
.op ⟨(some 65), (.eff (.row 32 1 [(.bool false), (.int .i64 (0))] [(0, 2, (.tmp 64))])), none⟩,
.op ⟨(some 66), (.eff (.app 32 2 16 (.tmp 62) (.tmp 65))), none⟩,
.op ⟨(some 3), (.pure (.mv (.tmp 66))), none⟩])))))))
(.ops [
.op ⟨(some 12), (.pure (.mv (.tmp 4))), none⟩,
.op ⟨(some 13), (.pure (.bin .sub (.tmp 12) (.const (.int .i64 (1))))), none⟩,
.op ⟨(some 4), (.pure (.mv (.tmp 13))), none⟩]))))))
(.seq (.seq (.ops [
.op ⟨(some 67), (.pure (.mv (.tmp 0))), none⟩,
.op ⟨(some 68), (.eff (.call 44 [(.tmp 67), (.const (.int .i64 (24)))])), none⟩])
(.block 4 (.seq (.ops [
.op ⟨(some 70), (.pure (.bin .eql (.tmp 68) (.const (.int .i64 (0))))), none⟩,
.op ⟨(some 69), (.pure (.mv (.tmp 70))), none⟩])
(.cond (.tmp 69)
(.ops [
.op ⟨(some 71), (.pure (.mv (.tmp 3))), none⟩,
.op ⟨(some 72), (.pure (.mv (.tmp 0))), none⟩,
.op ⟨(some 73), (.eff (.row 3 2 [(.int .i64 (0)), (.int .i64 (0))] [(0, 1, (.const (.int .i64 (-1)))), (1, 1, (.const (.int .i64 (64))))])), none⟩,
.op ⟨(some 74), (.eff (.call 42 [(.tmp 72), (.tmp 73)])), none⟩,
.op ⟨(some 75), (.pure (.build [(.bool false), (.int .i64 (0))] [(1, 1, (.tmp 74))])), none⟩,
.op ⟨(some 76), (.eff (.row 32 1 [(.bool false), (.int .i64 (0))] [(0, 2, (.tmp 75))])), none⟩,
.op ⟨(some 77), (.eff (.app 32 2 16 (.tmp 71) (.tmp 76))), none⟩,
.op ⟨(some 3), (.pure (.mv (.tmp 77))), none⟩])
(.seq (.ops [
.op ⟨(some 79), (.pure (.bin .eql (.tmp 68) (.const (.int .i64 (1))))), none⟩,
.op ⟨(some 78), (.pure (.mv (.tmp 79))), none⟩])
(.cond (.tmp 78)
(.seq (.ops [
.op ⟨(some 80), (.pure (.mv (.tmp 0))), none⟩,
.op ⟨(some 81), (.eff (.call 44 [(.tmp 80), (.const (.int .i64 (2)))])), none⟩,
.op ⟨(some 82), (.pure (.bin .add (.const (.int .i64 (80))) (.tmp 81))), none⟩,
.op ⟨(some 6), (.pure (.mv (.tmp 82))), none⟩])
(.block 5 (.loop (.seq (.seq (.ops [
.op ⟨(some 83), (.pure (.mv (.tmp 3))), none⟩,
.op ⟨(some 84), (.pure (.len (.tmp 83))), none⟩,
.op ⟨(some 85), (.pure (.mv (.tmp 6))), none⟩,
.op ⟨(some 86), (.pure (.bin .lss (.tmp 84) (.tmp 85))), none⟩])
(.cond (.tmp 86)
(.skip)
(.exit 5)))
(.block 6 (.ops [
.op ⟨(some 87), (.pure (.mv (.tmp 3))), none⟩,
.op ⟨(some 88), (.pure (.mv (.tmp 3))), none⟩,
.op ⟨(some 89), (.pure (.len (.tmp 88))), none⟩,
.op ⟨(some 90), (.pure (.bin .rem (.tmp 89) (.const (.int .i64 (2))))), none⟩,
.op ⟨(some 91), (.pure (.bin .eql (.tmp 90) (.const (.int .i64 (1))))), none⟩,
.op ⟨(some 92), (.pure (.build [(.bool false), (.int .i64 (0))] [(0, 1, (.tmp 91)), (1, 1, (.const (.int .i64 (3))))])), none⟩,
.op ⟨(some 93), (.eff (.row 32 1 [(.bool false), (.int .i64 (0))] [(0, 2, (.tmp 92))])), none⟩,
.op ⟨(some 94), (.eff (.app 32 2 16 (.tmp 87) (.tmp 93))), none⟩,
.op ⟨(some 3), (.pure (.mv (.tmp 94))), none⟩]))))))
(.seq (.ops [
.op ⟨(some 96), (.pure (.bin .eql (.tmp 68) (.const (.int .i64 (2))))), none⟩,
.op ⟨(some 95), (.pure (.mv (.tmp 96))), none⟩])
(.cond (.tmp 95)
(.seq (.ops [
.op ⟨(some 97), (.pure (.build [(.bool false), (.int .i64 (0))] [(1, 1, (.const (.int .i64 (5))))])), none⟩,
.op ⟨(some 98), (.eff (.row 32 1 [(.bool false), (.int .i64 (0))] [(0, 2, (.tmp 97))])), none⟩,
.op ⟨(some 3), (.pure (.mv (.tmp 98))), none⟩])
(.seq (.ops [
.op ⟨(some 99), (.pure (.mv (.tmp 0))), none⟩,
.op ⟨(some 100), (.eff (.call 44 [(.tmp 99), (.const (.int .i64 (7)))])), none⟩,
.op ⟨(some 101), (.pure (.bin .add (.const (.int .i64 (1))) (.tmp 100))), none⟩,
.op ⟨(some 7), (.pure (.mv (.tmp 101))), none⟩])
(.block 7 (.loop (.seq (.seq (.ops [
.op ⟨(some 102), (.pure (.mv (.tmp 7))), none⟩,
.op ⟨(some 103), (.pure (.bin .gtr (.tmp 102) (.const (.int .i64 (0))))), none⟩])
(.cond (.tmp 103)
(.skip)
(.exit 7)))
(.seq (.block 8 (.ops [
.op ⟨(some 106), (.pure (.mv (.tmp 3))), none⟩,
.op ⟨(some 107), (.pure (.build [(.bool false), (.int .i64 (0))] [(0, 1, (.const (.bool true))), (1, 1, (.const (.int .i64 (9))))])), none⟩,
.op ⟨(some 108), (.eff (.row 32 1 [(.bool false), (.int .i64 (0))] [(0, 2, (.tmp 107))])), none⟩,
.op ⟨(some 109), (.eff (.app 32 2 16 (.tmp 106) (.tmp 108))), none⟩,
.op ⟨(some 3), (.pure (.mv (.tmp 109))), none⟩]))
(.ops [
.op ⟨(some 104), (.pure (.mv (.tmp 7))), none⟩,
.op ⟨(some 105), (.pure (.bin .sub (.tmp 104) (.const (.int .i64 (1))))), none⟩,
.op ⟨(some 7), (.pure (.mv (.tmp 105))), none⟩])))))))
(.skip)))))))))
(.seq (.ops [
.op ⟨(some 110), (.pure (.mv (.tmp 3))), none⟩,
.op ⟨(some 2), (.pure (.mv (.tmp 110))), none⟩])
(.ret))))),
[.tmp 2]⟩
theorem r_spec_l1Cur_glances : resFun Try.prog f_spec_l1Cur_glances = some c_spec_l1Cur_glances := by kernel_rfl
end Go.Proofs.Ytpbjcaadnbeplaa
