/- The code of this seat's functions, resolved, written by a program of mine; each is held against the given program by the kernel. Condition: none. -/
import Derived.Test.YtpbjcaadnbeplaaProg
import Derived.Test.YtpbjcaadnbeplaaBase9
import Derived.KernelRfl
namespace Go.Proofs.Ytpbjcaadnbeplaa
open Go.Vc

/- loop.example/g00940/impl.areGlances -/
abbrev f_impl_areGlances : Nat := 34
def c_impl_areGlances : MFun := ⟨11, .seq (.ops [
.op ⟨(some 2), (.pure (.mv (.const (.bool false)))), none⟩])
(.seq (.ops [
.op ⟨(some 3), (.pure (.mv (.tmp 0))), none⟩,
.op ⟨(some 4), (.pure (.len (.tmp 3))), none⟩,
.op ⟨(some 5), (.pure (.bin .leq (.tmp 4) (.const (.int .i64 (80))))), none⟩,
.op ⟨(some 6), (.pure (.mv (.tmp 5))), none⟩,
.split 6,
.op ⟨(some 7), (.pure (.mv (.tmp 0))), (some (6, true))⟩,
.op ⟨(some 8), (.eff (.call 54 [(.tmp 7), (.func 55)])), (some (6, true))⟩,
.op ⟨(some 9), (.pure (.bnot (.tmp 8))), (some (6, true))⟩,
.op ⟨(some 10), (.pure (.pick (.tmp 6) (.tmp 9) (.const (.bool false)))), none⟩,
.op ⟨(some 2), (.pure (.mv (.tmp 10))), none⟩])
(.ret)),
[.tmp 2]⟩
theorem r_impl_areGlances : resFun Try.prog f_impl_areGlances = some c_impl_areGlances := by kernel_rfl

/- loop.example/g00940/impl.cloneRepeater -/
abbrev f_impl_cloneRepeater : Nat := 35
def c_impl_cloneRepeater : MFun := ⟨8, .seq (.ops [
.op ⟨(some 1), (.eff (.box 25 (.tmp 0))), none⟩,
.op ⟨(some 2), (.eff (.new 25 [(.int .i64 (0)), (.int .i64 (0)), (.int .i64 (0)), (.int .i64 (0)), (.slice none 0 0)])), none⟩])
(.seq (.ops [
.op ⟨(some 3), (.pure (.fieldAddr 4 (.tmp 1))), none⟩,
.op ⟨(some 4), (.load none (.tmp 3)), none⟩,
.op ⟨(some 5), (.eff (.call 56 [(.tmp 4)])), none⟩,
.op ⟨(some 6), (.pure (.fieldAddr 4 (.tmp 1))), none⟩,
.op ⟨none, (.eff (.store 1 (.tmp 6) (.tmp 5))), none⟩])
(.seq (.ops [
.op ⟨(some 7), (.load (some 5) (.tmp 1)), none⟩,
.op ⟨none, (.eff (.store 5 (.tmp 2) (.tmp 7))), none⟩])
(.ret))),
[.cell 2 (some 5)]⟩
theorem r_impl_cloneRepeater : resFun Try.prog f_impl_cloneRepeater = some c_impl_cloneRepeater := by kernel_rfl

/- loop.example/g00940/impl.glance -/
abbrev f_impl_glance : Nat := 36
def c_impl_glance : MFun := ⟨121, .seq (.ops [
.op ⟨(some 2), (.eff (.box 25 (.tmp 0))), none⟩,
.op ⟨(some 3), (.eff (.box 32 (.tmp 1))), none⟩,
.op ⟨(some 4), (.eff (.new 25 [(.int .i64 (0)), (.int .i64 (0)), (.int .i64 (0)), (.int .i64 (0)), (.slice none 0 0)])), none⟩,
.op ⟨(some 5), (.pure (.mv (.const (.bool false)))), none⟩])
(.seq (.block 0 (.seq (.ops [
.op ⟨(some 8), (.pure (.fieldAddr 0 (.tmp 2))), none⟩,
.op ⟨(some 9), (.load none (.tmp 8)), none⟩,
.op ⟨(some 10), (.pure (.bin .eql (.tmp 9) (.const (.int .i64 (0))))), none⟩,
.op ⟨(some 11), (.pure (.mv (.tmp 10))), none⟩,
.split 11,
.op ⟨(some 12), (.pure (.fieldAddr 0 (.tmp 3))), (some (11, true))⟩,
.op ⟨(some 13), (.load none (.tmp 12)), (some (11, true))⟩,
.op ⟨(some 14), (.pure (.bnot (.tmp 13))), (some (11, true))⟩,
.op ⟨(some 15), (.pure (.pick (.tmp 11) (.tmp 14) (.const (.bool false)))), none⟩,
.op ⟨(some 16), (.pure (.mv (.tmp 15))), none⟩,
.split 16,
.op ⟨(some 17), (.pure (.fieldAddr 1 (.tmp 3))), (some (16, true))⟩,
.op ⟨(some 18), (.load none (.tmp 17)), (some (16, true))⟩,
.op ⟨(some 19), (.eff (.call 45 [(.tmp 18)])), (some (16, true))⟩,
.op ⟨(some 20), (.pure (.pick (.tmp 16) (.tmp 19) (.const (.bool false)))), none⟩,
.op ⟨(some 7), (.pure (.mv (.tmp 20))), none⟩])
(.cond (.tmp 7)
(.seq (.ops [
.op ⟨(some 21), (.pure (.fieldAddr 1 (.tmp 3))), none⟩,
.op ⟨(some 22), (.load none (.tmp 21)), none⟩,
.op ⟨(some 23), (.pure (.fieldAddr 1 (.tmp 3))), none⟩,
.op ⟨(some 24), (.load none (.tmp 23)), none⟩,
.op ⟨(some 25), (.pure (.fieldAddr 4 (.tmp 2))), none⟩,
.op ⟨(some 26), (.load none (.tmp 25)), none⟩,
.op ⟨(some 27), (.pure (.build [(.int .i64 (0)), (.int .i64 (0)), (.int .i64 (0)), (.int .i64 (0)), (.slice none 0 0)] [(0, 1, (.const (.int .i64 (1)))), (1, 1, (.tmp 22)), (2, 1, (.const (.int .i64 (0)))), (3, 1, (.tmp 24)), (4, 1, (.tmp 26))])), none⟩,
.op ⟨none, (.eff (.store 5 (.tmp 4) (.tmp 27))), none⟩,
.op ⟨(some 5), (.pure (.mv (.const (.bool false)))), none⟩])
(.ret))
(.seq (.ops [
.op ⟨(some 29), (.pure (.fieldAddr 0 (.tmp 2))), none⟩,
.op ⟨(some 30), (.load none (.tmp 29)), none⟩,
.op ⟨(some 31), (.pure (.bin .eql (.tmp 30) (.const (.int .i64 (0))))), none⟩,
.op ⟨(some 32), (.pure (.mv (.tmp 31))), none⟩,
.split 32,
.op ⟨(some 33), (.pure (.fieldAddr 0 (.tmp 3))), (some (32, true))⟩,
.op ⟨(some 34), (.load none (.tmp 33)), (some (32, true))⟩,
.op ⟨(some 35), (.pure (.bnot (.tmp 34))), (some (32, true))⟩,
.op ⟨(some 36), (.pure (.pick (.tmp 32) (.tmp 35) (.const (.bool false)))), none⟩,
.op ⟨(some 37), (.pure (.mv (.tmp 36))), none⟩,
.split 37,
.op ⟨(some 38), (.pure (.fieldAddr 1 (.tmp 3))), (some (37, true))⟩,
.op ⟨(some 39), (.load none (.tmp 38)), (some (37, true))⟩,
.op ⟨(some 40), (.pure (.bin .eql (.tmp 39) (.const (.int .i64 (0))))), (some (37, true))⟩,
.op ⟨(some 41), (.pure (.pick (.tmp 37) (.tmp 40) (.const (.bool false)))), none⟩,
.op ⟨(some 28), (.pure (.mv (.tmp 41))), none⟩])
(.cond (.tmp 28)
(.ops [
.op ⟨(some 42), (.pure (.fieldAddr 3 (.tmp 2))), none⟩,
.op ⟨none, (.eff (.store 1 (.tmp 42) (.const (.int .i64 (0))))), none⟩])
(.seq (.ops [
.op ⟨(some 44), (.pure (.fieldAddr 0 (.tmp 2))), none⟩,
.op ⟨(some 45), (.load none (.tmp 44)), none⟩,
.op ⟨(some 46), (.pure (.bin .eql (.tmp 45) (.const (.int .i64 (0))))), none⟩,
.op ⟨(some 47), (.pure (.mv (.tmp 46))), none⟩,
.split 47,
.op ⟨(some 48), (.pure (.fieldAddr 0 (.tmp 3))), (some (47, true))⟩,
.op ⟨(some 49), (.load none (.tmp 48)), (some (47, true))⟩,
.op ⟨(some 50), (.pure (.bnot (.tmp 49))), (some (47, true))⟩,
.op ⟨(some 51), (.pure (.pick (.tmp 47) (.tmp 50) (.const (.bool false)))), none⟩,
.op ⟨(some 43), (.pure (.mv (.tmp 51))), none⟩])
(.cond (.tmp 43)
(.ops [
.op ⟨(some 52), (.pure (.fieldAddr 3 (.tmp 2))), none⟩,
.op ⟨none, (.eff (.store 1 (.tmp 52) (.const (.int .i64 (62))))), none⟩])
(.seq (.ops [
.op ⟨(some 54), (.pure (.fieldAddr 0 (.tmp 2))), none⟩,
.op ⟨(some 55), (.load none (.tmp 54)), none⟩,
.op ⟨(some 56), (.pure (.bin .eql (.tmp 55) (.const (.int .i64 (1))))), none⟩,
.op ⟨(some 57), (.pure (.mv (.tmp 56))), none⟩,
.split 57,
.op ⟨(some 58), (.pure (.fieldAddr 0 (.tmp 3))), (some (57, true))⟩,
.op ⟨(some 59), (.load none (.tmp 58)), (some (57, true))⟩,
.op ⟨(some 60), (.pure (.bnot (.tmp 59))), (some (57, true))⟩,
.op ⟨(some 61), (.pure (.pick (.tmp 57) (.tmp 60) (.const (.bool false)))), none⟩,
.op ⟨(some 62), (.pure (.mv (.tmp 61))), none⟩,
.split 62,
.op ⟨(some 63), (.pure (.fieldAddr 1 (.tmp 3))), (some (62, true))⟩,
.op ⟨(some 64), (.load none (.tmp 63)), (some (62, true))⟩,
.op ⟨(some 65), (.pure (.bin .eql (.tmp 64) (.const (.int .i64 (63))))), (some (62, true))⟩,
.op ⟨(some 66), (.pure (.pick (.tmp 62) (.tmp 65) (.const (.bool false)))), none⟩,
.op ⟨(some 53), (.pure (.mv (.tmp 66))), none⟩])
(.cond (.tmp 53)
(.seq (.ops [
.op ⟨(some 67), (.pure (.fieldAddr 4 (.tmp 2))), none⟩,
.op ⟨(some 68), (.load none (.tmp 67)), none⟩,
.op ⟨(some 69), (.pure (.build [(.int .i64 (0)), (.int .i64 (0)), (.int .i64 (0)), (.int .i64 (0)), (.slice none 0 0)] [(0, 1, (.const (.int .i64 (0)))), (4, 1, (.tmp 68))])), none⟩,
.op ⟨none, (.eff (.store 5 (.tmp 4) (.tmp 69))), none⟩,
.op ⟨(some 5), (.pure (.mv (.const (.bool false)))), none⟩])
(.ret))
(.seq (.ops [
.op ⟨(some 71), (.pure (.fieldAddr 0 (.tmp 2))), none⟩,
.op ⟨(some 72), (.load none (.tmp 71)), none⟩,
.op ⟨(some 73), (.pure (.bin .eql (.tmp 72) (.const (.int .i64 (1))))), none⟩,
.op ⟨(some 74), (.pure (.mv (.tmp 73))), none⟩,
.split 74,
.op ⟨(some 75), (.pure (.fieldAddr 0 (.tmp 3))), (some (74, true))⟩,
.op ⟨(some 76), (.load none (.tmp 75)), (some (74, true))⟩,
.op ⟨(some 77), (.pure (.pick (.tmp 74) (.tmp 76) (.const (.bool false)))), none⟩,
.op ⟨(some 78), (.pure (.mv (.tmp 77))), none⟩,
.split 78,
.op ⟨(some 79), (.pure (.fieldAddr 1 (.tmp 3))), (some (78, true))⟩,
.op ⟨(some 80), (.load none (.tmp 79)), (some (78, true))⟩,
.op ⟨(some 81), (.pure (.fieldAddr 1 (.tmp 2))), (some (78, true))⟩,
.op ⟨(some 82), (.load none (.tmp 81)), (some (78, true))⟩,
.op ⟨(some 83), (.pure (.bin .eql (.tmp 80) (.tmp 82))), (some (78, true))⟩,
.op ⟨(some 84), (.pure (.pick (.tmp 78) (.tmp 83) (.const (.bool false)))), none⟩,
.op ⟨(some 70), (.pure (.mv (.tmp 84))), none⟩])
(.cond (.tmp 70)
(.seq (.ops [
.op ⟨(some 85), (.pure (.fieldAddr 4 (.tmp 2))), none⟩,
.op ⟨(some 86), (.load none (.tmp 85)), none⟩,
.op ⟨(some 87), (.pure (.fieldAddr 1 (.tmp 2))), none⟩,
.op ⟨(some 88), (.load none (.tmp 87)), none⟩,
.op ⟨(some 89), (.eff (.row 3 1 [(.int .i64 (0))] [(0, 1, (.tmp 88))])), none⟩,
.op ⟨(some 90), (.eff (.app 3 1 8 (.tmp 86) (.tmp 89))), none⟩,
.op ⟨(some 91), (.pure (.build [(.int .i64 (0)), (.int .i64 (0)), (.int .i64 (0)), (.int .i64 (0)), (.slice none 0 0)] [(0, 1, (.const (.int .i64 (0)))), (4, 1, (.tmp 90))])), none⟩,
.op ⟨(some 6), (.eff (.new 25 [(.int .i64 (0)), (.int .i64 (0)), (.int .i64 (0)), (.int .i64 (0)), (.slice none 0 0)])), none⟩,
.op ⟨none, (.eff (.store 5 (.tmp 6) (.tmp 91))), none⟩])
(.seq (.seq (.ops [
.op ⟨(some 92), (.pure (.fieldAddr 1 (.tmp 2))), none⟩,
.op ⟨(some 93), (.load none (.tmp 92)), none⟩,
.op ⟨(some 94), (.pure (.bin .eql (.tmp 93) (.const (.int .i64 (61))))), none⟩])
(.cond (.tmp 94)
(.ops [
.op ⟨(some 95), (.pure (.fieldAddr 0 (.tmp 6))), none⟩,
.op ⟨none, (.eff (.store 1 (.tmp 95) (.const (.int .i64 (3))))), none⟩])
(.skip)))
(.seq (.ops [
.op ⟨(some 96), (.load (some 5) (.tmp 6)), none⟩,
.op ⟨none, (.eff (.store 5 (.tmp 4) (.tmp 96))), none⟩,
.op ⟨(some 5), (.pure (.mv (.const (.bool false)))), none⟩])
(.ret))))
(.seq (.ops [
.op ⟨(some 98), (.pure (.fieldAddr 0 (.tmp 2))), none⟩,
.op ⟨(some 99), (.load none (.tmp 98)), none⟩,
.op ⟨(some 100), (.pure (.bin .eql (.tmp 99) (.const (.int .i64 (1))))), none⟩,
.op ⟨(some 101), (.pure (.mv (.tmp 100))), none⟩,
.split 101,
.op ⟨(some 102), (.pure (.fieldAddr 0 (.tmp 3))), (some (101, true))⟩,
.op ⟨(some 103), (.load none (.tmp 102)), (some (101, true))⟩,
.op ⟨(some 104), (.pure (.pick (.tmp 101) (.tmp 103) (.const (.bool false)))), none⟩,
.op ⟨(some 105), (.pure (.mv (.tmp 104))), none⟩,
.split 105,
.op ⟨(some 106), (.pure (.fieldAddr 1 (.tmp 3))), (some (105, true))⟩,
.op ⟨(some 107), (.load none (.tmp 106)), (some (105, true))⟩,
.op ⟨(some 108), (.pure (.bin .neq (.tmp 107) (.const (.int .i64 (0))))), (some (105, true))⟩,
.op ⟨(some 109), (.pure (.pick (.tmp 105) (.tmp 108) (.const (.bool false)))), none⟩,
.op ⟨(some 97), (.pure (.mv (.tmp 109))), none⟩])
(.cond (.tmp 97)
(.seq (.seq (.ops [
.op ⟨(some 110), (.pure (.fieldAddr 2 (.tmp 2))), none⟩,
.op ⟨(some 111), (.load none (.tmp 110)), none⟩,
.op ⟨(some 112), (.pure (.bin .eql (.tmp 111) (.const (.int .i64 (3))))), none⟩])
(.cond (.tmp 112)
(.ops [
.op ⟨(some 113), (.pure (.fieldAddr 0 (.tmp 2))), none⟩,
.op ⟨none, (.eff (.store 1 (.tmp 113) (.const (.int .i64 (2))))), none⟩,
.op ⟨(some 114), (.pure (.fieldAddr 3 (.tmp 2))), none⟩,
.op ⟨none, (.eff (.store 1 (.tmp 114) (.const (.int .i64 (63))))), none⟩])
(.ops [
.op ⟨(some 115), (.pure (.fieldAddr 2 (.tmp 2))), none⟩,
.op ⟨(some 116), (.load none (.tmp 115)), none⟩,
.op ⟨(some 117), (.pure (.bin .add (.tmp 116) (.const (.int .i64 (1))))), none⟩,
.op ⟨(some 118), (.pure (.fieldAddr 2 (.tmp 2))), none⟩,
.op ⟨none, (.eff (.store 1 (.tmp 118) (.tmp 117))), none⟩])))
(.seq (.ops [
.op ⟨(some 119), (.load (some 5) (.tmp 2)), none⟩,
.op ⟨none, (.eff (.store 5 (.tmp 4) (.tmp 119))), none⟩,
.op ⟨(some 5), (.pure (.mv (.const (.bool true)))), none⟩])
(.ret)))
(.skip))))))))))))))
(.seq (.ops [
.op ⟨(some 120), (.load (some 5) (.tmp 2)), none⟩,
.op ⟨none, (.eff (.store 5 (.tmp 4) (.tmp 120))), none⟩,
.op ⟨(some 5), (.pure (.mv (.const (.bool false)))), none⟩])
(.ret))),
[.cell 4 (some 5), .tmp 5]⟩
theorem r_impl_glance : resFun Try.prog f_impl_glance = some c_impl_glance := by kernel_rfl

/- loop.example/g00940/spec.rpGood -/
abbrev f_spec_rpGood : Nat := 37
def c_spec_rpGood : MFun := ⟨120, .seq (.ops [
.op ⟨(some 1), (.eff (.box 25 (.tmp 0))), none⟩,
.op ⟨(some 2), (.pure (.mv (.const (.bool false)))), none⟩])
(.seq (.seq (.ops [
.op ⟨(some 6), (.pure (.fieldAddr 4 (.tmp 1))), none⟩,
.op ⟨(some 7), (.load none (.tmp 6)), none⟩,
.op ⟨(some 8), (.pure (.len (.tmp 7))), none⟩,
.op ⟨(some 9), (.pure (.mv (.const (.int .i64 (0))))), none⟩])
(.block 0 (.loop (.seq (.ops [
.op ⟨(some 10), (.pure (.bin .lss (.tmp 9) (.tmp 8))), none⟩])
(.seq (.cond (.tmp 10)
(.skip)
(.exit 0))
(.seq (.block 1 (.seq (.ops [
.op ⟨(some 11), (.pure (.mv (.tmp 9))), none⟩,
.op ⟨(some 12), (.pure (.idx 1 (.tmp 7) (.tmp 9))), none⟩,
.op ⟨(some 13), (.load none (.tmp 12)), none⟩,
.op ⟨(some 3), (.pure (.mv (.tmp 11))), none⟩,
.op ⟨(some 4), (.pure (.mv (.tmp 13))), none⟩])
(.seq (.ops [
.op ⟨(some 14), (.pure (.mv (.tmp 4))), none⟩,
.op ⟨(some 15), (.eff (.call 46 [(.tmp 14)])), none⟩,
.op ⟨(some 16), (.pure (.bnot (.tmp 15))), none⟩,
.op ⟨(some 17), (.pure (.mv (.tmp 16))), none⟩,
.split 17,
.op ⟨(some 18), (.pure (.mv (.tmp 4))), (some (17, false))⟩,
.op ⟨(some 19), (.pure (.bin .eql (.tmp 18) (.const (.int .i64 (61))))), (some (17, false))⟩,
.op ⟨(some 20), (.pure (.mv (.tmp 19))), (some (17, false))⟩,
.split 20,
.op ⟨(some 21), (.pure (.fieldAddr 0 (.tmp 1))), (some (20, true))⟩,
.op ⟨(some 22), (.load none (.tmp 21)), (some (20, true))⟩,
.op ⟨(some 23), (.pure (.bin .neq (.tmp 22) (.const (.int .i64 (3))))), (some (20, true))⟩,
.op ⟨(some 24), (.pure (.mv (.tmp 23))), (some (20, true))⟩,
.split 24,
.op ⟨(some 25), (.pure (.mv (.tmp 3))), (some (24, false))⟩,
.op ⟨(some 26), (.pure (.fieldAddr 4 (.tmp 1))), (some (24, false))⟩,
.op ⟨(some 27), (.load none (.tmp 26)), (some (24, false))⟩,
.op ⟨(some 28), (.pure (.len (.tmp 27))), (some (24, false))⟩,
.op ⟨(some 29), (.pure (.bin .sub (.tmp 28) (.const (.int .i64 (1))))), (some (24, false))⟩,
.op ⟨(some 30), (.pure (.bin .lss (.tmp 25) (.tmp 29))), (some (24, false))⟩,
.op ⟨(some 31), (.pure (.pick (.tmp 24) (.const (.bool true)) (.tmp 30))), (some (20, true))⟩,
.op ⟨(some 32), (.pure (.pick (.tmp 20) (.tmp 31) (.const (.bool false)))), (some (17, false))⟩,
.op ⟨(some 33), (.pure (.pick (.tmp 17) (.const (.bool true)) (.tmp 32))), none⟩])
(.cond (.tmp 33)
(.seq (.ops [
.op ⟨(some 2), (.pure (.mv (.const (.bool false)))), none⟩])
(.ret))
(.skip)))))
(.ops [
.op ⟨(some 34), (.pure (.bin .add (.tmp 9) (.const (.int .i64 (1))))), none⟩,
.op ⟨(some 9), (.pure (.mv (.tmp 34))), none⟩])))))))
(.seq (.seq (.ops [
.op ⟨(some 35), (.pure (.fieldAddr 4 (.tmp 1))), none⟩,
.op ⟨(some 36), (.load none (.tmp 35)), none⟩,
.op ⟨(some 37), (.pure (.len (.tmp 36))), none⟩,
.op ⟨(some 38), (.pure (.bin .gtr (.tmp 37) (.const (.int .i64 (80))))), none⟩,
.op ⟨(some 39), (.pure (.mv (.tmp 38))), none⟩,
.split 39,
.op ⟨(some 40), (.pure (.fieldAddr 2 (.tmp 1))), (some (39, false))⟩,
.op ⟨(some 41), (.load none (.tmp 40)), (some (39, false))⟩,
.op ⟨(some 42), (.eff (.call 52 [(.tmp 41), (.const (.int .i64 (0))), (.const (.int .i64 (3)))])), (some (39, false))⟩,
.op ⟨(some 43), (.pure (.bnot (.tmp 42))), (some (39, false))⟩,
.op ⟨(some 44), (.pure (.pick (.tmp 39) (.const (.bool true)) (.tmp 43))), none⟩])
(.cond (.tmp 44)
(.seq (.ops [
.op ⟨(some 2), (.pure (.mv (.const (.bool false)))), none⟩])
(.ret))
(.skip)))
(.seq (.ops [
.op ⟨(some 45), (.pure (.fieldAddr 1 (.tmp 1))), none⟩,
.op ⟨(some 46), (.load none (.tmp 45)), none⟩,
.op ⟨(some 47), (.pure (.bin .eql (.tmp 46) (.const (.int .i64 (0))))), none⟩,
.op ⟨(some 48), (.pure (.mv (.tmp 47))), none⟩,
.split 48,
.op ⟨(some 49), (.pure (.fieldAddr 2 (.tmp 1))), (some (48, true))⟩,
.op ⟨(some 50), (.load none (.tmp 49)), (some (48, true))⟩,
.op ⟨(some 51), (.pure (.bin .eql (.tmp 50) (.const (.int .i64 (0))))), (some (48, true))⟩,
.op ⟨(some 52), (.pure (.pick (.tmp 48) (.tmp 51) (.const (.bool false)))), none⟩,
.op ⟨(some 5), (.pure (.mv (.tmp 52))), none⟩])
(.seq (.seq (.ops [
.op ⟨(some 53), (.pure (.fieldAddr 0 (.tmp 1))), none⟩,
.op ⟨(some 54), (.load none (.tmp 53)), none⟩])
(.block 2 (.seq (.ops [
.op ⟨(some 56), (.pure (.bin .eql (.tmp 54) (.const (.int .i64 (0))))), none⟩,
.op ⟨(some 55), (.pure (.mv (.tmp 56))), none⟩])
(.cond (.tmp 55)
(.seq (.ops [
.op ⟨(some 57), (.pure (.mv (.tmp 5))), none⟩,
.op ⟨(some 58), (.pure (.mv (.tmp 57))), none⟩,
.split 58,
.op ⟨(some 59), (.pure (.fieldAddr 3 (.tmp 1))), (some (58, true))⟩,
.op ⟨(some 60), (.load none (.tmp 59)), (some (58, true))⟩,
.op ⟨(some 61), (.pure (.bin .eql (.tmp 60) (.const (.int .i64 (0))))), (some (58, true))⟩,
.op ⟨(some 62), (.pure (.mv (.tmp 61))), (some (58, true))⟩,
.split 62,
.op ⟨(some 63), (.pure (.fieldAddr 3 (.tmp 1))), (some (62, false))⟩,
.op ⟨(some 64), (.load none (.tmp 63)), (some (62, false))⟩,
.op ⟨(some 65), (.pure (.bin .eql (.tmp 64) (.const (.int .i64 (62))))), (some (62, false))⟩,
.op ⟨(some 66), (.pure (.pick (.tmp 62) (.const (.bool true)) (.tmp 65))), (some (58, true))⟩,
.op ⟨(some 67), (.pure (.pick (.tmp 58) (.tmp 66) (.const (.bool false)))), none⟩,
.op ⟨(some 2), (.pure (.mv (.tmp 67))), none⟩])
(.ret))
(.seq (.ops [
.op ⟨(some 69), (.pure (.bin .eql (.tmp 54) (.const (.int .i64 (1))))), none⟩,
.op ⟨(some 68), (.pure (.mv (.tmp 69))), none⟩])
(.cond (.tmp 68)
(.seq (.ops [
.op ⟨(some 70), (.pure (.fieldAddr 1 (.tmp 1))), none⟩,
.op ⟨(some 71), (.load none (.tmp 70)), none⟩,
.op ⟨(some 72), (.eff (.call 46 [(.tmp 71)])), none⟩,
.op ⟨(some 73), (.pure (.mv (.tmp 72))), none⟩,
.split 73,
.op ⟨(some 74), (.pure (.fieldAddr 3 (.tmp 1))), (some (73, true))⟩,
.op ⟨(some 75), (.load none (.tmp 74)), (some (73, true))⟩,
.op ⟨(some 76), (.pure (.fieldAddr 1 (.tmp 1))), (some (73, true))⟩,
.op ⟨(some 77), (.load none (.tmp 76)), (some (73, true))⟩,
.op ⟨(some 78), (.pure (.bin .eql (.tmp 75) (.tmp 77))), (some (73, true))⟩,
.op ⟨(some 79), (.pure (.pick (.tmp 73) (.tmp 78) (.const (.bool false)))), none⟩,
.op ⟨(some 2), (.pure (.mv (.tmp 79))), none⟩])
(.ret))
(.seq (.ops [
.op ⟨(some 81), (.pure (.bin .eql (.tmp 54) (.const (.int .i64 (2))))), none⟩,
.op ⟨(some 80), (.pure (.mv (.tmp 81))), none⟩])
(.cond (.tmp 80)
(.seq (.ops [
.op ⟨(some 82), (.pure (.fieldAddr 1 (.tmp 1))), none⟩,
.op ⟨(some 83), (.load none (.tmp 82)), none⟩,
.op ⟨(some 84), (.eff (.call 46 [(.tmp 83)])), none⟩,
.op ⟨(some 85), (.pure (.mv (.tmp 84))), none⟩,
.split 85,
.op ⟨(some 86), (.pure (.fieldAddr 2 (.tmp 1))), (some (85, true))⟩,
.op ⟨(some 87), (.load none (.tmp 86)), (some (85, true))⟩,
.op ⟨(some 88), (.pure (.bin .eql (.tmp 87) (.const (.int .i64 (3))))), (some (85, true))⟩,
.op ⟨(some 89), (.pure (.pick (.tmp 85) (.tmp 88) (.const (.bool false)))), none⟩,
.op ⟨(some 90), (.pure (.mv (.tmp 89))), none⟩,
.split 90,
.op ⟨(some 91), (.pure (.fieldAddr 3 (.tmp 1))), (some (90, true))⟩,
.op ⟨(some 92), (.load none (.tmp 91)), (some (90, true))⟩,
.op ⟨(some 93), (.pure (.bin .eql (.tmp 92) (.const (.int .i64 (63))))), (some (90, true))⟩,
.op ⟨(some 94), (.pure (.pick (.tmp 90) (.tmp 93) (.const (.bool false)))), none⟩,
.op ⟨(some 2), (.pure (.mv (.tmp 94))), none⟩])
(.ret))
(.seq (.ops [
.op ⟨(some 96), (.pure (.bin .eql (.tmp 54) (.const (.int .i64 (3))))), none⟩,
.op ⟨(some 95), (.pure (.mv (.tmp 96))), none⟩])
(.cond (.tmp 95)
(.seq (.ops [
.op ⟨(some 97), (.pure (.mv (.tmp 5))), none⟩,
.op ⟨(some 98), (.pure (.mv (.tmp 97))), none⟩,
.split 98,
.op ⟨(some 99), (.pure (.fieldAddr 3 (.tmp 1))), (some (98, true))⟩,
.op ⟨(some 100), (.load none (.tmp 99)), (some (98, true))⟩,
.op ⟨(some 101), (.pure (.bin .eql (.tmp 100) (.const (.int .i64 (0))))), (some (98, true))⟩,
.op ⟨(some 102), (.pure (.pick (.tmp 98) (.tmp 101) (.const (.bool false)))), none⟩,
.op ⟨(some 103), (.pure (.mv (.tmp 102))), none⟩,
.split 103,
.op ⟨(some 104), (.pure (.fieldAddr 4 (.tmp 1))), (some (103, true))⟩,
.op ⟨(some 105), (.load none (.tmp 104)), (some (103, true))⟩,
.op ⟨(some 106), (.pure (.len (.tmp 105))), (some (103, true))⟩,
.op ⟨(some 107), (.pure (.bin .gtr (.tmp 106) (.const (.int .i64 (0))))), (some (103, true))⟩,
.op ⟨(some 108), (.pure (.pick (.tmp 103) (.tmp 107) (.const (.bool false)))), none⟩,
.op ⟨(some 109), (.pure (.mv (.tmp 108))), none⟩,
.split 109,
.op ⟨(some 110), (.pure (.fieldAddr 4 (.tmp 1))), (some (109, true))⟩,
.op ⟨(some 111), (.load none (.tmp 110)), (some (109, true))⟩,
.op ⟨(some 112), (.pure (.fieldAddr 4 (.tmp 1))), (some (109, true))⟩,
.op ⟨(some 113), (.load none (.tmp 112)), (some (109, true))⟩,
.op ⟨(some 114), (.pure (.len (.tmp 113))), (some (109, true))⟩,
.op ⟨(some 115), (.pure (.bin .sub (.tmp 114) (.const (.int .i64 (1))))), (some (109, true))⟩,
.op ⟨(some 116), (.pure (.idx 1 (.tmp 111) (.tmp 115))), (some (109, true))⟩,
.op ⟨(some 117), (.load none (.tmp 116)), (some (109, true))⟩,
.op ⟨(some 118), (.pure (.bin .eql (.tmp 117) (.const (.int .i64 (61))))), (some (109, true))⟩,
.op ⟨(some 119), (.pure (.pick (.tmp 109) (.tmp 118) (.const (.bool false)))), none⟩,
.op ⟨(some 2), (.pure (.mv (.tmp 119))), none⟩])
(.ret))
(.skip)))))))))))
(.seq (.ops [
.op ⟨(some 2), (.pure (.mv (.const (.bool false)))), none⟩])
(.ret)))))),
[.tmp 2]⟩
theorem r_spec_rpGood : resFun Try.prog f_spec_rpGood = some c_spec_rpGood := by kernel_rfl

/- loop.example/g00940/spec.rpGlances -/
abbrev f_spec_rpGlances : Nat := 38
def c_spec_rpGlances : MFun := ⟨19, .seq (.ops [
.op ⟨(some 2), (.pure (.mv (.const (.bool false)))), none⟩])
(.seq (.seq (.ops [
.op ⟨(some 5), (.pure (.mv (.tmp 0))), none⟩,
.op ⟨(some 6), (.pure (.len (.tmp 5))), none⟩,
.op ⟨(some 7), (.pure (.mv (.const (.int .i64 (0))))), none⟩])
(.block 0 (.loop (.seq (.ops [
.op ⟨(some 8), (.pure (.bin .lss (.tmp 7) (.tmp 6))), none⟩])
(.seq (.cond (.tmp 8)
(.skip)
(.exit 0))
(.seq (.block 1 (.seq (.ops [
.op ⟨(some 9), (.pure (.idx 2 (.tmp 5) (.tmp 7))), none⟩,
.op ⟨(some 10), (.load (some 2) (.tmp 9)), none⟩,
.op ⟨(some 4), (.eff (.new 32 [(.bool false), (.int .i64 (0))])), none⟩,
.op ⟨none, (.eff (.store 2 (.tmp 4) (.tmp 10))), none⟩])
(.seq (.ops [
.op ⟨(some 11), (.pure (.fieldAddr 1 (.tmp 4))), none⟩,
.op ⟨(some 12), (.load none (.tmp 11)), none⟩,
.op ⟨(some 13), (.eff (.call 53 [(.tmp 12)])), none⟩,
.op ⟨(some 14), (.pure (.bnot (.tmp 13))), none⟩])
(.cond (.tmp 14)
(.seq (.ops [
.op ⟨(some 2), (.pure (.mv (.const (.bool false)))), none⟩])
(.ret))
(.skip)))))
(.ops [
.op ⟨(some 15), (.pure (.bin .add (.tmp 7) (.const (.int .i64 (1))))), none⟩,
.op ⟨(some 7), (.pure (.mv (.tmp 15))), none⟩])))))))
(.seq (.ops [
.op ⟨(some 16), (.pure (.mv (.tmp 0))), none⟩,
.op ⟨(some 17), (.pure (.len (.tmp 16))), none⟩,
.op ⟨(some 18), (.pure (.bin .leq (.tmp 17) (.const (.int .i64 (80))))), none⟩,
.op ⟨(some 2), (.pure (.mv (.tmp 18))), none⟩])
(.ret))),
[.tmp 2]⟩
theorem r_spec_rpGlances : resFun Try.prog f_spec_rpGlances = some c_spec_rpGlances := by kernel_rfl

/- loop.example/g00940/spec.l1Own -/
abbrev f_spec_l1Own : Nat := 39
def c_spec_l1Own : MFun := ⟨6, .seq (.ops [
.op ⟨(some 2), (.pure (.mv (.const (.slice none 0 0)))), none⟩])
(.seq (.ops [
.op ⟨(some 3), (.eff (.row 3 0 [] [])), none⟩,
.op ⟨(some 4), (.pure (.mv (.tmp 0))), none⟩,
.op ⟨(some 5), (.eff (.app 3 1 8 (.tmp 3) (.tmp 4))), none⟩,
.op ⟨(some 2), (.pure (.mv (.tmp 5))), none⟩])
(.ret)),
[.tmp 2]⟩
theorem r_spec_l1Own : resFun Try.prog f_spec_l1Own = some c_spec_l1Own := by kernel_rfl

/- loop.example/g00940/spec.rpStep -/
abbrev f_spec_rpStep : Nat := 40
def c_spec_rpStep : MFun := ⟨19, .seq (.ops [
.op ⟨(some 2), (.eff (.box 25 (.tmp 0))), none⟩,
.op ⟨(some 3), (.eff (.box 32 (.tmp 1))), none⟩,
.op ⟨(some 4), (.eff (.new 25 [(.int .i64 (0)), (.int .i64 (0)), (.int .i64 (0)), (.int .i64 (0)), (.slice none 0 0)])), none⟩])
(.seq (.ops [
.op ⟨(some 5), (.pure (.fieldAddr 4 (.tmp 2))), none⟩,
.op ⟨(some 6), (.load none (.tmp 5)), none⟩,
.op ⟨(some 7), (.eff (.call 39 [(.tmp 6)])), none⟩,
.op ⟨(some 8), (.pure (.fieldAddr 4 (.tmp 2))), none⟩,
.op ⟨none, (.eff (.store 1 (.tmp 8) (.tmp 7))), none⟩])
(.seq (.seq (.ops [
.op ⟨(some 9), (.pure (.fieldAddr 0 (.tmp 3))), none⟩,
.op ⟨(some 10), (.load none (.tmp 9)), none⟩])
(.cond (.tmp 10)
(.seq (.ops [
.op ⟨(some 11), (.load (some 5) (.tmp 2)), none⟩,
.op ⟨(some 12), (.pure (.fieldAddr 1 (.tmp 3))), none⟩,
.op ⟨(some 13), (.load none (.tmp 12)), none⟩,
.op ⟨(some 14), (.eff (.call 57 [(.tmp 11), (.tmp 13)])), none⟩,
.op ⟨none, (.eff (.store 5 (.tmp 4) (.tmp 14))), none⟩])
(.ret))
(.skip)))
(.seq (.ops [
.op ⟨(some 15), (.load (some 5) (.tmp 2)), none⟩,
.op ⟨(some 16), (.pure (.fieldAddr 1 (.tmp 3))), none⟩,
.op ⟨(some 17), (.load none (.tmp 16)), none⟩,
.op ⟨(some 18), (.eff (.call 58 [(.tmp 15), (.tmp 17)])), none⟩,
.op ⟨none, (.eff (.store 5 (.tmp 4) (.tmp 18))), none⟩])
(.ret)))),
[.cell 4 (some 5)]⟩
theorem r_spec_rpStep : resFun Try.prog f_spec_rpStep = some c_spec_rpStep := by kernel_rfl

/- (*loop.example/g00940/spec.l1Cur).one -/
abbrev f_spec_l1Cur_one : Nat := 41
def c_spec_l1Cur_one : MFun := ⟨9, .seq (.ops [
.op ⟨(some 4), (.pure (.mv (.const (.bool false)))), none⟩])
(.seq (.ops [
.op ⟨(some 5), (.pure (.mv (.tmp 0))), none⟩,
.op ⟨(some 6), (.pure (.mv (.tmp 1))), none⟩,
.op ⟨(some 7), (.eff (.call 44 [(.tmp 5), (.tmp 6)])), none⟩,
.op ⟨(some 8), (.pure (.bin .eql (.tmp 7) (.const (.int .i64 (0))))), none⟩,
.op ⟨(some 4), (.pure (.mv (.tmp 8))), none⟩])
(.ret)),
[.tmp 4]⟩
theorem r_spec_l1Cur_one : resFun Try.prog f_spec_l1Cur_one = some c_spec_l1Cur_one := by kernel_rfl

/- (*loop.example/g00940/spec.l1Cur).among -/
abbrev f_spec_l1Cur_among : Nat := 42
def c_spec_l1Cur_among : MFun := ⟨12, .seq (.ops [
.op ⟨(some 4), (.pure (.mv (.const (.int .i64 (0))))), none⟩])
(.seq (.ops [
.op ⟨(some 5), (.pure (.mv (.tmp 1))), none⟩,
.op ⟨(some 6), (.pure (.mv (.tmp 0))), none⟩,
.op ⟨(some 7), (.pure (.mv (.tmp 1))), none⟩,
.op ⟨(some 8), (.pure (.len (.tmp 7))), none⟩,
.op ⟨(some 9), (.eff (.call 44 [(.tmp 6), (.tmp 8)])), none⟩,
.op ⟨(some 10), (.pure (.idx 1 (.tmp 5) (.tmp 9))), none⟩,
.op ⟨(some 11), (.load none (.tmp 10)), none⟩,
.op ⟨(some 4), (.pure (.mv (.tmp 11))), none⟩])
(.ret)),
[.tmp 4]⟩
theorem r_spec_l1Cur_among : resFun Try.prog f_spec_l1Cur_among = some c_spec_l1Cur_among := by kernel_rfl

/- loop.example/g00940/impl.isSignal -/
abbrev f_impl_isSignal : Nat := 43
def c_impl_isSignal : MFun := ⟨5, .seq (.ops [
.op ⟨(some 2), (.pure (.mv (.const (.bool false)))), none⟩])
(.seq (.ops [
.op ⟨(some 3), (.pure (.mv (.tmp 0))), none⟩,
.op ⟨(some 4), (.eff (.call 47 [(.tmp 3), (.const (.int .i64 (0))), (.const (.int .i64 (63)))])), none⟩,
.op ⟨(some 2), (.pure (.mv (.tmp 4))), none⟩])
(.ret)),
[.tmp 2]⟩
theorem r_impl_isSignal : resFun Try.prog f_impl_isSignal = some c_impl_isSignal := by kernel_rfl

/- (*loop.example/g00940/spec.l1Cur).pick -/
abbrev f_spec_l1Cur_pick : Nat := 44
def c_spec_l1Cur_pick : MFun := ⟨20, .seq (.ops [
.op ⟨(some 4), (.pure (.mv (.const (.int .i64 (0))))), none⟩])
(.seq (.seq (.ops [
.op ⟨(some 6), (.pure (.mv (.tmp 1))), none⟩,
.op ⟨(some 7), (.pure (.bin .leq (.tmp 6) (.const (.int .i64 (1))))), none⟩])
(.cond (.tmp 7)
(.seq (.ops [
.op ⟨(some 4), (.pure (.mv (.const (.int .i64 (0))))), none⟩])
(.ret))
(.skip)))
(.seq (.ops [
.op ⟨(some 8), (.pure (.mv (.tmp 0))), none⟩,
.op ⟨(some 9), (.eff (.call 59 [(.tmp 8)])), none⟩,
.op ⟨(some 5), (.pure (.mv (.tmp 9))), none⟩])
(.seq (.seq (.ops [
.op ⟨(some 10), (.pure (.mv (.tmp 1))), none⟩,
.op ⟨(some 11), (.pure (.bin .gtr (.tmp 10) (.const (.int .i64 (200))))), none⟩])
(.cond (.tmp 11)
(.ops [
.op ⟨(some 12), (.pure (.mv (.tmp 5))), none⟩,
.op ⟨(some 13), (.pure (.bin .mul (.tmp 12) (.const (.int .i64 (256))))), none⟩,
.op ⟨(some 14), (.pure (.mv (.tmp 0))), none⟩,
.op ⟨(some 15), (.eff (.call 59 [(.tmp 14)])), none⟩,
.op ⟨(some 16), (.pure (.bin .add (.tmp 13) (.tmp 15))), none⟩,
.op ⟨(some 5), (.pure (.mv (.tmp 16))), none⟩])
(.skip)))
(.seq (.ops [
.op ⟨(some 17), (.pure (.mv (.tmp 5))), none⟩,
.op ⟨(some 18), (.pure (.mv (.tmp 1))), none⟩,
.op ⟨(some 19), (.pure (.bin .rem (.tmp 17) (.tmp 18))), none⟩,
.op ⟨(some 4), (.pure (.mv (.tmp 19))), none⟩])
(.ret))))),
[.tmp 4]⟩
theorem r_spec_l1Cur_pick : resFun Try.prog f_spec_l1Cur_pick = some c_spec_l1Cur_pick := by kernel_rfl

/- loop.example/g00940/impl.isPassed -/
abbrev f_impl_isPassed : Nat := 45
def c_impl_isPassed : MFun := ⟨9, .seq (.ops [
.op ⟨(some 2), (.pure (.mv (.const (.bool false)))), none⟩])
(.seq (.ops [
.op ⟨(some 3), (.pure (.mv (.tmp 0))), none⟩,
.op ⟨(some 4), (.eff (.call 60 [(.tmp 3)])), none⟩,
.op ⟨(some 5), (.pure (.mv (.tmp 4))), none⟩,
.split 5,
.op ⟨(some 6), (.pure (.mv (.tmp 0))), (some (5, false))⟩,
.op ⟨(some 7), (.pure (.bin .eql (.tmp 6) (.const (.int .i64 (61))))), (some (5, false))⟩,
.op ⟨(some 8), (.pure (.pick (.tmp 5) (.const (.bool true)) (.tmp 7))), none⟩,
.op ⟨(some 2), (.pure (.mv (.tmp 8))), none⟩])
(.ret)),
[.tmp 2]⟩
theorem r_impl_isPassed : resFun Try.prog f_impl_isPassed = some c_impl_isPassed := by kernel_rfl

/- loop.example/g00940/spec.rpPass -/
abbrev f_spec_rpPass : Nat := 46
def c_spec_rpPass : MFun := ⟨9, .seq (.ops [
.op ⟨(some 2), (.pure (.mv (.const (.bool false)))), none⟩])
(.seq (.ops [
.op ⟨(some 3), (.pure (.mv (.tmp 0))), none⟩,
.op ⟨(some 4), (.eff (.call 61 [(.tmp 3)])), none⟩,
.op ⟨(some 5), (.pure (.mv (.tmp 4))), none⟩,
.split 5,
.op ⟨(some 6), (.pure (.mv (.tmp 0))), (some (5, false))⟩,
.op ⟨(some 7), (.pure (.bin .eql (.tmp 6) (.const (.int .i64 (61))))), (some (5, false))⟩,
.op ⟨(some 8), (.pure (.pick (.tmp 5) (.const (.bool true)) (.tmp 7))), none⟩,
.op ⟨(some 2), (.pure (.mv (.tmp 8))), none⟩])
(.ret)),
[.tmp 2]⟩
theorem r_spec_rpPass : resFun Try.prog f_spec_rpPass = some c_spec_rpPass := by kernel_rfl

/- loop.example/g00940/impl.within -/
abbrev f_impl_within : Nat := 47
def c_impl_within : MFun := ⟨15, .seq (.ops [
.op ⟨(some 6), (.pure (.mv (.const (.bool false)))), none⟩])
(.seq (.ops [
.op ⟨(some 7), (.pure (.mv (.tmp 0))), none⟩,
.op ⟨(some 8), (.pure (.mv (.tmp 1))), none⟩,
.op ⟨(some 9), (.pure (.bin .geq (.tmp 7) (.tmp 8))), none⟩,
.op ⟨(some 10), (.pure (.mv (.tmp 9))), none⟩,
.split 10,
.op ⟨(some 11), (.pure (.mv (.tmp 0))), (some (10, true))⟩,
.op ⟨(some 12), (.pure (.mv (.tmp 2))), (some (10, true))⟩,
.op ⟨(some 13), (.pure (.bin .leq (.tmp 11) (.tmp 12))), (some (10, true))⟩,
.op ⟨(some 14), (.pure (.pick (.tmp 10) (.tmp 13) (.const (.bool false)))), none⟩,
.op ⟨(some 6), (.pure (.mv (.tmp 14))), none⟩])
(.ret)),
[.tmp 6]⟩
theorem r_impl_within : resFun Try.prog f_impl_within = some c_impl_within := by kernel_rfl

/- loop.example/g00940/spec.DrawShownAfter -/
abbrev f_spec_DrawShownAfter : Nat := 48
def c_spec_DrawShownAfter : MFun := ⟨9, .seq (.ops [
.op ⟨(some 2), (.pure (.mv (.const (.slice none 0 0)))), none⟩])
(.seq (.ops [
.op ⟨(some 4), (.pure (.mv (.tmp 0))), none⟩,
.op ⟨(some 5), (.pure (.build [(.slice none 0 0), (.int .i64 (0)), (.int .u64 (0))] [(0, 1, (.tmp 4))])), none⟩,
.op ⟨(some 6), (.eff (.box 58 (.tmp 5))), none⟩,
.op ⟨(some 3), (.pure (.mv (.tmp 6))), none⟩])
(.seq (.ops [
.op ⟨(some 7), (.pure (.mv (.tmp 3))), none⟩,
.op ⟨(some 8), (.eff (.call 33 [(.tmp 7)])), none⟩,
.op ⟨(some 2), (.pure (.mv (.tmp 8))), none⟩])
(.ret))),
[.tmp 2]⟩
theorem r_spec_DrawShownAfter : resFun Try.prog f_spec_DrawShownAfter = some c_spec_DrawShownAfter := by kernel_rfl

/- loop.example/g00940/spec.rpNew -/
abbrev f_spec_rpNew : Nat := 49
def c_spec_rpNew : MFun := ⟨2, .seq (.ops [
.op ⟨(some 0), (.eff (.new 25 [(.int .i64 (0)), (.int .i64 (0)), (.int .i64 (0)), (.int .i64 (0)), (.slice none 0 0)])), none⟩])
(.seq (.ops [
.op ⟨(some 1), (.pure (.build [(.int .i64 (0)), (.int .i64 (0)), (.int .i64 (0)), (.int .i64 (0)), (.slice none 0 0)] [])), none⟩,
.op ⟨none, (.eff (.store 5 (.tmp 0) (.tmp 1))), none⟩])
(.ret)),
[.cell 0 (some 5)]⟩
theorem r_spec_rpNew : resFun Try.prog f_spec_rpNew = some c_spec_rpNew := by kernel_rfl

/- loop.example/g00940/spec.rpSame -/
abbrev f_spec_rpSame : Nat := 50
def c_spec_rpSame : MFun := ⟨38, .seq (.ops [
.op ⟨(some 2), (.eff (.box 25 (.tmp 0))), none⟩,
.op ⟨(some 3), (.eff (.box 25 (.tmp 1))), none⟩,
.op ⟨(some 4), (.pure (.mv (.const (.bool false)))), none⟩])
(.seq (.ops [
.op ⟨(some 5), (.pure (.fieldAddr 0 (.tmp 2))), none⟩,
.op ⟨(some 6), (.load none (.tmp 5)), none⟩,
.op ⟨(some 7), (.pure (.fieldAddr 0 (.tmp 3))), none⟩,
.op ⟨(some 8), (.load none (.tmp 7)), none⟩,
.op ⟨(some 9), (.pure (.bin .eql (.tmp 6) (.tmp 8))), none⟩,
.op ⟨(some 10), (.pure (.mv (.tmp 9))), none⟩,
.split 10,
.op ⟨(some 11), (.pure (.fieldAddr 1 (.tmp 2))), (some (10, true))⟩,
.op ⟨(some 12), (.load none (.tmp 11)), (some (10, true))⟩,
.op ⟨(some 13), (.pure (.fieldAddr 1 (.tmp 3))), (some (10, true))⟩,
.op ⟨(some 14), (.load none (.tmp 13)), (some (10, true))⟩,
.op ⟨(some 15), (.pure (.bin .eql (.tmp 12) (.tmp 14))), (some (10, true))⟩,
.op ⟨(some 16), (.pure (.pick (.tmp 10) (.tmp 15) (.const (.bool false)))), none⟩,
.op ⟨(some 17), (.pure (.mv (.tmp 16))), none⟩,
.split 17,
.op ⟨(some 18), (.pure (.fieldAddr 2 (.tmp 2))), (some (17, true))⟩,
.op ⟨(some 19), (.load none (.tmp 18)), (some (17, true))⟩,
.op ⟨(some 20), (.pure (.fieldAddr 2 (.tmp 3))), (some (17, true))⟩,
.op ⟨(some 21), (.load none (.tmp 20)), (some (17, true))⟩,
.op ⟨(some 22), (.pure (.bin .eql (.tmp 19) (.tmp 21))), (some (17, true))⟩,
.op ⟨(some 23), (.pure (.pick (.tmp 17) (.tmp 22) (.const (.bool false)))), none⟩,
.op ⟨(some 24), (.pure (.mv (.tmp 23))), none⟩,
.split 24,
.op ⟨(some 25), (.pure (.fieldAddr 3 (.tmp 2))), (some (24, true))⟩,
.op ⟨(some 26), (.load none (.tmp 25)), (some (24, true))⟩,
.op ⟨(some 27), (.pure (.fieldAddr 3 (.tmp 3))), (some (24, true))⟩,
.op ⟨(some 28), (.load none (.tmp 27)), (some (24, true))⟩,
.op ⟨(some 29), (.pure (.bin .eql (.tmp 26) (.tmp 28))), (some (24, true))⟩,
.op ⟨(some 30), (.pure (.pick (.tmp 24) (.tmp 29) (.const (.bool false)))), none⟩,
.op ⟨(some 31), (.pure (.mv (.tmp 30))), none⟩,
.split 31,
.op ⟨(some 32), (.pure (.fieldAddr 4 (.tmp 2))), (some (31, true))⟩,
.op ⟨(some 33), (.load none (.tmp 32)), (some (31, true))⟩,
.op ⟨(some 34), (.pure (.fieldAddr 4 (.tmp 3))), (some (31, true))⟩,
.op ⟨(some 35), (.load none (.tmp 34)), (some (31, true))⟩,
.op ⟨(some 36), (.eff (.call 62 [(.tmp 33), (.tmp 35)])), (some (31, true))⟩,
.op ⟨(some 37), (.pure (.pick (.tmp 31) (.tmp 36) (.const (.bool false)))), none⟩,
.op ⟨(some 4), (.pure (.mv (.tmp 37))), none⟩])
(.ret)),
[.tmp 4]⟩
theorem r_spec_rpSame : resFun Try.prog f_spec_rpSame = some c_spec_rpSame := by kernel_rfl

/- slices.Clone[[]loop.example/g00940/impl.Glance,loop.example/g00940/impl.Glance] -/
abbrev f_slices_Clone_Limpl_Glance_impl_Glance : Nat := 51
def c_slices_Clone_Limpl_Glance_impl_Glance : MFun := ⟨8, .seq (.ops [
.op ⟨(some 2), (.pure (.mv (.const (.slice none 0 0)))), none⟩])
(.seq (.seq (.ops [
.op ⟨(some 3), (.pure (.mv (.tmp 0))), none⟩,
.op ⟨(some 4), (.pure (.isnil false (.tmp 3))), none⟩])
(.cond (.tmp 4)
(.seq (.ops [
.op ⟨(some 2), (.pure (.mv (.const (.slice none 0 0)))), none⟩])
(.ret))
(.skip)))
(.seq (.ops [
.op ⟨(some 5), (.eff (.row 32 0 [] [])), none⟩,
.op ⟨(some 6), (.pure (.mv (.tmp 0))), none⟩,
.op ⟨(some 7), (.eff (.app 32 2 16 (.tmp 5) (.tmp 6))), none⟩,
.op ⟨(some 2), (.pure (.mv (.tmp 7))), none⟩])
(.ret))),
[.tmp 2]⟩
theorem r_slices_Clone_Limpl_Glance_impl_Glance : resFun Try.prog f_slices_Clone_Limpl_Glance_impl_Glance = some c_slices_Clone_Limpl_Glance_impl_Glance := by kernel_rfl

/- loop.example/g00940/spec.l1In -/
abbrev f_spec_l1In : Nat := 52
def c_spec_l1In : MFun := ⟨15, .seq (.ops [
.op ⟨(some 6), (.pure (.mv (.const (.bool false)))), none⟩])
(.seq (.ops [
.op ⟨(some 7), (.pure (.mv (.tmp 0))), none⟩,
.op ⟨(some 8), (.pure (.mv (.tmp 1))), none⟩,
.op ⟨(some 9), (.pure (.bin .geq (.tmp 7) (.tmp 8))), none⟩,
.op ⟨(some 10), (.pure (.mv (.tmp 9))), none⟩,
.split 10,
.op ⟨(some 11), (.pure (.mv (.tmp 0))), (some (10, true))⟩,
.op ⟨(some 12), (.pure (.mv (.tmp 2))), (some (10, true))⟩,
.op ⟨(some 13), (.pure (.bin .leq (.tmp 11) (.tmp 12))), (some (10, true))⟩,
.op ⟨(some 14), (.pure (.pick (.tmp 10) (.tmp 13) (.const (.bool false)))), none⟩,
.op ⟨(some 6), (.pure (.mv (.tmp 14))), none⟩])
(.ret)),
[.tmp 6]⟩
theorem r_spec_l1In : resFun Try.prog f_spec_l1In = some c_spec_l1In := by kernel_rfl

/- loop.example/g00940/spec.sgGood -/
abbrev f_spec_sgGood : Nat := 53
def c_spec_sgGood : MFun := ⟨5, .seq (.ops [
.op ⟨(some 2), (.pure (.mv (.const (.bool false)))), none⟩])
(.seq (.ops [
.op ⟨(some 3), (.pure (.mv (.tmp 0))), none⟩,
.op ⟨(some 4), (.eff (.call 52 [(.tmp 3), (.const (.int .i64 (0))), (.const (.int .i64 (63)))])), none⟩,
.op ⟨(some 2), (.pure (.mv (.tmp 4))), none⟩])
(.ret)),
[.tmp 2]⟩
theorem r_spec_sgGood : resFun Try.prog f_spec_sgGood = some c_spec_sgGood := by kernel_rfl

/- slices.ContainsFunc[[]loop.example/g00940/impl.Glance,loop.example/g00940/impl.Glance] -/
abbrev f_slices_ContainsFunc_Limpl_Glance_impl_Glance : Nat := 54
def c_slices_ContainsFunc_Limpl_Glance_impl_Glance : MFun := ⟨9, .seq (.ops [
.op ⟨(some 4), (.pure (.mv (.const (.bool false)))), none⟩])
(.seq (.ops [
.op ⟨(some 5), (.pure (.mv (.tmp 0))), none⟩,
.op ⟨(some 6), (.pure (.mv (.tmp 1))), none⟩,
.op ⟨(some 7), (.eff (.call 63 [(.tmp 5), (.tmp 6)])), none⟩,
.op ⟨(some 8), (.pure (.bin .geq (.tmp 7) (.const (.int .i64 (0))))), none⟩,
.op ⟨(some 4), (.pure (.mv (.tmp 8))), none⟩])
(.ret)),
[.tmp 4]⟩
theorem r_slices_ContainsFunc_Limpl_Glance_impl_Glance : resFun Try.prog f_slices_ContainsFunc_Limpl_Glance_impl_Glance = some c_slices_ContainsFunc_Limpl_Glance_impl_Glance := by kernel_rfl

/- loop.example/g00940/impl.areGlances$1 -/
abbrev f_impl_areGlances_1 : Nat := 55
def c_impl_areGlances_1 : MFun := ⟨7, .seq (.ops [
.op ⟨(some 1), (.eff (.box 32 (.tmp 0))), none⟩,
.op ⟨(some 2), (.pure (.mv (.const (.bool false)))), none⟩])
(.seq (.ops [
.op ⟨(some 3), (.pure (.fieldAddr 1 (.tmp 1))), none⟩,
.op ⟨(some 4), (.load none (.tmp 3)), none⟩,
.op ⟨(some 5), (.eff (.call 43 [(.tmp 4)])), none⟩,
.op ⟨(some 6), (.pure (.bnot (.tmp 5))), none⟩,
.op ⟨(some 2), (.pure (.mv (.tmp 6))), none⟩])
(.ret)),
[.tmp 2]⟩
theorem r_impl_areGlances_1 : resFun Try.prog f_impl_areGlances_1 = some c_impl_areGlances_1 := by kernel_rfl

/- slices.Clone[[]int,int] -/
abbrev f_slices_Clone_Lint_int : Nat := 56
def c_slices_Clone_Lint_int : MFun := ⟨8, .seq (.ops [
.op ⟨(some 2), (.pure (.mv (.const (.slice none 0 0)))), none⟩])
(.seq (.seq (.ops [
.op ⟨(some 3), (.pure (.mv (.tmp 0))), none⟩,
.op ⟨(some 4), (.pure (.isnil false (.tmp 3))), none⟩])
(.cond (.tmp 4)
(.seq (.ops [
.op ⟨(some 2), (.pure (.mv (.const (.slice none 0 0)))), none⟩])
(.ret))
(.skip)))
(.seq (.ops [
.op ⟨(some 5), (.eff (.row 3 0 [] [])), none⟩,
.op ⟨(some 6), (.pure (.mv (.tmp 0))), none⟩,
.op ⟨(some 7), (.eff (.app 3 1 8 (.tmp 5) (.tmp 6))), none⟩,
.op ⟨(some 2), (.pure (.mv (.tmp 7))), none⟩])
(.ret))),
[.tmp 2]⟩
theorem r_slices_Clone_Lint_int : resFun Try.prog f_slices_Clone_Lint_int = some c_slices_Clone_Lint_int := by kernel_rfl

/- loop.example/g00940/spec.rpNext -/
abbrev f_spec_rpNext : Nat := 57
def c_spec_rpNext : MFun := ⟨42, .seq (.ops [
.op ⟨(some 2), (.eff (.box 25 (.tmp 0))), none⟩,
.op ⟨(some 4), (.eff (.new 25 [(.int .i64 (0)), (.int .i64 (0)), (.int .i64 (0)), (.int .i64 (0)), (.slice none 0 0)])), none⟩])
(.seq (.block 0 (.seq (.ops [
.op ⟨(some 11), (.pure (.fieldAddr 0 (.tmp 2))), none⟩,
.op ⟨(some 12), (.load none (.tmp 11)), none⟩,
.op ⟨(some 13), (.pure (.bin .neq (.tmp 12) (.const (.int .i64 (1))))), none⟩,
.op ⟨(some 14), (.pure (.mv (.tmp 13))), none⟩,
.split 14,
.op ⟨(some 15), (.pure (.mv (.tmp 1))), (some (14, false))⟩,
.op ⟨(some 16), (.pure (.bin .eql (.tmp 15) (.const (.int .i64 (0))))), (some (14, false))⟩,
.op ⟨(some 17), (.pure (.pick (.tmp 14) (.const (.bool true)) (.tmp 16))), none⟩,
.op ⟨(some 10), (.pure (.mv (.tmp 17))), none⟩])
(.cond (.tmp 10)
(.seq (.ops [
.op ⟨(some 18), (.load (some 5) (.tmp 2)), none⟩,
.op ⟨none, (.eff (.store 5 (.tmp 4) (.tmp 18))), none⟩])
(.ret))
(.seq (.ops [
.op ⟨(some 20), (.pure (.mv (.tmp 1))), none⟩,
.op ⟨(some 21), (.pure (.fieldAddr 1 (.tmp 2))), none⟩,
.op ⟨(some 22), (.load none (.tmp 21)), none⟩,
.op ⟨(some 23), (.pure (.bin .eql (.tmp 20) (.tmp 22))), none⟩,
.op ⟨(some 19), (.pure (.mv (.tmp 23))), none⟩])
(.cond (.tmp 19)
(.seq (.ops [
.op ⟨(some 24), (.pure (.fieldAddr 4 (.tmp 2))), none⟩,
.op ⟨(some 25), (.load none (.tmp 24)), none⟩,
.op ⟨(some 26), (.eff (.call 39 [(.tmp 25)])), none⟩,
.op ⟨(some 27), (.pure (.mv (.tmp 1))), none⟩,
.op ⟨(some 28), (.eff (.row 3 1 [(.int .i64 (0))] [(0, 1, (.tmp 27))])), none⟩,
.op ⟨(some 29), (.eff (.app 3 1 8 (.tmp 26) (.tmp 28))), none⟩,
.op ⟨(some 30), (.eff (.call 64 [(.tmp 29)])), none⟩,
.op ⟨(some 5), (.eff (.new 25 [(.int .i64 (0)), (.int .i64 (0)), (.int .i64 (0)), (.int .i64 (0)), (.slice none 0 0)])), none⟩,
.op ⟨none, (.eff (.store 5 (.tmp 5) (.tmp 30))), none⟩])
(.seq (.seq (.ops [
.op ⟨(some 31), (.pure (.mv (.tmp 1))), none⟩,
.op ⟨(some 32), (.pure (.bin .eql (.tmp 31) (.const (.int .i64 (61))))), none⟩])
(.cond (.tmp 32)
(.ops [
.op ⟨(some 33), (.pure (.fieldAddr 0 (.tmp 5))), none⟩,
.op ⟨none, (.eff (.store 1 (.tmp 33) (.const (.int .i64 (3))))), none⟩])
(.skip)))
(.seq (.ops [
.op ⟨(some 34), (.load (some 5) (.tmp 5)), none⟩,
.op ⟨none, (.eff (.store 5 (.tmp 4) (.tmp 34))), none⟩])
(.ret))))
(.seq (.ops [
.op ⟨(some 36), (.pure (.fieldAddr 2 (.tmp 2))), none⟩,
.op ⟨(some 37), (.load none (.tmp 36)), none⟩,
.op ⟨(some 38), (.pure (.bin .eql (.tmp 37) (.const (.int .i64 (3))))), none⟩,
.op ⟨(some 35), (.pure (.mv (.tmp 38))), none⟩])
(.cond (.tmp 35)
(.seq (.ops [
.op ⟨(some 39), (.pure (.fieldAddr 0 (.tmp 2))), none⟩,
.op ⟨none, (.eff (.store 1 (.tmp 39) (.const (.int .i64 (2))))), none⟩])
(.ops [
.op ⟨(some 40), (.pure (.fieldAddr 3 (.tmp 2))), none⟩,
.op ⟨none, (.eff (.store 1 (.tmp 40) (.const (.int .i64 (63))))), none⟩]))
(.ops [
.op ⟨(some 6), (.pure (.fieldAddr 2 (.tmp 2))), none⟩,
.op ⟨(some 7), (.load none (.tmp 6)), none⟩,
.op ⟨(some 8), (.pure (.bin .add (.tmp 7) (.const (.int .i64 (1))))), none⟩,
.op ⟨(some 9), (.pure (.fieldAddr 2 (.tmp 2))), none⟩,
.op ⟨none, (.eff (.store 1 (.tmp 9) (.tmp 8))), none⟩]))))))))
(.seq (.ops [
.op ⟨(some 41), (.load (some 5) (.tmp 2)), none⟩,
.op ⟨none, (.eff (.store 5 (.tmp 4) (.tmp 41))), none⟩])
(.ret))),
[.cell 4 (some 5)]⟩
theorem r_spec_rpNext : resFun Try.prog f_spec_rpNext = some c_spec_rpNext := by kernel_rfl

/- loop.example/g00940/spec.rpBefore -/
abbrev f_spec_rpBefore : Nat := 58
def c_spec_rpBefore : MFun := ⟨35, .seq (.ops [
.op ⟨(some 2), (.eff (.box 25 (.tmp 0))), none⟩,
.op ⟨(some 4), (.eff (.new 25 [(.int .i64 (0)), (.int .i64 (0)), (.int .i64 (0)), (.int .i64 (0)), (.slice none 0 0)])), none⟩])
(.seq (.block 0 (.seq (.ops [
.op ⟨(some 7), (.pure (.fieldAddr 0 (.tmp 2))), none⟩,
.op ⟨(some 8), (.load none (.tmp 7)), none⟩,
.op ⟨(some 9), (.pure (.bin .eql (.tmp 8) (.const (.int .i64 (1))))), none⟩,
.op ⟨(some 10), (.pure (.mv (.tmp 9))), none⟩,
.split 10,
.op ⟨(some 11), (.pure (.mv (.tmp 1))), (some (10, true))⟩,
.op ⟨(some 12), (.pure (.bin .eql (.tmp 11) (.const (.int .i64 (63))))), (some (10, true))⟩,
.op ⟨(some 13), (.pure (.pick (.tmp 10) (.tmp 12) (.const (.bool false)))), none⟩,
.op ⟨(some 6), (.pure (.mv (.tmp 13))), none⟩])
(.cond (.tmp 6)
(.seq (.ops [
.op ⟨(some 14), (.pure (.fieldAddr 4 (.tmp 2))), none⟩,
.op ⟨(some 15), (.load none (.tmp 14)), none⟩,
.op ⟨(some 16), (.eff (.call 64 [(.tmp 15)])), none⟩,
.op ⟨none, (.eff (.store 5 (.tmp 4) (.tmp 16))), none⟩])
(.ret))
(.seq (.ops [
.op ⟨(some 18), (.pure (.fieldAddr 0 (.tmp 2))), none⟩,
.op ⟨(some 19), (.load none (.tmp 18)), none⟩,
.op ⟨(some 20), (.pure (.bin .neq (.tmp 19) (.const (.int .i64 (0))))), none⟩,
.op ⟨(some 17), (.pure (.mv (.tmp 20))), none⟩])
(.cond (.tmp 17)
(.seq (.ops [
.op ⟨(some 21), (.load (some 5) (.tmp 2)), none⟩,
.op ⟨none, (.eff (.store 5 (.tmp 4) (.tmp 21))), none⟩])
(.ret))
(.seq (.ops [
.op ⟨(some 23), (.pure (.mv (.tmp 1))), none⟩,
.op ⟨(some 24), (.eff (.call 46 [(.tmp 23)])), none⟩,
.op ⟨(some 22), (.pure (.mv (.tmp 24))), none⟩])
(.cond (.tmp 22)
(.seq (.ops [
.op ⟨(some 25), (.pure (.fieldAddr 0 (.tmp 2))), none⟩,
.op ⟨none, (.eff (.store 1 (.tmp 25) (.const (.int .i64 (1))))), none⟩])
(.seq (.ops [
.op ⟨(some 26), (.pure (.mv (.tmp 1))), none⟩,
.op ⟨(some 27), (.pure (.fieldAddr 1 (.tmp 2))), none⟩,
.op ⟨none, (.eff (.store 1 (.tmp 27) (.tmp 26))), none⟩])
(.ops [
.op ⟨(some 28), (.pure (.mv (.tmp 1))), none⟩,
.op ⟨(some 29), (.pure (.fieldAddr 3 (.tmp 2))), none⟩,
.op ⟨none, (.eff (.store 1 (.tmp 29) (.tmp 28))), none⟩])))
(.seq (.ops [
.op ⟨(some 31), (.pure (.mv (.tmp 1))), none⟩,
.op ⟨(some 32), (.pure (.bin .eql (.tmp 31) (.const (.int .i64 (0))))), none⟩,
.op ⟨(some 30), (.pure (.mv (.tmp 32))), none⟩])
(.cond (.tmp 30)
(.ops [
.op ⟨(some 33), (.pure (.fieldAddr 3 (.tmp 2))), none⟩,
.op ⟨none, (.eff (.store 1 (.tmp 33) (.const (.int .i64 (0))))), none⟩])
(.ops [
.op ⟨(some 5), (.pure (.fieldAddr 3 (.tmp 2))), none⟩,
.op ⟨none, (.eff (.store 1 (.tmp 5) (.const (.int .i64 (62))))), none⟩]))))))))))
(.seq (.ops [
.op ⟨(some 34), (.load (some 5) (.tmp 2)), none⟩,
.op ⟨none, (.eff (.store 5 (.tmp 4) (.tmp 34))), none⟩])
(.ret))),
[.cell 4 (some 5)]⟩
theorem r_spec_rpBefore : resFun Try.prog f_spec_rpBefore = some c_spec_rpBefore := by kernel_rfl

/- (*loop.example/g00940/spec.l1Cur).next -/
abbrev f_spec_l1Cur_next : Nat := 59
def c_spec_l1Cur_next : MFun := ⟨62, .seq (.ops [
.op ⟨(some 2), (.pure (.mv (.const (.int .i64 (0))))), none⟩])
(.seq (.ops [
.op ⟨(some 3), (.pure (.mv (.const (.int .i64 (0))))), none⟩])
(.seq (.seq (.ops [
.op ⟨(some 4), (.pure (.mv (.tmp 0))), none⟩,
.op ⟨(some 5), (.pure (.nilc (.tmp 4))), none⟩,
.op ⟨(some 6), (.pure (.fieldAddr 1 (.tmp 5))), none⟩,
.op ⟨(some 8), (.pure (.mv (.tmp 0))), none⟩,
.op ⟨(some 9), (.pure (.nilc (.tmp 8))), none⟩,
.op ⟨(some 10), (.pure (.fieldAddr 0 (.tmp 9))), none⟩,
.op ⟨(some 7), (.load none (.tmp 6)), none⟩,
.op ⟨(some 11), (.load none (.tmp 10)), none⟩,
.op ⟨(some 12), (.pure (.len (.tmp 11))), none⟩,
.op ⟨(some 13), (.pure (.bin .lss (.tmp 7) (.tmp 12))), none⟩])
(.cond (.tmp 13)
(.ops [
.op ⟨(some 14), (.pure (.mv (.tmp 0))), none⟩,
.op ⟨(some 15), (.pure (.nilc (.tmp 14))), none⟩,
.op ⟨(some 16), (.pure (.fieldAddr 0 (.tmp 15))), none⟩,
.op ⟨(some 18), (.pure (.mv (.tmp 0))), none⟩,
.op ⟨(some 19), (.pure (.nilc (.tmp 18))), none⟩,
.op ⟨(some 20), (.pure (.fieldAddr 1 (.tmp 19))), none⟩,
.op ⟨(some 17), (.load none (.tmp 16)), none⟩,
.op ⟨(some 21), (.load none (.tmp 20)), none⟩,
.op ⟨(some 22), (.pure (.idx 1 (.tmp 17) (.tmp 21))), none⟩,
.op ⟨(some 23), (.load none (.tmp 22)), none⟩,
.op ⟨(some 24), (.pure (.conv .i64 (.tmp 23))), none⟩,
.op ⟨(some 3), (.pure (.mv (.tmp 24))), none⟩])
(.skip)))
(.seq (.ops [
.op ⟨(some 25), (.pure (.mv (.tmp 0))), none⟩,
.op ⟨(some 26), (.pure (.nilc (.tmp 25))), none⟩,
.op ⟨(some 27), (.pure (.fieldAddr 1 (.tmp 26))), none⟩,
.op ⟨(some 28), (.load none (.tmp 27)), none⟩,
.op ⟨(some 29), (.pure (.bin .add (.tmp 28) (.const (.int .i64 (1))))), none⟩,
.op ⟨(some 30), (.pure (.nilc (.tmp 25))), none⟩,
.op ⟨(some 31), (.pure (.fieldAddr 1 (.tmp 30))), none⟩,
.op ⟨none, (.eff (.store 1 (.tmp 31) (.tmp 29))), none⟩])
(.seq (.ops [
.op ⟨(some 32), (.pure (.mv (.tmp 0))), none⟩,
.op ⟨(some 33), (.pure (.mv (.tmp 0))), none⟩,
.op ⟨(some 34), (.pure (.nilc (.tmp 33))), none⟩,
.op ⟨(some 35), (.pure (.fieldAddr 2 (.tmp 34))), none⟩,
.op ⟨(some 36), (.load none (.tmp 35)), none⟩,
.op ⟨(some 37), (.pure (.bin .mul (.tmp 36) (.const (.int .u64 (6364136223846793005))))), none⟩,
.op ⟨(some 38), (.pure (.mv (.tmp 3))), none⟩,
.op ⟨(some 39), (.pure (.conv .u64 (.tmp 38))), none⟩,
.op ⟨(some 40), (.pure (.bin .add (.tmp 37) (.tmp 39))), none⟩,
.op ⟨(some 41), (.pure (.bin .add (.tmp 40) (.const (.int .u64 (1442695040888963407))))), none⟩,
.op ⟨(some 42), (.pure (.nilc (.tmp 32))), none⟩,
.op ⟨(some 43), (.pure (.fieldAddr 2 (.tmp 42))), none⟩,
.op ⟨none, (.eff (.store 1 (.tmp 43) (.tmp 41))), none⟩])
(.seq (.seq (.ops [
.op ⟨(some 44), (.pure (.mv (.tmp 0))), none⟩,
.op ⟨(some 45), (.pure (.nilc (.tmp 44))), none⟩,
.op ⟨(some 46), (.pure (.fieldAddr 1 (.tmp 45))), none⟩,
.op ⟨(some 48), (.pure (.mv (.tmp 0))), none⟩,
.op ⟨(some 49), (.pure (.nilc (.tmp 48))), none⟩,
.op ⟨(some 50), (.pure (.fieldAddr 0 (.tmp 49))), none⟩,
.op ⟨(some 47), (.load none (.tmp 46)), none⟩,
.op ⟨(some 51), (.load none (.tmp 50)), none⟩,
.op ⟨(some 52), (.pure (.len (.tmp 51))), none⟩,
.op ⟨(some 53), (.pure (.bin .leq (.tmp 47) (.tmp 52))), none⟩])
(.cond (.tmp 53)
(.seq (.ops [
.op ⟨(some 54), (.pure (.mv (.tmp 3))), none⟩,
.op ⟨(some 2), (.pure (.mv (.tmp 54))), none⟩])
(.ret))
(.skip)))
(.seq (.ops [
.op ⟨(some 55), (.pure (.mv (.tmp 0))), none⟩,
.op ⟨(some 56), (.pure (.nilc (.tmp 55))), none⟩,
.op ⟨(some 57), (.pure (.fieldAddr 2 (.tmp 56))), none⟩,
.op ⟨(some 58), (.load none (.tmp 57)), none⟩,
.op ⟨(some 59), (.pure (.bin .shr (.tmp 58) (.const (.int .u64 (40))))), none⟩,
.op ⟨(some 60), (.pure (.bin .and (.tmp 59) (.const (.int .u64 (255))))), none⟩,
.op ⟨(some 61), (.pure (.conv .i64 (.tmp 60))), none⟩,
.op ⟨(some 2), (.pure (.mv (.tmp 61))), none⟩])
(.ret))))))),
[.tmp 2]⟩
theorem r_spec_l1Cur_next : resFun Try.prog f_spec_l1Cur_next = some c_spec_l1Cur_next := by kernel_rfl

/- loop.example/g00940/impl.IsContent -/
abbrev f_impl_IsContent : Nat := 60
def c_impl_IsContent : MFun := ⟨5, .seq (.ops [
.op ⟨(some 2), (.pure (.mv (.const (.bool false)))), none⟩])
(.seq (.ops [
.op ⟨(some 3), (.pure (.mv (.tmp 0))), none⟩,
.op ⟨(some 4), (.eff (.call 47 [(.tmp 3), (.const (.int .i64 (1))), (.const (.int .i64 (60)))])), none⟩,
.op ⟨(some 2), (.pure (.mv (.tmp 4))), none⟩])
(.ret)),
[.tmp 2]⟩
theorem r_impl_IsContent : resFun Try.prog f_impl_IsContent = some c_impl_IsContent := by kernel_rfl

/- loop.example/g00940/spec.sgContent -/
abbrev f_spec_sgContent : Nat := 61
def c_spec_sgContent : MFun := ⟨5, .seq (.ops [
.op ⟨(some 2), (.pure (.mv (.const (.bool false)))), none⟩])
(.seq (.ops [
.op ⟨(some 3), (.pure (.mv (.tmp 0))), none⟩,
.op ⟨(some 4), (.eff (.call 52 [(.tmp 3), (.const (.int .i64 (1))), (.const (.int .i64 (60)))])), none⟩,
.op ⟨(some 2), (.pure (.mv (.tmp 4))), none⟩])
(.ret)),
[.tmp 2]⟩
theorem r_spec_sgContent : resFun Try.prog f_spec_sgContent = some c_spec_sgContent := by kernel_rfl

/- loop.example/g00940/spec.l1Same -/
abbrev f_spec_l1Same : Nat := 62
def c_spec_l1Same : MFun := ⟨26, .seq (.ops [
.op ⟨(some 4), (.pure (.mv (.const (.bool false)))), none⟩])
(.seq (.seq (.ops [
.op ⟨(some 6), (.pure (.mv (.tmp 0))), none⟩,
.op ⟨(some 7), (.pure (.len (.tmp 6))), none⟩,
.op ⟨(some 8), (.pure (.mv (.tmp 1))), none⟩,
.op ⟨(some 9), (.pure (.len (.tmp 8))), none⟩,
.op ⟨(some 10), (.pure (.bin .neq (.tmp 7) (.tmp 9))), none⟩])
(.cond (.tmp 10)
(.seq (.ops [
.op ⟨(some 4), (.pure (.mv (.const (.bool false)))), none⟩])
(.ret))
(.skip)))
(.seq (.seq (.ops [
.op ⟨(some 11), (.pure (.mv (.tmp 0))), none⟩,
.op ⟨(some 12), (.pure (.len (.tmp 11))), none⟩,
.op ⟨(some 13), (.pure (.mv (.const (.int .i64 (0))))), none⟩])
(.block 0 (.loop (.seq (.ops [
.op ⟨(some 14), (.pure (.bin .lss (.tmp 13) (.tmp 12))), none⟩])
(.seq (.cond (.tmp 14)
(.skip)
(.exit 0))
(.seq (.block 1 (.seq (.ops [
.op ⟨(some 15), (.pure (.mv (.tmp 13))), none⟩,
.op ⟨(some 5), (.pure (.mv (.tmp 15))), none⟩])
(.seq (.ops [
.op ⟨(some 16), (.pure (.mv (.tmp 0))), none⟩,
.op ⟨(some 17), (.pure (.mv (.tmp 5))), none⟩,
.op ⟨(some 18), (.pure (.idx 1 (.tmp 16) (.tmp 17))), none⟩,
.op ⟨(some 20), (.pure (.mv (.tmp 1))), none⟩,
.op ⟨(some 21), (.pure (.mv (.tmp 5))), none⟩,
.op ⟨(some 22), (.pure (.idx 1 (.tmp 20) (.tmp 21))), none⟩,
.op ⟨(some 19), (.load none (.tmp 18)), none⟩,
.op ⟨(some 23), (.load none (.tmp 22)), none⟩,
.op ⟨(some 24), (.pure (.bin .neq (.tmp 19) (.tmp 23))), none⟩])
(.cond (.tmp 24)
(.seq (.ops [
.op ⟨(some 4), (.pure (.mv (.const (.bool false)))), none⟩])
(.ret))
(.skip)))))
(.ops [
.op ⟨(some 25), (.pure (.bin .add (.tmp 13) (.const (.int .i64 (1))))), none⟩,
.op ⟨(some 13), (.pure (.mv (.tmp 25))), none⟩])))))))
(.seq (.ops [
.op ⟨(some 4), (.pure (.mv (.const (.bool true)))), none⟩])
(.ret)))),
[.tmp 4]⟩
theorem r_spec_l1Same : resFun Try.prog f_spec_l1Same = some c_spec_l1Same := by kernel_rfl

/- slices.IndexFunc[[]loop.example/g00940/impl.Glance,loop.example/g00940/impl.Glance] -/
abbrev f_slices_IndexFunc_Limpl_Glance_impl_Glance : Nat := 63
def c_slices_IndexFunc_Limpl_Glance_impl_Glance : MFun := ⟨19, .seq (.ops [
.op ⟨(some 4), (.pure (.mv (.const (.int .i64 (0))))), none⟩])
(.seq (.seq (.ops [
.op ⟨(some 6), (.pure (.mv (.tmp 0))), none⟩,
.op ⟨(some 7), (.pure (.len (.tmp 6))), none⟩,
.op ⟨(some 8), (.pure (.mv (.const (.int .i64 (0))))), none⟩])
(.block 0 (.loop (.seq (.ops [
.op ⟨(some 9), (.pure (.bin .lss (.tmp 8) (.tmp 7))), none⟩])
(.seq (.cond (.tmp 9)
(.skip)
(.exit 0))
(.seq (.block 1 (.seq (.ops [
.op ⟨(some 10), (.pure (.mv (.tmp 8))), none⟩,
.op ⟨(some 5), (.pure (.mv (.tmp 10))), none⟩])
(.seq (.ops [
.op ⟨(some 11), (.pure (.mv (.tmp 1))), none⟩,
.op ⟨(some 12), (.pure (.mv (.tmp 0))), none⟩,
.op ⟨(some 13), (.pure (.mv (.tmp 5))), none⟩,
.op ⟨(some 14), (.pure (.idx 2 (.tmp 12) (.tmp 13))), none⟩,
.op ⟨(some 15), (.load (some 2) (.tmp 14)), none⟩,
.op ⟨(some 16), (.eff (.callv (.tmp 11) [(.tmp 15)])), none⟩])
(.cond (.tmp 16)
(.seq (.ops [
.op ⟨(some 17), (.pure (.mv (.tmp 5))), none⟩,
.op ⟨(some 4), (.pure (.mv (.tmp 17))), none⟩])
(.ret))
(.skip)))))
(.ops [
.op ⟨(some 18), (.pure (.bin .add (.tmp 8) (.const (.int .i64 (1))))), none⟩,
.op ⟨(some 8), (.pure (.mv (.tmp 18))), none⟩])))))))
(.seq (.ops [
.op ⟨(some 4), (.pure (.mv (.const (.int .i64 (-1))))), none⟩])
(.ret))),
[.tmp 4]⟩
theorem r_slices_IndexFunc_Limpl_Glance_impl_Glance : resFun Try.prog f_slices_IndexFunc_Limpl_Glance_impl_Glance = some c_slices_IndexFunc_Limpl_Glance_impl_Glance := by kernel_rfl

/- loop.example/g00940/spec.rpWaits -/
abbrev f_spec_rpWaits : Nat := 64
def c_spec_rpWaits : MFun := ⟨6, .seq (.ops [
.op ⟨(some 2), (.eff (.new 25 [(.int .i64 (0)), (.int .i64 (0)), (.int .i64 (0)), (.int .i64 (0)), (.slice none 0 0)])), none⟩])
(.seq (.ops [
.op ⟨(some 3), (.pure (.mv (.tmp 0))), none⟩,
.op ⟨(some 4), (.eff (.call 39 [(.tmp 3)])), none⟩,
.op ⟨(some 5), (.pure (.build [(.int .i64 (0)), (.int .i64 (0)), (.int .i64 (0)), (.int .i64 (0)), (.slice none 0 0)] [(4, 1, (.tmp 4))])), none⟩,
.op ⟨none, (.eff (.store 5 (.tmp 2) (.tmp 5))), none⟩])
(.ret)),
[.cell 2 (some 5)]⟩
theorem r_spec_rpWaits : resFun Try.prog f_spec_rpWaits = some c_spec_rpWaits := by kernel_rfl
end Go.Proofs.Ytpbjcaadnbeplaa
