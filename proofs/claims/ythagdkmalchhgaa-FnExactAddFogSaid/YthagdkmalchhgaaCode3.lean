/- The code of this seat's functions, resolved, written by a program of mine; each is held against the given program by the kernel. Condition: none. -/
import Derived.Test.YthagdkmalchhgaaProg
import Derived.Test.YthagdkmalchhgaaBase9
import Derived.KernelRfl
namespace Go.Proofs.Ythagdkmalchhgaa
open Go.Vc

/- loop.example/g00940/spec.neGood -/
abbrev f_spec_neGood : Nat := 107
def c_spec_neGood : MFun := ⟨88, .seq (.ops [
.op ⟨(some 1), (.eff (.box 32 (.tmp 0))), none⟩,
.op ⟨(some 2), (.pure (.mv (.const (.bool false)))), none⟩])
(.seq (.seq (.ops [
.op ⟨(some 7), (.pure (.fieldAddr 0 (.tmp 1))), none⟩,
.op ⟨(some 8), (.load none (.tmp 7)), none⟩,
.op ⟨(some 9), (.pure (.len (.tmp 8))), none⟩,
.op ⟨(some 10), (.pure (.mv (.const (.int .i64 (0))))), none⟩])
(.block 0 (.loop (.seq (.ops [
.op ⟨(some 11), (.pure (.bin .lss (.tmp 10) (.tmp 9))), none⟩])
(.seq (.cond (.tmp 11)
(.skip)
(.exit 0))
(.seq (.block 1 (.seq (.ops [
.op ⟨(some 12), (.pure (.idx 3 (.tmp 8) (.tmp 10))), none⟩,
.op ⟨(some 13), (.load (some 3) (.tmp 12)), none⟩,
.op ⟨(some 4), (.eff (.new 147 [(.int .i64 (0)), (.int .i64 (0)), (.int .i64 (0))])), none⟩,
.op ⟨none, (.eff (.store 3 (.tmp 4) (.tmp 13))), none⟩])
(.seq (.ops [
.op ⟨(some 14), (.pure (.fieldAddr 0 (.tmp 4))), none⟩,
.op ⟨(some 15), (.load none (.tmp 14)), none⟩,
.op ⟨(some 16), (.eff (.call 108 [(.tmp 15), (.const (.int .i64 (0))), (.const (.int .i64 (999)))])), none⟩,
.op ⟨(some 17), (.pure (.bnot (.tmp 16))), none⟩,
.op ⟨(some 18), (.pure (.mv (.tmp 17))), none⟩,
.split 18,
.op ⟨(some 19), (.pure (.fieldAddr 1 (.tmp 4))), (some (18, false))⟩,
.op ⟨(some 20), (.load none (.tmp 19)), (some (18, false))⟩,
.op ⟨(some 21), (.eff (.call 108 [(.tmp 20), (.const (.int .i64 (0))), (.const (.int .i64 (999)))])), (some (18, false))⟩,
.op ⟨(some 22), (.pure (.bnot (.tmp 21))), (some (18, false))⟩,
.op ⟨(some 23), (.pure (.pick (.tmp 18) (.const (.bool true)) (.tmp 22))), none⟩,
.op ⟨(some 24), (.pure (.mv (.tmp 23))), none⟩,
.split 24,
.op ⟨(some 25), (.pure (.fieldAddr 2 (.tmp 4))), (some (24, false))⟩,
.op ⟨(some 26), (.load none (.tmp 25)), (some (24, false))⟩,
.op ⟨(some 27), (.eff (.call 108 [(.tmp 26), (.const (.int .i64 (0))), (.const (.int .i64 (500)))])), (some (24, false))⟩,
.op ⟨(some 28), (.pure (.bnot (.tmp 27))), (some (24, false))⟩,
.op ⟨(some 29), (.pure (.pick (.tmp 24) (.const (.bool true)) (.tmp 28))), none⟩])
(.cond (.tmp 29)
(.seq (.ops [
.op ⟨(some 2), (.pure (.mv (.const (.bool false)))), none⟩])
(.ret))
(.skip)))))
(.ops [
.op ⟨(some 30), (.pure (.bin .add (.tmp 10) (.const (.int .i64 (1))))), none⟩,
.op ⟨(some 10), (.pure (.mv (.tmp 30))), none⟩])))))))
(.seq (.seq (.ops [
.op ⟨(some 31), (.pure (.fieldAddr 1 (.tmp 1))), none⟩,
.op ⟨(some 32), (.load none (.tmp 31)), none⟩,
.op ⟨(some 33), (.pure (.len (.tmp 32))), none⟩,
.op ⟨(some 34), (.pure (.mv (.const (.int .i64 (0))))), none⟩])
(.block 2 (.loop (.seq (.ops [
.op ⟨(some 35), (.pure (.bin .lss (.tmp 34) (.tmp 33))), none⟩])
(.seq (.cond (.tmp 35)
(.skip)
(.exit 2))
(.seq (.block 3 (.seq (.ops [
.op ⟨(some 36), (.pure (.mv (.tmp 34))), none⟩,
.op ⟨(some 37), (.pure (.idx 3 (.tmp 32) (.tmp 34))), none⟩,
.op ⟨(some 38), (.load (some 3) (.tmp 37)), none⟩,
.op ⟨(some 6), (.eff (.new 88 [(.int .i64 (0)), (.int .i64 (0)), (.int .i64 (0))])), none⟩,
.op ⟨(some 5), (.pure (.mv (.tmp 36))), none⟩,
.op ⟨none, (.eff (.store 3 (.tmp 6) (.tmp 38))), none⟩])
(.seq (.draw true
(.take ⟨(some 39), (.pure (.fieldAddr 0 (.tmp 6))), none⟩
(.take ⟨(some 41), (.pure (.fieldAddr 1 (.tmp 6))), none⟩
(.only false ⟨(some 40), (.load none (.tmp 39)), none⟩
(.only false ⟨(some 42), (.load none (.tmp 41)), none⟩
(.take ⟨(some 43), (.pure (.bin .sub (.tmp 42) (.const (.int .i64 (1))))), none⟩
(.only false ⟨(some 44), (.eff (.call 108 [(.tmp 40), (.const (.int .i64 (0))), (.tmp 43)])), none⟩
(.take ⟨(some 45), (.pure (.bnot (.tmp 44))), none⟩
(.take ⟨(some 46), (.pure (.mv (.tmp 45))), none⟩
(.split 46
(.take ⟨(some 47), (.pure (.fieldAddr 1 (.tmp 6))), (some (46, false))⟩
(.take ⟨(some 49), (.pure (.fieldAddr 0 (.tmp 1))), (some (46, false))⟩
(.take ⟨(some 48), (.load none (.tmp 47)), (some (46, false))⟩
(.only false ⟨(some 50), (.load none (.tmp 49)), (some (46, false))⟩
(.take ⟨(some 51), (.pure (.len (.tmp 50))), (some (46, false))⟩
(.take ⟨(some 52), (.pure (.bin .sub (.tmp 51) (.const (.int .i64 (1))))), (some (46, false))⟩
(.only false ⟨(some 53), (.eff (.call 108 [(.tmp 48), (.const (.int .i64 (0))), (.tmp 52)])), (some (46, false))⟩
(.take ⟨(some 54), (.pure (.bnot (.tmp 53))), (some (46, false))⟩
(.take ⟨(some 55), (.pure (.pick (.tmp 46) (.const (.bool true)) (.tmp 54))), none⟩
(.take ⟨(some 56), (.pure (.mv (.tmp 55))), none⟩
(.split 56
(.take ⟨(some 57), (.pure (.fieldAddr 2 (.tmp 6))), (some (56, false))⟩
(.only false ⟨(some 58), (.load none (.tmp 57)), (some (56, false))⟩
(.only false ⟨(some 59), (.eff (.call 108 [(.tmp 58), (.const (.int .i64 (1))), (.const (.int .i64 (60)))])), (some (56, false))⟩
(.take ⟨(some 60), (.pure (.bnot (.tmp 59))), (some (56, false))⟩
(.take ⟨(some 61), (.pure (.pick (.tmp 56) (.const (.bool true)) (.tmp 60))), none⟩
(.take ⟨(some 62), (.pure (.mv (.tmp 61))), none⟩
(.split 62
(.take ⟨(some 63), (.pure (.mv (.tmp 5))), (some (62, false))⟩
(.take ⟨(some 64), (.pure (.bin .gtr (.tmp 63) (.const (.int .i64 (0))))), (some (62, false))⟩
(.take ⟨(some 65), (.pure (.mv (.tmp 64))), (some (62, false))⟩
(.split 65
(.take ⟨(some 66), (.pure (.fieldAddr 1 (.tmp 1))), (some (65, true))⟩
(.take ⟨(some 68), (.pure (.mv (.tmp 5))), (some (65, true))⟩
(.take ⟨(some 69), (.pure (.bin .sub (.tmp 68) (.const (.int .i64 (1))))), (some (65, true))⟩
(.take ⟨(some 67), (.load none (.tmp 66)), (some (65, true))⟩
(.take ⟨(some 70), (.pure (.idx 3 (.tmp 67) (.tmp 69))), (some (65, true))⟩
(.take ⟨(some 71), (.load (some 3) (.tmp 70)), (some (65, true))⟩
(.only false ⟨(some 72), (.load (some 3) (.tmp 6)), (some (65, true))⟩
(.only true ⟨(some 73), (.eff (.call 173 [(.tmp 71), (.tmp 72)])), (some (65, true))⟩
(.take ⟨(some 74), (.pure (.bnot (.tmp 73))), (some (65, true))⟩
(.take ⟨(some 75), (.pure (.pick (.tmp 65) (.tmp 74) (.const (.bool false)))), (some (62, false))⟩
(.take ⟨(some 76), (.pure (.pick (.tmp 62) (.const (.bool true)) (.tmp 75))), none⟩
(.done))))))))))))))))))))))))))))))))))))))))))))
(.cond (.tmp 76)
(.seq (.ops [
.op ⟨(some 2), (.pure (.mv (.const (.bool false)))), none⟩])
(.ret))
(.skip)))))
(.ops [
.op ⟨(some 77), (.pure (.bin .add (.tmp 34) (.const (.int .i64 (1))))), none⟩,
.op ⟨(some 34), (.pure (.mv (.tmp 77))), none⟩])))))))
(.seq (.ops [
.op ⟨(some 78), (.pure (.fieldAddr 0 (.tmp 1))), none⟩,
.op ⟨(some 79), (.load none (.tmp 78)), none⟩,
.op ⟨(some 80), (.pure (.len (.tmp 79))), none⟩,
.op ⟨(some 81), (.eff (.call 108 [(.tmp 80), (.const (.int .i64 (1))), (.const (.int .i64 (16)))])), none⟩,
.op ⟨(some 82), (.pure (.mv (.tmp 81))), none⟩,
.split 82,
.op ⟨(some 83), (.pure (.fieldAddr 1 (.tmp 1))), (some (82, true))⟩,
.op ⟨(some 84), (.load none (.tmp 83)), (some (82, true))⟩,
.op ⟨(some 85), (.pure (.len (.tmp 84))), (some (82, true))⟩,
.op ⟨(some 86), (.pure (.bin .leq (.tmp 85) (.const (.int .i64 (40))))), (some (82, true))⟩,
.op ⟨(some 87), (.pure (.pick (.tmp 82) (.tmp 86) (.const (.bool false)))), none⟩,
.op ⟨(some 2), (.pure (.mv (.tmp 87))), none⟩])
(.ret)))),
[.tmp 2]⟩
theorem r_spec_neGood : resFun Try.prog f_spec_neGood = some c_spec_neGood := by kernel_rfl

/- loop.example/g00940/spec.l1In -/
abbrev f_spec_l1In : Nat := 108
def c_spec_l1In : MFun := ⟨15, .seq (.ops [
.op ⟨(some 6), (.pure (.mv (.const (.bool false)))), none⟩])
(.seq (.ops [
.op ⟨(some 7), (.pure (.mv (.tmp 0))), none⟩,
.op ⟨(some 8), (.pure (.mv (.tmp 1))), none⟩,
.op ⟨(some 9), (.pure (.bin .geq (.tmp 7) (.tmp 8))), none⟩,
.op ⟨(some 10), (.pure (.mv (.tmp 9))), none⟩,
.split 10,
.op ⟨(some 11), (.pure (.mv (.tmp 0))), (some (10, true))⟩,
.op ⟨(some 12), (.pure (.mv (.tmp 2))), (some (10, true))⟩,
.op ⟨(some 13), (.pure (.bin .leq (.tmp 11) (.tmp 12))), (some (10, true))⟩,
.op ⟨(some 14), (.pure (.pick (.tmp 10) (.tmp 13) (.const (.bool false)))), none⟩,
.op ⟨(some 6), (.pure (.mv (.tmp 14))), none⟩])
(.ret)),
[.tmp 6]⟩
theorem r_spec_l1In : resFun Try.prog f_spec_l1In = some c_spec_l1In := by kernel_rfl

/- loop.example/g00940/spec.roWithout -/
abbrev f_spec_roWithout : Nat := 109
def c_spec_roWithout : MFun := ⟨20, .seq (.ops [
.op ⟨(some 2), (.eff (.box 32 (.tmp 0))), none⟩,
.op ⟨(some 4), (.eff (.new 32 [(.slice none 0 0), (.slice none 0 0)])), none⟩])
(.seq (.draw true
(.take ⟨(some 5), (.pure (.fieldAddr 0 (.tmp 2))), none⟩
(.take ⟨(some 8), (.pure (.fieldAddr 1 (.tmp 2))), none⟩
(.take ⟨(some 10), (.pure (.mv (.tmp 1))), none⟩
(.take ⟨(some 13), (.pure (.fieldAddr 1 (.tmp 2))), none⟩
(.take ⟨(some 15), (.pure (.mv (.tmp 1))), none⟩
(.take ⟨(some 16), (.pure (.bin .add (.tmp 15) (.const (.int .i64 (1))))), none⟩
(.take ⟨(some 6), (.load none (.tmp 5)), none⟩
(.take ⟨(some 9), (.load none (.tmp 8)), none⟩
(.take ⟨(some 11), (.pure (.slc 3 (.tmp 9) none (some (.tmp 10)) none)), none⟩
(.take ⟨(some 14), (.load none (.tmp 13)), none⟩
(.take ⟨(some 17), (.pure (.slc 3 (.tmp 14) (some (.tmp 16)) none none)), none⟩
(.only false ⟨(some 7), (.eff (.row 88 0 [] [])), none⟩
(.only false ⟨(some 12), (.eff (.app 88 3 24 (.tmp 7) (.tmp 11))), none⟩
(.only false ⟨(some 18), (.eff (.app 88 3 24 (.tmp 12) (.tmp 17))), none⟩
(.take ⟨(some 19), (.pure (.build [(.slice none 0 0), (.slice none 0 0)] [(0, 1, (.tmp 6)), (1, 1, (.tmp 18))])), none⟩
(.only true ⟨none, (.eff (.store 2 (.tmp 4) (.tmp 19))), none⟩
(.done))))))))))))))))))
(.ret)),
[.cell 4 (some 2)]⟩
theorem r_spec_roWithout : resFun Try.prog f_spec_roWithout = some c_spec_roWithout := by kernel_rfl

/- loop.example/g00940/impl.isLink -/
abbrev f_impl_isLink : Nat := 110
def c_impl_isLink : MFun := ⟨15, .seq (.ops [
.op ⟨(some 2), (.eff (.box 32 (.tmp 0))), none⟩,
.op ⟨(some 4), (.pure (.mv (.const (.bool false)))), none⟩])
(.seq (.ops [
.op ⟨(some 5), (.load (some 2) (.tmp 2)), none⟩,
.op ⟨(some 6), (.eff (.call 127 [(.tmp 5)])), none⟩,
.op ⟨(some 7), (.pure (.mv (.tmp 6))), none⟩,
.split 7,
.op ⟨(some 8), (.pure (.mv (.tmp 1))), (some (7, true))⟩,
.op ⟨(some 9), (.pure (.fieldAddr 1 (.tmp 2))), (some (7, true))⟩,
.op ⟨(some 10), (.load none (.tmp 9)), (some (7, true))⟩,
.op ⟨(some 11), (.pure (.len (.tmp 10))), (some (7, true))⟩,
.op ⟨(some 12), (.pure (.bin .sub (.tmp 11) (.const (.int .i64 (1))))), (some (7, true))⟩,
.op ⟨(some 13), (.eff (.call 129 [(.tmp 8), (.const (.int .i64 (0))), (.tmp 12)])), (some (7, true))⟩,
.op ⟨(some 14), (.pure (.pick (.tmp 7) (.tmp 13) (.const (.bool false)))), none⟩,
.op ⟨(some 4), (.pure (.mv (.tmp 14))), none⟩])
(.ret)),
[.tmp 4]⟩
theorem r_impl_isLink : resFun Try.prog f_impl_isLink = some c_impl_isLink := by kernel_rfl

/- loop.example/g00940/impl.withoutLink -/
abbrev f_impl_withoutLink : Nat := 111
def c_impl_withoutLink : MFun := ⟨15, .seq (.ops [
.op ⟨(some 2), (.eff (.box 32 (.tmp 0))), none⟩,
.op ⟨(some 4), (.eff (.new 32 [(.slice none 0 0), (.slice none 0 0)])), none⟩])
(.seq (.draw true
(.take ⟨(some 5), (.pure (.fieldAddr 0 (.tmp 2))), none⟩
(.take ⟨(some 7), (.pure (.fieldAddr 1 (.tmp 2))), none⟩
(.take ⟨(some 10), (.pure (.mv (.tmp 1))), none⟩
(.take ⟨(some 11), (.pure (.mv (.tmp 1))), none⟩
(.take ⟨(some 12), (.pure (.bin .add (.tmp 11) (.const (.int .i64 (1))))), none⟩
(.only false ⟨(some 8), (.load none (.tmp 7)), none⟩
(.take ⟨(some 6), (.load none (.tmp 5)), none⟩
(.only false ⟨(some 9), (.eff (.call 175 [(.tmp 8)])), none⟩
(.only false ⟨(some 13), (.eff (.call 174 [(.tmp 9), (.tmp 10), (.tmp 12)])), none⟩
(.take ⟨(some 14), (.pure (.build [(.slice none 0 0), (.slice none 0 0)] [(0, 1, (.tmp 6)), (1, 1, (.tmp 13))])), none⟩
(.only true ⟨none, (.eff (.store 2 (.tmp 4) (.tmp 14))), none⟩
(.done)))))))))))))
(.ret)),
[.cell 4 (some 2)]⟩
theorem r_impl_withoutLink : resFun Try.prog f_impl_withoutLink = some c_impl_withoutLink := by kernel_rfl

/- loop.example/g00940/spec.roAsked -/
abbrev f_spec_roAsked : Nat := 112
def c_spec_roAsked : MFun := ⟨25, .seq (.ops [
.op ⟨(some 5), (.eff (.box 32 (.tmp 0))), none⟩,
.op ⟨(some 10), (.pure (.mv (.const (.bool false)))), none⟩])
(.seq (.ops [
.op ⟨(some 11), (.load (some 2) (.tmp 5)), none⟩,
.op ⟨(some 12), (.pure (.mv (.tmp 1))), none⟩,
.op ⟨(some 13), (.pure (.mv (.tmp 4))), none⟩,
.op ⟨(some 14), (.eff (.call 125 [(.tmp 11), (.tmp 12), (.tmp 13)])), none⟩,
.op ⟨(some 15), (.pure (.mv (.tmp 14))), none⟩,
.split 15,
.op ⟨(some 16), (.load (some 2) (.tmp 5)), (some (15, true))⟩,
.op ⟨(some 17), (.pure (.mv (.tmp 2))), (some (15, true))⟩,
.op ⟨(some 18), (.eff (.call 126 [(.tmp 16), (.tmp 17)])), (some (15, true))⟩,
.op ⟨(some 19), (.pure (.pick (.tmp 15) (.tmp 18) (.const (.bool false)))), none⟩,
.op ⟨(some 20), (.pure (.mv (.tmp 19))), none⟩,
.split 20,
.op ⟨(some 21), (.load (some 2) (.tmp 5)), (some (20, true))⟩,
.op ⟨(some 22), (.pure (.mv (.tmp 3))), (some (20, true))⟩,
.op ⟨(some 23), (.eff (.call 126 [(.tmp 21), (.tmp 22)])), (some (20, true))⟩,
.op ⟨(some 24), (.pure (.pick (.tmp 20) (.tmp 23) (.const (.bool false)))), none⟩,
.op ⟨(some 10), (.pure (.mv (.tmp 24))), none⟩])
(.ret)),
[.tmp 10]⟩
theorem r_spec_roAsked : resFun Try.prog f_spec_roAsked = some c_spec_roAsked := by kernel_rfl

/- loop.example/g00940/spec.roFirst -/
abbrev f_spec_roFirst : Nat := 113
def c_spec_roFirst : MFun := ⟨110, .seq (.ops [
.op ⟨(some 4), (.eff (.box 32 (.tmp 0))), none⟩,
.op ⟨(some 8), (.pure (.mv (.const (.slice none 0 0)))), none⟩])
(.seq (.ops [
.op ⟨(some 9), (.pure (.mv (.const (.slice none 0 0)))), none⟩])
(.seq (.seq (.ops [
.op ⟨(some 18), (.pure (.fieldAddr 0 (.tmp 4))), none⟩,
.op ⟨(some 19), (.load none (.tmp 18)), none⟩,
.op ⟨(some 20), (.pure (.len (.tmp 19))), none⟩,
.op ⟨(some 21), (.pure (.mv (.const (.int .i64 (0))))), none⟩])
(.block 0 (.loop (.seq (.ops [
.op ⟨(some 22), (.pure (.bin .lss (.tmp 21) (.tmp 20))), none⟩])
(.seq (.cond (.tmp 22)
(.skip)
(.exit 0))
(.seq (.block 1 (.ops [
.op ⟨(some 23), (.pure (.mv (.tmp 9))), none⟩,
.op ⟨(some 24), (.eff (.row 3 1 [(.int .i64 (0))] [(0, 1, (.const (.int .i64 (-1))))])), none⟩,
.op ⟨(some 25), (.eff (.app 3 1 8 (.tmp 23) (.tmp 24))), none⟩,
.op ⟨(some 9), (.pure (.mv (.tmp 25))), none⟩]))
(.ops [
.op ⟨(some 26), (.pure (.bin .add (.tmp 21) (.const (.int .i64 (1))))), none⟩,
.op ⟨(some 21), (.pure (.mv (.tmp 26))), none⟩])))))))
(.seq (.ops [
.op ⟨(some 27), (.pure (.mv (.tmp 9))), none⟩,
.op ⟨(some 28), (.pure (.mv (.tmp 2))), none⟩,
.op ⟨(some 29), (.pure (.mv (.tmp 3))), none⟩,
.op ⟨(some 30), (.pure (.idx 1 (.tmp 27) (.tmp 28))), none⟩,
.op ⟨none, (.eff (.store 1 (.tmp 30) (.tmp 29))), none⟩])
(.seq (.ops [
.op ⟨(some 31), (.pure (.fieldAddr 0 (.tmp 4))), none⟩,
.op ⟨(some 32), (.load none (.tmp 31)), none⟩,
.op ⟨(some 33), (.pure (.len (.tmp 32))), none⟩,
.op ⟨(some 34), (.eff (.mk 4 1 1 [(.bool false)] (.tmp 33) (.tmp 33))), none⟩,
.op ⟨(some 10), (.pure (.mv (.tmp 34))), none⟩])
(.block 2 (.loop (.block 3 (.seq (.ops [
.op ⟨(some 11), (.pure (.mv (.const (.int .i64 (-1))))), none⟩])
(.seq (.seq (.ops [
.op ⟨(some 35), (.pure (.mv (.tmp 9))), none⟩,
.op ⟨(some 36), (.pure (.len (.tmp 35))), none⟩,
.op ⟨(some 37), (.pure (.mv (.const (.int .i64 (0))))), none⟩])
(.block 4 (.loop (.seq (.ops [
.op ⟨(some 38), (.pure (.bin .lss (.tmp 37) (.tmp 36))), none⟩])
(.seq (.cond (.tmp 38)
(.skip)
(.exit 4))
(.seq (.block 5 (.seq (.ops [
.op ⟨(some 39), (.pure (.mv (.tmp 37))), none⟩,
.op ⟨(some 40), (.pure (.idx 1 (.tmp 35) (.tmp 37))), none⟩,
.op ⟨(some 41), (.load none (.tmp 40)), none⟩,
.op ⟨(some 12), (.pure (.mv (.tmp 39))), none⟩,
.op ⟨(some 13), (.pure (.mv (.tmp 41))), none⟩])
(.seq (.ops [
.op ⟨(some 42), (.pure (.mv (.tmp 10))), none⟩,
.op ⟨(some 43), (.pure (.mv (.tmp 12))), none⟩,
.op ⟨(some 44), (.pure (.idx 1 (.tmp 42) (.tmp 43))), none⟩,
.op ⟨(some 45), (.load none (.tmp 44)), none⟩,
.op ⟨(some 46), (.pure (.bnot (.tmp 45))), none⟩,
.op ⟨(some 47), (.pure (.mv (.tmp 46))), none⟩,
.split 47,
.op ⟨(some 48), (.pure (.mv (.tmp 13))), (some (47, true))⟩,
.op ⟨(some 49), (.pure (.bin .geq (.tmp 48) (.const (.int .i64 (0))))), (some (47, true))⟩,
.op ⟨(some 50), (.pure (.pick (.tmp 47) (.tmp 49) (.const (.bool false)))), none⟩,
.op ⟨(some 51), (.pure (.mv (.tmp 50))), none⟩,
.split 51,
.op ⟨(some 52), (.pure (.mv (.tmp 11))), (some (51, true))⟩,
.op ⟨(some 53), (.pure (.bin .lss (.tmp 52) (.const (.int .i64 (0))))), (some (51, true))⟩,
.op ⟨(some 54), (.pure (.mv (.tmp 53))), (some (51, true))⟩,
.split 54,
.op ⟨(some 55), (.pure (.mv (.tmp 13))), (some (54, false))⟩,
.op ⟨(some 56), (.pure (.mv (.tmp 9))), (some (54, false))⟩,
.op ⟨(some 57), (.pure (.mv (.tmp 11))), (some (54, false))⟩,
.op ⟨(some 58), (.pure (.idx 1 (.tmp 56) (.tmp 57))), (some (54, false))⟩,
.op ⟨(some 59), (.load none (.tmp 58)), (some (54, false))⟩,
.op ⟨(some 60), (.pure (.bin .lss (.tmp 55) (.tmp 59))), (some (54, false))⟩,
.op ⟨(some 61), (.pure (.pick (.tmp 54) (.const (.bool true)) (.tmp 60))), (some (51, true))⟩,
.op ⟨(some 62), (.pure (.pick (.tmp 51) (.tmp 61) (.const (.bool false)))), none⟩])
(.cond (.tmp 62)
(.ops [
.op ⟨(some 63), (.pure (.mv (.tmp 12))), none⟩,
.op ⟨(some 11), (.pure (.mv (.tmp 63))), none⟩])
(.skip)))))
(.ops [
.op ⟨(some 64), (.pure (.bin .add (.tmp 37) (.const (.int .i64 (1))))), none⟩,
.op ⟨(some 37), (.pure (.mv (.tmp 64))), none⟩])))))))
(.seq (.seq (.ops [
.op ⟨(some 65), (.pure (.mv (.tmp 11))), none⟩,
.op ⟨(some 66), (.pure (.bin .lss (.tmp 65) (.const (.int .i64 (0))))), none⟩])
(.cond (.tmp 66)
(.seq (.ops [
.op ⟨(some 67), (.pure (.mv (.tmp 9))), none⟩,
.op ⟨(some 8), (.pure (.mv (.tmp 67))), none⟩])
(.ret))
(.skip)))
(.seq (.ops [
.op ⟨(some 68), (.pure (.mv (.tmp 10))), none⟩,
.op ⟨(some 69), (.pure (.mv (.tmp 11))), none⟩,
.op ⟨(some 70), (.pure (.idx 1 (.tmp 68) (.tmp 69))), none⟩,
.op ⟨none, (.eff (.store 1 (.tmp 70) (.const (.bool true)))), none⟩])
(.seq (.ops [
.op ⟨(some 71), (.pure (.fieldAddr 1 (.tmp 4))), none⟩,
.op ⟨(some 72), (.load none (.tmp 71)), none⟩,
.op ⟨(some 73), (.pure (.len (.tmp 72))), none⟩,
.op ⟨(some 74), (.pure (.mv (.const (.int .i64 (0))))), none⟩])
(.block 6 (.loop (.seq (.ops [
.op ⟨(some 75), (.pure (.bin .lss (.tmp 74) (.tmp 73))), none⟩])
(.seq (.cond (.tmp 75)
(.skip)
(.exit 6))
(.seq (.block 7 (.seq (.ops [
.op ⟨(some 76), (.pure (.mv (.tmp 74))), none⟩,
.op ⟨(some 77), (.pure (.idx 3 (.tmp 72) (.tmp 74))), none⟩,
.op ⟨(some 78), (.load (some 3) (.tmp 77)), none⟩,
.op ⟨(some 15), (.eff (.new 88 [(.int .i64 (0)), (.int .i64 (0)), (.int .i64 (0))])), none⟩,
.op ⟨(some 14), (.pure (.mv (.tmp 76))), none⟩,
.op ⟨none, (.eff (.store 3 (.tmp 15) (.tmp 78))), none⟩])
(.seq (.ops [
.op ⟨(some 79), (.load (some 3) (.tmp 15)), none⟩,
.op ⟨(some 80), (.pure (.mv (.tmp 11))), none⟩,
.op ⟨(some 81), (.eff (.call 176 [(.tmp 79), (.tmp 80)])), none⟩,
.op ⟨(some 16), (.pure (.mv (.tmp 81))), none⟩])
(.seq (.seq (.ops [
.op ⟨(some 82), (.pure (.mv (.tmp 16))), none⟩,
.op ⟨(some 83), (.pure (.bin .lss (.tmp 82) (.const (.int .i64 (0))))), none⟩])
(.cond (.tmp 83)
(.exit 7)
(.skip)))
(.seq (.draw false
(.take ⟨(some 85), (.pure (.mv (.tmp 1))), none⟩
(.take ⟨(some 86), (.pure (.mv (.tmp 14))), none⟩
(.take ⟨(some 87), (.pure (.mv (.tmp 9))), none⟩
(.take ⟨(some 88), (.pure (.mv (.tmp 11))), none⟩
(.take ⟨(some 89), (.pure (.idx 1 (.tmp 87) (.tmp 88))), none⟩
(.only false ⟨(some 84), (.load (some 2) (.tmp 4)), none⟩
(.only false ⟨(some 90), (.load none (.tmp 89)), none⟩
(.only true ⟨(some 91), (.eff (.call 177 [(.tmp 84), (.tmp 85), (.tmp 86), (.tmp 90)])), none⟩
(.take ⟨(some 17), (.pure (.mv (.tmp 91))), none⟩
(.done)))))))))))
(.seq (.ops [
.op ⟨(some 92), (.pure (.mv (.tmp 9))), none⟩,
.op ⟨(some 93), (.pure (.mv (.tmp 16))), none⟩,
.op ⟨(some 94), (.pure (.idx 1 (.tmp 92) (.tmp 93))), none⟩,
.op ⟨(some 95), (.load none (.tmp 94)), none⟩,
.op ⟨(some 96), (.pure (.bin .lss (.tmp 95) (.const (.int .i64 (0))))), none⟩,
.op ⟨(some 97), (.pure (.mv (.tmp 96))), none⟩,
.split 97,
.op ⟨(some 98), (.pure (.mv (.tmp 17))), (some (97, false))⟩,
.op ⟨(some 99), (.pure (.mv (.tmp 9))), (some (97, false))⟩,
.op ⟨(some 100), (.pure (.mv (.tmp 16))), (some (97, false))⟩,
.op ⟨(some 101), (.pure (.idx 1 (.tmp 99) (.tmp 100))), (some (97, false))⟩,
.op ⟨(some 102), (.load none (.tmp 101)), (some (97, false))⟩,
.op ⟨(some 103), (.pure (.bin .lss (.tmp 98) (.tmp 102))), (some (97, false))⟩,
.op ⟨(some 104), (.pure (.pick (.tmp 97) (.const (.bool true)) (.tmp 103))), none⟩])
(.cond (.tmp 104)
(.ops [
.op ⟨(some 105), (.pure (.mv (.tmp 9))), none⟩,
.op ⟨(some 106), (.pure (.mv (.tmp 16))), none⟩,
.op ⟨(some 107), (.pure (.mv (.tmp 17))), none⟩,
.op ⟨(some 108), (.pure (.idx 1 (.tmp 105) (.tmp 106))), none⟩,
.op ⟨none, (.eff (.store 1 (.tmp 108) (.tmp 107))), none⟩])
(.skip))))))))
(.ops [
.op ⟨(some 109), (.pure (.bin .add (.tmp 74) (.const (.int .i64 (1))))), none⟩,
.op ⟨(some 74), (.pure (.mv (.tmp 109))), none⟩])))))))))))))))))),
[.tmp 8]⟩
theorem r_spec_roFirst : resFun Try.prog f_spec_roFirst = some c_spec_roFirst := by kernel_rfl

/- loop.example/g00940/spec.l1Most -/
abbrev f_spec_l1Most : Nat := 114
def c_spec_l1Most : MFun := ⟨10, .seq (.ops [
.op ⟨(some 4), (.pure (.mv (.const (.int .i64 (0))))), none⟩])
(.seq (.seq (.ops [
.op ⟨(some 5), (.pure (.mv (.tmp 0))), none⟩,
.op ⟨(some 6), (.pure (.mv (.tmp 1))), none⟩,
.op ⟨(some 7), (.pure (.bin .gtr (.tmp 5) (.tmp 6))), none⟩])
(.cond (.tmp 7)
(.seq (.ops [
.op ⟨(some 8), (.pure (.mv (.tmp 0))), none⟩,
.op ⟨(some 4), (.pure (.mv (.tmp 8))), none⟩])
(.ret))
(.skip)))
(.seq (.ops [
.op ⟨(some 9), (.pure (.mv (.tmp 1))), none⟩,
.op ⟨(some 4), (.pure (.mv (.tmp 9))), none⟩])
(.ret))),
[.tmp 4]⟩
theorem r_spec_l1Most : resFun Try.prog f_spec_l1Most = some c_spec_l1Most := by kernel_rfl

/- loop.example/g00940/impl.wayAsked -/
abbrev f_impl_wayAsked : Nat := 115
def c_impl_wayAsked : MFun := ⟨28, .seq (.ops [
.op ⟨(some 5), (.eff (.box 32 (.tmp 0))), none⟩,
.op ⟨(some 10), (.pure (.mv (.const (.bool false)))), none⟩])
(.seq (.ops [
.op ⟨(some 11), (.load (some 2) (.tmp 5)), none⟩,
.op ⟨(some 12), (.pure (.mv (.tmp 2))), none⟩,
.op ⟨(some 13), (.eff (.call 103 [(.tmp 11), (.tmp 12)])), none⟩,
.op ⟨(some 14), (.pure (.mv (.tmp 13))), none⟩,
.split 14,
.op ⟨(some 15), (.load (some 2) (.tmp 5)), (some (14, true))⟩,
.op ⟨(some 16), (.pure (.mv (.tmp 3))), (some (14, true))⟩,
.op ⟨(some 17), (.eff (.call 103 [(.tmp 15), (.tmp 16)])), (some (14, true))⟩,
.op ⟨(some 18), (.pure (.pick (.tmp 14) (.tmp 17) (.const (.bool false)))), none⟩,
.op ⟨(some 19), (.pure (.mv (.tmp 18))), none⟩,
.split 19,
.op ⟨(some 20), (.load (some 2) (.tmp 5)), (some (19, true))⟩,
.op ⟨(some 21), (.pure (.mv (.tmp 1))), (some (19, true))⟩,
.op ⟨(some 22), (.eff (.call 128 [(.tmp 20), (.tmp 21)])), (some (19, true))⟩,
.op ⟨(some 23), (.pure (.pick (.tmp 19) (.tmp 22) (.const (.bool false)))), none⟩,
.op ⟨(some 24), (.pure (.mv (.tmp 23))), none⟩,
.split 24,
.op ⟨(some 25), (.pure (.mv (.tmp 4))), (some (24, true))⟩,
.op ⟨(some 26), (.eff (.call 129 [(.tmp 25), (.const (.int .i64 (0))), (.const (.int .i64 (10000)))])), (some (24, true))⟩,
.op ⟨(some 27), (.pure (.pick (.tmp 24) (.tmp 26) (.const (.bool false)))), none⟩,
.op ⟨(some 10), (.pure (.mv (.tmp 27))), none⟩])
(.ret)),
[.tmp 10]⟩
theorem r_impl_wayAsked : resFun Try.prog f_impl_wayAsked = some c_impl_wayAsked := by kernel_rfl

/- loop.example/g00940/impl.arrivals -/
abbrev f_impl_arrivals : Nat := 116
def c_impl_arrivals : MFun := ⟨96, .seq (.ops [
.op ⟨(some 4), (.eff (.box 32 (.tmp 0))), none⟩,
.op ⟨(some 8), (.pure (.mv (.const (.slice none 0 0)))), none⟩])
(.seq (.ops [
.op ⟨(some 19), (.pure (.fieldAddr 0 (.tmp 4))), none⟩,
.op ⟨(some 20), (.load none (.tmp 19)), none⟩,
.op ⟨(some 21), (.pure (.len (.tmp 20))), none⟩,
.op ⟨(some 22), (.eff (.mk 3 1 8 [(.int .i64 (0))] (.tmp 21) (.tmp 21))), none⟩,
.op ⟨(some 9), (.pure (.mv (.tmp 22))), none⟩])
(.seq (.seq (.ops [
.op ⟨(some 23), (.pure (.mv (.tmp 9))), none⟩,
.op ⟨(some 24), (.pure (.len (.tmp 23))), none⟩,
.op ⟨(some 25), (.pure (.mv (.const (.int .i64 (0))))), none⟩])
(.block 0 (.loop (.seq (.ops [
.op ⟨(some 26), (.pure (.bin .lss (.tmp 25) (.tmp 24))), none⟩])
(.seq (.cond (.tmp 26)
(.skip)
(.exit 0))
(.seq (.block 1 (.seq (.ops [
.op ⟨(some 27), (.pure (.mv (.tmp 25))), none⟩,
.op ⟨(some 10), (.pure (.mv (.tmp 27))), none⟩])
(.ops [
.op ⟨(some 28), (.pure (.mv (.tmp 9))), none⟩,
.op ⟨(some 29), (.pure (.mv (.tmp 10))), none⟩,
.op ⟨(some 30), (.pure (.idx 1 (.tmp 28) (.tmp 29))), none⟩,
.op ⟨none, (.eff (.store 1 (.tmp 30) (.const (.int .i64 (-1))))), none⟩])))
(.ops [
.op ⟨(some 31), (.pure (.bin .add (.tmp 25) (.const (.int .i64 (1))))), none⟩,
.op ⟨(some 25), (.pure (.mv (.tmp 31))), none⟩])))))))
(.seq (.ops [
.op ⟨(some 32), (.pure (.mv (.tmp 9))), none⟩,
.op ⟨(some 33), (.pure (.mv (.tmp 2))), none⟩,
.op ⟨(some 34), (.pure (.mv (.tmp 3))), none⟩,
.op ⟨(some 35), (.pure (.idx 1 (.tmp 32) (.tmp 33))), none⟩,
.op ⟨none, (.eff (.store 1 (.tmp 35) (.tmp 34))), none⟩])
(.seq (.seq (.ops [
.op ⟨(some 11), (.pure (.mv (.const (.bool true)))), none⟩])
(.block 2 (.loop (.seq (.seq (.ops [
.op ⟨(some 36), (.pure (.mv (.tmp 11))), none⟩])
(.cond (.tmp 36)
(.skip)
(.exit 2)))
(.block 3 (.seq (.ops [
.op ⟨(some 11), (.pure (.mv (.const (.bool false)))), none⟩])
(.seq (.ops [
.op ⟨(some 37), (.pure (.fieldAddr 1 (.tmp 4))), none⟩,
.op ⟨(some 38), (.load none (.tmp 37)), none⟩,
.op ⟨(some 39), (.pure (.len (.tmp 38))), none⟩,
.op ⟨(some 40), (.pure (.mv (.const (.int .i64 (0))))), none⟩])
(.block 4 (.loop (.seq (.ops [
.op ⟨(some 41), (.pure (.bin .lss (.tmp 40) (.tmp 39))), none⟩])
(.seq (.cond (.tmp 41)
(.skip)
(.exit 4))
(.seq (.block 5 (.seq (.ops [
.op ⟨(some 42), (.pure (.mv (.tmp 40))), none⟩,
.op ⟨(some 43), (.pure (.idx 3 (.tmp 38) (.tmp 40))), none⟩,
.op ⟨(some 44), (.load (some 3) (.tmp 43)), none⟩,
.op ⟨(some 13), (.eff (.new 88 [(.int .i64 (0)), (.int .i64 (0)), (.int .i64 (0))])), none⟩,
.op ⟨(some 12), (.pure (.mv (.tmp 42))), none⟩,
.op ⟨none, (.eff (.store 3 (.tmp 13) (.tmp 44))), none⟩])
(.seq (.ops [
.op ⟨(some 45), (.pure (.fieldAddr 0 (.tmp 13))), none⟩,
.op ⟨(some 46), (.load none (.tmp 45)), none⟩,
.op ⟨(some 47), (.pure (.fieldAddr 1 (.tmp 13))), none⟩,
.op ⟨(some 48), (.load none (.tmp 47)), none⟩,
.op ⟨(some 49), (.pure (.build [(.int .i64 (0)), (.int .i64 (0))] [(0, 1, (.tmp 46)), (1, 1, (.tmp 48))])), none⟩,
.op ⟨(some 50), (.pure (.fieldAddr 1 (.tmp 13))), none⟩,
.op ⟨(some 51), (.load none (.tmp 50)), none⟩,
.op ⟨(some 52), (.pure (.fieldAddr 0 (.tmp 13))), none⟩,
.op ⟨(some 53), (.load none (.tmp 52)), none⟩,
.op ⟨(some 54), (.pure (.build [(.int .i64 (0)), (.int .i64 (0))] [(0, 1, (.tmp 51)), (1, 1, (.tmp 53))])), none⟩,
.op ⟨(some 55), (.pure (.build [(.int .i64 (0)), (.int .i64 (0)), (.int .i64 (0)), (.int .i64 (0))] [(0, 2, (.tmp 49)), (2, 2, (.tmp 54))])), none⟩,
.op ⟨(some 56), (.pure (.mv (.const (.int .i64 (0))))), none⟩])
(.block 6 (.loop (.seq (.ops [
.op ⟨(some 57), (.pure (.bin .lss (.tmp 56) (.const (.int .i64 (2))))), none⟩])
(.seq (.cond (.tmp 57)
(.skip)
(.exit 6))
(.seq (.block 7 (.seq (.ops [
.op ⟨(some 58), (.pure (.arr 2 2 (some 2) (.tmp 55) (.tmp 56))), none⟩,
.op ⟨(some 15), (.eff (.new 158 [(.int .i64 (0)), (.int .i64 (0))])), none⟩,
.op ⟨none, (.eff (.store 2 (.tmp 15) (.tmp 58))), none⟩])
(.seq (.ops [
.op ⟨(some 59), (.pure (.idxA 2 1 (.tmp 15) (.const (.int .i64 (0))))), none⟩,
.op ⟨(some 61), (.pure (.idxA 2 1 (.tmp 15) (.const (.int .i64 (1))))), none⟩,
.op ⟨(some 60), (.load none (.tmp 59)), none⟩,
.op ⟨(some 16), (.pure (.mv (.tmp 60))), none⟩,
.op ⟨(some 62), (.load none (.tmp 61)), none⟩,
.op ⟨(some 17), (.pure (.mv (.tmp 62))), none⟩])
(.seq (.seq (.ops [
.op ⟨(some 63), (.pure (.mv (.tmp 9))), none⟩,
.op ⟨(some 64), (.pure (.mv (.tmp 16))), none⟩,
.op ⟨(some 65), (.pure (.idx 1 (.tmp 63) (.tmp 64))), none⟩,
.op ⟨(some 66), (.load none (.tmp 65)), none⟩,
.op ⟨(some 67), (.pure (.bin .lss (.tmp 66) (.const (.int .i64 (0))))), none⟩])
(.cond (.tmp 67)
(.exit 7)
(.skip)))
(.seq (.draw false
(.take ⟨(some 69), (.pure (.mv (.tmp 1))), none⟩
(.take ⟨(some 70), (.pure (.mv (.tmp 12))), none⟩
(.take ⟨(some 71), (.pure (.mv (.tmp 9))), none⟩
(.take ⟨(some 72), (.pure (.mv (.tmp 16))), none⟩
(.take ⟨(some 73), (.pure (.idx 1 (.tmp 71) (.tmp 72))), none⟩
(.only false ⟨(some 68), (.load (some 2) (.tmp 4)), none⟩
(.only false ⟨(some 74), (.load none (.tmp 73)), none⟩
(.only true ⟨(some 75), (.eff (.call 131 [(.tmp 68), (.tmp 69), (.tmp 70), (.tmp 74)])), none⟩
(.take ⟨(some 18), (.pure (.mv (.tmp 75))), none⟩
(.done)))))))))))
(.seq (.ops [
.op ⟨(some 76), (.pure (.mv (.tmp 9))), none⟩,
.op ⟨(some 77), (.pure (.mv (.tmp 17))), none⟩,
.op ⟨(some 78), (.pure (.idx 1 (.tmp 76) (.tmp 77))), none⟩,
.op ⟨(some 79), (.load none (.tmp 78)), none⟩,
.op ⟨(some 80), (.pure (.bin .lss (.tmp 79) (.const (.int .i64 (0))))), none⟩,
.op ⟨(some 81), (.pure (.mv (.tmp 80))), none⟩,
.split 81,
.op ⟨(some 82), (.pure (.mv (.tmp 18))), (some (81, false))⟩,
.op ⟨(some 83), (.pure (.mv (.tmp 9))), (some (81, false))⟩,
.op ⟨(some 84), (.pure (.mv (.tmp 17))), (some (81, false))⟩,
.op ⟨(some 85), (.pure (.idx 1 (.tmp 83) (.tmp 84))), (some (81, false))⟩,
.op ⟨(some 86), (.load none (.tmp 85)), (some (81, false))⟩,
.op ⟨(some 87), (.pure (.bin .lss (.tmp 82) (.tmp 86))), (some (81, false))⟩,
.op ⟨(some 88), (.pure (.pick (.tmp 81) (.const (.bool true)) (.tmp 87))), none⟩])
(.cond (.tmp 88)
(.ops [
.op ⟨(some 89), (.pure (.mv (.tmp 9))), none⟩,
.op ⟨(some 90), (.pure (.mv (.tmp 17))), none⟩,
.op ⟨(some 91), (.pure (.mv (.tmp 18))), none⟩,
.op ⟨(some 92), (.pure (.idx 1 (.tmp 89) (.tmp 90))), none⟩,
.op ⟨none, (.eff (.store 1 (.tmp 92) (.tmp 91))), none⟩,
.op ⟨(some 11), (.pure (.mv (.const (.bool true)))), none⟩])
(.skip))))))))
(.ops [
.op ⟨(some 93), (.pure (.bin .add (.tmp 56) (.const (.int .i64 (1))))), none⟩,
.op ⟨(some 56), (.pure (.mv (.tmp 93))), none⟩])))))))))
(.ops [
.op ⟨(some 94), (.pure (.bin .add (.tmp 40) (.const (.int .i64 (1))))), none⟩,
.op ⟨(some 40), (.pure (.mv (.tmp 94))), none⟩])))))))))))))
(.seq (.ops [
.op ⟨(some 95), (.pure (.mv (.tmp 9))), none⟩,
.op ⟨(some 8), (.pure (.mv (.tmp 95))), none⟩])
(.ret)))))),
[.tmp 8]⟩
theorem r_impl_arrivals : resFun Try.prog f_impl_arrivals = some c_impl_arrivals := by kernel_rfl

/- loop.example/g00940/laws.eqFog -/
abbrev f_laws_eqFog : Nat := 117
def c_laws_eqFog : MFun := ⟨20, .seq (.ops [
.op ⟨(some 2), (.eff (.box 96 (.tmp 0))), none⟩,
.op ⟨(some 3), (.eff (.box 96 (.tmp 1))), none⟩,
.op ⟨(some 4), (.pure (.mv (.const (.bool false)))), none⟩])
(.seq (.seq (.ops [
.op ⟨(some 5), (.pure (.fieldAddr 0 (.tmp 2))), none⟩,
.op ⟨(some 6), (.load none (.tmp 5)), none⟩,
.op ⟨(some 7), (.pure (.fieldAddr 0 (.tmp 3))), none⟩,
.op ⟨(some 8), (.load none (.tmp 7)), none⟩,
.op ⟨(some 9), (.pure (.bin .neq (.tmp 6) (.tmp 8))), none⟩])
(.cond (.tmp 9)
(.seq (.ops [
.op ⟨(some 4), (.pure (.mv (.const (.bool false)))), none⟩])
(.ret))
(.skip)))
(.seq (.seq (.ops [
.op ⟨(some 10), (.pure (.fieldAddr 1 (.tmp 2))), none⟩,
.op ⟨(some 11), (.load none (.tmp 10)), none⟩,
.op ⟨(some 12), (.pure (.fieldAddr 1 (.tmp 3))), none⟩,
.op ⟨(some 13), (.load none (.tmp 12)), none⟩,
.op ⟨(some 14), (.pure (.bin .neq (.tmp 11) (.tmp 13))), none⟩])
(.cond (.tmp 14)
(.seq (.ops [
.op ⟨(some 4), (.pure (.mv (.const (.bool false)))), none⟩])
(.ret))
(.skip)))
(.seq (.seq (.ops [
.op ⟨(some 15), (.pure (.fieldAddr 2 (.tmp 2))), none⟩,
.op ⟨(some 16), (.load none (.tmp 15)), none⟩,
.op ⟨(some 17), (.pure (.fieldAddr 2 (.tmp 3))), none⟩,
.op ⟨(some 18), (.load none (.tmp 17)), none⟩,
.op ⟨(some 19), (.pure (.bin .neq (.tmp 16) (.tmp 18))), none⟩])
(.cond (.tmp 19)
(.seq (.ops [
.op ⟨(some 4), (.pure (.mv (.const (.bool false)))), none⟩])
(.ret))
(.skip)))
(.seq (.ops [
.op ⟨(some 4), (.pure (.mv (.const (.bool true)))), none⟩])
(.ret))))),
[.tmp 4]⟩
theorem r_laws_eqFog : resFun Try.prog f_laws_eqFog = some c_laws_eqFog := by kernel_rfl

/- loop.example/g00940/spec.fgSpan -/
abbrev f_spec_fgSpan : Nat := 118
def c_spec_fgSpan : MFun := ⟨28, .seq (.ops [
.op ⟨(some 5), (.eff (.box 32 (.tmp 0))), none⟩,
.op ⟨(some 10), (.pure (.mv (.const (.bool false)))), none⟩])
(.seq (.ops [
.op ⟨(some 11), (.load (some 2) (.tmp 5)), none⟩,
.op ⟨(some 12), (.pure (.mv (.tmp 1))), none⟩,
.op ⟨(some 13), (.pure (.mv (.tmp 2))), none⟩,
.op ⟨(some 14), (.eff (.call 139 [(.tmp 11), (.tmp 12), (.tmp 13)])), none⟩,
.op ⟨(some 15), (.pure (.mv (.tmp 14))), none⟩,
.split 15,
.op ⟨(some 16), (.pure (.mv (.tmp 3))), (some (15, true))⟩,
.op ⟨(some 17), (.eff (.call 140 [(.tmp 16)])), (some (15, true))⟩,
.op ⟨(some 18), (.pure (.pick (.tmp 15) (.tmp 17) (.const (.bool false)))), none⟩,
.op ⟨(some 19), (.pure (.mv (.tmp 18))), none⟩,
.split 19,
.op ⟨(some 20), (.pure (.mv (.tmp 4))), (some (19, true))⟩,
.op ⟨(some 21), (.eff (.call 140 [(.tmp 20)])), (some (19, true))⟩,
.op ⟨(some 22), (.pure (.pick (.tmp 19) (.tmp 21) (.const (.bool false)))), none⟩,
.op ⟨(some 23), (.pure (.mv (.tmp 22))), none⟩,
.split 23,
.op ⟨(some 24), (.pure (.mv (.tmp 3))), (some (23, true))⟩,
.op ⟨(some 25), (.pure (.mv (.tmp 4))), (some (23, true))⟩,
.op ⟨(some 26), (.pure (.bin .leq (.tmp 24) (.tmp 25))), (some (23, true))⟩,
.op ⟨(some 27), (.pure (.pick (.tmp 23) (.tmp 26) (.const (.bool false)))), none⟩,
.op ⟨(some 10), (.pure (.mv (.tmp 27))), none⟩])
(.ret)),
[.tmp 10]⟩
theorem r_spec_fgSpan : resFun Try.prog f_spec_fgSpan = some c_spec_fgSpan := by kernel_rfl

/- loop.example/g00940/spec.l1Least -/
abbrev f_spec_l1Least : Nat := 119
def c_spec_l1Least : MFun := ⟨10, .seq (.ops [
.op ⟨(some 4), (.pure (.mv (.const (.int .i64 (0))))), none⟩])
(.seq (.seq (.ops [
.op ⟨(some 5), (.pure (.mv (.tmp 0))), none⟩,
.op ⟨(some 6), (.pure (.mv (.tmp 1))), none⟩,
.op ⟨(some 7), (.pure (.bin .lss (.tmp 5) (.tmp 6))), none⟩])
(.cond (.tmp 7)
(.seq (.ops [
.op ⟨(some 8), (.pure (.mv (.tmp 0))), none⟩,
.op ⟨(some 4), (.pure (.mv (.tmp 8))), none⟩])
(.ret))
(.skip)))
(.seq (.ops [
.op ⟨(some 9), (.pure (.mv (.tmp 1))), none⟩,
.op ⟨(some 4), (.pure (.mv (.tmp 9))), none⟩])
(.ret))),
[.tmp 4]⟩
theorem r_spec_l1Least : resFun Try.prog f_spec_l1Least = some c_spec_l1Least := by kernel_rfl

/- loop.example/g00940/impl.fogAsked -/
abbrev f_impl_fogAsked : Nat := 120
def c_impl_fogAsked : MFun := ⟨32, .seq (.ops [
.op ⟨(some 5), (.eff (.box 32 (.tmp 0))), none⟩,
.op ⟨(some 10), (.pure (.mv (.const (.bool false)))), none⟩])
(.seq (.ops [
.op ⟨(some 11), (.load (some 2) (.tmp 5)), none⟩,
.op ⟨(some 12), (.pure (.mv (.tmp 2))), none⟩,
.op ⟨(some 13), (.eff (.call 110 [(.tmp 11), (.tmp 12)])), none⟩,
.op ⟨(some 14), (.pure (.mv (.tmp 13))), none⟩,
.split 14,
.op ⟨(some 15), (.load (some 2) (.tmp 5)), (some (14, true))⟩,
.op ⟨(some 16), (.pure (.mv (.tmp 1))), (some (14, true))⟩,
.op ⟨(some 17), (.eff (.call 128 [(.tmp 15), (.tmp 16)])), (some (14, true))⟩,
.op ⟨(some 18), (.pure (.pick (.tmp 14) (.tmp 17) (.const (.bool false)))), none⟩,
.op ⟨(some 19), (.pure (.mv (.tmp 18))), none⟩,
.split 19,
.op ⟨(some 20), (.pure (.mv (.tmp 3))), (some (19, true))⟩,
.op ⟨(some 21), (.pure (.bin .geq (.tmp 20) (.const (.int .i64 (0))))), (some (19, true))⟩,
.op ⟨(some 22), (.pure (.pick (.tmp 19) (.tmp 21) (.const (.bool false)))), none⟩,
.op ⟨(some 23), (.pure (.mv (.tmp 22))), none⟩,
.split 23,
.op ⟨(some 24), (.pure (.mv (.tmp 3))), (some (23, true))⟩,
.op ⟨(some 25), (.pure (.mv (.tmp 4))), (some (23, true))⟩,
.op ⟨(some 26), (.pure (.bin .leq (.tmp 24) (.tmp 25))), (some (23, true))⟩,
.op ⟨(some 27), (.pure (.pick (.tmp 23) (.tmp 26) (.const (.bool false)))), none⟩,
.op ⟨(some 28), (.pure (.mv (.tmp 27))), none⟩,
.split 28,
.op ⟨(some 29), (.pure (.mv (.tmp 4))), (some (28, true))⟩,
.op ⟨(some 30), (.pure (.bin .leq (.tmp 29) (.const (.int .i64 (10000))))), (some (28, true))⟩,
.op ⟨(some 31), (.pure (.pick (.tmp 28) (.tmp 30) (.const (.bool false)))), none⟩,
.op ⟨(some 10), (.pure (.mv (.tmp 31))), none⟩])
(.ret)),
[.tmp 10]⟩
theorem r_impl_fogAsked : resFun Try.prog f_impl_fogAsked = some c_impl_fogAsked := by kernel_rfl

/- loop.example/g00940/laws.markTowerS -/
abbrev f_laws_markTowerS : Nat := 121
def c_laws_markTowerS : MFun := ⟨34, .seq (.ops [
.op ⟨(some 4), (.pure (.mv (.const (.int .i64 (0))))), none⟩])
(.seq (.seq (.ops [
.op ⟨(some 5), (.pure (.mv (.const (.int .i64 (0))))), none⟩])
(.block 0 (.loop (.seq (.seq (.ops [
.op ⟨(some 6), (.pure (.mv (.tmp 5))), none⟩,
.op ⟨(some 7), (.pure (.mv (.tmp 0))), none⟩,
.op ⟨(some 8), (.pure (.len (.tmp 7))), none⟩,
.op ⟨(some 9), (.pure (.bin .lss (.tmp 6) (.tmp 8))), none⟩])
(.cond (.tmp 9)
(.skip)
(.exit 0)))
(.seq (.block 1 (.seq (.ops [
.op ⟨(some 12), (.pure (.mv (.tmp 0))), none⟩,
.op ⟨(some 13), (.pure (.mv (.tmp 5))), none⟩,
.op ⟨(some 14), (.pure (.mv (.tmp 1))), none⟩,
.op ⟨(some 15), (.pure (.idx 3 (.tmp 12) (.tmp 13))), none⟩,
.op ⟨(some 16), (.pure (.fieldAddr 0 (.tmp 15))), none⟩,
.op ⟨none, (.eff (.store 1 (.tmp 16) (.tmp 14))), none⟩])
(.seq (.ops [
.op ⟨(some 17), (.pure (.mv (.tmp 1))), none⟩,
.op ⟨(some 18), (.pure (.bin .add (.tmp 17) (.const (.int .i64 (1))))), none⟩,
.op ⟨(some 1), (.pure (.mv (.tmp 18))), none⟩])
(.seq (.ops [
.op ⟨(some 19), (.pure (.mv (.tmp 0))), none⟩,
.op ⟨(some 20), (.pure (.mv (.tmp 5))), none⟩,
.op ⟨(some 21), (.pure (.mv (.tmp 1))), none⟩,
.op ⟨(some 22), (.pure (.idx 3 (.tmp 19) (.tmp 20))), none⟩,
.op ⟨(some 23), (.pure (.fieldAddr 1 (.tmp 22))), none⟩,
.op ⟨none, (.eff (.store 1 (.tmp 23) (.tmp 21))), none⟩])
(.seq (.ops [
.op ⟨(some 24), (.pure (.mv (.tmp 1))), none⟩,
.op ⟨(some 25), (.pure (.bin .add (.tmp 24) (.const (.int .i64 (1))))), none⟩,
.op ⟨(some 1), (.pure (.mv (.tmp 25))), none⟩])
(.seq (.ops [
.op ⟨(some 26), (.pure (.mv (.tmp 0))), none⟩,
.op ⟨(some 27), (.pure (.mv (.tmp 5))), none⟩,
.op ⟨(some 28), (.pure (.mv (.tmp 1))), none⟩,
.op ⟨(some 29), (.pure (.idx 3 (.tmp 26) (.tmp 27))), none⟩,
.op ⟨(some 30), (.pure (.fieldAddr 2 (.tmp 29))), none⟩,
.op ⟨none, (.eff (.store 1 (.tmp 30) (.tmp 28))), none⟩])
(.ops [
.op ⟨(some 31), (.pure (.mv (.tmp 1))), none⟩,
.op ⟨(some 32), (.pure (.bin .add (.tmp 31) (.const (.int .i64 (1))))), none⟩,
.op ⟨(some 1), (.pure (.mv (.tmp 32))), none⟩])))))))
(.ops [
.op ⟨(some 10), (.pure (.mv (.tmp 5))), none⟩,
.op ⟨(some 11), (.pure (.bin .add (.tmp 10) (.const (.int .i64 (1))))), none⟩,
.op ⟨(some 5), (.pure (.mv (.tmp 11))), none⟩]))))))
(.seq (.ops [
.op ⟨(some 33), (.pure (.mv (.tmp 1))), none⟩,
.op ⟨(some 4), (.pure (.mv (.tmp 33))), none⟩])
(.ret))),
[.tmp 4]⟩
theorem r_laws_markTowerS : resFun Try.prog f_laws_markTowerS = some c_laws_markTowerS := by kernel_rfl

/- loop.example/g00940/laws.markLinkS -/
abbrev f_laws_markLinkS : Nat := 122
def c_laws_markLinkS : MFun := ⟨34, .seq (.ops [
.op ⟨(some 4), (.pure (.mv (.const (.int .i64 (0))))), none⟩])
(.seq (.seq (.ops [
.op ⟨(some 5), (.pure (.mv (.const (.int .i64 (0))))), none⟩])
(.block 0 (.loop (.seq (.seq (.ops [
.op ⟨(some 6), (.pure (.mv (.tmp 5))), none⟩,
.op ⟨(some 7), (.pure (.mv (.tmp 0))), none⟩,
.op ⟨(some 8), (.pure (.len (.tmp 7))), none⟩,
.op ⟨(some 9), (.pure (.bin .lss (.tmp 6) (.tmp 8))), none⟩])
(.cond (.tmp 9)
(.skip)
(.exit 0)))
(.seq (.block 1 (.seq (.ops [
.op ⟨(some 12), (.pure (.mv (.tmp 0))), none⟩,
.op ⟨(some 13), (.pure (.mv (.tmp 5))), none⟩,
.op ⟨(some 14), (.pure (.mv (.tmp 1))), none⟩,
.op ⟨(some 15), (.pure (.idx 3 (.tmp 12) (.tmp 13))), none⟩,
.op ⟨(some 16), (.pure (.fieldAddr 0 (.tmp 15))), none⟩,
.op ⟨none, (.eff (.store 1 (.tmp 16) (.tmp 14))), none⟩])
(.seq (.ops [
.op ⟨(some 17), (.pure (.mv (.tmp 1))), none⟩,
.op ⟨(some 18), (.pure (.bin .add (.tmp 17) (.const (.int .i64 (1))))), none⟩,
.op ⟨(some 1), (.pure (.mv (.tmp 18))), none⟩])
(.seq (.ops [
.op ⟨(some 19), (.pure (.mv (.tmp 0))), none⟩,
.op ⟨(some 20), (.pure (.mv (.tmp 5))), none⟩,
.op ⟨(some 21), (.pure (.mv (.tmp 1))), none⟩,
.op ⟨(some 22), (.pure (.idx 3 (.tmp 19) (.tmp 20))), none⟩,
.op ⟨(some 23), (.pure (.fieldAddr 1 (.tmp 22))), none⟩,
.op ⟨none, (.eff (.store 1 (.tmp 23) (.tmp 21))), none⟩])
(.seq (.ops [
.op ⟨(some 24), (.pure (.mv (.tmp 1))), none⟩,
.op ⟨(some 25), (.pure (.bin .add (.tmp 24) (.const (.int .i64 (1))))), none⟩,
.op ⟨(some 1), (.pure (.mv (.tmp 25))), none⟩])
(.seq (.ops [
.op ⟨(some 26), (.pure (.mv (.tmp 0))), none⟩,
.op ⟨(some 27), (.pure (.mv (.tmp 5))), none⟩,
.op ⟨(some 28), (.pure (.mv (.tmp 1))), none⟩,
.op ⟨(some 29), (.pure (.idx 3 (.tmp 26) (.tmp 27))), none⟩,
.op ⟨(some 30), (.pure (.fieldAddr 2 (.tmp 29))), none⟩,
.op ⟨none, (.eff (.store 1 (.tmp 30) (.tmp 28))), none⟩])
(.ops [
.op ⟨(some 31), (.pure (.mv (.tmp 1))), none⟩,
.op ⟨(some 32), (.pure (.bin .add (.tmp 31) (.const (.int .i64 (1))))), none⟩,
.op ⟨(some 1), (.pure (.mv (.tmp 32))), none⟩])))))))
(.ops [
.op ⟨(some 10), (.pure (.mv (.tmp 5))), none⟩,
.op ⟨(some 11), (.pure (.bin .add (.tmp 10) (.const (.int .i64 (1))))), none⟩,
.op ⟨(some 5), (.pure (.mv (.tmp 11))), none⟩]))))))
(.seq (.ops [
.op ⟨(some 33), (.pure (.mv (.tmp 1))), none⟩,
.op ⟨(some 4), (.pure (.mv (.tmp 33))), none⟩])
(.ret))),
[.tmp 4]⟩
theorem r_laws_markLinkS : resFun Try.prog f_laws_markLinkS = some c_laws_markLinkS := by kernel_rfl

/- loop.example/g00940/spec.roAlong -/
abbrev f_spec_roAlong : Nat := 123
def c_spec_roAlong : MFun := ⟨58, .seq (.ops [
.op ⟨(some 4), (.eff (.box 32 (.tmp 0))), none⟩,
.op ⟨(some 8), (.pure (.mv (.const (.int .i64 (0))))), none⟩,
.op ⟨(some 9), (.pure (.mv (.const (.slice none 0 0)))), none⟩,
.op ⟨(some 10), (.pure (.mv (.const (.bool false)))), none⟩])
(.seq (.seq (.ops [
.op ⟨(some 17), (.load (some 2) (.tmp 4)), none⟩,
.op ⟨(some 18), (.pure (.mv (.tmp 1))), none⟩,
.op ⟨(some 19), (.pure (.mv (.tmp 3))), none⟩,
.op ⟨(some 20), (.eff (.call 125 [(.tmp 17), (.tmp 18), (.tmp 19)])), none⟩,
.op ⟨(some 21), (.pure (.bnot (.tmp 20))), none⟩])
(.cond (.tmp 21)
(.seq (.ops [
.op ⟨(some 8), (.pure (.mv (.const (.int .i64 (0))))), none⟩,
.op ⟨(some 9), (.pure (.mv (.const (.slice none 0 0)))), none⟩,
.op ⟨(some 10), (.pure (.mv (.const (.bool false)))), none⟩])
(.ret))
(.skip)))
(.seq (.ops [
.op ⟨(some 23), (.load (some 2) (.tmp 4)), none⟩,
.op ⟨(some 24), (.pure (.mv (.tmp 2))), none⟩,
.op ⟨(some 25), (.eff (.call 178 [(.tmp 23), (.tmp 24)])), none⟩,
.op ⟨(some 22), (.pure (.mv (.tmp 25))), none⟩,
.op ⟨(some 26), (.pure (.ext 0 (.tmp 22))), none⟩,
.op ⟨(some 27), (.pure (.ext 1 (.tmp 22))), none⟩,
.op ⟨(some 11), (.pure (.mv (.tmp 26))), none⟩,
.op ⟨(some 12), (.pure (.mv (.tmp 27))), none⟩])
(.seq (.seq (.ops [
.op ⟨(some 28), (.pure (.mv (.tmp 12))), none⟩,
.op ⟨(some 29), (.pure (.bnot (.tmp 28))), none⟩])
(.cond (.tmp 29)
(.seq (.ops [
.op ⟨(some 8), (.pure (.mv (.const (.int .i64 (0))))), none⟩,
.op ⟨(some 9), (.pure (.mv (.const (.slice none 0 0)))), none⟩,
.op ⟨(some 10), (.pure (.mv (.const (.bool false)))), none⟩])
(.ret))
(.skip)))
(.seq (.ops [
.op ⟨(some 13), (.pure (.mv (.const (.slice none 0 0)))), none⟩])
(.seq (.seq (.ops [
.op ⟨(some 30), (.pure (.mv (.tmp 11))), none⟩,
.op ⟨(some 31), (.pure (.len (.tmp 30))), none⟩,
.op ⟨(some 32), (.pure (.mv (.const (.int .i64 (0))))), none⟩])
(.block 0 (.loop (.seq (.ops [
.op ⟨(some 33), (.pure (.bin .lss (.tmp 32) (.tmp 31))), none⟩])
(.seq (.cond (.tmp 33)
(.skip)
(.exit 0))
(.seq (.block 1 (.seq (.ops [
.op ⟨(some 34), (.pure (.idx 1 (.tmp 30) (.tmp 32))), none⟩,
.op ⟨(some 35), (.load none (.tmp 34)), none⟩,
.op ⟨(some 15), (.pure (.mv (.tmp 35))), none⟩])
(.seq (.ops [
.op ⟨(some 36), (.load (some 2) (.tmp 4)), none⟩,
.op ⟨(some 37), (.pure (.mv (.tmp 1))), none⟩,
.op ⟨(some 38), (.pure (.mv (.tmp 15))), none⟩,
.op ⟨(some 39), (.pure (.mv (.tmp 3))), none⟩,
.op ⟨(some 40), (.eff (.call 177 [(.tmp 36), (.tmp 37), (.tmp 38), (.tmp 39)])), none⟩,
.op ⟨(some 16), (.pure (.mv (.tmp 40))), none⟩])
(.seq (.ops [
.op ⟨(some 41), (.pure (.mv (.tmp 13))), none⟩,
.op ⟨(some 42), (.pure (.mv (.tmp 16))), none⟩,
.op ⟨(some 43), (.pure (.mv (.tmp 3))), none⟩,
.op ⟨(some 44), (.pure (.bin .sub (.tmp 42) (.tmp 43))), none⟩,
.op ⟨(some 45), (.pure (.fieldAddr 1 (.tmp 4))), none⟩,
.op ⟨(some 46), (.load none (.tmp 45)), none⟩,
.op ⟨(some 47), (.pure (.mv (.tmp 15))), none⟩,
.op ⟨(some 48), (.pure (.idx 3 (.tmp 46) (.tmp 47))), none⟩,
.op ⟨(some 49), (.pure (.fieldAddr 2 (.tmp 48))), none⟩,
.op ⟨(some 50), (.load none (.tmp 49)), none⟩,
.op ⟨(some 51), (.pure (.bin .sub (.tmp 44) (.tmp 50))), none⟩,
.op ⟨(some 52), (.eff (.row 3 1 [(.int .i64 (0))] [(0, 1, (.tmp 51))])), none⟩,
.op ⟨(some 53), (.eff (.app 3 1 8 (.tmp 41) (.tmp 52))), none⟩,
.op ⟨(some 13), (.pure (.mv (.tmp 53))), none⟩])
(.ops [
.op ⟨(some 54), (.pure (.mv (.tmp 16))), none⟩,
.op ⟨(some 3), (.pure (.mv (.tmp 54))), none⟩])))))
(.ops [
.op ⟨(some 55), (.pure (.bin .add (.tmp 32) (.const (.int .i64 (1))))), none⟩,
.op ⟨(some 32), (.pure (.mv (.tmp 55))), none⟩])))))))
(.seq (.ops [
.op ⟨(some 56), (.pure (.mv (.tmp 3))), none⟩,
.op ⟨(some 57), (.pure (.mv (.tmp 13))), none⟩,
.op ⟨(some 8), (.pure (.mv (.tmp 56))), none⟩,
.op ⟨(some 9), (.pure (.mv (.tmp 57))), none⟩,
.op ⟨(some 10), (.pure (.mv (.const (.bool true)))), none⟩])
(.ret))))))),
[.tmp 8, .tmp 9, .tmp 10]⟩
theorem r_spec_roAlong : resFun Try.prog f_spec_roAlong = some c_spec_roAlong := by kernel_rfl

/- loop.example/g00940/impl.linkIndex -/
abbrev f_impl_linkIndex : Nat := 124
def c_impl_linkIndex : MFun := ⟨11, .seq (.ops [
.op ⟨(some 3), (.eff (.box 32 (.tmp 0))), none⟩,
.op ⟨(some 4), (.eff (.box 3 (.tmp 1))), none⟩,
.op ⟨(some 5), (.eff (.box 3 (.tmp 2))), none⟩,
.op ⟨(some 6), (.pure (.mv (.const (.int .i64 (0))))), none⟩])
(.seq (.ops [
.op ⟨(some 7), (.pure (.fieldAddr 1 (.tmp 3))), none⟩,
.op ⟨(some 8), (.load none (.tmp 7)), none⟩,
.op ⟨(some 9), (.pure (.mkfn (.func 180) [] [(.tmp 4), (.tmp 5)])), none⟩,
.op ⟨(some 10), (.eff (.call 179 [(.tmp 8), (.tmp 9)])), none⟩,
.op ⟨(some 6), (.pure (.mv (.tmp 10))), none⟩])
(.ret)),
[.tmp 6]⟩
theorem r_impl_linkIndex : resFun Try.prog f_impl_linkIndex = some c_impl_linkIndex := by kernel_rfl

/- loop.example/g00940/spec.roGood -/
abbrev f_spec_roGood : Nat := 125
def c_spec_roGood : MFun := ⟨18, .seq (.ops [
.op ⟨(some 3), (.eff (.box 32 (.tmp 0))), none⟩,
.op ⟨(some 6), (.pure (.mv (.const (.bool false)))), none⟩])
(.seq (.ops [
.op ⟨(some 7), (.load (some 2) (.tmp 3)), none⟩,
.op ⟨(some 8), (.eff (.call 107 [(.tmp 7)])), none⟩,
.op ⟨(some 9), (.pure (.mv (.tmp 8))), none⟩,
.split 9,
.op ⟨(some 10), (.load (some 2) (.tmp 3)), (some (9, true))⟩,
.op ⟨(some 11), (.pure (.mv (.tmp 1))), (some (9, true))⟩,
.op ⟨(some 12), (.eff (.call 143 [(.tmp 10), (.tmp 11)])), (some (9, true))⟩,
.op ⟨(some 13), (.pure (.pick (.tmp 9) (.tmp 12) (.const (.bool false)))), none⟩,
.op ⟨(some 14), (.pure (.mv (.tmp 13))), none⟩,
.split 14,
.op ⟨(some 15), (.pure (.mv (.tmp 2))), (some (14, true))⟩,
.op ⟨(some 16), (.eff (.call 140 [(.tmp 15)])), (some (14, true))⟩,
.op ⟨(some 17), (.pure (.pick (.tmp 14) (.tmp 16) (.const (.bool false)))), none⟩,
.op ⟨(some 6), (.pure (.mv (.tmp 17))), none⟩])
(.ret)),
[.tmp 6]⟩
theorem r_spec_roGood : resFun Try.prog f_spec_roGood = some c_spec_roGood := by kernel_rfl

/- loop.example/g00940/spec.roTower -/
abbrev f_spec_roTower : Nat := 126
def c_spec_roTower : MFun := ⟨11, .seq (.ops [
.op ⟨(some 2), (.eff (.box 32 (.tmp 0))), none⟩,
.op ⟨(some 4), (.pure (.mv (.const (.bool false)))), none⟩])
(.seq (.ops [
.op ⟨(some 5), (.pure (.mv (.tmp 1))), none⟩,
.op ⟨(some 6), (.pure (.fieldAddr 0 (.tmp 2))), none⟩,
.op ⟨(some 7), (.load none (.tmp 6)), none⟩,
.op ⟨(some 8), (.pure (.len (.tmp 7))), none⟩,
.op ⟨(some 9), (.pure (.bin .sub (.tmp 8) (.const (.int .i64 (1))))), none⟩,
.op ⟨(some 10), (.eff (.call 108 [(.tmp 5), (.const (.int .i64 (0))), (.tmp 9)])), none⟩,
.op ⟨(some 4), (.pure (.mv (.tmp 10))), none⟩])
(.ret)),
[.tmp 4]⟩
theorem r_spec_roTower : resFun Try.prog f_spec_roTower = some c_spec_roTower := by kernel_rfl

/- loop.example/g00940/impl.IsNet -/
abbrev f_impl_IsNet : Nat := 127
def c_impl_IsNet : MFun := ⟨90, .seq (.ops [
.op ⟨(some 1), (.eff (.box 32 (.tmp 0))), none⟩,
.op ⟨(some 2), (.pure (.mv (.const (.bool false)))), none⟩])
(.seq (.seq (.ops [
.op ⟨(some 7), (.pure (.fieldAddr 0 (.tmp 1))), none⟩,
.op ⟨(some 8), (.load none (.tmp 7)), none⟩,
.op ⟨(some 9), (.pure (.len (.tmp 8))), none⟩,
.op ⟨(some 10), (.eff (.call 129 [(.tmp 9), (.const (.int .i64 (1))), (.const (.int .i64 (16)))])), none⟩,
.op ⟨(some 11), (.pure (.bnot (.tmp 10))), none⟩,
.op ⟨(some 12), (.pure (.mv (.tmp 11))), none⟩,
.split 12,
.op ⟨(some 13), (.pure (.fieldAddr 1 (.tmp 1))), (some (12, false))⟩,
.op ⟨(some 14), (.load none (.tmp 13)), (some (12, false))⟩,
.op ⟨(some 15), (.pure (.len (.tmp 14))), (some (12, false))⟩,
.op ⟨(some 16), (.pure (.bin .gtr (.tmp 15) (.const (.int .i64 (40))))), (some (12, false))⟩,
.op ⟨(some 17), (.pure (.pick (.tmp 12) (.const (.bool true)) (.tmp 16))), none⟩])
(.cond (.tmp 17)
(.seq (.ops [
.op ⟨(some 2), (.pure (.mv (.const (.bool false)))), none⟩])
(.ret))
(.skip)))
(.seq (.seq (.ops [
.op ⟨(some 18), (.pure (.fieldAddr 0 (.tmp 1))), none⟩,
.op ⟨(some 19), (.load none (.tmp 18)), none⟩,
.op ⟨(some 20), (.pure (.len (.tmp 19))), none⟩,
.op ⟨(some 21), (.pure (.mv (.const (.int .i64 (0))))), none⟩])
(.block 0 (.loop (.seq (.ops [
.op ⟨(some 22), (.pure (.bin .lss (.tmp 21) (.tmp 20))), none⟩])
(.seq (.cond (.tmp 22)
(.skip)
(.exit 0))
(.seq (.block 1 (.seq (.ops [
.op ⟨(some 23), (.pure (.idx 3 (.tmp 19) (.tmp 21))), none⟩,
.op ⟨(some 24), (.load (some 3) (.tmp 23)), none⟩,
.op ⟨(some 4), (.eff (.new 147 [(.int .i64 (0)), (.int .i64 (0)), (.int .i64 (0))])), none⟩,
.op ⟨none, (.eff (.store 3 (.tmp 4) (.tmp 24))), none⟩])
(.seq (.ops [
.op ⟨(some 25), (.pure (.fieldAddr 0 (.tmp 4))), none⟩,
.op ⟨(some 26), (.load none (.tmp 25)), none⟩,
.op ⟨(some 27), (.eff (.call 129 [(.tmp 26), (.const (.int .i64 (0))), (.const (.int .i64 (999)))])), none⟩,
.op ⟨(some 28), (.pure (.bnot (.tmp 27))), none⟩,
.op ⟨(some 29), (.pure (.mv (.tmp 28))), none⟩,
.split 29,
.op ⟨(some 30), (.pure (.fieldAddr 1 (.tmp 4))), (some (29, false))⟩,
.op ⟨(some 31), (.load none (.tmp 30)), (some (29, false))⟩,
.op ⟨(some 32), (.eff (.call 129 [(.tmp 31), (.const (.int .i64 (0))), (.const (.int .i64 (999)))])), (some (29, false))⟩,
.op ⟨(some 33), (.pure (.bnot (.tmp 32))), (some (29, false))⟩,
.op ⟨(some 34), (.pure (.pick (.tmp 29) (.const (.bool true)) (.tmp 33))), none⟩,
.op ⟨(some 35), (.pure (.mv (.tmp 34))), none⟩,
.split 35,
.op ⟨(some 36), (.pure (.fieldAddr 2 (.tmp 4))), (some (35, false))⟩,
.op ⟨(some 37), (.load none (.tmp 36)), (some (35, false))⟩,
.op ⟨(some 38), (.eff (.call 129 [(.tmp 37), (.const (.int .i64 (0))), (.const (.int .i64 (500)))])), (some (35, false))⟩,
.op ⟨(some 39), (.pure (.bnot (.tmp 38))), (some (35, false))⟩,
.op ⟨(some 40), (.pure (.pick (.tmp 35) (.const (.bool true)) (.tmp 39))), none⟩])
(.cond (.tmp 40)
(.seq (.ops [
.op ⟨(some 2), (.pure (.mv (.const (.bool false)))), none⟩])
(.ret))
(.skip)))))
(.ops [
.op ⟨(some 41), (.pure (.bin .add (.tmp 21) (.const (.int .i64 (1))))), none⟩,
.op ⟨(some 21), (.pure (.mv (.tmp 41))), none⟩])))))))
(.seq (.seq (.ops [
.op ⟨(some 42), (.pure (.fieldAddr 1 (.tmp 1))), none⟩,
.op ⟨(some 43), (.load none (.tmp 42)), none⟩,
.op ⟨(some 44), (.pure (.len (.tmp 43))), none⟩,
.op ⟨(some 45), (.pure (.mv (.const (.int .i64 (0))))), none⟩])
(.block 2 (.loop (.seq (.ops [
.op ⟨(some 46), (.pure (.bin .lss (.tmp 45) (.tmp 44))), none⟩])
(.seq (.cond (.tmp 46)
(.skip)
(.exit 2))
(.seq (.block 3 (.seq (.ops [
.op ⟨(some 47), (.pure (.mv (.tmp 45))), none⟩,
.op ⟨(some 48), (.pure (.idx 3 (.tmp 43) (.tmp 45))), none⟩,
.op ⟨(some 49), (.load (some 3) (.tmp 48)), none⟩,
.op ⟨(some 6), (.eff (.new 88 [(.int .i64 (0)), (.int .i64 (0)), (.int .i64 (0))])), none⟩,
.op ⟨(some 5), (.pure (.mv (.tmp 47))), none⟩,
.op ⟨none, (.eff (.store 3 (.tmp 6) (.tmp 49))), none⟩])
(.seq (.draw true
(.take ⟨(some 50), (.pure (.fieldAddr 0 (.tmp 6))), none⟩
(.only false ⟨(some 51), (.load none (.tmp 50)), none⟩
(.take ⟨(some 52), (.pure (.bin .lss (.tmp 51) (.const (.int .i64 (0))))), none⟩
(.take ⟨(some 53), (.pure (.mv (.tmp 52))), none⟩
(.split 53
(.take ⟨(some 54), (.pure (.fieldAddr 0 (.tmp 6))), (some (53, false))⟩
(.take ⟨(some 56), (.pure (.fieldAddr 1 (.tmp 6))), (some (53, false))⟩
(.only false ⟨(some 55), (.load none (.tmp 54)), (some (53, false))⟩
(.only false ⟨(some 57), (.load none (.tmp 56)), (some (53, false))⟩
(.take ⟨(some 58), (.pure (.bin .geq (.tmp 55) (.tmp 57))), (some (53, false))⟩
(.take ⟨(some 59), (.pure (.pick (.tmp 53) (.const (.bool true)) (.tmp 58))), none⟩
(.take ⟨(some 60), (.pure (.mv (.tmp 59))), none⟩
(.split 60
(.take ⟨(some 61), (.pure (.fieldAddr 1 (.tmp 6))), (some (60, false))⟩
(.take ⟨(some 63), (.pure (.fieldAddr 0 (.tmp 1))), (some (60, false))⟩
(.only false ⟨(some 62), (.load none (.tmp 61)), (some (60, false))⟩
(.only false ⟨(some 64), (.load none (.tmp 63)), (some (60, false))⟩
(.take ⟨(some 65), (.pure (.len (.tmp 64))), (some (60, false))⟩
(.take ⟨(some 66), (.pure (.bin .geq (.tmp 62) (.tmp 65))), (some (60, false))⟩
(.take ⟨(some 67), (.pure (.pick (.tmp 60) (.const (.bool true)) (.tmp 66))), none⟩
(.take ⟨(some 68), (.pure (.mv (.tmp 67))), none⟩
(.split 68
(.take ⟨(some 69), (.pure (.fieldAddr 2 (.tmp 6))), (some (68, false))⟩
(.only false ⟨(some 70), (.load none (.tmp 69)), (some (68, false))⟩
(.only false ⟨(some 71), (.eff (.call 129 [(.tmp 70), (.const (.int .i64 (1))), (.const (.int .i64 (60)))])), (some (68, false))⟩
(.take ⟨(some 72), (.pure (.bnot (.tmp 71))), (some (68, false))⟩
(.take ⟨(some 73), (.pure (.pick (.tmp 68) (.const (.bool true)) (.tmp 72))), none⟩
(.take ⟨(some 74), (.pure (.mv (.tmp 73))), none⟩
(.split 74
(.take ⟨(some 75), (.pure (.mv (.tmp 5))), (some (74, false))⟩
(.take ⟨(some 76), (.pure (.bin .gtr (.tmp 75) (.const (.int .i64 (0))))), (some (74, false))⟩
(.take ⟨(some 77), (.pure (.mv (.tmp 76))), (some (74, false))⟩
(.split 77
(.take ⟨(some 78), (.pure (.fieldAddr 1 (.tmp 1))), (some (77, true))⟩
(.take ⟨(some 80), (.pure (.mv (.tmp 5))), (some (77, true))⟩
(.take ⟨(some 81), (.pure (.bin .sub (.tmp 80) (.const (.int .i64 (1))))), (some (77, true))⟩
(.take ⟨(some 79), (.load none (.tmp 78)), (some (77, true))⟩
(.take ⟨(some 82), (.pure (.idx 3 (.tmp 79) (.tmp 81))), (some (77, true))⟩
(.take ⟨(some 83), (.load (some 3) (.tmp 82)), (some (77, true))⟩
(.only false ⟨(some 84), (.load (some 3) (.tmp 6)), (some (77, true))⟩
(.only true ⟨(some 85), (.eff (.call 181 [(.tmp 83), (.tmp 84)])), (some (77, true))⟩
(.take ⟨(some 86), (.pure (.bin .geq (.tmp 85) (.const (.int .i64 (0))))), (some (77, true))⟩
(.take ⟨(some 87), (.pure (.pick (.tmp 77) (.tmp 86) (.const (.bool false)))), (some (74, false))⟩
(.take ⟨(some 88), (.pure (.pick (.tmp 74) (.const (.bool true)) (.tmp 87))), none⟩
(.done))))))))))))))))))))))))))))))))))))))))))))))
(.cond (.tmp 88)
(.seq (.ops [
.op ⟨(some 2), (.pure (.mv (.const (.bool false)))), none⟩])
(.ret))
(.skip)))))
(.ops [
.op ⟨(some 89), (.pure (.bin .add (.tmp 45) (.const (.int .i64 (1))))), none⟩,
.op ⟨(some 45), (.pure (.mv (.tmp 89))), none⟩])))))))
(.seq (.ops [
.op ⟨(some 2), (.pure (.mv (.const (.bool true)))), none⟩])
(.ret))))),
[.tmp 2]⟩
theorem r_impl_IsNet : resFun Try.prog f_impl_IsNet = some c_impl_IsNet := by kernel_rfl

/- loop.example/g00940/impl.areFogs -/
abbrev f_impl_areFogs : Nat := 128
def c_impl_areFogs : MFun := ⟨58, .seq (.ops [
.op ⟨(some 2), (.eff (.box 32 (.tmp 0))), none⟩,
.op ⟨(some 4), (.pure (.mv (.const (.bool false)))), none⟩])
(.seq (.seq (.ops [
.op ⟨(some 7), (.pure (.mv (.tmp 1))), none⟩,
.op ⟨(some 8), (.pure (.len (.tmp 7))), none⟩,
.op ⟨(some 9), (.pure (.bin .gtr (.tmp 8) (.const (.int .i64 (60))))), none⟩])
(.cond (.tmp 9)
(.seq (.ops [
.op ⟨(some 4), (.pure (.mv (.const (.bool false)))), none⟩])
(.ret))
(.skip)))
(.seq (.seq (.ops [
.op ⟨(some 10), (.pure (.mv (.tmp 1))), none⟩,
.op ⟨(some 11), (.pure (.len (.tmp 10))), none⟩,
.op ⟨(some 12), (.pure (.mv (.const (.int .i64 (0))))), none⟩])
(.block 0 (.loop (.seq (.ops [
.op ⟨(some 13), (.pure (.bin .lss (.tmp 12) (.tmp 11))), none⟩])
(.seq (.cond (.tmp 13)
(.skip)
(.exit 0))
(.seq (.block 1 (.seq (.ops [
.op ⟨(some 14), (.pure (.mv (.tmp 12))), none⟩,
.op ⟨(some 15), (.pure (.idx 3 (.tmp 10) (.tmp 12))), none⟩,
.op ⟨(some 16), (.load (some 3) (.tmp 15)), none⟩,
.op ⟨(some 6), (.eff (.new 96 [(.int .i64 (0)), (.int .i64 (0)), (.int .i64 (0))])), none⟩,
.op ⟨(some 5), (.pure (.mv (.tmp 14))), none⟩,
.op ⟨none, (.eff (.store 3 (.tmp 6) (.tmp 16))), none⟩])
(.seq (.draw true
(.only false ⟨(some 17), (.load (some 2) (.tmp 2)), none⟩
(.only false ⟨(some 18), (.load (some 3) (.tmp 6)), none⟩
(.only false ⟨(some 19), (.eff (.call 163 [(.tmp 17), (.tmp 18)])), none⟩
(.take ⟨(some 20), (.pure (.bnot (.tmp 19))), none⟩
(.take ⟨(some 21), (.pure (.mv (.tmp 20))), none⟩
(.split 21
(.take ⟨(some 22), (.pure (.mv (.tmp 5))), (some (21, false))⟩
(.take ⟨(some 23), (.pure (.bin .gtr (.tmp 22) (.const (.int .i64 (0))))), (some (21, false))⟩
(.take ⟨(some 24), (.pure (.mv (.tmp 23))), (some (21, false))⟩
(.split 24
(.take ⟨(some 25), (.pure (.mv (.tmp 1))), (some (24, true))⟩
(.take ⟨(some 26), (.pure (.mv (.tmp 5))), (some (24, true))⟩
(.take ⟨(some 27), (.pure (.bin .sub (.tmp 26) (.const (.int .i64 (1))))), (some (24, true))⟩
(.take ⟨(some 28), (.pure (.idx 3 (.tmp 25) (.tmp 27))), (some (24, true))⟩
(.take ⟨(some 29), (.load (some 3) (.tmp 28)), (some (24, true))⟩
(.only false ⟨(some 30), (.load (some 3) (.tmp 6)), (some (24, true))⟩
(.only false ⟨(some 31), (.eff (.call 165 [(.tmp 29), (.tmp 30)])), (some (24, true))⟩
(.take ⟨(some 32), (.pure (.bin .geq (.tmp 31) (.const (.int .i64 (0))))), (some (24, true))⟩
(.take ⟨(some 33), (.pure (.mv (.tmp 32))), (some (24, true))⟩
(.split 33
(.take ⟨(some 34), (.pure (.mv (.tmp 1))), (some (33, false))⟩
(.take ⟨(some 35), (.pure (.mv (.tmp 5))), (some (33, false))⟩
(.take ⟨(some 36), (.pure (.bin .sub (.tmp 35) (.const (.int .i64 (1))))), (some (33, false))⟩
(.take ⟨(some 37), (.pure (.idx 3 (.tmp 34) (.tmp 36))), (some (33, false))⟩
(.take ⟨(some 38), (.pure (.fieldAddr 0 (.tmp 37))), (some (33, false))⟩
(.take ⟨(some 40), (.pure (.fieldAddr 0 (.tmp 6))), (some (33, false))⟩
(.take ⟨(some 39), (.load none (.tmp 38)), (some (33, false))⟩
(.only false ⟨(some 41), (.load none (.tmp 40)), (some (33, false))⟩
(.take ⟨(some 42), (.pure (.bin .eql (.tmp 39) (.tmp 41))), (some (33, false))⟩
(.take ⟨(some 43), (.pure (.mv (.tmp 42))), (some (33, false))⟩
(.split 43
(.take ⟨(some 44), (.pure (.mv (.tmp 1))), (some (43, true))⟩
(.take ⟨(some 45), (.pure (.mv (.tmp 5))), (some (43, true))⟩
(.take ⟨(some 46), (.pure (.bin .sub (.tmp 45) (.const (.int .i64 (1))))), (some (43, true))⟩
(.take ⟨(some 47), (.pure (.idx 3 (.tmp 44) (.tmp 46))), (some (43, true))⟩
(.take ⟨(some 48), (.pure (.fieldAddr 2 (.tmp 47))), (some (43, true))⟩
(.take ⟨(some 50), (.pure (.fieldAddr 1 (.tmp 6))), (some (43, true))⟩
(.take ⟨(some 49), (.load none (.tmp 48)), (some (43, true))⟩
(.only false ⟨(some 51), (.load none (.tmp 50)), (some (43, true))⟩
(.take ⟨(some 52), (.pure (.bin .geq (.tmp 49) (.tmp 51))), (some (43, true))⟩
(.take ⟨(some 53), (.pure (.pick (.tmp 43) (.tmp 52) (.const (.bool false)))), (some (33, false))⟩
(.take ⟨(some 54), (.pure (.pick (.tmp 33) (.const (.bool true)) (.tmp 53))), (some (24, true))⟩
(.take ⟨(some 55), (.pure (.pick (.tmp 24) (.tmp 54) (.const (.bool false)))), (some (21, false))⟩
(.take ⟨(some 56), (.pure (.pick (.tmp 21) (.const (.bool true)) (.tmp 55))), none⟩
(.done))))))))))))))))))))))))))))))))))))))))))))))
(.cond (.tmp 56)
(.seq (.ops [
.op ⟨(some 4), (.pure (.mv (.const (.bool false)))), none⟩])
(.ret))
(.skip)))))
(.ops [
.op ⟨(some 57), (.pure (.bin .add (.tmp 12) (.const (.int .i64 (1))))), none⟩,
.op ⟨(some 12), (.pure (.mv (.tmp 57))), none⟩])))))))
(.seq (.ops [
.op ⟨(some 4), (.pure (.mv (.const (.bool true)))), none⟩])
(.ret)))),
[.tmp 4]⟩
theorem r_impl_areFogs : resFun Try.prog f_impl_areFogs = some c_impl_areFogs := by kernel_rfl

/- loop.example/g00940/impl.within -/
abbrev f_impl_within : Nat := 129
def c_impl_within : MFun := ⟨15, .seq (.ops [
.op ⟨(some 6), (.pure (.mv (.const (.bool false)))), none⟩])
(.seq (.ops [
.op ⟨(some 7), (.pure (.mv (.tmp 0))), none⟩,
.op ⟨(some 8), (.pure (.mv (.tmp 1))), none⟩,
.op ⟨(some 9), (.pure (.bin .geq (.tmp 7) (.tmp 8))), none⟩,
.op ⟨(some 10), (.pure (.mv (.tmp 9))), none⟩,
.split 10,
.op ⟨(some 11), (.pure (.mv (.tmp 0))), (some (10, true))⟩,
.op ⟨(some 12), (.pure (.mv (.tmp 2))), (some (10, true))⟩,
.op ⟨(some 13), (.pure (.bin .leq (.tmp 11) (.tmp 12))), (some (10, true))⟩,
.op ⟨(some 14), (.pure (.pick (.tmp 10) (.tmp 13) (.const (.bool false)))), none⟩,
.op ⟨(some 6), (.pure (.mv (.tmp 14))), none⟩])
(.ret)),
[.tmp 6]⟩
theorem r_impl_within : resFun Try.prog f_impl_within = some c_impl_within := by kernel_rfl

/- loop.example/g00940/impl.isWay -/
abbrev f_impl_isWay : Nat := 130
def c_impl_isWay : MFun := ⟨48, .seq (.ops [
.op ⟨(some 2), (.eff (.box 32 (.tmp 0))), none⟩,
.op ⟨(some 4), (.pure (.mv (.const (.bool false)))), none⟩])
(.seq (.seq (.ops [
.op ⟨(some 7), (.pure (.mv (.tmp 1))), none⟩,
.op ⟨(some 8), (.pure (.len (.tmp 7))), none⟩,
.op ⟨(some 9), (.eff (.call 129 [(.tmp 8), (.const (.int .i64 (1))), (.const (.int .i64 (16)))])), none⟩,
.op ⟨(some 10), (.pure (.bnot (.tmp 9))), none⟩,
.op ⟨(some 11), (.pure (.mv (.tmp 10))), none⟩,
.split 11,
.op ⟨(some 12), (.pure (.mv (.tmp 1))), (some (11, false))⟩,
.op ⟨(some 13), (.pure (.fieldAddr 0 (.tmp 2))), (some (11, false))⟩,
.op ⟨(some 14), (.load none (.tmp 13)), (some (11, false))⟩,
.op ⟨(some 15), (.pure (.len (.tmp 14))), (some (11, false))⟩,
.op ⟨(some 16), (.pure (.bin .sub (.tmp 15) (.const (.int .i64 (1))))), (some (11, false))⟩,
.op ⟨(some 17), (.eff (.call 182 [(.tmp 12), (.const (.int .i64 (0))), (.tmp 16)])), (some (11, false))⟩,
.op ⟨(some 18), (.pure (.bnot (.tmp 17))), (some (11, false))⟩,
.op ⟨(some 19), (.pure (.pick (.tmp 11) (.const (.bool true)) (.tmp 18))), none⟩])
(.cond (.tmp 19)
(.seq (.ops [
.op ⟨(some 4), (.pure (.mv (.const (.bool false)))), none⟩])
(.ret))
(.skip)))
(.seq (.seq (.ops [
.op ⟨(some 20), (.pure (.mv (.tmp 1))), none⟩,
.op ⟨(some 21), (.pure (.len (.tmp 20))), none⟩,
.op ⟨(some 22), (.pure (.mv (.const (.int .i64 (0))))), none⟩])
(.block 0 (.loop (.seq (.ops [
.op ⟨(some 23), (.pure (.bin .lss (.tmp 22) (.tmp 21))), none⟩])
(.seq (.cond (.tmp 23)
(.skip)
(.exit 0))
(.seq (.block 1 (.seq (.ops [
.op ⟨(some 24), (.pure (.mv (.tmp 22))), none⟩,
.op ⟨(some 25), (.pure (.idx 1 (.tmp 20) (.tmp 22))), none⟩,
.op ⟨(some 26), (.load none (.tmp 25)), none⟩,
.op ⟨(some 5), (.pure (.mv (.tmp 24))), none⟩,
.op ⟨(some 6), (.pure (.mv (.tmp 26))), none⟩])
(.seq (.draw true
(.take ⟨(some 27), (.pure (.mv (.tmp 1))), none⟩
(.take ⟨(some 28), (.pure (.mv (.tmp 5))), none⟩
(.take ⟨(some 29), (.pure (.slc 1 (.tmp 27) none (some (.tmp 28)) none)), none⟩
(.take ⟨(some 30), (.pure (.mv (.tmp 6))), none⟩
(.only false ⟨(some 31), (.eff (.call 183 [(.tmp 29), (.tmp 30)])), none⟩
(.take ⟨(some 32), (.pure (.mv (.tmp 31))), none⟩
(.split 32
(.take ⟨(some 33), (.pure (.mv (.tmp 5))), (some (32, false))⟩
(.take ⟨(some 34), (.pure (.bin .gtr (.tmp 33) (.const (.int .i64 (0))))), (some (32, false))⟩
(.take ⟨(some 35), (.pure (.mv (.tmp 34))), (some (32, false))⟩
(.split 35
(.take ⟨(some 37), (.pure (.mv (.tmp 1))), (some (35, true))⟩
(.take ⟨(some 38), (.pure (.mv (.tmp 5))), (some (35, true))⟩
(.take ⟨(some 39), (.pure (.bin .sub (.tmp 38) (.const (.int .i64 (1))))), (some (35, true))⟩
(.take ⟨(some 40), (.pure (.idx 1 (.tmp 37) (.tmp 39))), (some (35, true))⟩
(.take ⟨(some 42), (.pure (.mv (.tmp 6))), (some (35, true))⟩
(.take ⟨(some 36), (.load (some 2) (.tmp 2)), (some (35, true))⟩
(.only false ⟨(some 41), (.load none (.tmp 40)), (some (35, true))⟩
(.only true ⟨(some 43), (.eff (.call 124 [(.tmp 36), (.tmp 41), (.tmp 42)])), (some (35, true))⟩
(.take ⟨(some 44), (.pure (.bin .lss (.tmp 43) (.const (.int .i64 (0))))), (some (35, true))⟩
(.take ⟨(some 45), (.pure (.pick (.tmp 35) (.tmp 44) (.const (.bool false)))), (some (32, false))⟩
(.take ⟨(some 46), (.pure (.pick (.tmp 32) (.const (.bool true)) (.tmp 45))), none⟩
(.done))))))))))))))))))))))))
(.cond (.tmp 46)
(.seq (.ops [
.op ⟨(some 4), (.pure (.mv (.const (.bool false)))), none⟩])
(.ret))
(.skip)))))
(.ops [
.op ⟨(some 47), (.pure (.bin .add (.tmp 22) (.const (.int .i64 (1))))), none⟩,
.op ⟨(some 22), (.pure (.mv (.tmp 47))), none⟩])))))))
(.seq (.ops [
.op ⟨(some 4), (.pure (.mv (.const (.bool true)))), none⟩])
(.ret)))),
[.tmp 4]⟩
theorem r_impl_isWay : resFun Try.prog f_impl_isWay = some c_impl_isWay := by kernel_rfl

/- loop.example/g00940/impl.goOver -/
abbrev f_impl_goOver : Nat := 131
def c_impl_goOver : MFun := ⟨23, .seq (.ops [
.op ⟨(some 4), (.eff (.box 32 (.tmp 0))), none⟩,
.op ⟨(some 8), (.pure (.mv (.const (.int .i64 (0))))), none⟩])
(.seq (.ops [
.op ⟨(some 10), (.pure (.fieldAddr 1 (.tmp 4))), none⟩,
.op ⟨(some 11), (.load none (.tmp 10)), none⟩,
.op ⟨(some 12), (.pure (.mv (.tmp 2))), none⟩,
.op ⟨(some 13), (.pure (.idx 3 (.tmp 11) (.tmp 12))), none⟩,
.op ⟨(some 14), (.pure (.fieldAddr 2 (.tmp 13))), none⟩,
.op ⟨(some 15), (.load none (.tmp 14)), none⟩,
.op ⟨(some 9), (.pure (.mv (.tmp 15))), none⟩])
(.seq (.ops [
.op ⟨(some 16), (.pure (.mv (.tmp 1))), none⟩,
.op ⟨(some 17), (.pure (.mv (.tmp 2))), none⟩,
.op ⟨(some 18), (.pure (.mv (.tmp 3))), none⟩,
.op ⟨(some 19), (.pure (.mv (.tmp 9))), none⟩,
.op ⟨(some 20), (.eff (.call 138 [(.tmp 16), (.tmp 17), (.tmp 18), (.tmp 19)])), none⟩,
.op ⟨(some 21), (.pure (.mv (.tmp 9))), none⟩,
.op ⟨(some 22), (.pure (.bin .add (.tmp 20) (.tmp 21))), none⟩,
.op ⟨(some 8), (.pure (.mv (.tmp 22))), none⟩])
(.ret))),
[.tmp 8]⟩
theorem r_impl_goOver : resFun Try.prog f_impl_goOver = some c_impl_goOver := by kernel_rfl
end Go.Proofs.Ythagdkmalchhgaa
