/- The code of this seat's functions, resolved, written by a program of mine; each is held against the given program by the kernel. Condition: none. -/
import Derived.Test.YthagdkmalchhgaaProg
import Derived.Test.YthagdkmalchhgaaBase9
import Derived.KernelRfl
namespace Go.Proofs.Ythagdkmalchhgaa
open Go.Vc

/- loop.example/g00940/spec.roBefore -/
abbrev f_spec_roBefore : Nat := 132
def c_spec_roBefore : MFun := ⟨60, .seq (.ops [
.op ⟨(some 4), (.eff (.box 32 (.tmp 0))), none⟩,
.op ⟨(some 8), (.pure (.mv (.const (.int .i64 (0))))), none⟩])
(.seq (.ops [
.op ⟨(some 9), (.pure (.mv (.const (.int .i64 (-1))))), none⟩])
(.seq (.seq (.ops [
.op ⟨(some 13), (.pure (.fieldAddr 1 (.tmp 4))), none⟩,
.op ⟨(some 14), (.load none (.tmp 13)), none⟩,
.op ⟨(some 15), (.pure (.len (.tmp 14))), none⟩,
.op ⟨(some 16), (.pure (.mv (.const (.int .i64 (0))))), none⟩])
(.block 0 (.loop (.seq (.ops [
.op ⟨(some 17), (.pure (.bin .lss (.tmp 16) (.tmp 15))), none⟩])
(.seq (.cond (.tmp 17)
(.skip)
(.exit 0))
(.seq (.block 1 (.seq (.ops [
.op ⟨(some 18), (.pure (.mv (.tmp 16))), none⟩,
.op ⟨(some 19), (.pure (.idx 3 (.tmp 14) (.tmp 16))), none⟩,
.op ⟨(some 20), (.load (some 3) (.tmp 19)), none⟩,
.op ⟨(some 11), (.eff (.new 88 [(.int .i64 (0)), (.int .i64 (0)), (.int .i64 (0))])), none⟩,
.op ⟨(some 10), (.pure (.mv (.tmp 18))), none⟩,
.op ⟨none, (.eff (.store 3 (.tmp 11) (.tmp 20))), none⟩])
(.seq (.ops [
.op ⟨(some 21), (.load (some 3) (.tmp 11)), none⟩,
.op ⟨(some 22), (.pure (.mv (.tmp 3))), none⟩,
.op ⟨(some 23), (.eff (.call 176 [(.tmp 21), (.tmp 22)])), none⟩,
.op ⟨(some 12), (.pure (.mv (.tmp 23))), none⟩])
(.seq (.draw true
(.take ⟨(some 24), (.pure (.mv (.tmp 12))), none⟩
(.take ⟨(some 25), (.pure (.bin .geq (.tmp 24) (.const (.int .i64 (0))))), none⟩
(.take ⟨(some 26), (.pure (.mv (.tmp 25))), none⟩
(.split 26
(.take ⟨(some 27), (.pure (.mv (.tmp 2))), (some (26, true))⟩
(.take ⟨(some 28), (.pure (.mv (.tmp 12))), (some (26, true))⟩
(.take ⟨(some 29), (.pure (.idx 1 (.tmp 27) (.tmp 28))), (some (26, true))⟩
(.only false ⟨(some 30), (.load none (.tmp 29)), (some (26, true))⟩
(.take ⟨(some 31), (.pure (.bin .geq (.tmp 30) (.const (.int .i64 (0))))), (some (26, true))⟩
(.take ⟨(some 32), (.pure (.pick (.tmp 26) (.tmp 31) (.const (.bool false)))), none⟩
(.take ⟨(some 33), (.pure (.mv (.tmp 32))), none⟩
(.split 33
(.take ⟨(some 35), (.pure (.mv (.tmp 1))), (some (33, true))⟩
(.take ⟨(some 36), (.pure (.mv (.tmp 10))), (some (33, true))⟩
(.take ⟨(some 37), (.pure (.mv (.tmp 2))), (some (33, true))⟩
(.take ⟨(some 38), (.pure (.mv (.tmp 12))), (some (33, true))⟩
(.take ⟨(some 39), (.pure (.idx 1 (.tmp 37) (.tmp 38))), (some (33, true))⟩
(.take ⟨(some 42), (.pure (.mv (.tmp 2))), (some (33, true))⟩
(.take ⟨(some 43), (.pure (.mv (.tmp 3))), (some (33, true))⟩
(.take ⟨(some 44), (.pure (.idx 1 (.tmp 42) (.tmp 43))), (some (33, true))⟩
(.only false ⟨(some 34), (.load (some 2) (.tmp 4)), (some (33, true))⟩
(.only false ⟨(some 40), (.load none (.tmp 39)), (some (33, true))⟩
(.take ⟨(some 45), (.load none (.tmp 44)), (some (33, true))⟩
(.only false ⟨(some 41), (.eff (.call 177 [(.tmp 34), (.tmp 35), (.tmp 36), (.tmp 40)])), (some (33, true))⟩
(.take ⟨(some 46), (.pure (.bin .eql (.tmp 41) (.tmp 45))), (some (33, true))⟩
(.take ⟨(some 47), (.pure (.pick (.tmp 33) (.tmp 46) (.const (.bool false)))), none⟩
(.take ⟨(some 48), (.pure (.mv (.tmp 47))), none⟩
(.split 48
(.take ⟨(some 49), (.pure (.mv (.tmp 9))), (some (48, true))⟩
(.take ⟨(some 50), (.pure (.bin .lss (.tmp 49) (.const (.int .i64 (0))))), (some (48, true))⟩
(.take ⟨(some 51), (.pure (.mv (.tmp 50))), (some (48, true))⟩
(.split 51
(.take ⟨(some 52), (.pure (.mv (.tmp 12))), (some (51, false))⟩
(.take ⟨(some 53), (.pure (.mv (.tmp 9))), (some (51, false))⟩
(.take ⟨(some 54), (.pure (.bin .lss (.tmp 52) (.tmp 53))), (some (51, false))⟩
(.take ⟨(some 55), (.pure (.pick (.tmp 51) (.const (.bool true)) (.tmp 54))), (some (48, true))⟩
(.take ⟨(some 56), (.pure (.pick (.tmp 48) (.tmp 55) (.const (.bool false)))), none⟩
(.done)))))))))))))))))))))))))))))))))))))))
(.cond (.tmp 56)
(.ops [
.op ⟨(some 57), (.pure (.mv (.tmp 12))), none⟩,
.op ⟨(some 9), (.pure (.mv (.tmp 57))), none⟩])
(.skip))))))
(.ops [
.op ⟨(some 58), (.pure (.bin .add (.tmp 16) (.const (.int .i64 (1))))), none⟩,
.op ⟨(some 16), (.pure (.mv (.tmp 58))), none⟩])))))))
(.seq (.ops [
.op ⟨(some 59), (.pure (.mv (.tmp 9))), none⟩,
.op ⟨(some 8), (.pure (.mv (.tmp 59))), none⟩])
(.ret)))),
[.tmp 8]⟩
theorem r_spec_roBefore : resFun Try.prog f_spec_roBefore = some c_spec_roBefore := by kernel_rfl

/- slices.Reverse[[]int,int] -/
abbrev f_slices_Reverse_Lint_int : Nat := 133
def c_slices_Reverse_Lint_int : MFun := ⟨28, .seq (.ops [
.op ⟨(some 4), (.pure (.mv (.tmp 0))), none⟩,
.op ⟨(some 5), (.pure (.len (.tmp 4))), none⟩,
.op ⟨(some 6), (.pure (.bin .sub (.tmp 5) (.const (.int .i64 (1))))), none⟩,
.op ⟨(some 2), (.pure (.mv (.const (.int .i64 (0))))), none⟩,
.op ⟨(some 3), (.pure (.mv (.tmp 6))), none⟩])
(.block 0 (.loop (.seq (.seq (.ops [
.op ⟨(some 7), (.pure (.mv (.tmp 2))), none⟩,
.op ⟨(some 8), (.pure (.mv (.tmp 3))), none⟩,
.op ⟨(some 9), (.pure (.bin .lss (.tmp 7) (.tmp 8))), none⟩])
(.cond (.tmp 9)
(.skip)
(.exit 0)))
(.seq (.block 1 (.draw false
(.take ⟨(some 14), (.pure (.mv (.tmp 0))), none⟩
(.take ⟨(some 15), (.pure (.mv (.tmp 2))), none⟩
(.take ⟨(some 16), (.pure (.mv (.tmp 0))), none⟩
(.take ⟨(some 17), (.pure (.mv (.tmp 3))), none⟩
(.take ⟨(some 18), (.pure (.mv (.tmp 0))), none⟩
(.take ⟨(some 19), (.pure (.mv (.tmp 3))), none⟩
(.take ⟨(some 20), (.pure (.idx 1 (.tmp 18) (.tmp 19))), none⟩
(.take ⟨(some 22), (.pure (.mv (.tmp 0))), none⟩
(.take ⟨(some 23), (.pure (.mv (.tmp 2))), none⟩
(.take ⟨(some 24), (.pure (.idx 1 (.tmp 22) (.tmp 23))), none⟩
(.only false ⟨(some 21), (.load none (.tmp 20)), none⟩
(.only false ⟨(some 25), (.load none (.tmp 24)), none⟩
(.take ⟨(some 26), (.pure (.idx 1 (.tmp 14) (.tmp 15))), none⟩
(.only true ⟨none, (.eff (.store 1 (.tmp 26) (.tmp 21))), none⟩
(.take ⟨(some 27), (.pure (.idx 1 (.tmp 16) (.tmp 17))), none⟩
(.only true ⟨none, (.eff (.store 1 (.tmp 27) (.tmp 25))), none⟩
(.done)))))))))))))))))))
(.ops [
.op ⟨(some 10), (.pure (.mv (.tmp 2))), none⟩,
.op ⟨(some 11), (.pure (.bin .add (.tmp 10) (.const (.int .i64 (1))))), none⟩,
.op ⟨(some 12), (.pure (.mv (.tmp 3))), none⟩,
.op ⟨(some 13), (.pure (.bin .sub (.tmp 12) (.const (.int .i64 (1))))), none⟩,
.op ⟨(some 2), (.pure (.mv (.tmp 11))), none⟩,
.op ⟨(some 3), (.pure (.mv (.tmp 13))), none⟩]))))),
[]⟩
theorem r_slices_Reverse_Lint_int : resFun Try.prog f_slices_Reverse_Lint_int = some c_slices_Reverse_Lint_int := by kernel_rfl

/- (*loop.example/g00940/spec.l1Cur).foggy -/
abbrev f_spec_l1Cur_foggy : Nat := 134
def c_spec_l1Cur_foggy : MFun := ⟨15, .seq (.ops [
.op ⟨(some 2), (.eff (.new 32 [(.slice none 0 0), (.slice none 0 0)])), none⟩,
.op ⟨(some 3), (.pure (.mv (.const (.slice none 0 0)))), none⟩])
(.seq (.ops [
.op ⟨(some 5), (.pure (.mv (.tmp 0))), none⟩,
.op ⟨(some 6), (.eff (.call 184 [(.tmp 5)])), none⟩,
.op ⟨(some 4), (.eff (.new 32 [(.slice none 0 0), (.slice none 0 0)])), none⟩,
.op ⟨none, (.eff (.store 2 (.tmp 4) (.tmp 6))), none⟩])
(.seq (.seq (.ops [
.op ⟨(some 7), (.pure (.mv (.tmp 0))), none⟩,
.op ⟨(some 8), (.eff (.call 159 [(.tmp 7), (.const (.int .i64 (20)))])), none⟩])
(.cond (.tmp 8)
(.ops [
.op ⟨(some 9), (.pure (.mv (.tmp 0))), none⟩,
.op ⟨(some 10), (.eff (.call 154 [(.tmp 9)])), none⟩,
.op ⟨none, (.eff (.store 2 (.tmp 4) (.tmp 10))), none⟩])
(.skip)))
(.seq (.draw true
(.take ⟨(some 12), (.pure (.mv (.tmp 0))), none⟩
(.only false ⟨(some 13), (.load (some 2) (.tmp 4)), none⟩
(.take ⟨(some 11), (.load (some 2) (.tmp 4)), none⟩
(.only false ⟨(some 14), (.eff (.call 185 [(.tmp 12), (.tmp 13)])), none⟩
(.only true ⟨none, (.eff (.store 2 (.tmp 2) (.tmp 11))), none⟩
(.take ⟨(some 3), (.pure (.mv (.tmp 14))), none⟩
(.done))))))))
(.ret)))),
[.cell 2 (some 2), .tmp 3]⟩
theorem r_spec_l1Cur_foggy : resFun Try.prog f_spec_l1Cur_foggy = some c_spec_l1Cur_foggy := by kernel_rfl

/- (*loop.example/g00940/spec.l1Cur).link -/
abbrev f_spec_l1Cur_link : Nat := 135
def c_spec_l1Cur_link : MFun := ⟨18, .seq (.ops [
.op ⟨(some 3), (.eff (.box 32 (.tmp 1))), none⟩,
.op ⟨(some 4), (.pure (.mv (.const (.int .i64 (0))))), none⟩])
(.seq (.draw true
(.take ⟨(some 5), (.pure (.mv (.tmp 0))), none⟩
(.take ⟨(some 6), (.pure (.fieldAddr 1 (.tmp 3))), none⟩
(.take ⟨(some 9), (.pure (.mv (.tmp 0))), none⟩
(.take ⟨(some 14), (.pure (.mv (.tmp 0))), none⟩
(.take ⟨(some 7), (.load none (.tmp 6)), none⟩
(.take ⟨(some 8), (.pure (.len (.tmp 7))), none⟩
(.only false ⟨(some 10), (.eff (.call 160 [(.tmp 9), (.const (.int .i64 (16)))])), none⟩
(.take ⟨(some 11), (.pure (.bin .quo (.tmp 10) (.const (.int .i64 (15))))), none⟩
(.take ⟨(some 12), (.pure (.bin .add (.tmp 8) (.tmp 11))), none⟩
(.only true ⟨(some 13), (.eff (.call 160 [(.tmp 5), (.tmp 12)])), none⟩
(.only true ⟨(some 15), (.eff (.call 160 [(.tmp 14), (.const (.int .i64 (24)))])), none⟩
(.take ⟨(some 16), (.pure (.bin .quo (.tmp 15) (.const (.int .i64 (23))))), none⟩
(.take ⟨(some 17), (.pure (.bin .sub (.tmp 13) (.tmp 16))), none⟩
(.take ⟨(some 4), (.pure (.mv (.tmp 17))), none⟩
(.done))))))))))))))))
(.ret)),
[.tmp 4]⟩
theorem r_spec_l1Cur_link : resFun Try.prog f_spec_l1Cur_link = some c_spec_l1Cur_link := by kernel_rfl

/- (*loop.example/g00940/spec.l1Cur).second -/
abbrev f_spec_l1Cur_second : Nat := 136
def c_spec_l1Cur_second : MFun := ⟨15, .seq (.ops [
.op ⟨(some 2), (.pure (.mv (.const (.int .i64 (0))))), none⟩])
(.seq (.ops [
.op ⟨(some 3), (.pure (.mv (.tmp 0))), none⟩,
.op ⟨(some 4), (.pure (.mv (.tmp 0))), none⟩,
.op ⟨(some 5), (.eff (.call 160 [(.tmp 4), (.const (.int .i64 (100)))])), none⟩,
.op ⟨(some 6), (.pure (.mv (.tmp 0))), none⟩,
.op ⟨(some 7), (.eff (.call 160 [(.tmp 6), (.const (.int .i64 (100)))])), none⟩,
.op ⟨(some 8), (.pure (.mv (.tmp 0))), none⟩,
.op ⟨(some 9), (.eff (.call 160 [(.tmp 8), (.const (.int .i64 (200)))])), none⟩,
.op ⟨(some 10), (.pure (.mv (.tmp 0))), none⟩,
.op ⟨(some 11), (.eff (.row 3 3 [(.int .i64 (0)), (.int .i64 (0)), (.int .i64 (0))] [(0, 1, (.const (.int .i64 (10000)))), (1, 1, (.const (.int .i64 (10001)))), (2, 1, (.const (.int .i64 (-1))))])), none⟩,
.op ⟨(some 12), (.eff (.call 137 [(.tmp 10), (.tmp 11)])), none⟩,
.op ⟨(some 13), (.eff (.row 3 6 [(.int .i64 (0)), (.int .i64 (0)), (.int .i64 (0)), (.int .i64 (0)), (.int .i64 (0)), (.int .i64 (0))] [(0, 1, (.const (.int .i64 (0)))), (1, 1, (.const (.int .i64 (12)))), (2, 1, (.tmp 5)), (3, 1, (.tmp 7)), (4, 1, (.tmp 9)), (5, 1, (.tmp 12))])), none⟩,
.op ⟨(some 14), (.eff (.call 137 [(.tmp 3), (.tmp 13)])), none⟩,
.op ⟨(some 2), (.pure (.mv (.tmp 14))), none⟩])
(.ret)),
[.tmp 2]⟩
theorem r_spec_l1Cur_second : resFun Try.prog f_spec_l1Cur_second = some c_spec_l1Cur_second := by kernel_rfl

/- (*loop.example/g00940/spec.l1Cur).among -/
abbrev f_spec_l1Cur_among : Nat := 137
def c_spec_l1Cur_among : MFun := ⟨12, .seq (.ops [
.op ⟨(some 4), (.pure (.mv (.const (.int .i64 (0))))), none⟩])
(.seq (.ops [
.op ⟨(some 5), (.pure (.mv (.tmp 1))), none⟩,
.op ⟨(some 6), (.pure (.mv (.tmp 0))), none⟩,
.op ⟨(some 7), (.pure (.mv (.tmp 1))), none⟩,
.op ⟨(some 8), (.pure (.len (.tmp 7))), none⟩,
.op ⟨(some 9), (.eff (.call 160 [(.tmp 6), (.tmp 8)])), none⟩,
.op ⟨(some 10), (.pure (.idx 1 (.tmp 5) (.tmp 9))), none⟩,
.op ⟨(some 11), (.load none (.tmp 10)), none⟩,
.op ⟨(some 4), (.pure (.mv (.tmp 11))), none⟩])
(.ret)),
[.tmp 4]⟩
theorem r_spec_l1Cur_among : resFun Try.prog f_spec_l1Cur_among = some c_spec_l1Cur_among := by kernel_rfl

/- loop.example/g00940/impl.startAfter -/
abbrev f_impl_startAfter : Nat := 138
def c_impl_startAfter : MFun := ⟨39, .seq (.ops [
.op ⟨(some 8), (.pure (.mv (.const (.int .i64 (0))))), none⟩])
(.seq (.seq (.ops [
.op ⟨(some 11), (.pure (.mv (.tmp 0))), none⟩,
.op ⟨(some 12), (.pure (.len (.tmp 11))), none⟩,
.op ⟨(some 13), (.pure (.mv (.const (.int .i64 (0))))), none⟩])
(.block 0 (.loop (.seq (.ops [
.op ⟨(some 14), (.pure (.bin .lss (.tmp 13) (.tmp 12))), none⟩])
(.seq (.cond (.tmp 14)
(.skip)
(.exit 0))
(.seq (.block 1 (.seq (.ops [
.op ⟨(some 15), (.pure (.idx 3 (.tmp 11) (.tmp 13))), none⟩,
.op ⟨(some 16), (.load (some 3) (.tmp 15)), none⟩,
.op ⟨(some 10), (.eff (.new 96 [(.int .i64 (0)), (.int .i64 (0)), (.int .i64 (0))])), none⟩,
.op ⟨none, (.eff (.store 3 (.tmp 10) (.tmp 16))), none⟩])
(.seq (.ops [
.op ⟨(some 17), (.pure (.fieldAddr 0 (.tmp 10))), none⟩,
.op ⟨(some 18), (.load none (.tmp 17)), none⟩,
.op ⟨(some 19), (.pure (.mv (.tmp 1))), none⟩,
.op ⟨(some 20), (.pure (.bin .eql (.tmp 18) (.tmp 19))), none⟩,
.op ⟨(some 21), (.pure (.mv (.tmp 20))), none⟩,
.split 21,
.op ⟨(some 22), (.pure (.fieldAddr 2 (.tmp 10))), (some (21, true))⟩,
.op ⟨(some 23), (.load none (.tmp 22)), (some (21, true))⟩,
.op ⟨(some 24), (.pure (.mv (.tmp 2))), (some (21, true))⟩,
.op ⟨(some 25), (.pure (.bin .gtr (.tmp 23) (.tmp 24))), (some (21, true))⟩,
.op ⟨(some 26), (.pure (.pick (.tmp 21) (.tmp 25) (.const (.bool false)))), none⟩,
.op ⟨(some 27), (.pure (.mv (.tmp 26))), none⟩,
.split 27,
.op ⟨(some 28), (.pure (.fieldAddr 1 (.tmp 10))), (some (27, true))⟩,
.op ⟨(some 29), (.load none (.tmp 28)), (some (27, true))⟩,
.op ⟨(some 30), (.pure (.mv (.tmp 2))), (some (27, true))⟩,
.op ⟨(some 31), (.pure (.mv (.tmp 3))), (some (27, true))⟩,
.op ⟨(some 32), (.pure (.bin .add (.tmp 30) (.tmp 31))), (some (27, true))⟩,
.op ⟨(some 33), (.pure (.bin .lss (.tmp 29) (.tmp 32))), (some (27, true))⟩,
.op ⟨(some 34), (.pure (.pick (.tmp 27) (.tmp 33) (.const (.bool false)))), none⟩])
(.cond (.tmp 34)
(.ops [
.op ⟨(some 35), (.pure (.fieldAddr 2 (.tmp 10))), none⟩,
.op ⟨(some 36), (.load none (.tmp 35)), none⟩,
.op ⟨(some 2), (.pure (.mv (.tmp 36))), none⟩])
(.skip)))))
(.ops [
.op ⟨(some 37), (.pure (.bin .add (.tmp 13) (.const (.int .i64 (1))))), none⟩,
.op ⟨(some 13), (.pure (.mv (.tmp 37))), none⟩])))))))
(.seq (.ops [
.op ⟨(some 38), (.pure (.mv (.tmp 2))), none⟩,
.op ⟨(some 8), (.pure (.mv (.tmp 38))), none⟩])
(.ret))),
[.tmp 8]⟩
theorem r_impl_startAfter : resFun Try.prog f_impl_startAfter = some c_impl_startAfter := by kernel_rfl

/- loop.example/g00940/spec.fgHas -/
abbrev f_spec_fgHas : Nat := 139
def c_spec_fgHas : MFun := ⟨22, .seq (.ops [
.op ⟨(some 3), (.eff (.box 32 (.tmp 0))), none⟩,
.op ⟨(some 6), (.pure (.mv (.const (.bool false)))), none⟩])
(.seq (.ops [
.op ⟨(some 7), (.load (some 2) (.tmp 3)), none⟩,
.op ⟨(some 8), (.eff (.call 107 [(.tmp 7)])), none⟩,
.op ⟨(some 9), (.pure (.mv (.tmp 8))), none⟩,
.split 9,
.op ⟨(some 10), (.load (some 2) (.tmp 3)), (some (9, true))⟩,
.op ⟨(some 11), (.pure (.mv (.tmp 1))), (some (9, true))⟩,
.op ⟨(some 12), (.eff (.call 143 [(.tmp 10), (.tmp 11)])), (some (9, true))⟩,
.op ⟨(some 13), (.pure (.pick (.tmp 9) (.tmp 12) (.const (.bool false)))), none⟩,
.op ⟨(some 14), (.pure (.mv (.tmp 13))), none⟩,
.split 14,
.op ⟨(some 15), (.pure (.mv (.tmp 2))), (some (14, true))⟩,
.op ⟨(some 16), (.pure (.fieldAddr 1 (.tmp 3))), (some (14, true))⟩,
.op ⟨(some 17), (.load none (.tmp 16)), (some (14, true))⟩,
.op ⟨(some 18), (.pure (.len (.tmp 17))), (some (14, true))⟩,
.op ⟨(some 19), (.pure (.bin .sub (.tmp 18) (.const (.int .i64 (1))))), (some (14, true))⟩,
.op ⟨(some 20), (.eff (.call 108 [(.tmp 15), (.const (.int .i64 (0))), (.tmp 19)])), (some (14, true))⟩,
.op ⟨(some 21), (.pure (.pick (.tmp 14) (.tmp 20) (.const (.bool false)))), none⟩,
.op ⟨(some 6), (.pure (.mv (.tmp 21))), none⟩])
(.ret)),
[.tmp 6]⟩
theorem r_spec_fgHas : resFun Try.prog f_spec_fgHas = some c_spec_fgHas := by kernel_rfl

/- loop.example/g00940/spec.fgTime -/
abbrev f_spec_fgTime : Nat := 140
def c_spec_fgTime : MFun := ⟨5, .seq (.ops [
.op ⟨(some 2), (.pure (.mv (.const (.bool false)))), none⟩])
(.seq (.ops [
.op ⟨(some 3), (.pure (.mv (.tmp 0))), none⟩,
.op ⟨(some 4), (.eff (.call 108 [(.tmp 3), (.const (.int .i64 (0))), (.const (.int .i64 (10000)))])), none⟩,
.op ⟨(some 2), (.pure (.mv (.tmp 4))), none⟩])
(.ret)),
[.tmp 2]⟩
theorem r_spec_fgTime : resFun Try.prog f_spec_fgTime = some c_spec_fgTime := by kernel_rfl

/- loop.example/g00940/spec.fgStart -/
abbrev f_spec_fgStart : Nat := 141
def c_spec_fgStart : MFun := ⟨39, .seq (.ops [
.op ⟨(some 8), (.pure (.mv (.const (.int .i64 (0))))), none⟩])
(.seq (.seq (.ops [
.op ⟨(some 11), (.pure (.mv (.tmp 0))), none⟩,
.op ⟨(some 12), (.pure (.len (.tmp 11))), none⟩,
.op ⟨(some 13), (.pure (.mv (.const (.int .i64 (0))))), none⟩])
(.block 0 (.loop (.seq (.ops [
.op ⟨(some 14), (.pure (.bin .lss (.tmp 13) (.tmp 12))), none⟩])
(.seq (.cond (.tmp 14)
(.skip)
(.exit 0))
(.seq (.block 1 (.seq (.ops [
.op ⟨(some 15), (.pure (.idx 3 (.tmp 11) (.tmp 13))), none⟩,
.op ⟨(some 16), (.load (some 3) (.tmp 15)), none⟩,
.op ⟨(some 10), (.eff (.new 96 [(.int .i64 (0)), (.int .i64 (0)), (.int .i64 (0))])), none⟩,
.op ⟨none, (.eff (.store 3 (.tmp 10) (.tmp 16))), none⟩])
(.seq (.ops [
.op ⟨(some 17), (.pure (.fieldAddr 0 (.tmp 10))), none⟩,
.op ⟨(some 18), (.load none (.tmp 17)), none⟩,
.op ⟨(some 19), (.pure (.mv (.tmp 1))), none⟩,
.op ⟨(some 20), (.pure (.bin .eql (.tmp 18) (.tmp 19))), none⟩,
.op ⟨(some 21), (.pure (.mv (.tmp 20))), none⟩,
.split 21,
.op ⟨(some 22), (.pure (.mv (.tmp 2))), (some (21, true))⟩,
.op ⟨(some 23), (.pure (.fieldAddr 2 (.tmp 10))), (some (21, true))⟩,
.op ⟨(some 24), (.load none (.tmp 23)), (some (21, true))⟩,
.op ⟨(some 25), (.pure (.bin .lss (.tmp 22) (.tmp 24))), (some (21, true))⟩,
.op ⟨(some 26), (.pure (.pick (.tmp 21) (.tmp 25) (.const (.bool false)))), none⟩,
.op ⟨(some 27), (.pure (.mv (.tmp 26))), none⟩,
.split 27,
.op ⟨(some 28), (.pure (.mv (.tmp 2))), (some (27, true))⟩,
.op ⟨(some 29), (.pure (.mv (.tmp 3))), (some (27, true))⟩,
.op ⟨(some 30), (.pure (.bin .add (.tmp 28) (.tmp 29))), (some (27, true))⟩,
.op ⟨(some 31), (.pure (.fieldAddr 1 (.tmp 10))), (some (27, true))⟩,
.op ⟨(some 32), (.load none (.tmp 31)), (some (27, true))⟩,
.op ⟨(some 33), (.pure (.bin .gtr (.tmp 30) (.tmp 32))), (some (27, true))⟩,
.op ⟨(some 34), (.pure (.pick (.tmp 27) (.tmp 33) (.const (.bool false)))), none⟩])
(.cond (.tmp 34)
(.ops [
.op ⟨(some 35), (.pure (.fieldAddr 2 (.tmp 10))), none⟩,
.op ⟨(some 36), (.load none (.tmp 35)), none⟩,
.op ⟨(some 2), (.pure (.mv (.tmp 36))), none⟩])
(.skip)))))
(.ops [
.op ⟨(some 37), (.pure (.bin .add (.tmp 13) (.const (.int .i64 (1))))), none⟩,
.op ⟨(some 13), (.pure (.mv (.tmp 37))), none⟩])))))))
(.seq (.ops [
.op ⟨(some 38), (.pure (.mv (.tmp 2))), none⟩,
.op ⟨(some 8), (.pure (.mv (.tmp 38))), none⟩])
(.ret))),
[.tmp 8]⟩
theorem r_spec_fgStart : resFun Try.prog f_spec_fgStart = some c_spec_fgStart := by kernel_rfl

/- loop.example/g00940/spec.fgGood -/
abbrev f_spec_fgGood : Nat := 143
def c_spec_fgGood : MFun := ⟨57, .seq (.ops [
.op ⟨(some 2), (.eff (.box 32 (.tmp 0))), none⟩,
.op ⟨(some 4), (.pure (.mv (.const (.bool false)))), none⟩])
(.seq (.seq (.ops [
.op ⟨(some 7), (.pure (.mv (.tmp 1))), none⟩,
.op ⟨(some 8), (.pure (.len (.tmp 7))), none⟩,
.op ⟨(some 9), (.pure (.mv (.const (.int .i64 (0))))), none⟩])
(.block 0 (.loop (.seq (.ops [
.op ⟨(some 10), (.pure (.bin .lss (.tmp 9) (.tmp 8))), none⟩])
(.seq (.cond (.tmp 10)
(.skip)
(.exit 0))
(.seq (.block 1 (.seq (.ops [
.op ⟨(some 11), (.pure (.mv (.tmp 9))), none⟩,
.op ⟨(some 12), (.pure (.idx 3 (.tmp 7) (.tmp 9))), none⟩,
.op ⟨(some 13), (.load (some 3) (.tmp 12)), none⟩,
.op ⟨(some 6), (.eff (.new 96 [(.int .i64 (0)), (.int .i64 (0)), (.int .i64 (0))])), none⟩,
.op ⟨(some 5), (.pure (.mv (.tmp 11))), none⟩,
.op ⟨none, (.eff (.store 3 (.tmp 6) (.tmp 13))), none⟩])
(.seq (.seq (.ops [
.op ⟨(some 14), (.load (some 2) (.tmp 2)), none⟩,
.op ⟨(some 15), (.load (some 3) (.tmp 6)), none⟩,
.op ⟨(some 16), (.eff (.call 161 [(.tmp 14), (.tmp 15)])), none⟩,
.op ⟨(some 17), (.pure (.bnot (.tmp 16))), none⟩])
(.cond (.tmp 17)
(.seq (.ops [
.op ⟨(some 4), (.pure (.mv (.const (.bool false)))), none⟩])
(.ret))
(.skip)))
(.seq (.ops [
.op ⟨(some 18), (.pure (.mv (.tmp 5))), none⟩,
.op ⟨(some 19), (.pure (.bin .gtr (.tmp 18) (.const (.int .i64 (0))))), none⟩,
.op ⟨(some 20), (.pure (.mv (.tmp 19))), none⟩,
.split 20,
.op ⟨(some 21), (.pure (.mv (.tmp 1))), (some (20, true))⟩,
.op ⟨(some 22), (.pure (.mv (.tmp 5))), (some (20, true))⟩,
.op ⟨(some 23), (.pure (.bin .sub (.tmp 22) (.const (.int .i64 (1))))), (some (20, true))⟩,
.op ⟨(some 24), (.pure (.idx 3 (.tmp 21) (.tmp 23))), (some (20, true))⟩,
.op ⟨(some 25), (.pure (.fieldAddr 0 (.tmp 24))), (some (20, true))⟩,
.op ⟨(some 27), (.pure (.fieldAddr 0 (.tmp 6))), (some (20, true))⟩,
.op ⟨(some 26), (.load none (.tmp 25)), (some (20, true))⟩,
.op ⟨(some 28), (.load none (.tmp 27)), (some (20, true))⟩,
.op ⟨(some 29), (.pure (.bin .gtr (.tmp 26) (.tmp 28))), (some (20, true))⟩,
.op ⟨(some 30), (.pure (.mv (.tmp 29))), (some (20, true))⟩,
.split 30,
.op ⟨(some 31), (.pure (.mv (.tmp 1))), (some (30, false))⟩,
.op ⟨(some 32), (.pure (.mv (.tmp 5))), (some (30, false))⟩,
.op ⟨(some 33), (.pure (.bin .sub (.tmp 32) (.const (.int .i64 (1))))), (some (30, false))⟩,
.op ⟨(some 34), (.pure (.idx 3 (.tmp 31) (.tmp 33))), (some (30, false))⟩,
.op ⟨(some 35), (.pure (.fieldAddr 0 (.tmp 34))), (some (30, false))⟩,
.op ⟨(some 37), (.pure (.fieldAddr 0 (.tmp 6))), (some (30, false))⟩,
.op ⟨(some 36), (.load none (.tmp 35)), (some (30, false))⟩,
.op ⟨(some 38), (.load none (.tmp 37)), (some (30, false))⟩,
.op ⟨(some 39), (.pure (.bin .eql (.tmp 36) (.tmp 38))), (some (30, false))⟩,
.op ⟨(some 40), (.pure (.mv (.tmp 39))), (some (30, false))⟩,
.split 40,
.op ⟨(some 41), (.pure (.mv (.tmp 1))), (some (40, true))⟩,
.op ⟨(some 42), (.pure (.mv (.tmp 5))), (some (40, true))⟩,
.op ⟨(some 43), (.pure (.bin .sub (.tmp 42) (.const (.int .i64 (1))))), (some (40, true))⟩,
.op ⟨(some 44), (.pure (.idx 3 (.tmp 41) (.tmp 43))), (some (40, true))⟩,
.op ⟨(some 45), (.pure (.fieldAddr 2 (.tmp 44))), (some (40, true))⟩,
.op ⟨(some 47), (.pure (.fieldAddr 1 (.tmp 6))), (some (40, true))⟩,
.op ⟨(some 46), (.load none (.tmp 45)), (some (40, true))⟩,
.op ⟨(some 48), (.load none (.tmp 47)), (some (40, true))⟩,
.op ⟨(some 49), (.pure (.bin .geq (.tmp 46) (.tmp 48))), (some (40, true))⟩,
.op ⟨(some 50), (.pure (.pick (.tmp 40) (.tmp 49) (.const (.bool false)))), (some (30, false))⟩,
.op ⟨(some 51), (.pure (.pick (.tmp 30) (.const (.bool true)) (.tmp 50))), (some (20, true))⟩,
.op ⟨(some 52), (.pure (.pick (.tmp 20) (.tmp 51) (.const (.bool false)))), none⟩])
(.cond (.tmp 52)
(.seq (.ops [
.op ⟨(some 4), (.pure (.mv (.const (.bool false)))), none⟩])
(.ret))
(.skip))))))
(.ops [
.op ⟨(some 53), (.pure (.bin .add (.tmp 9) (.const (.int .i64 (1))))), none⟩,
.op ⟨(some 9), (.pure (.mv (.tmp 53))), none⟩])))))))
(.seq (.ops [
.op ⟨(some 54), (.pure (.mv (.tmp 1))), none⟩,
.op ⟨(some 55), (.pure (.len (.tmp 54))), none⟩,
.op ⟨(some 56), (.pure (.bin .leq (.tmp 55) (.const (.int .i64 (60))))), none⟩,
.op ⟨(some 4), (.pure (.mv (.tmp 56))), none⟩])
(.ret))),
[.tmp 4]⟩
theorem r_spec_fgGood : resFun Try.prog f_spec_fgGood = some c_spec_fgGood := by kernel_rfl

/- slices.Index[[]int,int] -/
abbrev f_slices_Index_Lint_int : Nat := 150
def c_slices_Index_Lint_int : MFun := ⟨19, .seq (.ops [
.op ⟨(some 4), (.pure (.mv (.const (.int .i64 (0))))), none⟩])
(.seq (.seq (.ops [
.op ⟨(some 6), (.pure (.mv (.tmp 0))), none⟩,
.op ⟨(some 7), (.pure (.len (.tmp 6))), none⟩,
.op ⟨(some 8), (.pure (.mv (.const (.int .i64 (0))))), none⟩])
(.block 0 (.loop (.seq (.ops [
.op ⟨(some 9), (.pure (.bin .lss (.tmp 8) (.tmp 7))), none⟩])
(.seq (.cond (.tmp 9)
(.skip)
(.exit 0))
(.seq (.block 1 (.seq (.ops [
.op ⟨(some 10), (.pure (.mv (.tmp 8))), none⟩,
.op ⟨(some 5), (.pure (.mv (.tmp 10))), none⟩])
(.seq (.ops [
.op ⟨(some 11), (.pure (.mv (.tmp 1))), none⟩,
.op ⟨(some 12), (.pure (.mv (.tmp 0))), none⟩,
.op ⟨(some 13), (.pure (.mv (.tmp 5))), none⟩,
.op ⟨(some 14), (.pure (.idx 1 (.tmp 12) (.tmp 13))), none⟩,
.op ⟨(some 15), (.load none (.tmp 14)), none⟩,
.op ⟨(some 16), (.pure (.bin .eql (.tmp 11) (.tmp 15))), none⟩])
(.cond (.tmp 16)
(.seq (.ops [
.op ⟨(some 17), (.pure (.mv (.tmp 5))), none⟩,
.op ⟨(some 4), (.pure (.mv (.tmp 17))), none⟩])
(.ret))
(.skip)))))
(.ops [
.op ⟨(some 18), (.pure (.bin .add (.tmp 8) (.const (.int .i64 (1))))), none⟩,
.op ⟨(some 8), (.pure (.mv (.tmp 18))), none⟩])))))))
(.seq (.ops [
.op ⟨(some 4), (.pure (.mv (.const (.int .i64 (-1))))), none⟩])
(.ret))),
[.tmp 4]⟩
theorem r_slices_Index_Lint_int : resFun Try.prog f_slices_Index_Lint_int = some c_slices_Index_Lint_int := by kernel_rfl

/- (*loop.example/g00940/spec.l1Cur).anyNet -/
abbrev f_spec_l1Cur_anyNet : Nat := 154
def c_spec_l1Cur_anyNet : MFun := ⟨164, .seq (.ops [
.op ⟨(some 2), (.eff (.new 32 [(.slice none 0 0), (.slice none 0 0)])), none⟩])
(.seq (.ops [
.op ⟨(some 11), (.pure (.mv (.tmp 0))), none⟩,
.op ⟨(some 12), (.eff (.call 184 [(.tmp 11)])), none⟩,
.op ⟨(some 3), (.eff (.new 32 [(.slice none 0 0), (.slice none 0 0)])), none⟩,
.op ⟨none, (.eff (.store 2 (.tmp 3) (.tmp 12))), none⟩])
(.seq (.draw true
(.take ⟨(some 13), (.pure (.fieldAddr 0 (.tmp 3))), none⟩
(.take ⟨(some 15), (.pure (.mv (.tmp 0))), none⟩
(.take ⟨(some 16), (.pure (.fieldAddr 0 (.tmp 3))), none⟩
(.only false ⟨(some 17), (.load none (.tmp 16)), none⟩
(.take ⟨(some 18), (.pure (.len (.tmp 17))), none⟩
(.take ⟨(some 14), (.load none (.tmp 13)), none⟩
(.only false ⟨(some 19), (.eff (.call 160 [(.tmp 15), (.tmp 18)])), none⟩
(.take ⟨(some 20), (.pure (.idx 3 (.tmp 14) (.tmp 19))), none⟩
(.take ⟨(some 4), (.pure (.mv (.tmp 20))), none⟩
(.done)))))))))))
(.seq (.seq (.ops [
.op ⟨(some 21), (.pure (.mv (.tmp 0))), none⟩,
.op ⟨(some 22), (.eff (.call 160 [(.tmp 21), (.const (.int .i64 (36)))])), none⟩])
(.block 0 (.seq (.ops [
.op ⟨(some 24), (.pure (.bin .eql (.tmp 22) (.const (.int .i64 (0))))), none⟩,
.op ⟨(some 23), (.pure (.mv (.tmp 24))), none⟩])
(.cond (.tmp 23)
(.ops [
.op ⟨(some 25), (.pure (.mv (.tmp 4))), none⟩,
.op ⟨(some 26), (.pure (.mv (.tmp 0))), none⟩,
.op ⟨(some 27), (.eff (.row 3 3 [(.int .i64 (0)), (.int .i64 (0)), (.int .i64 (0))] [(0, 1, (.const (.int .i64 (-1)))), (1, 1, (.const (.int .i64 (999)))), (2, 1, (.const (.int .i64 (1000))))])), none⟩,
.op ⟨(some 28), (.eff (.call 137 [(.tmp 26), (.tmp 27)])), none⟩,
.op ⟨(some 29), (.pure (.nilc (.tmp 25))), none⟩,
.op ⟨(some 30), (.pure (.fieldAddr 0 (.tmp 29))), none⟩,
.op ⟨none, (.eff (.store 1 (.tmp 30) (.tmp 28))), none⟩])
(.seq (.ops [
.op ⟨(some 32), (.pure (.bin .eql (.tmp 22) (.const (.int .i64 (1))))), none⟩,
.op ⟨(some 31), (.pure (.mv (.tmp 32))), none⟩])
(.cond (.tmp 31)
(.ops [
.op ⟨(some 33), (.pure (.mv (.tmp 4))), none⟩,
.op ⟨(some 34), (.pure (.mv (.tmp 0))), none⟩,
.op ⟨(some 35), (.eff (.row 3 3 [(.int .i64 (0)), (.int .i64 (0)), (.int .i64 (0))] [(0, 1, (.const (.int .i64 (-1)))), (1, 1, (.const (.int .i64 (999)))), (2, 1, (.const (.int .i64 (1000))))])), none⟩,
.op ⟨(some 36), (.eff (.call 137 [(.tmp 34), (.tmp 35)])), none⟩,
.op ⟨(some 37), (.pure (.nilc (.tmp 33))), none⟩,
.op ⟨(some 38), (.pure (.fieldAddr 1 (.tmp 37))), none⟩,
.op ⟨none, (.eff (.store 1 (.tmp 38) (.tmp 36))), none⟩])
(.seq (.ops [
.op ⟨(some 40), (.pure (.bin .eql (.tmp 22) (.const (.int .i64 (2))))), none⟩,
.op ⟨(some 39), (.pure (.mv (.tmp 40))), none⟩])
(.cond (.tmp 39)
(.ops [
.op ⟨(some 41), (.pure (.mv (.tmp 4))), none⟩,
.op ⟨(some 42), (.pure (.mv (.tmp 0))), none⟩,
.op ⟨(some 43), (.eff (.row 3 3 [(.int .i64 (0)), (.int .i64 (0)), (.int .i64 (0))] [(0, 1, (.const (.int .i64 (-1)))), (1, 1, (.const (.int .i64 (500)))), (2, 1, (.const (.int .i64 (501))))])), none⟩,
.op ⟨(some 44), (.eff (.call 137 [(.tmp 42), (.tmp 43)])), none⟩,
.op ⟨(some 45), (.pure (.nilc (.tmp 41))), none⟩,
.op ⟨(some 46), (.pure (.fieldAddr 2 (.tmp 45))), none⟩,
.op ⟨none, (.eff (.store 1 (.tmp 46) (.tmp 44))), none⟩])
(.seq (.ops [
.op ⟨(some 48), (.pure (.bin .eql (.tmp 22) (.const (.int .i64 (3))))), none⟩,
.op ⟨(some 47), (.pure (.mv (.tmp 48))), none⟩])
(.cond (.tmp 47)
(.ops [
.op ⟨(some 49), (.pure (.fieldAddr 0 (.tmp 3))), none⟩,
.op ⟨none, (.eff (.store 1 (.tmp 49) (.const (.slice none 0 0)))), none⟩])
(.seq (.ops [
.op ⟨(some 51), (.pure (.bin .eql (.tmp 22) (.const (.int .i64 (4))))), none⟩,
.op ⟨(some 50), (.pure (.mv (.tmp 51))), none⟩])
(.cond (.tmp 50)
(.seq (.ops [
.op ⟨(some 52), (.pure (.mv (.tmp 0))), none⟩,
.op ⟨(some 53), (.eff (.call 160 [(.tmp 52), (.const (.int .i64 (2)))])), none⟩,
.op ⟨(some 54), (.pure (.bin .add (.const (.int .i64 (16))) (.tmp 53))), none⟩,
.op ⟨(some 5), (.pure (.mv (.tmp 54))), none⟩])
(.block 1 (.loop (.seq (.seq (.ops [
.op ⟨(some 55), (.pure (.fieldAddr 0 (.tmp 3))), none⟩,
.op ⟨(some 56), (.load none (.tmp 55)), none⟩,
.op ⟨(some 57), (.pure (.len (.tmp 56))), none⟩,
.op ⟨(some 58), (.pure (.mv (.tmp 5))), none⟩,
.op ⟨(some 59), (.pure (.bin .lss (.tmp 57) (.tmp 58))), none⟩])
(.cond (.tmp 59)
(.skip)
(.exit 1)))
(.block 2 (.draw true
(.take ⟨(some 60), (.pure (.fieldAddr 0 (.tmp 3))), none⟩
(.take ⟨(some 62), (.pure (.fieldAddr 0 (.tmp 3))), none⟩
(.only false ⟨(some 63), (.load none (.tmp 62)), none⟩
(.take ⟨(some 64), (.pure (.idx 3 (.tmp 63) (.const (.int .i64 (0))))), none⟩
(.only false ⟨(some 65), (.load (some 3) (.tmp 64)), none⟩
(.take ⟨(some 61), (.load none (.tmp 60)), none⟩
(.only false ⟨(some 66), (.eff (.row 147 1 [(.int .i64 (0)), (.int .i64 (0)), (.int .i64 (0))] [(0, 3, (.tmp 65))])), none⟩
(.only true ⟨(some 67), (.eff (.app 147 3 24 (.tmp 61) (.tmp 66))), none⟩
(.take ⟨(some 68), (.pure (.fieldAddr 0 (.tmp 3))), none⟩
(.only true ⟨none, (.eff (.store 1 (.tmp 68) (.tmp 67))), none⟩
(.done)))))))))))))))))
(.seq (.seq (.ops [
.op ⟨(some 70), (.pure (.bin .eql (.tmp 22) (.const (.int .i64 (5))))), none⟩,
.op ⟨(some 69), (.pure (.mv (.tmp 70))), none⟩])
(.cond (.tmp 69)
(.skip)
(.ops [
.op ⟨(some 71), (.pure (.bin .eql (.tmp 22) (.const (.int .i64 (6))))), none⟩,
.op ⟨(some 69), (.pure (.mv (.tmp 71))), none⟩])))
(.cond (.tmp 69)
(.seq (.ops [
.op ⟨(some 72), (.pure (.fieldAddr 1 (.tmp 3))), none⟩,
.op ⟨(some 73), (.load none (.tmp 72)), none⟩,
.op ⟨(some 74), (.pure (.len (.tmp 73))), none⟩,
.op ⟨(some 6), (.pure (.mv (.tmp 74))), none⟩])
(.seq (.ops [
.op ⟨(some 75), (.pure (.mv (.tmp 6))), none⟩,
.op ⟨(some 76), (.pure (.bin .gtr (.tmp 75) (.const (.int .i64 (0))))), none⟩])
(.cond (.tmp 76)
(.seq (.draw true
(.take ⟨(some 77), (.pure (.fieldAddr 1 (.tmp 3))), none⟩
(.take ⟨(some 79), (.pure (.mv (.tmp 0))), none⟩
(.take ⟨(some 80), (.pure (.mv (.tmp 6))), none⟩
(.take ⟨(some 78), (.load none (.tmp 77)), none⟩
(.only false ⟨(some 81), (.eff (.call 160 [(.tmp 79), (.tmp 80)])), none⟩
(.take ⟨(some 82), (.pure (.idx 3 (.tmp 78) (.tmp 81))), none⟩
(.take ⟨(some 7), (.pure (.mv (.tmp 82))), none⟩
(.done)))))))))
(.seq (.ops [
.op ⟨(some 83), (.pure (.mv (.tmp 0))), none⟩,
.op ⟨(some 84), (.eff (.call 160 [(.tmp 83), (.const (.int .i64 (4)))])), none⟩])
(.block 3 (.seq (.ops [
.op ⟨(some 86), (.pure (.bin .eql (.tmp 84) (.const (.int .i64 (0))))), none⟩,
.op ⟨(some 85), (.pure (.mv (.tmp 86))), none⟩])
(.cond (.tmp 85)
(.ops [
.op ⟨(some 87), (.pure (.mv (.tmp 7))), none⟩,
.op ⟨(some 88), (.pure (.mv (.tmp 0))), none⟩,
.op ⟨(some 89), (.pure (.mv (.tmp 7))), none⟩,
.op ⟨(some 90), (.pure (.nilc (.tmp 89))), none⟩,
.op ⟨(some 91), (.pure (.fieldAddr 1 (.tmp 90))), none⟩,
.op ⟨(some 92), (.load none (.tmp 91)), none⟩,
.op ⟨(some 93), (.eff (.row 3 2 [(.int .i64 (0)), (.int .i64 (0))] [(0, 1, (.const (.int .i64 (-1)))), (1, 1, (.tmp 92))])), none⟩,
.op ⟨(some 94), (.eff (.call 137 [(.tmp 88), (.tmp 93)])), none⟩,
.op ⟨(some 95), (.pure (.nilc (.tmp 87))), none⟩,
.op ⟨(some 96), (.pure (.fieldAddr 0 (.tmp 95))), none⟩,
.op ⟨none, (.eff (.store 1 (.tmp 96) (.tmp 94))), none⟩])
(.seq (.ops [
.op ⟨(some 98), (.pure (.bin .eql (.tmp 84) (.const (.int .i64 (1))))), none⟩,
.op ⟨(some 97), (.pure (.mv (.tmp 98))), none⟩])
(.cond (.tmp 97)
(.draw false
(.take ⟨(some 99), (.pure (.mv (.tmp 7))), none⟩
(.take ⟨(some 100), (.pure (.mv (.tmp 0))), none⟩
(.take ⟨(some 101), (.pure (.mv (.tmp 7))), none⟩
(.take ⟨(some 102), (.pure (.nilc (.tmp 101))), none⟩
(.take ⟨(some 103), (.pure (.fieldAddr 0 (.tmp 102))), none⟩
(.take ⟨(some 105), (.pure (.fieldAddr 0 (.tmp 3))), none⟩
(.only false ⟨(some 104), (.load none (.tmp 103)), none⟩
(.only false ⟨(some 106), (.load none (.tmp 105)), none⟩
(.take ⟨(some 107), (.pure (.len (.tmp 106))), none⟩
(.only true ⟨(some 108), (.eff (.row 3 2 [(.int .i64 (0)), (.int .i64 (0))] [(0, 1, (.tmp 104)), (1, 1, (.tmp 107))])), none⟩
(.only true ⟨(some 109), (.eff (.call 137 [(.tmp 100), (.tmp 108)])), none⟩
(.take ⟨(some 110), (.pure (.nilc (.tmp 99))), none⟩
(.take ⟨(some 111), (.pure (.fieldAddr 1 (.tmp 110))), none⟩
(.only true ⟨none, (.eff (.store 1 (.tmp 111) (.tmp 109))), none⟩
(.done))))))))))))))))
(.seq (.ops [
.op ⟨(some 113), (.pure (.bin .eql (.tmp 84) (.const (.int .i64 (2))))), none⟩,
.op ⟨(some 112), (.pure (.mv (.tmp 113))), none⟩])
(.cond (.tmp 112)
(.ops [
.op ⟨(some 114), (.pure (.mv (.tmp 7))), none⟩,
.op ⟨(some 115), (.pure (.mv (.tmp 0))), none⟩,
.op ⟨(some 116), (.eff (.row 3 3 [(.int .i64 (0)), (.int .i64 (0)), (.int .i64 (0))] [(0, 1, (.const (.int .i64 (0)))), (1, 1, (.const (.int .i64 (60)))), (2, 1, (.const (.int .i64 (61))))])), none⟩,
.op ⟨(some 117), (.eff (.call 137 [(.tmp 115), (.tmp 116)])), none⟩,
.op ⟨(some 118), (.pure (.nilc (.tmp 114))), none⟩,
.op ⟨(some 119), (.pure (.fieldAddr 2 (.tmp 118))), none⟩,
.op ⟨none, (.eff (.store 1 (.tmp 119) (.tmp 117))), none⟩])
(.seq (.ops [
.op ⟨(some 121), (.pure (.bin .eql (.tmp 84) (.const (.int .i64 (3))))), none⟩,
.op ⟨(some 120), (.pure (.mv (.tmp 121))), none⟩])
(.cond (.tmp 120)
(.draw true
(.take ⟨(some 122), (.pure (.fieldAddr 1 (.tmp 3))), none⟩
(.take ⟨(some 124), (.pure (.fieldAddr 1 (.tmp 3))), none⟩
(.only false ⟨(some 125), (.load none (.tmp 124)), none⟩
(.take ⟨(some 126), (.pure (.idx 3 (.tmp 125) (.const (.int .i64 (0))))), none⟩
(.only false ⟨(some 127), (.load (some 3) (.tmp 126)), none⟩
(.take ⟨(some 123), (.load none (.tmp 122)), none⟩
(.only false ⟨(some 128), (.eff (.row 88 1 [(.int .i64 (0)), (.int .i64 (0)), (.int .i64 (0))] [(0, 3, (.tmp 127))])), none⟩
(.only true ⟨(some 129), (.eff (.app 88 3 24 (.tmp 123) (.tmp 128))), none⟩
(.take ⟨(some 130), (.pure (.fieldAddr 1 (.tmp 3))), none⟩
(.only true ⟨none, (.eff (.store 1 (.tmp 130) (.tmp 129))), none⟩
(.done))))))))))))
(.skip))))))))))))
(.skip))))
(.seq (.ops [
.op ⟨(some 132), (.pure (.bin .eql (.tmp 22) (.const (.int .i64 (7))))), none⟩,
.op ⟨(some 131), (.pure (.mv (.tmp 132))), none⟩])
(.cond (.tmp 131)
(.seq (.ops [
.op ⟨(some 133), (.eff (.mk 147 3 24 [(.int .i64 (0)), (.int .i64 (0)), (.int .i64 (0))] (.const (.int .i64 (10))) (.const (.int .i64 (10))))), none⟩,
.op ⟨(some 134), (.pure (.build [(.slice none 0 0), (.slice none 0 0)] [(0, 1, (.tmp 133))])), none⟩,
.op ⟨none, (.eff (.store 2 (.tmp 3) (.tmp 134))), none⟩])
(.seq (.ops [
.op ⟨(some 135), (.pure (.mv (.tmp 0))), none⟩,
.op ⟨(some 136), (.eff (.call 160 [(.tmp 135), (.const (.int .i64 (2)))])), none⟩,
.op ⟨(some 137), (.pure (.bin .add (.const (.int .i64 (40))) (.tmp 136))), none⟩,
.op ⟨(some 8), (.pure (.mv (.tmp 137))), none⟩])
(.seq (.ops [
.op ⟨(some 9), (.pure (.mv (.const (.int .i64 (0))))), none⟩])
(.block 4 (.loop (.seq (.seq (.ops [
.op ⟨(some 138), (.pure (.mv (.tmp 9))), none⟩,
.op ⟨(some 139), (.pure (.bin .lss (.tmp 138) (.const (.int .i64 (10))))), none⟩])
(.cond (.tmp 139)
(.skip)
(.exit 4)))
(.seq (.block 5 (.seq (.ops [
.op ⟨(some 142), (.pure (.mv (.tmp 9))), none⟩,
.op ⟨(some 143), (.pure (.bin .add (.tmp 142) (.const (.int .i64 (1))))), none⟩,
.op ⟨(some 10), (.pure (.mv (.tmp 143))), none⟩])
(.block 6 (.loop (.seq (.seq (.ops [
.op ⟨(some 144), (.pure (.mv (.tmp 10))), none⟩,
.op ⟨(some 145), (.pure (.bin .lss (.tmp 144) (.const (.int .i64 (10))))), none⟩,
.op ⟨(some 146), (.pure (.mv (.tmp 145))), none⟩,
.split 146,
.op ⟨(some 147), (.pure (.fieldAddr 1 (.tmp 3))), (some (146, true))⟩,
.op ⟨(some 148), (.load none (.tmp 147)), (some (146, true))⟩,
.op ⟨(some 149), (.pure (.len (.tmp 148))), (some (146, true))⟩,
.op ⟨(some 150), (.pure (.mv (.tmp 8))), (some (146, true))⟩,
.op ⟨(some 151), (.pure (.bin .lss (.tmp 149) (.tmp 150))), (some (146, true))⟩,
.op ⟨(some 152), (.pure (.pick (.tmp 146) (.tmp 151) (.const (.bool false)))), none⟩])
(.cond (.tmp 152)
(.skip)
(.exit 6)))
(.seq (.block 7 (.ops [
.op ⟨(some 155), (.pure (.fieldAddr 1 (.tmp 3))), none⟩,
.op ⟨(some 156), (.load none (.tmp 155)), none⟩,
.op ⟨(some 157), (.pure (.mv (.tmp 9))), none⟩,
.op ⟨(some 158), (.pure (.mv (.tmp 10))), none⟩,
.op ⟨(some 159), (.pure (.build [(.int .i64 (0)), (.int .i64 (0)), (.int .i64 (0))] [(0, 1, (.tmp 157)), (1, 1, (.tmp 158)), (2, 1, (.const (.int .i64 (5))))])), none⟩,
.op ⟨(some 160), (.eff (.row 88 1 [(.int .i64 (0)), (.int .i64 (0)), (.int .i64 (0))] [(0, 3, (.tmp 159))])), none⟩,
.op ⟨(some 161), (.eff (.app 88 3 24 (.tmp 156) (.tmp 160))), none⟩,
.op ⟨(some 162), (.pure (.fieldAddr 1 (.tmp 3))), none⟩,
.op ⟨none, (.eff (.store 1 (.tmp 162) (.tmp 161))), none⟩]))
(.ops [
.op ⟨(some 153), (.pure (.mv (.tmp 10))), none⟩,
.op ⟨(some 154), (.pure (.bin .add (.tmp 153) (.const (.int .i64 (1))))), none⟩,
.op ⟨(some 10), (.pure (.mv (.tmp 154))), none⟩])))))))
(.ops [
.op ⟨(some 140), (.pure (.mv (.tmp 9))), none⟩,
.op ⟨(some 141), (.pure (.bin .add (.tmp 140) (.const (.int .i64 (1))))), none⟩,
.op ⟨(some 9), (.pure (.mv (.tmp 141))), none⟩]))))))))
(.skip)))))))))))))))))
(.seq (.ops [
.op ⟨(some 163), (.load (some 2) (.tmp 3)), none⟩,
.op ⟨none, (.eff (.store 2 (.tmp 2) (.tmp 163))), none⟩])
(.ret))))),
[.cell 2 (some 2)]⟩
theorem r_spec_l1Cur_anyNet : resFun Try.prog f_spec_l1Cur_anyNet = some c_spec_l1Cur_anyNet := by kernel_rfl

/- (*loop.example/g00940/spec.l1Cur).tower -/
abbrev f_spec_l1Cur_tower : Nat := 155
def c_spec_l1Cur_tower : MFun := ⟨18, .seq (.ops [
.op ⟨(some 3), (.eff (.box 32 (.tmp 1))), none⟩,
.op ⟨(some 4), (.pure (.mv (.const (.int .i64 (0))))), none⟩])
(.seq (.draw true
(.take ⟨(some 5), (.pure (.mv (.tmp 0))), none⟩
(.take ⟨(some 6), (.pure (.fieldAddr 0 (.tmp 3))), none⟩
(.take ⟨(some 9), (.pure (.mv (.tmp 0))), none⟩
(.take ⟨(some 14), (.pure (.mv (.tmp 0))), none⟩
(.take ⟨(some 7), (.load none (.tmp 6)), none⟩
(.take ⟨(some 8), (.pure (.len (.tmp 7))), none⟩
(.only false ⟨(some 10), (.eff (.call 160 [(.tmp 9), (.const (.int .i64 (16)))])), none⟩
(.take ⟨(some 11), (.pure (.bin .quo (.tmp 10) (.const (.int .i64 (15))))), none⟩
(.take ⟨(some 12), (.pure (.bin .add (.tmp 8) (.tmp 11))), none⟩
(.only true ⟨(some 13), (.eff (.call 160 [(.tmp 5), (.tmp 12)])), none⟩
(.only true ⟨(some 15), (.eff (.call 160 [(.tmp 14), (.const (.int .i64 (24)))])), none⟩
(.take ⟨(some 16), (.pure (.bin .quo (.tmp 15) (.const (.int .i64 (23))))), none⟩
(.take ⟨(some 17), (.pure (.bin .sub (.tmp 13) (.tmp 16))), none⟩
(.take ⟨(some 4), (.pure (.mv (.tmp 17))), none⟩
(.done))))))))))))))))
(.ret)),
[.tmp 4]⟩
theorem r_spec_l1Cur_tower : resFun Try.prog f_spec_l1Cur_tower = some c_spec_l1Cur_tower := by kernel_rfl

/- loop.example/g00940/spec.neHas -/
abbrev f_spec_neHas : Nat := 156
def c_spec_neHas : MFun := ⟨15, .seq (.ops [
.op ⟨(some 2), (.eff (.box 32 (.tmp 0))), none⟩,
.op ⟨(some 4), (.pure (.mv (.const (.bool false)))), none⟩])
(.seq (.ops [
.op ⟨(some 5), (.load (some 2) (.tmp 2)), none⟩,
.op ⟨(some 6), (.eff (.call 107 [(.tmp 5)])), none⟩,
.op ⟨(some 7), (.pure (.mv (.tmp 6))), none⟩,
.split 7,
.op ⟨(some 8), (.pure (.mv (.tmp 1))), (some (7, true))⟩,
.op ⟨(some 9), (.pure (.fieldAddr 0 (.tmp 2))), (some (7, true))⟩,
.op ⟨(some 10), (.load none (.tmp 9)), (some (7, true))⟩,
.op ⟨(some 11), (.pure (.len (.tmp 10))), (some (7, true))⟩,
.op ⟨(some 12), (.pure (.bin .sub (.tmp 11) (.const (.int .i64 (1))))), (some (7, true))⟩,
.op ⟨(some 13), (.eff (.call 108 [(.tmp 8), (.const (.int .i64 (0))), (.tmp 12)])), (some (7, true))⟩,
.op ⟨(some 14), (.pure (.pick (.tmp 7) (.tmp 13) (.const (.bool false)))), none⟩,
.op ⟨(some 4), (.pure (.mv (.tmp 14))), none⟩])
(.ret)),
[.tmp 4]⟩
theorem r_spec_neHas : resFun Try.prog f_spec_neHas = some c_spec_neHas := by kernel_rfl

/- loop.example/g00940/spec.neLink -/
abbrev f_spec_neLink : Nat := 157
def c_spec_neLink : MFun := ⟨41, .seq (.ops [
.op ⟨(some 3), (.eff (.box 32 (.tmp 0))), none⟩,
.op ⟨(some 6), (.pure (.mv (.const (.int .i64 (0))))), none⟩])
(.seq (.seq (.ops [
.op ⟨(some 9), (.pure (.fieldAddr 1 (.tmp 3))), none⟩,
.op ⟨(some 10), (.load none (.tmp 9)), none⟩,
.op ⟨(some 11), (.pure (.len (.tmp 10))), none⟩,
.op ⟨(some 12), (.pure (.mv (.const (.int .i64 (0))))), none⟩])
(.block 0 (.loop (.seq (.ops [
.op ⟨(some 13), (.pure (.bin .lss (.tmp 12) (.tmp 11))), none⟩])
(.seq (.cond (.tmp 13)
(.skip)
(.exit 0))
(.seq (.block 1 (.seq (.ops [
.op ⟨(some 14), (.pure (.mv (.tmp 12))), none⟩,
.op ⟨(some 15), (.pure (.idx 3 (.tmp 10) (.tmp 12))), none⟩,
.op ⟨(some 16), (.load (some 3) (.tmp 15)), none⟩,
.op ⟨(some 8), (.eff (.new 88 [(.int .i64 (0)), (.int .i64 (0)), (.int .i64 (0))])), none⟩,
.op ⟨(some 7), (.pure (.mv (.tmp 14))), none⟩,
.op ⟨none, (.eff (.store 3 (.tmp 8) (.tmp 16))), none⟩])
(.seq (.ops [
.op ⟨(some 17), (.pure (.fieldAddr 0 (.tmp 8))), none⟩,
.op ⟨(some 18), (.load none (.tmp 17)), none⟩,
.op ⟨(some 19), (.pure (.mv (.tmp 1))), none⟩,
.op ⟨(some 20), (.pure (.bin .eql (.tmp 18) (.tmp 19))), none⟩,
.op ⟨(some 21), (.pure (.mv (.tmp 20))), none⟩,
.split 21,
.op ⟨(some 22), (.pure (.fieldAddr 1 (.tmp 8))), (some (21, true))⟩,
.op ⟨(some 23), (.load none (.tmp 22)), (some (21, true))⟩,
.op ⟨(some 24), (.pure (.mv (.tmp 2))), (some (21, true))⟩,
.op ⟨(some 25), (.pure (.bin .eql (.tmp 23) (.tmp 24))), (some (21, true))⟩,
.op ⟨(some 26), (.pure (.pick (.tmp 21) (.tmp 25) (.const (.bool false)))), none⟩,
.op ⟨(some 27), (.pure (.mv (.tmp 26))), none⟩,
.split 27,
.op ⟨(some 28), (.pure (.fieldAddr 0 (.tmp 8))), (some (27, false))⟩,
.op ⟨(some 29), (.load none (.tmp 28)), (some (27, false))⟩,
.op ⟨(some 30), (.pure (.mv (.tmp 2))), (some (27, false))⟩,
.op ⟨(some 31), (.pure (.bin .eql (.tmp 29) (.tmp 30))), (some (27, false))⟩,
.op ⟨(some 32), (.pure (.mv (.tmp 31))), (some (27, false))⟩,
.split 32,
.op ⟨(some 33), (.pure (.fieldAddr 1 (.tmp 8))), (some (32, true))⟩,
.op ⟨(some 34), (.load none (.tmp 33)), (some (32, true))⟩,
.op ⟨(some 35), (.pure (.mv (.tmp 1))), (some (32, true))⟩,
.op ⟨(some 36), (.pure (.bin .eql (.tmp 34) (.tmp 35))), (some (32, true))⟩,
.op ⟨(some 37), (.pure (.pick (.tmp 32) (.tmp 36) (.const (.bool false)))), (some (27, false))⟩,
.op ⟨(some 38), (.pure (.pick (.tmp 27) (.const (.bool true)) (.tmp 37))), none⟩])
(.cond (.tmp 38)
(.seq (.ops [
.op ⟨(some 39), (.pure (.mv (.tmp 7))), none⟩,
.op ⟨(some 6), (.pure (.mv (.tmp 39))), none⟩])
(.ret))
(.skip)))))
(.ops [
.op ⟨(some 40), (.pure (.bin .add (.tmp 12) (.const (.int .i64 (1))))), none⟩,
.op ⟨(some 12), (.pure (.mv (.tmp 40))), none⟩])))))))
(.seq (.ops [
.op ⟨(some 6), (.pure (.mv (.const (.int .i64 (-1))))), none⟩])
(.ret))),
[.tmp 6]⟩
theorem r_spec_neLink : resFun Try.prog f_spec_neLink = some c_spec_neLink := by kernel_rfl

/- (*loop.example/g00940/spec.l1Cur).one -/
abbrev f_spec_l1Cur_one : Nat := 159
def c_spec_l1Cur_one : MFun := ⟨9, .seq (.ops [
.op ⟨(some 4), (.pure (.mv (.const (.bool false)))), none⟩])
(.seq (.ops [
.op ⟨(some 5), (.pure (.mv (.tmp 0))), none⟩,
.op ⟨(some 6), (.pure (.mv (.tmp 1))), none⟩,
.op ⟨(some 7), (.eff (.call 160 [(.tmp 5), (.tmp 6)])), none⟩,
.op ⟨(some 8), (.pure (.bin .eql (.tmp 7) (.const (.int .i64 (0))))), none⟩,
.op ⟨(some 4), (.pure (.mv (.tmp 8))), none⟩])
(.ret)),
[.tmp 4]⟩
theorem r_spec_l1Cur_one : resFun Try.prog f_spec_l1Cur_one = some c_spec_l1Cur_one := by kernel_rfl

/- (*loop.example/g00940/spec.l1Cur).pick -/
abbrev f_spec_l1Cur_pick : Nat := 160
def c_spec_l1Cur_pick : MFun := ⟨20, .seq (.ops [
.op ⟨(some 4), (.pure (.mv (.const (.int .i64 (0))))), none⟩])
(.seq (.seq (.ops [
.op ⟨(some 6), (.pure (.mv (.tmp 1))), none⟩,
.op ⟨(some 7), (.pure (.bin .leq (.tmp 6) (.const (.int .i64 (1))))), none⟩])
(.cond (.tmp 7)
(.seq (.ops [
.op ⟨(some 4), (.pure (.mv (.const (.int .i64 (0))))), none⟩])
(.ret))
(.skip)))
(.seq (.ops [
.op ⟨(some 8), (.pure (.mv (.tmp 0))), none⟩,
.op ⟨(some 9), (.eff (.call 191 [(.tmp 8)])), none⟩,
.op ⟨(some 5), (.pure (.mv (.tmp 9))), none⟩])
(.seq (.seq (.ops [
.op ⟨(some 10), (.pure (.mv (.tmp 1))), none⟩,
.op ⟨(some 11), (.pure (.bin .gtr (.tmp 10) (.const (.int .i64 (200))))), none⟩])
(.cond (.tmp 11)
(.ops [
.op ⟨(some 12), (.pure (.mv (.tmp 5))), none⟩,
.op ⟨(some 13), (.pure (.bin .mul (.tmp 12) (.const (.int .i64 (256))))), none⟩,
.op ⟨(some 14), (.pure (.mv (.tmp 0))), none⟩,
.op ⟨(some 15), (.eff (.call 191 [(.tmp 14)])), none⟩,
.op ⟨(some 16), (.pure (.bin .add (.tmp 13) (.tmp 15))), none⟩,
.op ⟨(some 5), (.pure (.mv (.tmp 16))), none⟩])
(.skip)))
(.seq (.ops [
.op ⟨(some 17), (.pure (.mv (.tmp 5))), none⟩,
.op ⟨(some 18), (.pure (.mv (.tmp 1))), none⟩,
.op ⟨(some 19), (.pure (.bin .rem (.tmp 17) (.tmp 18))), none⟩,
.op ⟨(some 4), (.pure (.mv (.tmp 19))), none⟩])
(.ret))))),
[.tmp 4]⟩
theorem r_spec_l1Cur_pick : resFun Try.prog f_spec_l1Cur_pick = some c_spec_l1Cur_pick := by kernel_rfl

/- loop.example/g00940/spec.fgFog -/
abbrev f_spec_fgFog : Nat := 161
def c_spec_fgFog : MFun := ⟨25, .seq (.ops [
.op ⟨(some 2), (.eff (.box 32 (.tmp 0))), none⟩,
.op ⟨(some 3), (.eff (.box 96 (.tmp 1))), none⟩,
.op ⟨(some 4), (.pure (.mv (.const (.bool false)))), none⟩])
(.seq (.ops [
.op ⟨(some 5), (.pure (.fieldAddr 0 (.tmp 3))), none⟩,
.op ⟨(some 6), (.load none (.tmp 5)), none⟩,
.op ⟨(some 7), (.pure (.fieldAddr 1 (.tmp 2))), none⟩,
.op ⟨(some 8), (.load none (.tmp 7)), none⟩,
.op ⟨(some 9), (.pure (.len (.tmp 8))), none⟩,
.op ⟨(some 10), (.pure (.bin .sub (.tmp 9) (.const (.int .i64 (1))))), none⟩,
.op ⟨(some 11), (.eff (.call 108 [(.tmp 6), (.const (.int .i64 (0))), (.tmp 10)])), none⟩,
.op ⟨(some 12), (.pure (.mv (.tmp 11))), none⟩,
.split 12,
.op ⟨(some 13), (.pure (.fieldAddr 1 (.tmp 3))), (some (12, true))⟩,
.op ⟨(some 14), (.load none (.tmp 13)), (some (12, true))⟩,
.op ⟨(some 15), (.eff (.call 108 [(.tmp 14), (.const (.int .i64 (0))), (.const (.int .i64 (9999)))])), (some (12, true))⟩,
.op ⟨(some 16), (.pure (.pick (.tmp 12) (.tmp 15) (.const (.bool false)))), none⟩,
.op ⟨(some 17), (.pure (.mv (.tmp 16))), none⟩,
.split 17,
.op ⟨(some 18), (.pure (.fieldAddr 2 (.tmp 3))), (some (17, true))⟩,
.op ⟨(some 19), (.load none (.tmp 18)), (some (17, true))⟩,
.op ⟨(some 20), (.pure (.fieldAddr 1 (.tmp 3))), (some (17, true))⟩,
.op ⟨(some 21), (.load none (.tmp 20)), (some (17, true))⟩,
.op ⟨(some 22), (.pure (.bin .add (.tmp 21) (.const (.int .i64 (1))))), (some (17, true))⟩,
.op ⟨(some 23), (.eff (.call 108 [(.tmp 19), (.tmp 22), (.const (.int .i64 (10000)))])), (some (17, true))⟩,
.op ⟨(some 24), (.pure (.pick (.tmp 17) (.tmp 23) (.const (.bool false)))), none⟩,
.op ⟨(some 4), (.pure (.mv (.tmp 24))), none⟩])
(.ret)),
[.tmp 4]⟩
theorem r_spec_fgFog : resFun Try.prog f_spec_fgFog = some c_spec_fgFog := by kernel_rfl

/- loop.example/g00940/spec.fgAdd -/
abbrev f_spec_fgAdd : Nat := 162
def c_spec_fgAdd : MFun := ⟨84, .seq (.ops [
.op ⟨(some 3), (.eff (.box 96 (.tmp 1))), none⟩,
.op ⟨(some 4), (.pure (.mv (.const (.slice none 0 0)))), none⟩])
(.seq (.ops [
.op ⟨(some 5), (.pure (.mv (.const (.slice none 0 0)))), none⟩])
(.seq (.ops [
.op ⟨(some 6), (.pure (.mv (.const (.int .i64 (0))))), none⟩])
(.seq (.seq (.ops [
.op ⟨(some 9), (.pure (.mv (.tmp 0))), none⟩,
.op ⟨(some 10), (.pure (.len (.tmp 9))), none⟩,
.op ⟨(some 11), (.pure (.mv (.const (.int .i64 (0))))), none⟩])
(.block 0 (.loop (.seq (.ops [
.op ⟨(some 12), (.pure (.bin .lss (.tmp 11) (.tmp 10))), none⟩])
(.seq (.cond (.tmp 12)
(.skip)
(.exit 0))
(.seq (.block 1 (.seq (.ops [
.op ⟨(some 13), (.pure (.idx 3 (.tmp 9) (.tmp 11))), none⟩,
.op ⟨(some 14), (.load (some 3) (.tmp 13)), none⟩,
.op ⟨(some 8), (.eff (.new 96 [(.int .i64 (0)), (.int .i64 (0)), (.int .i64 (0))])), none⟩,
.op ⟨none, (.eff (.store 3 (.tmp 8) (.tmp 14))), none⟩])
(.seq (.seq (.ops [
.op ⟨(some 15), (.pure (.fieldAddr 0 (.tmp 8))), none⟩,
.op ⟨(some 16), (.load none (.tmp 15)), none⟩,
.op ⟨(some 17), (.pure (.fieldAddr 0 (.tmp 3))), none⟩,
.op ⟨(some 18), (.load none (.tmp 17)), none⟩,
.op ⟨(some 19), (.pure (.bin .eql (.tmp 16) (.tmp 18))), none⟩,
.op ⟨(some 20), (.pure (.mv (.tmp 19))), none⟩,
.split 20,
.op ⟨(some 21), (.pure (.fieldAddr 1 (.tmp 8))), (some (20, true))⟩,
.op ⟨(some 22), (.load none (.tmp 21)), (some (20, true))⟩,
.op ⟨(some 23), (.pure (.fieldAddr 2 (.tmp 3))), (some (20, true))⟩,
.op ⟨(some 24), (.load none (.tmp 23)), (some (20, true))⟩,
.op ⟨(some 25), (.pure (.bin .leq (.tmp 22) (.tmp 24))), (some (20, true))⟩,
.op ⟨(some 26), (.pure (.pick (.tmp 20) (.tmp 25) (.const (.bool false)))), none⟩,
.op ⟨(some 27), (.pure (.mv (.tmp 26))), none⟩,
.split 27,
.op ⟨(some 28), (.pure (.fieldAddr 1 (.tmp 3))), (some (27, true))⟩,
.op ⟨(some 29), (.load none (.tmp 28)), (some (27, true))⟩,
.op ⟨(some 30), (.pure (.fieldAddr 2 (.tmp 8))), (some (27, true))⟩,
.op ⟨(some 31), (.load none (.tmp 30)), (some (27, true))⟩,
.op ⟨(some 32), (.pure (.bin .leq (.tmp 29) (.tmp 31))), (some (27, true))⟩,
.op ⟨(some 33), (.pure (.pick (.tmp 27) (.tmp 32) (.const (.bool false)))), none⟩])
(.cond (.tmp 33)
(.seq (.ops [
.op ⟨(some 34), (.pure (.fieldAddr 1 (.tmp 3))), none⟩,
.op ⟨(some 35), (.load none (.tmp 34)), none⟩,
.op ⟨(some 36), (.pure (.fieldAddr 1 (.tmp 8))), none⟩,
.op ⟨(some 37), (.load none (.tmp 36)), none⟩,
.op ⟨(some 38), (.eff (.call 119 [(.tmp 35), (.tmp 37)])), none⟩,
.op ⟨(some 39), (.pure (.fieldAddr 1 (.tmp 3))), none⟩,
.op ⟨none, (.eff (.store 1 (.tmp 39) (.tmp 38))), none⟩])
(.seq (.ops [
.op ⟨(some 40), (.pure (.fieldAddr 2 (.tmp 3))), none⟩,
.op ⟨(some 41), (.load none (.tmp 40)), none⟩,
.op ⟨(some 42), (.pure (.fieldAddr 2 (.tmp 8))), none⟩,
.op ⟨(some 43), (.load none (.tmp 42)), none⟩,
.op ⟨(some 44), (.eff (.call 114 [(.tmp 41), (.tmp 43)])), none⟩,
.op ⟨(some 45), (.pure (.fieldAddr 2 (.tmp 3))), none⟩,
.op ⟨none, (.eff (.store 1 (.tmp 45) (.tmp 44))), none⟩])
(.exit 1)))
(.skip)))
(.seq (.ops [
.op ⟨(some 46), (.pure (.mv (.tmp 5))), none⟩,
.op ⟨(some 47), (.load (some 3) (.tmp 8)), none⟩,
.op ⟨(some 48), (.eff (.row 96 1 [(.int .i64 (0)), (.int .i64 (0)), (.int .i64 (0))] [(0, 3, (.tmp 47))])), none⟩,
.op ⟨(some 49), (.eff (.app 96 3 24 (.tmp 46) (.tmp 48))), none⟩,
.op ⟨(some 5), (.pure (.mv (.tmp 49))), none⟩])
(.seq (.ops [
.op ⟨(some 50), (.pure (.fieldAddr 0 (.tmp 8))), none⟩,
.op ⟨(some 51), (.load none (.tmp 50)), none⟩,
.op ⟨(some 52), (.pure (.fieldAddr 0 (.tmp 3))), none⟩,
.op ⟨(some 53), (.load none (.tmp 52)), none⟩,
.op ⟨(some 54), (.pure (.bin .lss (.tmp 51) (.tmp 53))), none⟩,
.op ⟨(some 55), (.pure (.mv (.tmp 54))), none⟩,
.split 55,
.op ⟨(some 56), (.pure (.fieldAddr 0 (.tmp 8))), (some (55, false))⟩,
.op ⟨(some 57), (.load none (.tmp 56)), (some (55, false))⟩,
.op ⟨(some 58), (.pure (.fieldAddr 0 (.tmp 3))), (some (55, false))⟩,
.op ⟨(some 59), (.load none (.tmp 58)), (some (55, false))⟩,
.op ⟨(some 60), (.pure (.bin .eql (.tmp 57) (.tmp 59))), (some (55, false))⟩,
.op ⟨(some 61), (.pure (.mv (.tmp 60))), (some (55, false))⟩,
.split 61,
.op ⟨(some 62), (.pure (.fieldAddr 1 (.tmp 8))), (some (61, true))⟩,
.op ⟨(some 63), (.load none (.tmp 62)), (some (61, true))⟩,
.op ⟨(some 64), (.pure (.fieldAddr 1 (.tmp 3))), (some (61, true))⟩,
.op ⟨(some 65), (.load none (.tmp 64)), (some (61, true))⟩,
.op ⟨(some 66), (.pure (.bin .lss (.tmp 63) (.tmp 65))), (some (61, true))⟩,
.op ⟨(some 67), (.pure (.pick (.tmp 61) (.tmp 66) (.const (.bool false)))), (some (55, false))⟩,
.op ⟨(some 68), (.pure (.pick (.tmp 55) (.const (.bool true)) (.tmp 67))), none⟩])
(.cond (.tmp 68)
(.ops [
.op ⟨(some 69), (.pure (.mv (.tmp 5))), none⟩,
.op ⟨(some 70), (.pure (.len (.tmp 69))), none⟩,
.op ⟨(some 6), (.pure (.mv (.tmp 70))), none⟩])
(.skip)))))))
(.ops [
.op ⟨(some 71), (.pure (.bin .add (.tmp 11) (.const (.int .i64 (1))))), none⟩,
.op ⟨(some 11), (.pure (.mv (.tmp 71))), none⟩])))))))
(.seq (.draw true
(.take ⟨(some 73), (.pure (.mv (.tmp 5))), none⟩
(.take ⟨(some 74), (.pure (.mv (.tmp 6))), none⟩
(.take ⟨(some 75), (.pure (.slc 3 (.tmp 73) none (some (.tmp 74)) none)), none⟩
(.take ⟨(some 80), (.pure (.mv (.tmp 5))), none⟩
(.take ⟨(some 81), (.pure (.mv (.tmp 6))), none⟩
(.take ⟨(some 82), (.pure (.slc 3 (.tmp 80) (some (.tmp 81)) none none)), none⟩
(.take ⟨(some 77), (.load (some 3) (.tmp 3)), none⟩
(.fork
(.only false ⟨(some 72), (.eff (.row 96 0 [] [])), none⟩
(.fork
(.only false ⟨(some 76), (.eff (.app 96 3 24 (.tmp 72) (.tmp 75))), none⟩
(.only false ⟨(some 78), (.eff (.row 96 1 [(.int .i64 (0)), (.int .i64 (0)), (.int .i64 (0))] [(0, 3, (.tmp 77))])), none⟩
(.only false ⟨(some 79), (.eff (.app 96 3 24 (.tmp 76) (.tmp 78))), none⟩
(.only false ⟨(some 83), (.eff (.app 96 3 24 (.tmp 79) (.tmp 82))), none⟩
(.take ⟨(some 4), (.pure (.mv (.tmp 83))), none⟩
(.done))))))
(.only false ⟨(some 78), (.eff (.row 96 1 [(.int .i64 (0)), (.int .i64 (0)), (.int .i64 (0))] [(0, 3, (.tmp 77))])), none⟩
(.only false ⟨(some 76), (.eff (.app 96 3 24 (.tmp 72) (.tmp 75))), none⟩
(.only false ⟨(some 79), (.eff (.app 96 3 24 (.tmp 76) (.tmp 78))), none⟩
(.only false ⟨(some 83), (.eff (.app 96 3 24 (.tmp 79) (.tmp 82))), none⟩
(.take ⟨(some 4), (.pure (.mv (.tmp 83))), none⟩
(.done))))))))
(.only false ⟨(some 78), (.eff (.row 96 1 [(.int .i64 (0)), (.int .i64 (0)), (.int .i64 (0))] [(0, 3, (.tmp 77))])), none⟩
(.only false ⟨(some 72), (.eff (.row 96 0 [] [])), none⟩
(.only false ⟨(some 76), (.eff (.app 96 3 24 (.tmp 72) (.tmp 75))), none⟩
(.only false ⟨(some 79), (.eff (.app 96 3 24 (.tmp 76) (.tmp 78))), none⟩
(.only false ⟨(some 83), (.eff (.app 96 3 24 (.tmp 79) (.tmp 82))), none⟩
(.take ⟨(some 4), (.pure (.mv (.tmp 83))), none⟩
(.done))))))))))))))))
(.ret))))),
[.tmp 4]⟩
theorem r_spec_fgAdd : resFun Try.prog f_spec_fgAdd = some c_spec_fgAdd := by kernel_rfl

/- loop.example/g00940/impl.isFog -/
abbrev f_impl_isFog : Nat := 163
def c_impl_isFog : MFun := ⟨29, .seq (.ops [
.op ⟨(some 2), (.eff (.box 32 (.tmp 0))), none⟩,
.op ⟨(some 3), (.eff (.box 96 (.tmp 1))), none⟩,
.op ⟨(some 4), (.pure (.mv (.const (.bool false)))), none⟩])
(.seq (.ops [
.op ⟨(some 5), (.pure (.fieldAddr 0 (.tmp 3))), none⟩,
.op ⟨(some 6), (.load none (.tmp 5)), none⟩,
.op ⟨(some 7), (.pure (.fieldAddr 1 (.tmp 2))), none⟩,
.op ⟨(some 8), (.load none (.tmp 7)), none⟩,
.op ⟨(some 9), (.pure (.len (.tmp 8))), none⟩,
.op ⟨(some 10), (.pure (.bin .sub (.tmp 9) (.const (.int .i64 (1))))), none⟩,
.op ⟨(some 11), (.eff (.call 129 [(.tmp 6), (.const (.int .i64 (0))), (.tmp 10)])), none⟩,
.op ⟨(some 12), (.pure (.mv (.tmp 11))), none⟩,
.split 12,
.op ⟨(some 13), (.pure (.fieldAddr 1 (.tmp 3))), (some (12, true))⟩,
.op ⟨(some 14), (.load none (.tmp 13)), (some (12, true))⟩,
.op ⟨(some 15), (.pure (.bin .geq (.tmp 14) (.const (.int .i64 (0))))), (some (12, true))⟩,
.op ⟨(some 16), (.pure (.pick (.tmp 12) (.tmp 15) (.const (.bool false)))), none⟩,
.op ⟨(some 17), (.pure (.mv (.tmp 16))), none⟩,
.split 17,
.op ⟨(some 18), (.pure (.fieldAddr 1 (.tmp 3))), (some (17, true))⟩,
.op ⟨(some 19), (.load none (.tmp 18)), (some (17, true))⟩,
.op ⟨(some 20), (.pure (.fieldAddr 2 (.tmp 3))), (some (17, true))⟩,
.op ⟨(some 21), (.load none (.tmp 20)), (some (17, true))⟩,
.op ⟨(some 22), (.pure (.bin .lss (.tmp 19) (.tmp 21))), (some (17, true))⟩,
.op ⟨(some 23), (.pure (.pick (.tmp 17) (.tmp 22) (.const (.bool false)))), none⟩,
.op ⟨(some 24), (.pure (.mv (.tmp 23))), none⟩,
.split 24,
.op ⟨(some 25), (.pure (.fieldAddr 2 (.tmp 3))), (some (24, true))⟩,
.op ⟨(some 26), (.load none (.tmp 25)), (some (24, true))⟩,
.op ⟨(some 27), (.pure (.bin .leq (.tmp 26) (.const (.int .i64 (10000))))), (some (24, true))⟩,
.op ⟨(some 28), (.pure (.pick (.tmp 24) (.tmp 27) (.const (.bool false)))), none⟩,
.op ⟨(some 4), (.pure (.mv (.tmp 28))), none⟩])
(.ret)),
[.tmp 4]⟩
theorem r_impl_isFog : resFun Try.prog f_impl_isFog = some c_impl_isFog := by kernel_rfl

/- slices.SortFunc[[]loop.example/g00940/impl.Fog,loop.example/g00940/impl.Fog] -/
abbrev f_slices_SortFunc_Limpl_Fog_impl_Fog : Nat := 164
def c_slices_SortFunc_Limpl_Fog_impl_Fog : MFun := ⟨14, .seq (.ops [
.op ⟨(some 5), (.pure (.mv (.tmp 0))), none⟩,
.op ⟨(some 6), (.pure (.len (.tmp 5))), none⟩,
.op ⟨(some 4), (.pure (.mv (.tmp 6))), none⟩])
(.ops [
.op ⟨(some 7), (.pure (.mv (.tmp 0))), none⟩,
.op ⟨(some 8), (.pure (.mv (.tmp 4))), none⟩,
.op ⟨(some 9), (.pure (.mv (.tmp 4))), none⟩,
.op ⟨(some 10), (.pure (.conv .u64 (.tmp 9))), none⟩,
.op ⟨(some 11), (.eff (.call 193 [(.tmp 10)])), none⟩,
.op ⟨(some 12), (.pure (.mv (.tmp 1))), none⟩,
.op ⟨(some 13), (.eff (.call 192 [(.tmp 7), (.const (.int .i64 (0))), (.tmp 8), (.tmp 11), (.tmp 12)])), none⟩]),
[]⟩
theorem r_slices_SortFunc_Limpl_Fog_impl_Fog : resFun Try.prog f_slices_SortFunc_Limpl_Fog_impl_Fog = some c_slices_SortFunc_Limpl_Fog_impl_Fog := by kernel_rfl

/- loop.example/g00940/impl.compareFogs -/
abbrev f_impl_compareFogs : Nat := 165
def c_impl_compareFogs : MFun := ⟨17, .seq (.ops [
.op ⟨(some 2), (.eff (.box 96 (.tmp 0))), none⟩,
.op ⟨(some 3), (.eff (.box 96 (.tmp 1))), none⟩,
.op ⟨(some 4), (.pure (.mv (.const (.int .i64 (0))))), none⟩])
(.seq (.draw true
(.take ⟨(some 5), (.pure (.fieldAddr 0 (.tmp 2))), none⟩
(.take ⟨(some 7), (.pure (.fieldAddr 0 (.tmp 3))), none⟩
(.take ⟨(some 10), (.pure (.fieldAddr 1 (.tmp 2))), none⟩
(.take ⟨(some 12), (.pure (.fieldAddr 1 (.tmp 3))), none⟩
(.only false ⟨(some 6), (.load none (.tmp 5)), none⟩
(.only false ⟨(some 8), (.load none (.tmp 7)), none⟩
(.take ⟨(some 11), (.load none (.tmp 10)), none⟩
(.take ⟨(some 13), (.load none (.tmp 12)), none⟩
(.only false ⟨(some 9), (.eff (.call 195 [(.tmp 6), (.tmp 8)])), none⟩
(.only true ⟨(some 14), (.eff (.call 195 [(.tmp 11), (.tmp 13)])), none⟩
(.only true ⟨(some 15), (.eff (.row 3 2 [(.int .i64 (0)), (.int .i64 (0))] [(0, 1, (.tmp 9)), (1, 1, (.tmp 14))])), none⟩
(.only true ⟨(some 16), (.eff (.call 194 [(.tmp 15)])), none⟩
(.take ⟨(some 4), (.pure (.mv (.tmp 16))), none⟩
(.done)))))))))))))))
(.ret)),
[.tmp 4]⟩
theorem r_impl_compareFogs : resFun Try.prog f_impl_compareFogs = some c_impl_compareFogs := by kernel_rfl

/- loop.example/g00940/laws.toTower -/
abbrev f_laws_toTower : Nat := 169
def c_laws_toTower : MFun := ⟨14, .seq (.ops [
.op ⟨(some 1), (.eff (.box 149 (.tmp 0))), none⟩,
.op ⟨(some 2), (.eff (.new 147 [(.int .i64 (0)), (.int .i64 (0)), (.int .i64 (0))])), none⟩])
(.seq (.ops [
.op ⟨(some 3), (.eff (.new 147 [(.int .i64 (0)), (.int .i64 (0)), (.int .i64 (0))])), none⟩])
(.seq (.ops [
.op ⟨(some 4), (.pure (.fieldAddr 0 (.tmp 1))), none⟩,
.op ⟨(some 5), (.load none (.tmp 4)), none⟩,
.op ⟨(some 6), (.pure (.fieldAddr 0 (.tmp 3))), none⟩,
.op ⟨none, (.eff (.store 1 (.tmp 6) (.tmp 5))), none⟩])
(.seq (.ops [
.op ⟨(some 7), (.pure (.fieldAddr 1 (.tmp 1))), none⟩,
.op ⟨(some 8), (.load none (.tmp 7)), none⟩,
.op ⟨(some 9), (.pure (.fieldAddr 1 (.tmp 3))), none⟩,
.op ⟨none, (.eff (.store 1 (.tmp 9) (.tmp 8))), none⟩])
(.seq (.ops [
.op ⟨(some 10), (.pure (.fieldAddr 2 (.tmp 1))), none⟩,
.op ⟨(some 11), (.load none (.tmp 10)), none⟩,
.op ⟨(some 12), (.pure (.fieldAddr 2 (.tmp 3))), none⟩,
.op ⟨none, (.eff (.store 1 (.tmp 12) (.tmp 11))), none⟩])
(.seq (.ops [
.op ⟨(some 13), (.load (some 3) (.tmp 3)), none⟩,
.op ⟨none, (.eff (.store 3 (.tmp 2) (.tmp 13))), none⟩])
(.ret)))))),
[.cell 2 (some 3)]⟩
theorem r_laws_toTower : resFun Try.prog f_laws_toTower = some c_laws_toTower := by kernel_rfl

/- loop.example/g00940/laws.toLink -/
abbrev f_laws_toLink : Nat := 170
def c_laws_toLink : MFun := ⟨14, .seq (.ops [
.op ⟨(some 1), (.eff (.box 151 (.tmp 0))), none⟩,
.op ⟨(some 2), (.eff (.new 88 [(.int .i64 (0)), (.int .i64 (0)), (.int .i64 (0))])), none⟩])
(.seq (.ops [
.op ⟨(some 3), (.eff (.new 88 [(.int .i64 (0)), (.int .i64 (0)), (.int .i64 (0))])), none⟩])
(.seq (.ops [
.op ⟨(some 4), (.pure (.fieldAddr 0 (.tmp 1))), none⟩,
.op ⟨(some 5), (.load none (.tmp 4)), none⟩,
.op ⟨(some 6), (.pure (.fieldAddr 0 (.tmp 3))), none⟩,
.op ⟨none, (.eff (.store 1 (.tmp 6) (.tmp 5))), none⟩])
(.seq (.ops [
.op ⟨(some 7), (.pure (.fieldAddr 1 (.tmp 1))), none⟩,
.op ⟨(some 8), (.load none (.tmp 7)), none⟩,
.op ⟨(some 9), (.pure (.fieldAddr 1 (.tmp 3))), none⟩,
.op ⟨none, (.eff (.store 1 (.tmp 9) (.tmp 8))), none⟩])
(.seq (.ops [
.op ⟨(some 10), (.pure (.fieldAddr 2 (.tmp 1))), none⟩,
.op ⟨(some 11), (.load none (.tmp 10)), none⟩,
.op ⟨(some 12), (.pure (.fieldAddr 2 (.tmp 3))), none⟩,
.op ⟨none, (.eff (.store 1 (.tmp 12) (.tmp 11))), none⟩])
(.seq (.ops [
.op ⟨(some 13), (.load (some 3) (.tmp 3)), none⟩,
.op ⟨none, (.eff (.store 3 (.tmp 2) (.tmp 13))), none⟩])
(.ret)))))),
[.cell 2 (some 3)]⟩
theorem r_laws_toLink : resFun Try.prog f_laws_toLink = some c_laws_toLink := by kernel_rfl

/- loop.example/g00940/laws.eqTower -/
abbrev f_laws_eqTower : Nat := 171
def c_laws_eqTower : MFun := ⟨20, .seq (.ops [
.op ⟨(some 2), (.eff (.box 147 (.tmp 0))), none⟩,
.op ⟨(some 3), (.eff (.box 147 (.tmp 1))), none⟩,
.op ⟨(some 4), (.pure (.mv (.const (.bool false)))), none⟩])
(.seq (.seq (.ops [
.op ⟨(some 5), (.pure (.fieldAddr 0 (.tmp 2))), none⟩,
.op ⟨(some 6), (.load none (.tmp 5)), none⟩,
.op ⟨(some 7), (.pure (.fieldAddr 0 (.tmp 3))), none⟩,
.op ⟨(some 8), (.load none (.tmp 7)), none⟩,
.op ⟨(some 9), (.pure (.bin .neq (.tmp 6) (.tmp 8))), none⟩])
(.cond (.tmp 9)
(.seq (.ops [
.op ⟨(some 4), (.pure (.mv (.const (.bool false)))), none⟩])
(.ret))
(.skip)))
(.seq (.seq (.ops [
.op ⟨(some 10), (.pure (.fieldAddr 1 (.tmp 2))), none⟩,
.op ⟨(some 11), (.load none (.tmp 10)), none⟩,
.op ⟨(some 12), (.pure (.fieldAddr 1 (.tmp 3))), none⟩,
.op ⟨(some 13), (.load none (.tmp 12)), none⟩,
.op ⟨(some 14), (.pure (.bin .neq (.tmp 11) (.tmp 13))), none⟩])
(.cond (.tmp 14)
(.seq (.ops [
.op ⟨(some 4), (.pure (.mv (.const (.bool false)))), none⟩])
(.ret))
(.skip)))
(.seq (.seq (.ops [
.op ⟨(some 15), (.pure (.fieldAddr 2 (.tmp 2))), none⟩,
.op ⟨(some 16), (.load none (.tmp 15)), none⟩,
.op ⟨(some 17), (.pure (.fieldAddr 2 (.tmp 3))), none⟩,
.op ⟨(some 18), (.load none (.tmp 17)), none⟩,
.op ⟨(some 19), (.pure (.bin .neq (.tmp 16) (.tmp 18))), none⟩])
(.cond (.tmp 19)
(.seq (.ops [
.op ⟨(some 4), (.pure (.mv (.const (.bool false)))), none⟩])
(.ret))
(.skip)))
(.seq (.ops [
.op ⟨(some 4), (.pure (.mv (.const (.bool true)))), none⟩])
(.ret))))),
[.tmp 4]⟩
theorem r_laws_eqTower : resFun Try.prog f_laws_eqTower = some c_laws_eqTower := by kernel_rfl

/- loop.example/g00940/laws.eqLink -/
abbrev f_laws_eqLink : Nat := 172
def c_laws_eqLink : MFun := ⟨20, .seq (.ops [
.op ⟨(some 2), (.eff (.box 88 (.tmp 0))), none⟩,
.op ⟨(some 3), (.eff (.box 88 (.tmp 1))), none⟩,
.op ⟨(some 4), (.pure (.mv (.const (.bool false)))), none⟩])
(.seq (.seq (.ops [
.op ⟨(some 5), (.pure (.fieldAddr 0 (.tmp 2))), none⟩,
.op ⟨(some 6), (.load none (.tmp 5)), none⟩,
.op ⟨(some 7), (.pure (.fieldAddr 0 (.tmp 3))), none⟩,
.op ⟨(some 8), (.load none (.tmp 7)), none⟩,
.op ⟨(some 9), (.pure (.bin .neq (.tmp 6) (.tmp 8))), none⟩])
(.cond (.tmp 9)
(.seq (.ops [
.op ⟨(some 4), (.pure (.mv (.const (.bool false)))), none⟩])
(.ret))
(.skip)))
(.seq (.seq (.ops [
.op ⟨(some 10), (.pure (.fieldAddr 1 (.tmp 2))), none⟩,
.op ⟨(some 11), (.load none (.tmp 10)), none⟩,
.op ⟨(some 12), (.pure (.fieldAddr 1 (.tmp 3))), none⟩,
.op ⟨(some 13), (.load none (.tmp 12)), none⟩,
.op ⟨(some 14), (.pure (.bin .neq (.tmp 11) (.tmp 13))), none⟩])
(.cond (.tmp 14)
(.seq (.ops [
.op ⟨(some 4), (.pure (.mv (.const (.bool false)))), none⟩])
(.ret))
(.skip)))
(.seq (.seq (.ops [
.op ⟨(some 15), (.pure (.fieldAddr 2 (.tmp 2))), none⟩,
.op ⟨(some 16), (.load none (.tmp 15)), none⟩,
.op ⟨(some 17), (.pure (.fieldAddr 2 (.tmp 3))), none⟩,
.op ⟨(some 18), (.load none (.tmp 17)), none⟩,
.op ⟨(some 19), (.pure (.bin .neq (.tmp 16) (.tmp 18))), none⟩])
(.cond (.tmp 19)
(.seq (.ops [
.op ⟨(some 4), (.pure (.mv (.const (.bool false)))), none⟩])
(.ret))
(.skip)))
(.seq (.ops [
.op ⟨(some 4), (.pure (.mv (.const (.bool true)))), none⟩])
(.ret))))),
[.tmp 4]⟩
theorem r_laws_eqLink : resFun Try.prog f_laws_eqLink = some c_laws_eqLink := by kernel_rfl

/- loop.example/g00940/spec.neBefore -/
abbrev f_spec_neBefore : Nat := 173
def c_spec_neBefore : MFun := ⟨24, .seq (.ops [
.op ⟨(some 2), (.eff (.box 88 (.tmp 0))), none⟩,
.op ⟨(some 3), (.eff (.box 88 (.tmp 1))), none⟩,
.op ⟨(some 4), (.pure (.mv (.const (.bool false)))), none⟩])
(.seq (.ops [
.op ⟨(some 5), (.pure (.fieldAddr 0 (.tmp 2))), none⟩,
.op ⟨(some 6), (.load none (.tmp 5)), none⟩,
.op ⟨(some 7), (.pure (.fieldAddr 0 (.tmp 3))), none⟩,
.op ⟨(some 8), (.load none (.tmp 7)), none⟩,
.op ⟨(some 9), (.pure (.bin .lss (.tmp 6) (.tmp 8))), none⟩,
.op ⟨(some 10), (.pure (.mv (.tmp 9))), none⟩,
.split 10,
.op ⟨(some 11), (.pure (.fieldAddr 0 (.tmp 2))), (some (10, false))⟩,
.op ⟨(some 12), (.load none (.tmp 11)), (some (10, false))⟩,
.op ⟨(some 13), (.pure (.fieldAddr 0 (.tmp 3))), (some (10, false))⟩,
.op ⟨(some 14), (.load none (.tmp 13)), (some (10, false))⟩,
.op ⟨(some 15), (.pure (.bin .eql (.tmp 12) (.tmp 14))), (some (10, false))⟩,
.op ⟨(some 16), (.pure (.mv (.tmp 15))), (some (10, false))⟩,
.split 16,
.op ⟨(some 17), (.pure (.fieldAddr 1 (.tmp 2))), (some (16, true))⟩,
.op ⟨(some 18), (.load none (.tmp 17)), (some (16, true))⟩,
.op ⟨(some 19), (.pure (.fieldAddr 1 (.tmp 3))), (some (16, true))⟩,
.op ⟨(some 20), (.load none (.tmp 19)), (some (16, true))⟩,
.op ⟨(some 21), (.pure (.bin .lss (.tmp 18) (.tmp 20))), (some (16, true))⟩,
.op ⟨(some 22), (.pure (.pick (.tmp 16) (.tmp 21) (.const (.bool false)))), (some (10, false))⟩,
.op ⟨(some 23), (.pure (.pick (.tmp 10) (.const (.bool true)) (.tmp 22))), none⟩,
.op ⟨(some 4), (.pure (.mv (.tmp 23))), none⟩])
(.ret)),
[.tmp 4]⟩
theorem r_spec_neBefore : resFun Try.prog f_spec_neBefore = some c_spec_neBefore := by kernel_rfl

/- slices.Delete[[]loop.example/g00940/impl.Link,loop.example/g00940/impl.Link] -/
abbrev f_slices_Delete_Limpl_Link_impl_Link : Nat := 174
def c_slices_Delete_Limpl_Link_impl_Link : MFun := ⟨33, .seq (.ops [
.op ⟨(some 6), (.pure (.mv (.const (.slice none 0 0)))), none⟩])
(.seq (.ops [
.op ⟨(some 8), (.pure (.mv (.tmp 0))), none⟩,
.op ⟨(some 9), (.pure (.mv (.tmp 1))), none⟩,
.op ⟨(some 10), (.pure (.mv (.tmp 2))), none⟩,
.op ⟨(some 11), (.pure (.mv (.tmp 0))), none⟩,
.op ⟨(some 12), (.pure (.len (.tmp 11))), none⟩,
.op ⟨(some 13), (.pure (.slc 3 (.tmp 8) (some (.tmp 9)) (some (.tmp 10)) (some (.tmp 12)))), none⟩])
(.seq (.seq (.ops [
.op ⟨(some 14), (.pure (.mv (.tmp 1))), none⟩,
.op ⟨(some 15), (.pure (.mv (.tmp 2))), none⟩,
.op ⟨(some 16), (.pure (.bin .eql (.tmp 14) (.tmp 15))), none⟩])
(.cond (.tmp 16)
(.seq (.ops [
.op ⟨(some 17), (.pure (.mv (.tmp 0))), none⟩,
.op ⟨(some 6), (.pure (.mv (.tmp 17))), none⟩])
(.ret))
(.skip)))
(.seq (.ops [
.op ⟨(some 18), (.pure (.mv (.tmp 0))), none⟩,
.op ⟨(some 19), (.pure (.len (.tmp 18))), none⟩,
.op ⟨(some 7), (.pure (.mv (.tmp 19))), none⟩])
(.seq (.draw false
(.take ⟨(some 20), (.pure (.mv (.tmp 0))), none⟩
(.take ⟨(some 21), (.pure (.mv (.tmp 1))), none⟩
(.take ⟨(some 22), (.pure (.slc 3 (.tmp 20) none (some (.tmp 21)) none)), none⟩
(.take ⟨(some 23), (.pure (.mv (.tmp 0))), none⟩
(.take ⟨(some 24), (.pure (.mv (.tmp 2))), none⟩
(.take ⟨(some 25), (.pure (.slc 3 (.tmp 23) (some (.tmp 24)) none none)), none⟩
(.only true ⟨(some 26), (.eff (.app 88 3 24 (.tmp 22) (.tmp 25))), none⟩
(.take ⟨(some 0), (.pure (.mv (.tmp 26))), none⟩
(.done))))))))))
(.seq (.ops [
.op ⟨(some 27), (.pure (.mv (.tmp 0))), none⟩,
.op ⟨(some 28), (.pure (.mv (.tmp 0))), none⟩,
.op ⟨(some 29), (.pure (.len (.tmp 28))), none⟩,
.op ⟨(some 30), (.pure (.mv (.tmp 7))), none⟩,
.op ⟨(some 31), (.pure (.slc 3 (.tmp 27) (some (.tmp 29)) (some (.tmp 30)) none)), none⟩,
.op ⟨none, (.eff (.clear 3 [(.int .i64 (0)), (.int .i64 (0)), (.int .i64 (0))] (.tmp 31))), none⟩])
(.seq (.ops [
.op ⟨(some 32), (.pure (.mv (.tmp 0))), none⟩,
.op ⟨(some 6), (.pure (.mv (.tmp 32))), none⟩])
(.ret))))))),
[.tmp 6]⟩
theorem r_slices_Delete_Limpl_Link_impl_Link : resFun Try.prog f_slices_Delete_Limpl_Link_impl_Link = some c_slices_Delete_Limpl_Link_impl_Link := by kernel_rfl
end Go.Proofs.Ythagdkmalchhgaa
