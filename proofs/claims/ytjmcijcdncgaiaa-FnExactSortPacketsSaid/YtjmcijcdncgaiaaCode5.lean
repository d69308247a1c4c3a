/- The code of this seat's functions, resolved, written by a program of mine; each is held against the given program by the kernel. Condition: none. -/
import Derived.Test.YtjmcijcdncgaiaaProg
import Derived.Test.YtjmcijcdncgaiaaBase9
import Derived.KernelRfl
namespace Go.Proofs.Ytjmcijcdncgaiaa
open Go.Vc

/- slices.nextPowerOfTwo -/
abbrev f_slices_nextPowerOfTwo : Nat := 120
def c_slices_nextPowerOfTwo : MFun := ⟨7, .seq (.ops [
.op ⟨(some 2), (.pure (.mv (.const (.int .u64 (0))))), none⟩])
(.seq (.ops [
.op ⟨(some 3), (.pure (.mv (.tmp 0))), none⟩,
.op ⟨(some 4), (.pure (.conv .u64 (.tmp 3))), none⟩,
.op ⟨(some 5), (.eff (.call 93 [(.tmp 4)])), none⟩,
.op ⟨(some 6), (.pure (.bin .shl (.const (.int .u64 (1))) (.tmp 5))), none⟩,
.op ⟨(some 2), (.pure (.mv (.tmp 6))), none⟩])
(.ret)),
[.tmp 2]⟩
theorem r_slices_nextPowerOfTwo : resFun Try.prog f_slices_nextPowerOfTwo = some c_slices_nextPowerOfTwo := by kernel_rfl

/- (*slices.xorshift).Next -/
abbrev f_slices_xorshift_Next : Nat := 121
def c_slices_xorshift_Next : MFun := ⟨33, .seq (.ops [
.op ⟨(some 2), (.pure (.mv (.const (.int .u64 (0))))), none⟩])
(.seq (.draw false
(.take ⟨(some 3), (.pure (.mv (.tmp 0))), none⟩
(.take ⟨(some 4), (.pure (.nilc (.tmp 3))), none⟩
(.take ⟨(some 6), (.pure (.mv (.tmp 0))), none⟩
(.take ⟨(some 7), (.pure (.nilc (.tmp 6))), none⟩
(.only false ⟨(some 5), (.load none (.tmp 4)), none⟩
(.only false ⟨(some 8), (.load none (.tmp 7)), none⟩
(.take ⟨(some 9), (.pure (.bin .shl (.tmp 8) (.const (.int .u64 (13))))), none⟩
(.take ⟨(some 10), (.pure (.bin .xor (.tmp 5) (.tmp 9))), none⟩
(.take ⟨(some 11), (.pure (.nilc (.tmp 3))), none⟩
(.only true ⟨none, (.eff (.store 1 (.tmp 11) (.tmp 10))), none⟩
(.done))))))))))))
(.seq (.draw false
(.take ⟨(some 12), (.pure (.mv (.tmp 0))), none⟩
(.take ⟨(some 13), (.pure (.nilc (.tmp 12))), none⟩
(.take ⟨(some 15), (.pure (.mv (.tmp 0))), none⟩
(.take ⟨(some 16), (.pure (.nilc (.tmp 15))), none⟩
(.only false ⟨(some 14), (.load none (.tmp 13)), none⟩
(.only false ⟨(some 17), (.load none (.tmp 16)), none⟩
(.take ⟨(some 18), (.pure (.bin .shr (.tmp 17) (.const (.int .u64 (7))))), none⟩
(.take ⟨(some 19), (.pure (.bin .xor (.tmp 14) (.tmp 18))), none⟩
(.take ⟨(some 20), (.pure (.nilc (.tmp 12))), none⟩
(.only true ⟨none, (.eff (.store 1 (.tmp 20) (.tmp 19))), none⟩
(.done))))))))))))
(.seq (.draw false
(.take ⟨(some 21), (.pure (.mv (.tmp 0))), none⟩
(.take ⟨(some 22), (.pure (.nilc (.tmp 21))), none⟩
(.take ⟨(some 24), (.pure (.mv (.tmp 0))), none⟩
(.take ⟨(some 25), (.pure (.nilc (.tmp 24))), none⟩
(.only false ⟨(some 23), (.load none (.tmp 22)), none⟩
(.only false ⟨(some 26), (.load none (.tmp 25)), none⟩
(.take ⟨(some 27), (.pure (.bin .shl (.tmp 26) (.const (.int .u64 (17))))), none⟩
(.take ⟨(some 28), (.pure (.bin .xor (.tmp 23) (.tmp 27))), none⟩
(.take ⟨(some 29), (.pure (.nilc (.tmp 21))), none⟩
(.only true ⟨none, (.eff (.store 1 (.tmp 29) (.tmp 28))), none⟩
(.done))))))))))))
(.seq (.ops [
.op ⟨(some 30), (.pure (.mv (.tmp 0))), none⟩,
.op ⟨(some 31), (.pure (.nilc (.tmp 30))), none⟩,
.op ⟨(some 32), (.load none (.tmp 31)), none⟩,
.op ⟨(some 2), (.pure (.mv (.tmp 32))), none⟩])
(.ret))))),
[.tmp 2]⟩
theorem r_slices_xorshift_Next : resFun Try.prog f_slices_xorshift_Next = some c_slices_xorshift_Next := by kernel_rfl

/- slices.medianAdjacentOrdered[int] -/
abbrev f_slices_medianAdjacentOrdered_int : Nat := 122
def c_slices_medianAdjacentOrdered_int : MFun := ⟨15, .seq (.ops [
.op ⟨(some 6), (.pure (.mv (.const (.int .i64 (0))))), none⟩])
(.seq (.ops [
.op ⟨(some 7), (.pure (.mv (.tmp 0))), none⟩,
.op ⟨(some 8), (.pure (.mv (.tmp 1))), none⟩,
.op ⟨(some 9), (.pure (.bin .sub (.tmp 8) (.const (.int .i64 (1))))), none⟩,
.op ⟨(some 10), (.pure (.mv (.tmp 1))), none⟩,
.op ⟨(some 11), (.pure (.mv (.tmp 1))), none⟩,
.op ⟨(some 12), (.pure (.bin .add (.tmp 11) (.const (.int .i64 (1))))), none⟩,
.op ⟨(some 13), (.pure (.mv (.tmp 2))), none⟩,
.op ⟨(some 14), (.eff (.call 123 [(.tmp 7), (.tmp 9), (.tmp 10), (.tmp 12), (.tmp 13)])), none⟩,
.op ⟨(some 6), (.pure (.mv (.tmp 14))), none⟩])
(.ret)),
[.tmp 6]⟩
theorem r_slices_medianAdjacentOrdered_int : resFun Try.prog f_slices_medianAdjacentOrdered_int = some c_slices_medianAdjacentOrdered_int := by kernel_rfl

/- slices.medianOrdered[int] -/
abbrev f_slices_medianOrdered_int : Nat := 123
def c_slices_medianOrdered_int : MFun := ⟨36, .seq (.ops [
.op ⟨(some 10), (.pure (.mv (.const (.int .i64 (0))))), none⟩])
(.seq (.ops [
.op ⟨(some 12), (.pure (.mv (.tmp 0))), none⟩,
.op ⟨(some 13), (.pure (.mv (.tmp 1))), none⟩,
.op ⟨(some 14), (.pure (.mv (.tmp 2))), none⟩,
.op ⟨(some 15), (.pure (.mv (.tmp 4))), none⟩,
.op ⟨(some 16), (.eff (.call 125 [(.tmp 12), (.tmp 13), (.tmp 14), (.tmp 15)])), none⟩,
.op ⟨(some 11), (.pure (.mv (.tmp 16))), none⟩,
.op ⟨(some 17), (.pure (.ext 0 (.tmp 11))), none⟩,
.op ⟨(some 18), (.pure (.ext 1 (.tmp 11))), none⟩,
.op ⟨(some 1), (.pure (.mv (.tmp 17))), none⟩,
.op ⟨(some 2), (.pure (.mv (.tmp 18))), none⟩])
(.seq (.ops [
.op ⟨(some 20), (.pure (.mv (.tmp 0))), none⟩,
.op ⟨(some 21), (.pure (.mv (.tmp 2))), none⟩,
.op ⟨(some 22), (.pure (.mv (.tmp 3))), none⟩,
.op ⟨(some 23), (.pure (.mv (.tmp 4))), none⟩,
.op ⟨(some 24), (.eff (.call 125 [(.tmp 20), (.tmp 21), (.tmp 22), (.tmp 23)])), none⟩,
.op ⟨(some 19), (.pure (.mv (.tmp 24))), none⟩,
.op ⟨(some 25), (.pure (.ext 0 (.tmp 19))), none⟩,
.op ⟨(some 26), (.pure (.ext 1 (.tmp 19))), none⟩,
.op ⟨(some 2), (.pure (.mv (.tmp 25))), none⟩,
.op ⟨(some 3), (.pure (.mv (.tmp 26))), none⟩])
(.seq (.ops [
.op ⟨(some 28), (.pure (.mv (.tmp 0))), none⟩,
.op ⟨(some 29), (.pure (.mv (.tmp 1))), none⟩,
.op ⟨(some 30), (.pure (.mv (.tmp 2))), none⟩,
.op ⟨(some 31), (.pure (.mv (.tmp 4))), none⟩,
.op ⟨(some 32), (.eff (.call 125 [(.tmp 28), (.tmp 29), (.tmp 30), (.tmp 31)])), none⟩,
.op ⟨(some 27), (.pure (.mv (.tmp 32))), none⟩,
.op ⟨(some 33), (.pure (.ext 0 (.tmp 27))), none⟩,
.op ⟨(some 34), (.pure (.ext 1 (.tmp 27))), none⟩,
.op ⟨(some 1), (.pure (.mv (.tmp 33))), none⟩,
.op ⟨(some 2), (.pure (.mv (.tmp 34))), none⟩])
(.seq (.ops [
.op ⟨(some 35), (.pure (.mv (.tmp 2))), none⟩,
.op ⟨(some 10), (.pure (.mv (.tmp 35))), none⟩])
(.ret))))),
[.tmp 10]⟩
theorem r_slices_medianOrdered_int : resFun Try.prog f_slices_medianOrdered_int = some c_slices_medianOrdered_int := by kernel_rfl

/- slices.swapRangeCmpFunc[loop.example/g00940/impl.Packet] -/
abbrev f_slices_swapRangeCmpFunc_impl_Packet : Nat := 124
def c_slices_swapRangeCmpFunc_impl_Packet : MFun := ⟨38, .seq (.ops [
.op ⟨(some 10), (.pure (.mv (.const (.int .i64 (0))))), none⟩])
(.block 0 (.loop (.seq (.seq (.ops [
.op ⟨(some 11), (.pure (.mv (.tmp 10))), none⟩,
.op ⟨(some 12), (.pure (.mv (.tmp 3))), none⟩,
.op ⟨(some 13), (.pure (.bin .lss (.tmp 11) (.tmp 12))), none⟩])
(.cond (.tmp 13)
(.skip)
(.exit 0)))
(.seq (.block 1 (.draw false
(.take ⟨(some 16), (.pure (.mv (.tmp 0))), none⟩
(.take ⟨(some 17), (.pure (.mv (.tmp 1))), none⟩
(.take ⟨(some 18), (.pure (.mv (.tmp 10))), none⟩
(.take ⟨(some 19), (.pure (.bin .add (.tmp 17) (.tmp 18))), none⟩
(.take ⟨(some 20), (.pure (.mv (.tmp 0))), none⟩
(.take ⟨(some 21), (.pure (.mv (.tmp 2))), none⟩
(.take ⟨(some 22), (.pure (.mv (.tmp 10))), none⟩
(.take ⟨(some 23), (.pure (.bin .add (.tmp 21) (.tmp 22))), none⟩
(.take ⟨(some 24), (.pure (.mv (.tmp 0))), none⟩
(.take ⟨(some 25), (.pure (.mv (.tmp 2))), none⟩
(.take ⟨(some 26), (.pure (.mv (.tmp 10))), none⟩
(.take ⟨(some 27), (.pure (.bin .add (.tmp 25) (.tmp 26))), none⟩
(.take ⟨(some 28), (.pure (.idx 4 (.tmp 24) (.tmp 27))), none⟩
(.take ⟨(some 30), (.pure (.mv (.tmp 0))), none⟩
(.take ⟨(some 31), (.pure (.mv (.tmp 1))), none⟩
(.take ⟨(some 32), (.pure (.mv (.tmp 10))), none⟩
(.take ⟨(some 33), (.pure (.bin .add (.tmp 31) (.tmp 32))), none⟩
(.take ⟨(some 34), (.pure (.idx 4 (.tmp 30) (.tmp 33))), none⟩
(.only false ⟨(some 29), (.load (some 4) (.tmp 28)), none⟩
(.only false ⟨(some 35), (.load (some 4) (.tmp 34)), none⟩
(.take ⟨(some 36), (.pure (.idx 4 (.tmp 16) (.tmp 19))), none⟩
(.only true ⟨none, (.eff (.store 4 (.tmp 36) (.tmp 29))), none⟩
(.take ⟨(some 37), (.pure (.idx 4 (.tmp 20) (.tmp 23))), none⟩
(.only true ⟨none, (.eff (.store 4 (.tmp 37) (.tmp 35))), none⟩
(.done)))))))))))))))))))))))))))
(.ops [
.op ⟨(some 14), (.pure (.mv (.tmp 10))), none⟩,
.op ⟨(some 15), (.pure (.bin .add (.tmp 14) (.const (.int .i64 (1))))), none⟩,
.op ⟨(some 10), (.pure (.mv (.tmp 15))), none⟩]))))),
[]⟩
theorem r_slices_swapRangeCmpFunc_impl_Packet : resFun Try.prog f_slices_swapRangeCmpFunc_impl_Packet = some c_slices_swapRangeCmpFunc_impl_Packet := by kernel_rfl

/- slices.order2Ordered[int] -/
abbrev f_slices_order2Ordered_int : Nat := 125
def c_slices_order2Ordered_int : MFun := ⟨28, .seq (.ops [
.op ⟨(some 8), (.pure (.mv (.const (.int .i64 (0))))), none⟩,
.op ⟨(some 9), (.pure (.mv (.const (.int .i64 (0))))), none⟩])
(.seq (.seq (.draw false
(.take ⟨(some 10), (.pure (.mv (.tmp 0))), none⟩
(.take ⟨(some 11), (.pure (.mv (.tmp 2))), none⟩
(.take ⟨(some 12), (.pure (.idx 1 (.tmp 10) (.tmp 11))), none⟩
(.take ⟨(some 14), (.pure (.mv (.tmp 0))), none⟩
(.take ⟨(some 15), (.pure (.mv (.tmp 1))), none⟩
(.take ⟨(some 16), (.pure (.idx 1 (.tmp 14) (.tmp 15))), none⟩
(.only false ⟨(some 13), (.load none (.tmp 12)), none⟩
(.only false ⟨(some 17), (.load none (.tmp 16)), none⟩
(.only true ⟨(some 18), (.eff (.call 111 [(.tmp 13), (.tmp 17)])), none⟩
(.done)))))))))))
(.cond (.tmp 18)
(.seq (.ops [
.op ⟨(some 19), (.pure (.mv (.tmp 3))), none⟩,
.op ⟨(some 20), (.pure (.nilc (.tmp 19))), none⟩,
.op ⟨(some 21), (.load none (.tmp 20)), none⟩,
.op ⟨(some 22), (.pure (.bin .add (.tmp 21) (.const (.int .i64 (1))))), none⟩,
.op ⟨(some 23), (.pure (.nilc (.tmp 19))), none⟩,
.op ⟨none, (.eff (.store 1 (.tmp 23) (.tmp 22))), none⟩])
(.seq (.ops [
.op ⟨(some 24), (.pure (.mv (.tmp 2))), none⟩,
.op ⟨(some 25), (.pure (.mv (.tmp 1))), none⟩,
.op ⟨(some 8), (.pure (.mv (.tmp 24))), none⟩,
.op ⟨(some 9), (.pure (.mv (.tmp 25))), none⟩])
(.ret)))
(.skip)))
(.seq (.ops [
.op ⟨(some 26), (.pure (.mv (.tmp 1))), none⟩,
.op ⟨(some 27), (.pure (.mv (.tmp 2))), none⟩,
.op ⟨(some 8), (.pure (.mv (.tmp 26))), none⟩,
.op ⟨(some 9), (.pure (.mv (.tmp 27))), none⟩])
(.ret))),
[.tmp 8, .tmp 9]⟩
theorem r_slices_order2Ordered_int : resFun Try.prog f_slices_order2Ordered_int = some c_slices_order2Ordered_int := by kernel_rfl
end Go.Proofs.Ytjmcijcdncgaiaa
