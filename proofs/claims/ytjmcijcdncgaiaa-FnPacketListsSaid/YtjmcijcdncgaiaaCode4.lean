/- Code4. Condition: none. -/
import Derived.Test.YtjmcijcdncgaiaaProg
import Derived.Test.YtjmcijcdncgaiaaBase9
import Derived.KernelRfl
/- The code of this seat's functions, resolved, written by a program of mine; each is held against the given program by the kernel. Condition: none. -/
namespace Go.Proofs.Ytjmcijcdncgaiaa
open Go.Vc

/- slices.insertionSortOrdered[int] -/
/- slices.heapSortOrdered[int] -/
/- slices.breakPatternsOrdered[int] -/
/- slices.choosePivotOrdered[int] -/
/- slices.reverseRangeOrdered[int] -/
/- slices.partialInsertionSortOrdered[int] -/
/- cmp.Less[int] -/
/- slices.partitionEqualOrdered[int] -/
/- slices.partitionOrdered[int] -/
/- math/bits.Len32 -/
/- math/bits.Len64 -/
/- (*loop.example/g00940/spec.l1Cur).next -/
abbrev f_spec_l1Cur_next : Nat := 116
def c_spec_l1Cur_next : MFun := ⟨62, .seq (.ops [
.op ⟨(some 2), (.pure (.mv (.const (.int .i64 (0))))), none⟩])
(.seq (.ops [
.op ⟨(some 3), (.pure (.mv (.const (.int .i64 (0))))), none⟩])
(.seq (.seq (.ops [
.op ⟨(some 4), (.pure (.mv (.tmp 0))), none⟩,
.op ⟨(some 5), (.pure (.nilc (.tmp 4))), none⟩,
.op ⟨(some 6), (.pure (.fieldAddr 1 (.tmp 5))), none⟩,
.op ⟨(some 8), (.pure (.mv (.tmp 0))), none⟩,
.op ⟨(some 9), (.pure (.nilc (.tmp 8))), none⟩,
.op ⟨(some 10), (.pure (.fieldAddr 0 (.tmp 9))), none⟩,
.op ⟨(some 7), (.load none (.tmp 6)), none⟩,
.op ⟨(some 11), (.load none (.tmp 10)), none⟩,
.op ⟨(some 12), (.pure (.len (.tmp 11))), none⟩,
.op ⟨(some 13), (.pure (.bin .lss (.tmp 7) (.tmp 12))), none⟩])
(.cond (.tmp 13)
(.ops [
.op ⟨(some 14), (.pure (.mv (.tmp 0))), none⟩,
.op ⟨(some 15), (.pure (.nilc (.tmp 14))), none⟩,
.op ⟨(some 16), (.pure (.fieldAddr 0 (.tmp 15))), none⟩,
.op ⟨(some 18), (.pure (.mv (.tmp 0))), none⟩,
.op ⟨(some 19), (.pure (.nilc (.tmp 18))), none⟩,
.op ⟨(some 20), (.pure (.fieldAddr 1 (.tmp 19))), none⟩,
.op ⟨(some 17), (.load none (.tmp 16)), none⟩,
.op ⟨(some 21), (.load none (.tmp 20)), none⟩,
.op ⟨(some 22), (.pure (.idx 1 (.tmp 17) (.tmp 21))), none⟩,
.op ⟨(some 23), (.load none (.tmp 22)), none⟩,
.op ⟨(some 24), (.pure (.conv .i64 (.tmp 23))), none⟩,
.op ⟨(some 3), (.pure (.mv (.tmp 24))), none⟩])
(.skip)))
(.seq (.ops [
.op ⟨(some 25), (.pure (.mv (.tmp 0))), none⟩,
.op ⟨(some 26), (.pure (.nilc (.tmp 25))), none⟩,
.op ⟨(some 27), (.pure (.fieldAddr 1 (.tmp 26))), none⟩,
.op ⟨(some 28), (.load none (.tmp 27)), none⟩,
.op ⟨(some 29), (.pure (.bin .add (.tmp 28) (.const (.int .i64 (1))))), none⟩,
.op ⟨(some 30), (.pure (.nilc (.tmp 25))), none⟩,
.op ⟨(some 31), (.pure (.fieldAddr 1 (.tmp 30))), none⟩,
.op ⟨none, (.eff (.store 1 (.tmp 31) (.tmp 29))), none⟩])
(.seq (.ops [
.op ⟨(some 32), (.pure (.mv (.tmp 0))), none⟩,
.op ⟨(some 33), (.pure (.mv (.tmp 0))), none⟩,
.op ⟨(some 34), (.pure (.nilc (.tmp 33))), none⟩,
.op ⟨(some 35), (.pure (.fieldAddr 2 (.tmp 34))), none⟩,
.op ⟨(some 36), (.load none (.tmp 35)), none⟩,
.op ⟨(some 37), (.pure (.bin .mul (.tmp 36) (.const (.int .u64 (6364136223846793005))))), none⟩,
.op ⟨(some 38), (.pure (.mv (.tmp 3))), none⟩,
.op ⟨(some 39), (.pure (.conv .u64 (.tmp 38))), none⟩,
.op ⟨(some 40), (.pure (.bin .add (.tmp 37) (.tmp 39))), none⟩,
.op ⟨(some 41), (.pure (.bin .add (.tmp 40) (.const (.int .u64 (1442695040888963407))))), none⟩,
.op ⟨(some 42), (.pure (.nilc (.tmp 32))), none⟩,
.op ⟨(some 43), (.pure (.fieldAddr 2 (.tmp 42))), none⟩,
.op ⟨none, (.eff (.store 1 (.tmp 43) (.tmp 41))), none⟩])
(.seq (.seq (.ops [
.op ⟨(some 44), (.pure (.mv (.tmp 0))), none⟩,
.op ⟨(some 45), (.pure (.nilc (.tmp 44))), none⟩,
.op ⟨(some 46), (.pure (.fieldAddr 1 (.tmp 45))), none⟩,
.op ⟨(some 48), (.pure (.mv (.tmp 0))), none⟩,
.op ⟨(some 49), (.pure (.nilc (.tmp 48))), none⟩,
.op ⟨(some 50), (.pure (.fieldAddr 0 (.tmp 49))), none⟩,
.op ⟨(some 47), (.load none (.tmp 46)), none⟩,
.op ⟨(some 51), (.load none (.tmp 50)), none⟩,
.op ⟨(some 52), (.pure (.len (.tmp 51))), none⟩,
.op ⟨(some 53), (.pure (.bin .leq (.tmp 47) (.tmp 52))), none⟩])
(.cond (.tmp 53)
(.seq (.ops [
.op ⟨(some 54), (.pure (.mv (.tmp 3))), none⟩,
.op ⟨(some 2), (.pure (.mv (.tmp 54))), none⟩])
(.ret))
(.skip)))
(.seq (.ops [
.op ⟨(some 55), (.pure (.mv (.tmp 0))), none⟩,
.op ⟨(some 56), (.pure (.nilc (.tmp 55))), none⟩,
.op ⟨(some 57), (.pure (.fieldAddr 2 (.tmp 56))), none⟩,
.op ⟨(some 58), (.load none (.tmp 57)), none⟩,
.op ⟨(some 59), (.pure (.bin .shr (.tmp 58) (.const (.int .u64 (40))))), none⟩,
.op ⟨(some 60), (.pure (.bin .and (.tmp 59) (.const (.int .u64 (255))))), none⟩,
.op ⟨(some 61), (.pure (.conv .i64 (.tmp 60))), none⟩,
.op ⟨(some 2), (.pure (.mv (.tmp 61))), none⟩])
(.ret))))))),
[.tmp 2]⟩
theorem r_spec_l1Cur_next : resFun Try.prog f_spec_l1Cur_next = some c_spec_l1Cur_next := by kernel_rfl

/- (*loop.example/g00940/spec.l1Cur).content -/
abbrev f_spec_l1Cur_content : Nat := 117
def c_spec_l1Cur_content : MFun := ⟨6, .seq (.ops [
.op ⟨(some 2), (.pure (.mv (.const (.int .i64 (0))))), none⟩])
(.seq (.ops [
.op ⟨(some 3), (.pure (.mv (.tmp 0))), none⟩,
.op ⟨(some 4), (.eff (.call 98 [(.tmp 3), (.const (.int .i64 (60)))])), none⟩,
.op ⟨(some 5), (.pure (.bin .add (.const (.int .i64 (1))) (.tmp 4))), none⟩,
.op ⟨(some 2), (.pure (.mv (.tmp 5))), none⟩])
(.ret)),
[.tmp 2]⟩
theorem r_spec_l1Cur_content : resFun Try.prog f_spec_l1Cur_content = some c_spec_l1Cur_content := by kernel_rfl

/- slices.rotateCmpFunc[loop.example/g00940/impl.Packet] -/
abbrev f_slices_rotateCmpFunc_impl_Packet : Nat := 118
def c_slices_rotateCmpFunc_impl_Packet : MFun := ⟨58, .seq (.ops [
.op ⟨(some 12), (.pure (.mv (.tmp 2))), none⟩,
.op ⟨(some 13), (.pure (.mv (.tmp 1))), none⟩,
.op ⟨(some 14), (.pure (.bin .sub (.tmp 12) (.tmp 13))), none⟩,
.op ⟨(some 10), (.pure (.mv (.tmp 14))), none⟩])
(.seq (.ops [
.op ⟨(some 15), (.pure (.mv (.tmp 3))), none⟩,
.op ⟨(some 16), (.pure (.mv (.tmp 2))), none⟩,
.op ⟨(some 17), (.pure (.bin .sub (.tmp 15) (.tmp 16))), none⟩,
.op ⟨(some 11), (.pure (.mv (.tmp 17))), none⟩])
(.seq (.block 0 (.loop (.seq (.seq (.ops [
.op ⟨(some 18), (.pure (.mv (.tmp 10))), none⟩,
.op ⟨(some 19), (.pure (.mv (.tmp 11))), none⟩,
.op ⟨(some 20), (.pure (.bin .neq (.tmp 18) (.tmp 19))), none⟩])
(.cond (.tmp 20)
(.skip)
(.exit 0)))
(.block 1 (.seq (.ops [
.op ⟨(some 21), (.pure (.mv (.tmp 10))), none⟩,
.op ⟨(some 22), (.pure (.mv (.tmp 11))), none⟩,
.op ⟨(some 23), (.pure (.bin .gtr (.tmp 21) (.tmp 22))), none⟩])
(.cond (.tmp 23)
(.seq (.ops [
.op ⟨(some 24), (.pure (.mv (.tmp 0))), none⟩,
.op ⟨(some 25), (.pure (.mv (.tmp 2))), none⟩,
.op ⟨(some 26), (.pure (.mv (.tmp 10))), none⟩,
.op ⟨(some 27), (.pure (.bin .sub (.tmp 25) (.tmp 26))), none⟩,
.op ⟨(some 28), (.pure (.mv (.tmp 2))), none⟩,
.op ⟨(some 29), (.pure (.mv (.tmp 11))), none⟩,
.op ⟨(some 30), (.pure (.mv (.tmp 4))), none⟩,
.op ⟨(some 31), (.eff (.call 124 [(.tmp 24), (.tmp 27), (.tmp 28), (.tmp 29), (.tmp 30)])), none⟩])
(.ops [
.op ⟨(some 32), (.pure (.mv (.tmp 10))), none⟩,
.op ⟨(some 33), (.pure (.mv (.tmp 11))), none⟩,
.op ⟨(some 34), (.pure (.bin .sub (.tmp 32) (.tmp 33))), none⟩,
.op ⟨(some 10), (.pure (.mv (.tmp 34))), none⟩]))
(.seq (.ops [
.op ⟨(some 35), (.pure (.mv (.tmp 0))), none⟩,
.op ⟨(some 36), (.pure (.mv (.tmp 2))), none⟩,
.op ⟨(some 37), (.pure (.mv (.tmp 10))), none⟩,
.op ⟨(some 38), (.pure (.bin .sub (.tmp 36) (.tmp 37))), none⟩,
.op ⟨(some 39), (.pure (.mv (.tmp 2))), none⟩,
.op ⟨(some 40), (.pure (.mv (.tmp 11))), none⟩,
.op ⟨(some 41), (.pure (.bin .add (.tmp 39) (.tmp 40))), none⟩,
.op ⟨(some 42), (.pure (.mv (.tmp 10))), none⟩,
.op ⟨(some 43), (.pure (.bin .sub (.tmp 41) (.tmp 42))), none⟩,
.op ⟨(some 44), (.pure (.mv (.tmp 10))), none⟩,
.op ⟨(some 45), (.pure (.mv (.tmp 4))), none⟩,
.op ⟨(some 46), (.eff (.call 124 [(.tmp 35), (.tmp 38), (.tmp 43), (.tmp 44), (.tmp 45)])), none⟩])
(.ops [
.op ⟨(some 47), (.pure (.mv (.tmp 11))), none⟩,
.op ⟨(some 48), (.pure (.mv (.tmp 10))), none⟩,
.op ⟨(some 49), (.pure (.bin .sub (.tmp 47) (.tmp 48))), none⟩,
.op ⟨(some 11), (.pure (.mv (.tmp 49))), none⟩]))))))))
(.ops [
.op ⟨(some 50), (.pure (.mv (.tmp 0))), none⟩,
.op ⟨(some 51), (.pure (.mv (.tmp 2))), none⟩,
.op ⟨(some 52), (.pure (.mv (.tmp 10))), none⟩,
.op ⟨(some 53), (.pure (.bin .sub (.tmp 51) (.tmp 52))), none⟩,
.op ⟨(some 54), (.pure (.mv (.tmp 2))), none⟩,
.op ⟨(some 55), (.pure (.mv (.tmp 10))), none⟩,
.op ⟨(some 56), (.pure (.mv (.tmp 4))), none⟩,
.op ⟨(some 57), (.eff (.call 124 [(.tmp 50), (.tmp 53), (.tmp 54), (.tmp 55), (.tmp 56)])), none⟩]))),
[]⟩
theorem r_slices_rotateCmpFunc_impl_Packet : resFun Try.prog f_slices_rotateCmpFunc_impl_Packet = some c_slices_rotateCmpFunc_impl_Packet := by kernel_rfl

/- slices.siftDownOrdered[int] -/
end Go.Proofs.Ytjmcijcdncgaiaa

