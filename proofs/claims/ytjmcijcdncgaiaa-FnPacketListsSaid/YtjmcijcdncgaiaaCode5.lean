/- Code5. Condition: none. -/
import Derived.Test.YtjmcijcdncgaiaaProg
import Derived.Test.YtjmcijcdncgaiaaBase9
import Derived.KernelRfl
/- The code of this seat's functions, resolved, written by a program of mine; each is held against the given program by the kernel. Condition: none. -/
namespace Go.Proofs.Ytjmcijcdncgaiaa
open Go.Vc

/- slices.nextPowerOfTwo -/
/- (*slices.xorshift).Next -/
/- slices.medianAdjacentOrdered[int] -/
/- slices.medianOrdered[int] -/
/- slices.swapRangeCmpFunc[loop.example/g00940/impl.Packet] -/
abbrev f_slices_swapRangeCmpFunc_impl_Packet : Nat := 124
def c_slices_swapRangeCmpFunc_impl_Packet : MFun := ⟨38, .seq (.ops [
.op ⟨(some 10), (.pure (.mv (.const (.int .i64 (0))))), none⟩])
(.block 0 (.loop (.seq (.seq (.ops [
.op ⟨(some 11), (.pure (.mv (.tmp 10))), none⟩,
.op ⟨(some 12), (.pure (.mv (.tmp 3))), none⟩,
.op ⟨(some 13), (.pure (.bin .lss (.tmp 11) (.tmp 12))), none⟩])
(.cond (.tmp 13)
(.skip)
(.exit 0)))
(.seq (.block 1 (.draw false
(.take ⟨(some 16), (.pure (.mv (.tmp 0))), none⟩
(.take ⟨(some 17), (.pure (.mv (.tmp 1))), none⟩
(.take ⟨(some 18), (.pure (.mv (.tmp 10))), none⟩
(.take ⟨(some 19), (.pure (.bin .add (.tmp 17) (.tmp 18))), none⟩
(.take ⟨(some 20), (.pure (.mv (.tmp 0))), none⟩
(.take ⟨(some 21), (.pure (.mv (.tmp 2))), none⟩
(.take ⟨(some 22), (.pure (.mv (.tmp 10))), none⟩
(.take ⟨(some 23), (.pure (.bin .add (.tmp 21) (.tmp 22))), none⟩
(.take ⟨(some 24), (.pure (.mv (.tmp 0))), none⟩
(.take ⟨(some 25), (.pure (.mv (.tmp 2))), none⟩
(.take ⟨(some 26), (.pure (.mv (.tmp 10))), none⟩
(.take ⟨(some 27), (.pure (.bin .add (.tmp 25) (.tmp 26))), none⟩
(.take ⟨(some 28), (.pure (.idx 4 (.tmp 24) (.tmp 27))), none⟩
(.take ⟨(some 30), (.pure (.mv (.tmp 0))), none⟩
(.take ⟨(some 31), (.pure (.mv (.tmp 1))), none⟩
(.take ⟨(some 32), (.pure (.mv (.tmp 10))), none⟩
(.take ⟨(some 33), (.pure (.bin .add (.tmp 31) (.tmp 32))), none⟩
(.take ⟨(some 34), (.pure (.idx 4 (.tmp 30) (.tmp 33))), none⟩
(.only false ⟨(some 29), (.load (some 4) (.tmp 28)), none⟩
(.only false ⟨(some 35), (.load (some 4) (.tmp 34)), none⟩
(.take ⟨(some 36), (.pure (.idx 4 (.tmp 16) (.tmp 19))), none⟩
(.only true ⟨none, (.eff (.store 4 (.tmp 36) (.tmp 29))), none⟩
(.take ⟨(some 37), (.pure (.idx 4 (.tmp 20) (.tmp 23))), none⟩
(.only true ⟨none, (.eff (.store 4 (.tmp 37) (.tmp 35))), none⟩
(.done)))))))))))))))))))))))))))
(.ops [
.op ⟨(some 14), (.pure (.mv (.tmp 10))), none⟩,
.op ⟨(some 15), (.pure (.bin .add (.tmp 14) (.const (.int .i64 (1))))), none⟩,
.op ⟨(some 10), (.pure (.mv (.tmp 15))), none⟩]))))),
[]⟩
theorem r_slices_swapRangeCmpFunc_impl_Packet : resFun Try.prog f_slices_swapRangeCmpFunc_impl_Packet = some c_slices_swapRangeCmpFunc_impl_Packet := by kernel_rfl

/- slices.order2Ordered[int] -/
end Go.Proofs.Ytjmcijcdncgaiaa

