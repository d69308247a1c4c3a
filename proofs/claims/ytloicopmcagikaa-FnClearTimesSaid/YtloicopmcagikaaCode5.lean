/- The code of this seat's functions, resolved, written by a program of mine; each is held against the given program by the kernel. Condition: none. -/
import Derived.Test.YtloicopmcagikaaProg
import Derived.Test.YtloicopmcagikaaBase9
import Derived.KernelRfl
namespace Go.Proofs.Ytloicopmcagikaa
open Go.Vc

/- math/bits.Len32 -/
/- math/bits.Len64 -/
/- cmp.isNaN[int] -/
abbrev f_cmp_isNaN_int : Nat := 103
def c_cmp_isNaN_int : MFun := ⟨6, .seq (.ops [ o_p 2 (.mv (.const (.bool false)))])
(.seq (.ops [ o_m 3 0, o_m 4 0, o_p 5 (.bin .neq (.tmp 3) (.tmp 4)), o_m 2 5])
(.ret)),
[.tmp 2]⟩
theorem r_cmp_isNaN_int : resFun Try.prog f_cmp_isNaN_int = some c_cmp_isNaN_int := by kernel_rfl

/- slices.siftDownCmpFunc[loop.example/g00940/impl.Fog] -/
/- slices.nextPowerOfTwo -/
/- (*slices.xorshift).Next -/
/- slices.medianAdjacentCmpFunc[loop.example/g00940/impl.Fog] -/
/- slices.medianCmpFunc[loop.example/g00940/impl.Fog] -/
/- slices.order2CmpFunc[loop.example/g00940/impl.Fog] -/
end Go.Proofs.Ytloicopmcagikaa

