/- The code of this seat's functions, resolved, written by a program of mine; each is held against the given program by the kernel. Condition: none. -/
import Derived.Test.YthagdkmalchhgaaProg
import Derived.Test.YthagdkmalchhgaaBase9
import Derived.KernelRfl
namespace Go.Proofs.Ythagdkmalchhgaa
open Go.Vc

/- slices.Clone[[]loop.example/g00940/impl.Link,loop.example/g00940/impl.Link] -/
abbrev f_slices_Clone_Limpl_Link_impl_Link : Nat := 175
def c_slices_Clone_Limpl_Link_impl_Link : MFun := ⟨8, .seq (.ops [
.op ⟨(some 2), (.pure (.mv (.const (.slice none 0 0)))), none⟩])
(.seq (.seq (.ops [
.op ⟨(some 3), (.pure (.mv (.tmp 0))), none⟩,
.op ⟨(some 4), (.pure (.isnil false (.tmp 3))), none⟩])
(.cond (.tmp 4)
(.seq (.ops [
.op ⟨(some 2), (.pure (.mv (.const (.slice none 0 0)))), none⟩])
(.ret))
(.skip)))
(.seq (.ops [
.op ⟨(some 5), (.eff (.row 88 0 [] [])), none⟩,
.op ⟨(some 6), (.pure (.mv (.tmp 0))), none⟩,
.op ⟨(some 7), (.eff (.app 88 3 24 (.tmp 5) (.tmp 6))), none⟩,
.op ⟨(some 2), (.pure (.mv (.tmp 7))), none⟩])
(.ret))),
[.tmp 2]⟩
theorem r_slices_Clone_Limpl_Link_impl_Link : resFun Try.prog f_slices_Clone_Limpl_Link_impl_Link = some c_slices_Clone_Limpl_Link_impl_Link := by kernel_rfl

/- loop.example/g00940/spec.roOther -/
abbrev f_spec_roOther : Nat := 176
def c_spec_roOther : MFun := ⟨18, .seq (.ops [
.op ⟨(some 2), (.eff (.box 88 (.tmp 0))), none⟩,
.op ⟨(some 4), (.pure (.mv (.const (.int .i64 (0))))), none⟩])
(.seq (.seq (.ops [
.op ⟨(some 5), (.pure (.mv (.tmp 1))), none⟩])
(.block 0 (.seq (.ops [
.op ⟨(some 7), (.pure (.fieldAddr 0 (.tmp 2))), none⟩,
.op ⟨(some 8), (.load none (.tmp 7)), none⟩,
.op ⟨(some 9), (.pure (.bin .eql (.tmp 5) (.tmp 8))), none⟩,
.op ⟨(some 6), (.pure (.mv (.tmp 9))), none⟩])
(.cond (.tmp 6)
(.seq (.ops [
.op ⟨(some 10), (.pure (.fieldAddr 1 (.tmp 2))), none⟩,
.op ⟨(some 11), (.load none (.tmp 10)), none⟩,
.op ⟨(some 4), (.pure (.mv (.tmp 11))), none⟩])
(.ret))
(.seq (.ops [
.op ⟨(some 13), (.pure (.fieldAddr 1 (.tmp 2))), none⟩,
.op ⟨(some 14), (.load none (.tmp 13)), none⟩,
.op ⟨(some 15), (.pure (.bin .eql (.tmp 5) (.tmp 14))), none⟩,
.op ⟨(some 12), (.pure (.mv (.tmp 15))), none⟩])
(.cond (.tmp 12)
(.seq (.ops [
.op ⟨(some 16), (.pure (.fieldAddr 0 (.tmp 2))), none⟩,
.op ⟨(some 17), (.load none (.tmp 16)), none⟩,
.op ⟨(some 4), (.pure (.mv (.tmp 17))), none⟩])
(.ret))
(.skip)))))))
(.seq (.ops [
.op ⟨(some 4), (.pure (.mv (.const (.int .i64 (-1))))), none⟩])
(.ret))),
[.tmp 4]⟩
theorem r_spec_roOther : resFun Try.prog f_spec_roOther = some c_spec_roOther := by kernel_rfl

/- loop.example/g00940/spec.roOver -/
abbrev f_spec_roOver : Nat := 177
def c_spec_roOver : MFun := ⟨23, .seq (.ops [
.op ⟨(some 4), (.eff (.box 32 (.tmp 0))), none⟩,
.op ⟨(some 8), (.pure (.mv (.const (.int .i64 (0))))), none⟩])
(.seq (.ops [
.op ⟨(some 10), (.pure (.fieldAddr 1 (.tmp 4))), none⟩,
.op ⟨(some 11), (.load none (.tmp 10)), none⟩,
.op ⟨(some 12), (.pure (.mv (.tmp 2))), none⟩,
.op ⟨(some 13), (.pure (.idx 3 (.tmp 11) (.tmp 12))), none⟩,
.op ⟨(some 14), (.pure (.fieldAddr 2 (.tmp 13))), none⟩,
.op ⟨(some 15), (.load none (.tmp 14)), none⟩,
.op ⟨(some 9), (.pure (.mv (.tmp 15))), none⟩])
(.seq (.ops [
.op ⟨(some 16), (.pure (.mv (.tmp 1))), none⟩,
.op ⟨(some 17), (.pure (.mv (.tmp 2))), none⟩,
.op ⟨(some 18), (.pure (.mv (.tmp 3))), none⟩,
.op ⟨(some 19), (.pure (.mv (.tmp 9))), none⟩,
.op ⟨(some 20), (.eff (.call 141 [(.tmp 16), (.tmp 17), (.tmp 18), (.tmp 19)])), none⟩,
.op ⟨(some 21), (.pure (.mv (.tmp 9))), none⟩,
.op ⟨(some 22), (.pure (.bin .add (.tmp 20) (.tmp 21))), none⟩,
.op ⟨(some 8), (.pure (.mv (.tmp 22))), none⟩])
(.ret))),
[.tmp 8]⟩
theorem r_spec_roOver : resFun Try.prog f_spec_roOver = some c_spec_roOver := by kernel_rfl

/- loop.example/g00940/spec.roLinks -/
abbrev f_spec_roLinks : Nat := 178
def c_spec_roLinks : MFun := ⟨56, .seq (.ops [
.op ⟨(some 2), (.eff (.box 32 (.tmp 0))), none⟩,
.op ⟨(some 4), (.pure (.mv (.const (.slice none 0 0)))), none⟩,
.op ⟨(some 5), (.pure (.mv (.const (.bool false)))), none⟩])
(.seq (.seq (.ops [
.op ⟨(some 9), (.pure (.mv (.tmp 1))), none⟩,
.op ⟨(some 10), (.pure (.len (.tmp 9))), none⟩,
.op ⟨(some 11), (.eff (.call 108 [(.tmp 10), (.const (.int .i64 (1))), (.const (.int .i64 (16)))])), none⟩,
.op ⟨(some 12), (.pure (.bnot (.tmp 11))), none⟩,
.op ⟨(some 13), (.pure (.mv (.tmp 12))), none⟩,
.split 13,
.op ⟨(some 14), (.pure (.mv (.tmp 1))), (some (13, false))⟩,
.op ⟨(some 15), (.pure (.fieldAddr 0 (.tmp 2))), (some (13, false))⟩,
.op ⟨(some 16), (.load none (.tmp 15)), (some (13, false))⟩,
.op ⟨(some 17), (.pure (.len (.tmp 16))), (some (13, false))⟩,
.op ⟨(some 18), (.pure (.bin .sub (.tmp 17) (.const (.int .i64 (1))))), (some (13, false))⟩,
.op ⟨(some 19), (.eff (.call 196 [(.tmp 14), (.const (.int .i64 (0))), (.tmp 18)])), (some (13, false))⟩,
.op ⟨(some 20), (.pure (.bnot (.tmp 19))), (some (13, false))⟩,
.op ⟨(some 21), (.pure (.pick (.tmp 13) (.const (.bool true)) (.tmp 20))), none⟩])
(.cond (.tmp 21)
(.seq (.ops [
.op ⟨(some 4), (.pure (.mv (.const (.slice none 0 0)))), none⟩,
.op ⟨(some 5), (.pure (.mv (.const (.bool false)))), none⟩])
(.ret))
(.skip)))
(.seq (.ops [
.op ⟨(some 6), (.pure (.mv (.const (.slice none 0 0)))), none⟩])
(.seq (.seq (.ops [
.op ⟨(some 7), (.pure (.mv (.const (.int .i64 (1))))), none⟩])
(.block 0 (.loop (.seq (.seq (.ops [
.op ⟨(some 22), (.pure (.mv (.tmp 7))), none⟩,
.op ⟨(some 23), (.pure (.mv (.tmp 1))), none⟩,
.op ⟨(some 24), (.pure (.len (.tmp 23))), none⟩,
.op ⟨(some 25), (.pure (.bin .lss (.tmp 22) (.tmp 24))), none⟩])
(.cond (.tmp 25)
(.skip)
(.exit 0)))
(.seq (.block 1 (.seq (.draw false
(.take ⟨(some 29), (.pure (.mv (.tmp 1))), none⟩
(.take ⟨(some 30), (.pure (.mv (.tmp 7))), none⟩
(.take ⟨(some 31), (.pure (.bin .sub (.tmp 30) (.const (.int .i64 (1))))), none⟩
(.take ⟨(some 32), (.pure (.idx 1 (.tmp 29) (.tmp 31))), none⟩
(.take ⟨(some 34), (.pure (.mv (.tmp 1))), none⟩
(.take ⟨(some 35), (.pure (.mv (.tmp 7))), none⟩
(.take ⟨(some 36), (.pure (.idx 1 (.tmp 34) (.tmp 35))), none⟩
(.only false ⟨(some 28), (.load (some 2) (.tmp 2)), none⟩
(.only false ⟨(some 33), (.load none (.tmp 32)), none⟩
(.only false ⟨(some 37), (.load none (.tmp 36)), none⟩
(.only true ⟨(some 38), (.eff (.call 157 [(.tmp 28), (.tmp 33), (.tmp 37)])), none⟩
(.take ⟨(some 8), (.pure (.mv (.tmp 38))), none⟩
(.done))))))))))))))
(.seq (.seq (.draw false
(.take ⟨(some 39), (.pure (.mv (.tmp 8))), none⟩
(.take ⟨(some 40), (.pure (.bin .lss (.tmp 39) (.const (.int .i64 (0))))), none⟩
(.take ⟨(some 41), (.pure (.mv (.tmp 40))), none⟩
(.split 41
(.take ⟨(some 42), (.pure (.mv (.tmp 1))), (some (41, false))⟩
(.take ⟨(some 43), (.pure (.mv (.tmp 7))), (some (41, false))⟩
(.take ⟨(some 44), (.pure (.slc 1 (.tmp 42) none (some (.tmp 43)) none)), (some (41, false))⟩
(.take ⟨(some 45), (.pure (.mv (.tmp 1))), (some (41, false))⟩
(.take ⟨(some 46), (.pure (.mv (.tmp 7))), (some (41, false))⟩
(.take ⟨(some 47), (.pure (.idx 1 (.tmp 45) (.tmp 46))), (some (41, false))⟩
(.only false ⟨(some 48), (.load none (.tmp 47)), (some (41, false))⟩
(.only true ⟨(some 49), (.eff (.call 189 [(.tmp 44), (.tmp 48)])), (some (41, false))⟩
(.take ⟨(some 50), (.pure (.pick (.tmp 41) (.const (.bool true)) (.tmp 49))), none⟩
(.done)))))))))))))))
(.cond (.tmp 50)
(.seq (.ops [
.op ⟨(some 4), (.pure (.mv (.const (.slice none 0 0)))), none⟩,
.op ⟨(some 5), (.pure (.mv (.const (.bool false)))), none⟩])
(.ret))
(.skip)))
(.ops [
.op ⟨(some 51), (.pure (.mv (.tmp 6))), none⟩,
.op ⟨(some 52), (.pure (.mv (.tmp 8))), none⟩,
.op ⟨(some 53), (.eff (.row 3 1 [(.int .i64 (0))] [(0, 1, (.tmp 52))])), none⟩,
.op ⟨(some 54), (.eff (.app 3 1 8 (.tmp 51) (.tmp 53))), none⟩,
.op ⟨(some 6), (.pure (.mv (.tmp 54))), none⟩]))))
(.ops [
.op ⟨(some 26), (.pure (.mv (.tmp 7))), none⟩,
.op ⟨(some 27), (.pure (.bin .add (.tmp 26) (.const (.int .i64 (1))))), none⟩,
.op ⟨(some 7), (.pure (.mv (.tmp 27))), none⟩]))))))
(.seq (.ops [
.op ⟨(some 55), (.pure (.mv (.tmp 6))), none⟩,
.op ⟨(some 4), (.pure (.mv (.tmp 55))), none⟩,
.op ⟨(some 5), (.pure (.mv (.const (.bool true)))), none⟩])
(.ret))))),
[.tmp 4, .tmp 5]⟩
theorem r_spec_roLinks : resFun Try.prog f_spec_roLinks = some c_spec_roLinks := by kernel_rfl

/- slices.IndexFunc[[]loop.example/g00940/impl.Link,loop.example/g00940/impl.Link] -/
abbrev f_slices_IndexFunc_Limpl_Link_impl_Link : Nat := 179
def c_slices_IndexFunc_Limpl_Link_impl_Link : MFun := ⟨19, .seq (.ops [
.op ⟨(some 4), (.pure (.mv (.const (.int .i64 (0))))), none⟩])
(.seq (.seq (.ops [
.op ⟨(some 6), (.pure (.mv (.tmp 0))), none⟩,
.op ⟨(some 7), (.pure (.len (.tmp 6))), none⟩,
.op ⟨(some 8), (.pure (.mv (.const (.int .i64 (0))))), none⟩])
(.block 0 (.loop (.seq (.ops [
.op ⟨(some 9), (.pure (.bin .lss (.tmp 8) (.tmp 7))), none⟩])
(.seq (.cond (.tmp 9)
(.skip)
(.exit 0))
(.seq (.block 1 (.seq (.ops [
.op ⟨(some 10), (.pure (.mv (.tmp 8))), none⟩,
.op ⟨(some 5), (.pure (.mv (.tmp 10))), none⟩])
(.seq (.ops [
.op ⟨(some 11), (.pure (.mv (.tmp 1))), none⟩,
.op ⟨(some 12), (.pure (.mv (.tmp 0))), none⟩,
.op ⟨(some 13), (.pure (.mv (.tmp 5))), none⟩,
.op ⟨(some 14), (.pure (.idx 3 (.tmp 12) (.tmp 13))), none⟩,
.op ⟨(some 15), (.load (some 3) (.tmp 14)), none⟩,
.op ⟨(some 16), (.eff (.callv (.tmp 11) [(.tmp 15)])), none⟩])
(.cond (.tmp 16)
(.seq (.ops [
.op ⟨(some 17), (.pure (.mv (.tmp 5))), none⟩,
.op ⟨(some 4), (.pure (.mv (.tmp 17))), none⟩])
(.ret))
(.skip)))))
(.ops [
.op ⟨(some 18), (.pure (.bin .add (.tmp 8) (.const (.int .i64 (1))))), none⟩,
.op ⟨(some 8), (.pure (.mv (.tmp 18))), none⟩])))))))
(.seq (.ops [
.op ⟨(some 4), (.pure (.mv (.const (.int .i64 (-1))))), none⟩])
(.ret))),
[.tmp 4]⟩
theorem r_slices_IndexFunc_Limpl_Link_impl_Link : resFun Try.prog f_slices_IndexFunc_Limpl_Link_impl_Link = some c_slices_IndexFunc_Limpl_Link_impl_Link := by kernel_rfl

/- loop.example/g00940/impl.linkIndex$1 -/
abbrev f_impl_linkIndex_1 : Nat := 180
def c_impl_linkIndex_1 : MFun := ⟨19, .seq (.ops [
.op ⟨(some 3), (.eff (.box 88 (.tmp 0))), none⟩,
.op ⟨(some 4), (.pure (.mv (.const (.bool false)))), none⟩])
(.seq (.ops [
.op ⟨(some 5), (.pure (.fieldAddr 0 (.tmp 3))), none⟩,
.op ⟨(some 6), (.load none (.tmp 5)), none⟩,
.op ⟨(some 7), (.load none (.tmp 1)), none⟩,
.op ⟨(some 8), (.load none (.tmp 2)), none⟩,
.op ⟨(some 9), (.pure (.min2 (.tmp 7) (.tmp 8))), none⟩,
.op ⟨(some 10), (.pure (.bin .eql (.tmp 6) (.tmp 9))), none⟩,
.op ⟨(some 11), (.pure (.mv (.tmp 10))), none⟩,
.split 11,
.op ⟨(some 12), (.pure (.fieldAddr 1 (.tmp 3))), (some (11, true))⟩,
.op ⟨(some 13), (.load none (.tmp 12)), (some (11, true))⟩,
.op ⟨(some 14), (.load none (.tmp 1)), (some (11, true))⟩,
.op ⟨(some 15), (.load none (.tmp 2)), (some (11, true))⟩,
.op ⟨(some 16), (.pure (.max2 (.tmp 14) (.tmp 15))), (some (11, true))⟩,
.op ⟨(some 17), (.pure (.bin .eql (.tmp 13) (.tmp 16))), (some (11, true))⟩,
.op ⟨(some 18), (.pure (.pick (.tmp 11) (.tmp 17) (.const (.bool false)))), none⟩,
.op ⟨(some 4), (.pure (.mv (.tmp 18))), none⟩])
(.ret)),
[.tmp 4]⟩
theorem r_impl_linkIndex_1 : resFun Try.prog f_impl_linkIndex_1 = some c_impl_linkIndex_1 := by kernel_rfl

/- loop.example/g00940/impl.compareLinks -/
abbrev f_impl_compareLinks : Nat := 181
def c_impl_compareLinks : MFun := ⟨17, .seq (.ops [
.op ⟨(some 2), (.eff (.box 88 (.tmp 0))), none⟩,
.op ⟨(some 3), (.eff (.box 88 (.tmp 1))), none⟩,
.op ⟨(some 4), (.pure (.mv (.const (.int .i64 (0))))), none⟩])
(.seq (.draw true
(.take ⟨(some 5), (.pure (.fieldAddr 0 (.tmp 2))), none⟩
(.take ⟨(some 7), (.pure (.fieldAddr 0 (.tmp 3))), none⟩
(.take ⟨(some 10), (.pure (.fieldAddr 1 (.tmp 2))), none⟩
(.take ⟨(some 12), (.pure (.fieldAddr 1 (.tmp 3))), none⟩
(.only false ⟨(some 6), (.load none (.tmp 5)), none⟩
(.only false ⟨(some 8), (.load none (.tmp 7)), none⟩
(.take ⟨(some 11), (.load none (.tmp 10)), none⟩
(.take ⟨(some 13), (.load none (.tmp 12)), none⟩
(.only false ⟨(some 9), (.eff (.call 195 [(.tmp 6), (.tmp 8)])), none⟩
(.only true ⟨(some 14), (.eff (.call 195 [(.tmp 11), (.tmp 13)])), none⟩
(.only true ⟨(some 15), (.eff (.row 3 2 [(.int .i64 (0)), (.int .i64 (0))] [(0, 1, (.tmp 9)), (1, 1, (.tmp 14))])), none⟩
(.only true ⟨(some 16), (.eff (.call 194 [(.tmp 15)])), none⟩
(.take ⟨(some 4), (.pure (.mv (.tmp 16))), none⟩
(.done)))))))))))))))
(.ret)),
[.tmp 4]⟩
theorem r_impl_compareLinks : resFun Try.prog f_impl_compareLinks = some c_impl_compareLinks := by kernel_rfl

/- loop.example/g00940/impl.allWithin -/
abbrev f_impl_allWithin : Nat := 182
def c_impl_allWithin : MFun := ⟨21, .seq (.ops [
.op ⟨(some 6), (.pure (.mv (.const (.bool false)))), none⟩])
(.seq (.seq (.ops [
.op ⟨(some 9), (.pure (.mv (.tmp 0))), none⟩,
.op ⟨(some 10), (.pure (.len (.tmp 9))), none⟩,
.op ⟨(some 11), (.pure (.mv (.const (.int .i64 (0))))), none⟩])
(.block 0 (.loop (.seq (.ops [
.op ⟨(some 12), (.pure (.bin .lss (.tmp 11) (.tmp 10))), none⟩])
(.seq (.cond (.tmp 12)
(.skip)
(.exit 0))
(.seq (.block 1 (.seq (.ops [
.op ⟨(some 13), (.pure (.idx 1 (.tmp 9) (.tmp 11))), none⟩,
.op ⟨(some 14), (.load none (.tmp 13)), none⟩,
.op ⟨(some 8), (.pure (.mv (.tmp 14))), none⟩])
(.seq (.ops [
.op ⟨(some 15), (.pure (.mv (.tmp 8))), none⟩,
.op ⟨(some 16), (.pure (.mv (.tmp 1))), none⟩,
.op ⟨(some 17), (.pure (.mv (.tmp 2))), none⟩,
.op ⟨(some 18), (.eff (.call 129 [(.tmp 15), (.tmp 16), (.tmp 17)])), none⟩,
.op ⟨(some 19), (.pure (.bnot (.tmp 18))), none⟩])
(.cond (.tmp 19)
(.seq (.ops [
.op ⟨(some 6), (.pure (.mv (.const (.bool false)))), none⟩])
(.ret))
(.skip)))))
(.ops [
.op ⟨(some 20), (.pure (.bin .add (.tmp 11) (.const (.int .i64 (1))))), none⟩,
.op ⟨(some 11), (.pure (.mv (.tmp 20))), none⟩])))))))
(.seq (.ops [
.op ⟨(some 6), (.pure (.mv (.const (.bool true)))), none⟩])
(.ret))),
[.tmp 6]⟩
theorem r_impl_allWithin : resFun Try.prog f_impl_allWithin = some c_impl_allWithin := by kernel_rfl

/- slices.Contains[[]int,int] -/
abbrev f_slices_Contains_Lint_int : Nat := 183
def c_slices_Contains_Lint_int : MFun := ⟨9, .seq (.ops [
.op ⟨(some 4), (.pure (.mv (.const (.bool false)))), none⟩])
(.seq (.ops [
.op ⟨(some 5), (.pure (.mv (.tmp 0))), none⟩,
.op ⟨(some 6), (.pure (.mv (.tmp 1))), none⟩,
.op ⟨(some 7), (.eff (.call 150 [(.tmp 5), (.tmp 6)])), none⟩,
.op ⟨(some 8), (.pure (.bin .geq (.tmp 7) (.const (.int .i64 (0))))), none⟩,
.op ⟨(some 4), (.pure (.mv (.tmp 8))), none⟩])
(.ret)),
[.tmp 4]⟩
theorem r_slices_Contains_Lint_int : resFun Try.prog f_slices_Contains_Lint_int = some c_slices_Contains_Lint_int := by kernel_rfl

/- (*loop.example/g00940/spec.l1Cur).net -/
abbrev f_spec_l1Cur_net : Nat := 184
def c_spec_l1Cur_net : MFun := ⟨88, .seq (.ops [
.op ⟨(some 2), (.eff (.new 32 [(.slice none 0 0), (.slice none 0 0)])), none⟩])
(.seq (.ops [
.op ⟨(some 8), (.pure (.build [(.slice none 0 0), (.slice none 0 0)] [])), none⟩,
.op ⟨(some 3), (.eff (.new 32 [(.slice none 0 0), (.slice none 0 0)])), none⟩,
.op ⟨none, (.eff (.store 2 (.tmp 3) (.tmp 8))), none⟩])
(.seq (.ops [
.op ⟨(some 9), (.pure (.mv (.tmp 0))), none⟩,
.op ⟨(some 10), (.eff (.call 160 [(.tmp 9), (.const (.int .i64 (6)))])), none⟩,
.op ⟨(some 11), (.pure (.bin .add (.const (.int .i64 (1))) (.tmp 10))), none⟩,
.op ⟨(some 4), (.pure (.mv (.tmp 11))), none⟩])
(.seq (.seq (.ops [
.op ⟨(some 12), (.pure (.mv (.tmp 0))), none⟩,
.op ⟨(some 13), (.eff (.call 159 [(.tmp 12), (.const (.int .i64 (24)))])), none⟩])
(.cond (.tmp 13)
(.ops [
.op ⟨(some 4), (.pure (.mv (.const (.int .i64 (16))))), none⟩])
(.skip)))
(.seq (.block 0 (.loop (.seq (.seq (.ops [
.op ⟨(some 14), (.pure (.fieldAddr 0 (.tmp 3))), none⟩,
.op ⟨(some 15), (.load none (.tmp 14)), none⟩,
.op ⟨(some 16), (.pure (.len (.tmp 15))), none⟩,
.op ⟨(some 17), (.pure (.mv (.tmp 4))), none⟩,
.op ⟨(some 18), (.pure (.bin .lss (.tmp 16) (.tmp 17))), none⟩])
(.cond (.tmp 18)
(.skip)
(.exit 0)))
(.block 1 (.draw true
(.take ⟨(some 19), (.pure (.fieldAddr 0 (.tmp 3))), none⟩
(.take ⟨(some 21), (.pure (.mv (.tmp 0))), none⟩
(.take ⟨(some 22), (.pure (.mv (.tmp 0))), none⟩
(.take ⟨(some 26), (.pure (.mv (.tmp 0))), none⟩
(.take ⟨(some 27), (.pure (.mv (.tmp 0))), none⟩
(.take ⟨(some 31), (.pure (.mv (.tmp 0))), none⟩
(.take ⟨(some 20), (.load none (.tmp 19)), none⟩
(.fork
(.only false ⟨(some 23), (.eff (.call 160 [(.tmp 22), (.const (.int .i64 (400)))])), none⟩
(.fork
(.only false ⟨(some 24), (.eff (.row 3 5 [(.int .i64 (0)), (.int .i64 (0)), (.int .i64 (0)), (.int .i64 (0)), (.int .i64 (0))] [(0, 1, (.const (.int .i64 (0)))), (1, 1, (.const (.int .i64 (30)))), (2, 1, (.const (.int .i64 (100)))), (3, 1, (.const (.int .i64 (999)))), (4, 1, (.tmp 23))])), none⟩
(.fork
(.only false ⟨(some 25), (.eff (.call 137 [(.tmp 21), (.tmp 24)])), none⟩
(.fork
(.only false ⟨(some 28), (.eff (.call 160 [(.tmp 27), (.const (.int .i64 (400)))])), none⟩
(.fork
(.only false ⟨(some 29), (.eff (.row 3 4 [(.int .i64 (0)), (.int .i64 (0)), (.int .i64 (0)), (.int .i64 (0))] [(0, 1, (.const (.int .i64 (0)))), (1, 1, (.const (.int .i64 (40)))), (2, 1, (.const (.int .i64 (999)))), (3, 1, (.tmp 28))])), none⟩
(.fork
(.only false ⟨(some 30), (.eff (.call 137 [(.tmp 26), (.tmp 29)])), none⟩
(.only false ⟨(some 32), (.eff (.row 3 4 [(.int .i64 (0)), (.int .i64 (0)), (.int .i64 (0)), (.int .i64 (0))] [(0, 1, (.const (.int .i64 (0)))), (1, 1, (.const (.int .i64 (20)))), (2, 1, (.const (.int .i64 (120)))), (3, 1, (.const (.int .i64 (500))))])), none⟩
(.only false ⟨(some 33), (.eff (.call 137 [(.tmp 31), (.tmp 32)])), none⟩
(.take ⟨(some 34), (.pure (.build [(.int .i64 (0)), (.int .i64 (0)), (.int .i64 (0))] [(0, 1, (.tmp 25)), (1, 1, (.tmp 30)), (2, 1, (.tmp 33))])), none⟩
(.only false ⟨(some 35), (.eff (.row 147 1 [(.int .i64 (0)), (.int .i64 (0)), (.int .i64 (0))] [(0, 3, (.tmp 34))])), none⟩
(.only true ⟨(some 36), (.eff (.app 147 3 24 (.tmp 20) (.tmp 35))), none⟩
(.take ⟨(some 37), (.pure (.fieldAddr 0 (.tmp 3))), none⟩
(.only true ⟨none, (.eff (.store 1 (.tmp 37) (.tmp 36))), none⟩
(.done)))))))))
(.only false ⟨(some 32), (.eff (.row 3 4 [(.int .i64 (0)), (.int .i64 (0)), (.int .i64 (0)), (.int .i64 (0))] [(0, 1, (.const (.int .i64 (0)))), (1, 1, (.const (.int .i64 (20)))), (2, 1, (.const (.int .i64 (120)))), (3, 1, (.const (.int .i64 (500))))])), none⟩
(.only false ⟨(some 30), (.eff (.call 137 [(.tmp 26), (.tmp 29)])), none⟩
(.only false ⟨(some 33), (.eff (.call 137 [(.tmp 31), (.tmp 32)])), none⟩
(.take ⟨(some 34), (.pure (.build [(.int .i64 (0)), (.int .i64 (0)), (.int .i64 (0))] [(0, 1, (.tmp 25)), (1, 1, (.tmp 30)), (2, 1, (.tmp 33))])), none⟩
(.only false ⟨(some 35), (.eff (.row 147 1 [(.int .i64 (0)), (.int .i64 (0)), (.int .i64 (0))] [(0, 3, (.tmp 34))])), none⟩
(.only true ⟨(some 36), (.eff (.app 147 3 24 (.tmp 20) (.tmp 35))), none⟩
(.take ⟨(some 37), (.pure (.fieldAddr 0 (.tmp 3))), none⟩
(.only true ⟨none, (.eff (.store 1 (.tmp 37) (.tmp 36))), none⟩
(.done)))))))))))
(.only false ⟨(some 32), (.eff (.row 3 4 [(.int .i64 (0)), (.int .i64 (0)), (.int .i64 (0)), (.int .i64 (0))] [(0, 1, (.const (.int .i64 (0)))), (1, 1, (.const (.int .i64 (20)))), (2, 1, (.const (.int .i64 (120)))), (3, 1, (.const (.int .i64 (500))))])), none⟩
(.only false ⟨(some 29), (.eff (.row 3 4 [(.int .i64 (0)), (.int .i64 (0)), (.int .i64 (0)), (.int .i64 (0))] [(0, 1, (.const (.int .i64 (0)))), (1, 1, (.const (.int .i64 (40)))), (2, 1, (.const (.int .i64 (999)))), (3, 1, (.tmp 28))])), none⟩
(.only false ⟨(some 30), (.eff (.call 137 [(.tmp 26), (.tmp 29)])), none⟩
(.only false ⟨(some 33), (.eff (.call 137 [(.tmp 31), (.tmp 32)])), none⟩
(.take ⟨(some 34), (.pure (.build [(.int .i64 (0)), (.int .i64 (0)), (.int .i64 (0))] [(0, 1, (.tmp 25)), (1, 1, (.tmp 30)), (2, 1, (.tmp 33))])), none⟩
(.only false ⟨(some 35), (.eff (.row 147 1 [(.int .i64 (0)), (.int .i64 (0)), (.int .i64 (0))] [(0, 3, (.tmp 34))])), none⟩
(.only true ⟨(some 36), (.eff (.app 147 3 24 (.tmp 20) (.tmp 35))), none⟩
(.take ⟨(some 37), (.pure (.fieldAddr 0 (.tmp 3))), none⟩
(.only true ⟨none, (.eff (.store 1 (.tmp 37) (.tmp 36))), none⟩
(.done))))))))))))
(.only false ⟨(some 32), (.eff (.row 3 4 [(.int .i64 (0)), (.int .i64 (0)), (.int .i64 (0)), (.int .i64 (0))] [(0, 1, (.const (.int .i64 (0)))), (1, 1, (.const (.int .i64 (20)))), (2, 1, (.const (.int .i64 (120)))), (3, 1, (.const (.int .i64 (500))))])), none⟩
(.only false ⟨(some 28), (.eff (.call 160 [(.tmp 27), (.const (.int .i64 (400)))])), none⟩
(.only false ⟨(some 29), (.eff (.row 3 4 [(.int .i64 (0)), (.int .i64 (0)), (.int .i64 (0)), (.int .i64 (0))] [(0, 1, (.const (.int .i64 (0)))), (1, 1, (.const (.int .i64 (40)))), (2, 1, (.const (.int .i64 (999)))), (3, 1, (.tmp 28))])), none⟩
(.only false ⟨(some 30), (.eff (.call 137 [(.tmp 26), (.tmp 29)])), none⟩
(.only false ⟨(some 33), (.eff (.call 137 [(.tmp 31), (.tmp 32)])), none⟩
(.take ⟨(some 34), (.pure (.build [(.int .i64 (0)), (.int .i64 (0)), (.int .i64 (0))] [(0, 1, (.tmp 25)), (1, 1, (.tmp 30)), (2, 1, (.tmp 33))])), none⟩
(.only false ⟨(some 35), (.eff (.row 147 1 [(.int .i64 (0)), (.int .i64 (0)), (.int .i64 (0))] [(0, 3, (.tmp 34))])), none⟩
(.only true ⟨(some 36), (.eff (.app 147 3 24 (.tmp 20) (.tmp 35))), none⟩
(.take ⟨(some 37), (.pure (.fieldAddr 0 (.tmp 3))), none⟩
(.only true ⟨none, (.eff (.store 1 (.tmp 37) (.tmp 36))), none⟩
(.done)))))))))))))
(.only false ⟨(some 32), (.eff (.row 3 4 [(.int .i64 (0)), (.int .i64 (0)), (.int .i64 (0)), (.int .i64 (0))] [(0, 1, (.const (.int .i64 (0)))), (1, 1, (.const (.int .i64 (20)))), (2, 1, (.const (.int .i64 (120)))), (3, 1, (.const (.int .i64 (500))))])), none⟩
(.only false ⟨(some 25), (.eff (.call 137 [(.tmp 21), (.tmp 24)])), none⟩
(.only false ⟨(some 28), (.eff (.call 160 [(.tmp 27), (.const (.int .i64 (400)))])), none⟩
(.only false ⟨(some 29), (.eff (.row 3 4 [(.int .i64 (0)), (.int .i64 (0)), (.int .i64 (0)), (.int .i64 (0))] [(0, 1, (.const (.int .i64 (0)))), (1, 1, (.const (.int .i64 (40)))), (2, 1, (.const (.int .i64 (999)))), (3, 1, (.tmp 28))])), none⟩
(.only false ⟨(some 30), (.eff (.call 137 [(.tmp 26), (.tmp 29)])), none⟩
(.only false ⟨(some 33), (.eff (.call 137 [(.tmp 31), (.tmp 32)])), none⟩
(.take ⟨(some 34), (.pure (.build [(.int .i64 (0)), (.int .i64 (0)), (.int .i64 (0))] [(0, 1, (.tmp 25)), (1, 1, (.tmp 30)), (2, 1, (.tmp 33))])), none⟩
(.only false ⟨(some 35), (.eff (.row 147 1 [(.int .i64 (0)), (.int .i64 (0)), (.int .i64 (0))] [(0, 3, (.tmp 34))])), none⟩
(.only true ⟨(some 36), (.eff (.app 147 3 24 (.tmp 20) (.tmp 35))), none⟩
(.take ⟨(some 37), (.pure (.fieldAddr 0 (.tmp 3))), none⟩
(.only true ⟨none, (.eff (.store 1 (.tmp 37) (.tmp 36))), none⟩
(.done))))))))))))))
(.only false ⟨(some 32), (.eff (.row 3 4 [(.int .i64 (0)), (.int .i64 (0)), (.int .i64 (0)), (.int .i64 (0))] [(0, 1, (.const (.int .i64 (0)))), (1, 1, (.const (.int .i64 (20)))), (2, 1, (.const (.int .i64 (120)))), (3, 1, (.const (.int .i64 (500))))])), none⟩
(.only false ⟨(some 24), (.eff (.row 3 5 [(.int .i64 (0)), (.int .i64 (0)), (.int .i64 (0)), (.int .i64 (0)), (.int .i64 (0))] [(0, 1, (.const (.int .i64 (0)))), (1, 1, (.const (.int .i64 (30)))), (2, 1, (.const (.int .i64 (100)))), (3, 1, (.const (.int .i64 (999)))), (4, 1, (.tmp 23))])), none⟩
(.only false ⟨(some 25), (.eff (.call 137 [(.tmp 21), (.tmp 24)])), none⟩
(.only false ⟨(some 28), (.eff (.call 160 [(.tmp 27), (.const (.int .i64 (400)))])), none⟩
(.only false ⟨(some 29), (.eff (.row 3 4 [(.int .i64 (0)), (.int .i64 (0)), (.int .i64 (0)), (.int .i64 (0))] [(0, 1, (.const (.int .i64 (0)))), (1, 1, (.const (.int .i64 (40)))), (2, 1, (.const (.int .i64 (999)))), (3, 1, (.tmp 28))])), none⟩
(.only false ⟨(some 30), (.eff (.call 137 [(.tmp 26), (.tmp 29)])), none⟩
(.only false ⟨(some 33), (.eff (.call 137 [(.tmp 31), (.tmp 32)])), none⟩
(.take ⟨(some 34), (.pure (.build [(.int .i64 (0)), (.int .i64 (0)), (.int .i64 (0))] [(0, 1, (.tmp 25)), (1, 1, (.tmp 30)), (2, 1, (.tmp 33))])), none⟩
(.only false ⟨(some 35), (.eff (.row 147 1 [(.int .i64 (0)), (.int .i64 (0)), (.int .i64 (0))] [(0, 3, (.tmp 34))])), none⟩
(.only true ⟨(some 36), (.eff (.app 147 3 24 (.tmp 20) (.tmp 35))), none⟩
(.take ⟨(some 37), (.pure (.fieldAddr 0 (.tmp 3))), none⟩
(.only true ⟨none, (.eff (.store 1 (.tmp 37) (.tmp 36))), none⟩
(.done)))))))))))))))
(.only false ⟨(some 32), (.eff (.row 3 4 [(.int .i64 (0)), (.int .i64 (0)), (.int .i64 (0)), (.int .i64 (0))] [(0, 1, (.const (.int .i64 (0)))), (1, 1, (.const (.int .i64 (20)))), (2, 1, (.const (.int .i64 (120)))), (3, 1, (.const (.int .i64 (500))))])), none⟩
(.only false ⟨(some 23), (.eff (.call 160 [(.tmp 22), (.const (.int .i64 (400)))])), none⟩
(.only false ⟨(some 24), (.eff (.row 3 5 [(.int .i64 (0)), (.int .i64 (0)), (.int .i64 (0)), (.int .i64 (0)), (.int .i64 (0))] [(0, 1, (.const (.int .i64 (0)))), (1, 1, (.const (.int .i64 (30)))), (2, 1, (.const (.int .i64 (100)))), (3, 1, (.const (.int .i64 (999)))), (4, 1, (.tmp 23))])), none⟩
(.only false ⟨(some 25), (.eff (.call 137 [(.tmp 21), (.tmp 24)])), none⟩
(.only false ⟨(some 28), (.eff (.call 160 [(.tmp 27), (.const (.int .i64 (400)))])), none⟩
(.only false ⟨(some 29), (.eff (.row 3 4 [(.int .i64 (0)), (.int .i64 (0)), (.int .i64 (0)), (.int .i64 (0))] [(0, 1, (.const (.int .i64 (0)))), (1, 1, (.const (.int .i64 (40)))), (2, 1, (.const (.int .i64 (999)))), (3, 1, (.tmp 28))])), none⟩
(.only false ⟨(some 30), (.eff (.call 137 [(.tmp 26), (.tmp 29)])), none⟩
(.only false ⟨(some 33), (.eff (.call 137 [(.tmp 31), (.tmp 32)])), none⟩
(.take ⟨(some 34), (.pure (.build [(.int .i64 (0)), (.int .i64 (0)), (.int .i64 (0))] [(0, 1, (.tmp 25)), (1, 1, (.tmp 30)), (2, 1, (.tmp 33))])), none⟩
(.only false ⟨(some 35), (.eff (.row 147 1 [(.int .i64 (0)), (.int .i64 (0)), (.int .i64 (0))] [(0, 3, (.tmp 34))])), none⟩
(.only true ⟨(some 36), (.eff (.app 147 3 24 (.tmp 20) (.tmp 35))), none⟩
(.take ⟨(some 37), (.pure (.fieldAddr 0 (.tmp 3))), none⟩
(.only true ⟨none, (.eff (.store 1 (.tmp 37) (.tmp 36))), none⟩
(.done)))))))))))))))))))))))))))
(.seq (.ops [
.op ⟨(some 38), (.pure (.mv (.tmp 0))), none⟩,
.op ⟨(some 39), (.eff (.row 3 3 [(.int .i64 (0)), (.int .i64 (0)), (.int .i64 (0))] [(0, 1, (.const (.int .i64 (2)))), (1, 1, (.const (.int .i64 (2)))), (2, 1, (.const (.int .i64 (3))))])), none⟩,
.op ⟨(some 40), (.eff (.call 137 [(.tmp 38), (.tmp 39)])), none⟩,
.op ⟨(some 5), (.pure (.mv (.tmp 40))), none⟩])
(.seq (.seq (.ops [
.op ⟨(some 6), (.pure (.mv (.const (.int .i64 (0))))), none⟩])
(.block 2 (.loop (.seq (.seq (.ops [
.op ⟨(some 41), (.pure (.mv (.tmp 6))), none⟩,
.op ⟨(some 42), (.pure (.mv (.tmp 4))), none⟩,
.op ⟨(some 43), (.pure (.bin .lss (.tmp 41) (.tmp 42))), none⟩])
(.cond (.tmp 43)
(.skip)
(.exit 2)))
(.seq (.block 3 (.seq (.ops [
.op ⟨(some 46), (.pure (.mv (.tmp 6))), none⟩,
.op ⟨(some 47), (.pure (.bin .add (.tmp 46) (.const (.int .i64 (1))))), none⟩,
.op ⟨(some 7), (.pure (.mv (.tmp 47))), none⟩])
(.block 4 (.loop (.seq (.seq (.ops [
.op ⟨(some 48), (.pure (.mv (.tmp 7))), none⟩,
.op ⟨(some 49), (.pure (.mv (.tmp 4))), none⟩,
.op ⟨(some 50), (.pure (.bin .lss (.tmp 48) (.tmp 49))), none⟩,
.op ⟨(some 51), (.pure (.mv (.tmp 50))), none⟩,
.split 51,
.op ⟨(some 52), (.pure (.fieldAddr 1 (.tmp 3))), (some (51, true))⟩,
.op ⟨(some 53), (.load none (.tmp 52)), (some (51, true))⟩,
.op ⟨(some 54), (.pure (.len (.tmp 53))), (some (51, true))⟩,
.op ⟨(some 55), (.pure (.bin .lss (.tmp 54) (.const (.int .i64 (40))))), (some (51, true))⟩,
.op ⟨(some 56), (.pure (.pick (.tmp 51) (.tmp 55) (.const (.bool false)))), none⟩])
(.cond (.tmp 56)
(.skip)
(.exit 4)))
(.seq (.block 5 (.seq (.ops [
.op ⟨(some 59), (.pure (.mv (.tmp 0))), none⟩,
.op ⟨(some 60), (.pure (.mv (.tmp 5))), none⟩,
.op ⟨(some 61), (.eff (.call 159 [(.tmp 59), (.tmp 60)])), none⟩,
.op ⟨(some 62), (.pure (.mv (.tmp 61))), none⟩,
.split 62,
.op ⟨(some 63), (.pure (.mv (.tmp 7))), (some (62, false))⟩,
.op ⟨(some 64), (.pure (.mv (.tmp 6))), (some (62, false))⟩,
.op ⟨(some 65), (.pure (.bin .add (.tmp 64) (.const (.int .i64 (1))))), (some (62, false))⟩,
.op ⟨(some 66), (.pure (.bin .eql (.tmp 63) (.tmp 65))), (some (62, false))⟩,
.op ⟨(some 67), (.pure (.mv (.tmp 66))), (some (62, false))⟩,
.split 67,
.op ⟨(some 68), (.pure (.mv (.tmp 0))), (some (67, true))⟩,
.op ⟨(some 69), (.eff (.call 159 [(.tmp 68), (.const (.int .i64 (8)))])), (some (67, true))⟩,
.op ⟨(some 70), (.pure (.bnot (.tmp 69))), (some (67, true))⟩,
.op ⟨(some 71), (.pure (.pick (.tmp 67) (.tmp 70) (.const (.bool false)))), (some (62, false))⟩,
.op ⟨(some 72), (.pure (.pick (.tmp 62) (.const (.bool true)) (.tmp 71))), none⟩])
(.cond (.tmp 72)
(.draw true
(.take ⟨(some 73), (.pure (.fieldAddr 1 (.tmp 3))), none⟩
(.take ⟨(some 75), (.pure (.mv (.tmp 6))), none⟩
(.take ⟨(some 76), (.pure (.mv (.tmp 7))), none⟩
(.take ⟨(some 77), (.pure (.mv (.tmp 0))), none⟩
(.take ⟨(some 78), (.pure (.mv (.tmp 0))), none⟩
(.take ⟨(some 74), (.load none (.tmp 73)), none⟩
(.only false ⟨(some 79), (.eff (.call 160 [(.tmp 78), (.const (.int .i64 (30)))])), none⟩
(.take ⟨(some 80), (.pure (.bin .add (.const (.int .i64 (1))) (.tmp 79))), none⟩
(.only false ⟨(some 81), (.eff (.row 3 6 [(.int .i64 (0)), (.int .i64 (0)), (.int .i64 (0)), (.int .i64 (0)), (.int .i64 (0)), (.int .i64 (0))] [(0, 1, (.const (.int .i64 (1)))), (1, 1, (.const (.int .i64 (5)))), (2, 1, (.const (.int .i64 (10)))), (3, 1, (.const (.int .i64 (10)))), (4, 1, (.const (.int .i64 (60)))), (5, 1, (.tmp 80))])), none⟩
(.only false ⟨(some 82), (.eff (.call 137 [(.tmp 77), (.tmp 81)])), none⟩
(.take ⟨(some 83), (.pure (.build [(.int .i64 (0)), (.int .i64 (0)), (.int .i64 (0))] [(0, 1, (.tmp 75)), (1, 1, (.tmp 76)), (2, 1, (.tmp 82))])), none⟩
(.only false ⟨(some 84), (.eff (.row 88 1 [(.int .i64 (0)), (.int .i64 (0)), (.int .i64 (0))] [(0, 3, (.tmp 83))])), none⟩
(.only true ⟨(some 85), (.eff (.app 88 3 24 (.tmp 74) (.tmp 84))), none⟩
(.take ⟨(some 86), (.pure (.fieldAddr 1 (.tmp 3))), none⟩
(.only true ⟨none, (.eff (.store 1 (.tmp 86) (.tmp 85))), none⟩
(.done)))))))))))))))))
(.skip))))
(.ops [
.op ⟨(some 57), (.pure (.mv (.tmp 7))), none⟩,
.op ⟨(some 58), (.pure (.bin .add (.tmp 57) (.const (.int .i64 (1))))), none⟩,
.op ⟨(some 7), (.pure (.mv (.tmp 58))), none⟩])))))))
(.ops [
.op ⟨(some 44), (.pure (.mv (.tmp 6))), none⟩,
.op ⟨(some 45), (.pure (.bin .add (.tmp 44) (.const (.int .i64 (1))))), none⟩,
.op ⟨(some 6), (.pure (.mv (.tmp 45))), none⟩]))))))
(.seq (.ops [
.op ⟨(some 87), (.load (some 2) (.tmp 3)), none⟩,
.op ⟨none, (.eff (.store 2 (.tmp 2) (.tmp 87))), none⟩])
(.ret)))))))),
[.cell 2 (some 2)]⟩
theorem r_spec_l1Cur_net : resFun Try.prog f_spec_l1Cur_net = some c_spec_l1Cur_net := by kernel_rfl

/- (*loop.example/g00940/spec.l1Cur).fog -/
abbrev f_spec_l1Cur_fog : Nat := 185
def c_spec_l1Cur_fog : MFun := ⟨128, .seq (.ops [
.op ⟨(some 3), (.eff (.box 32 (.tmp 1))), none⟩,
.op ⟨(some 4), (.pure (.mv (.const (.slice none 0 0)))), none⟩])
(.seq (.ops [
.op ⟨(some 5), (.pure (.mv (.const (.slice none 0 0)))), none⟩])
(.seq (.ops [
.op ⟨(some 13), (.pure (.mv (.tmp 0))), none⟩,
.op ⟨(some 14), (.eff (.call 160 [(.tmp 13), (.const (.int .i64 (4)))])), none⟩,
.op ⟨(some 6), (.pure (.mv (.tmp 14))), none⟩])
(.seq (.seq (.ops [
.op ⟨(some 15), (.pure (.fieldAddr 1 (.tmp 3))), none⟩,
.op ⟨(some 16), (.load none (.tmp 15)), none⟩,
.op ⟨(some 17), (.pure (.len (.tmp 16))), none⟩,
.op ⟨(some 18), (.pure (.mv (.const (.int .i64 (0))))), none⟩])
(.block 0 (.loop (.seq (.ops [
.op ⟨(some 19), (.pure (.bin .lss (.tmp 18) (.tmp 17))), none⟩])
(.seq (.cond (.tmp 19)
(.skip)
(.exit 0))
(.seq (.block 1 (.seq (.ops [
.op ⟨(some 20), (.pure (.mv (.tmp 18))), none⟩,
.op ⟨(some 7), (.pure (.mv (.tmp 20))), none⟩])
(.seq (.ops [
.op ⟨(some 21), (.pure (.mv (.tmp 0))), none⟩,
.op ⟨(some 22), (.eff (.call 160 [(.tmp 21), (.const (.int .i64 (40)))])), none⟩,
.op ⟨(some 8), (.pure (.mv (.tmp 22))), none⟩])
(.seq (.ops [
.op ⟨(some 23), (.pure (.mv (.tmp 0))), none⟩,
.op ⟨(some 24), (.pure (.mv (.tmp 6))), none⟩,
.op ⟨(some 25), (.pure (.bin .add (.tmp 24) (.const (.int .i64 (1))))), none⟩,
.op ⟨(some 26), (.eff (.call 160 [(.tmp 23), (.tmp 25)])), none⟩,
.op ⟨(some 9), (.pure (.mv (.tmp 26))), none⟩])
(.block 2 (.loop (.seq (.seq (.ops [
.op ⟨(some 27), (.pure (.mv (.tmp 9))), none⟩,
.op ⟨(some 28), (.pure (.bin .gtr (.tmp 27) (.const (.int .i64 (0))))), none⟩])
(.cond (.tmp 28)
(.skip)
(.exit 2)))
(.seq (.block 3 (.seq (.ops [
.op ⟨(some 31), (.pure (.mv (.tmp 7))), none⟩,
.op ⟨(some 32), (.pure (.mv (.tmp 8))), none⟩,
.op ⟨(some 33), (.pure (.mv (.tmp 8))), none⟩,
.op ⟨(some 34), (.pure (.bin .add (.tmp 33) (.const (.int .i64 (1))))), none⟩,
.op ⟨(some 35), (.pure (.mv (.tmp 0))), none⟩,
.op ⟨(some 36), (.eff (.call 160 [(.tmp 35), (.const (.int .i64 (30)))])), none⟩,
.op ⟨(some 37), (.pure (.bin .add (.tmp 34) (.tmp 36))), none⟩,
.op ⟨(some 38), (.pure (.build [(.int .i64 (0)), (.int .i64 (0)), (.int .i64 (0))] [(0, 1, (.tmp 31)), (1, 1, (.tmp 32)), (2, 1, (.tmp 37))])), none⟩,
.op ⟨(some 10), (.eff (.new 96 [(.int .i64 (0)), (.int .i64 (0)), (.int .i64 (0))])), none⟩,
.op ⟨none, (.eff (.store 3 (.tmp 10) (.tmp 38))), none⟩])
(.seq (.ops [
.op ⟨(some 39), (.pure (.mv (.tmp 5))), none⟩,
.op ⟨(some 40), (.load (some 3) (.tmp 10)), none⟩,
.op ⟨(some 41), (.eff (.row 96 1 [(.int .i64 (0)), (.int .i64 (0)), (.int .i64 (0))] [(0, 3, (.tmp 40))])), none⟩,
.op ⟨(some 42), (.eff (.app 96 3 24 (.tmp 39) (.tmp 41))), none⟩,
.op ⟨(some 5), (.pure (.mv (.tmp 42))), none⟩])
(.draw true
(.take ⟨(some 43), (.pure (.fieldAddr 2 (.tmp 10))), none⟩
(.take ⟨(some 46), (.pure (.mv (.tmp 0))), none⟩
(.take ⟨(some 44), (.load none (.tmp 43)), none⟩
(.take ⟨(some 45), (.pure (.bin .add (.tmp 44) (.const (.int .i64 (1))))), none⟩
(.only false ⟨(some 47), (.eff (.call 160 [(.tmp 46), (.const (.int .i64 (30)))])), none⟩
(.take ⟨(some 48), (.pure (.bin .add (.tmp 45) (.tmp 47))), none⟩
(.take ⟨(some 8), (.pure (.mv (.tmp 48))), none⟩
(.done))))))))))))
(.ops [
.op ⟨(some 29), (.pure (.mv (.tmp 9))), none⟩,
.op ⟨(some 30), (.pure (.bin .sub (.tmp 29) (.const (.int .i64 (1))))), none⟩,
.op ⟨(some 9), (.pure (.mv (.tmp 30))), none⟩])))))))))
(.ops [
.op ⟨(some 49), (.pure (.bin .add (.tmp 18) (.const (.int .i64 (1))))), none⟩,
.op ⟨(some 18), (.pure (.mv (.tmp 49))), none⟩])))))))
(.seq (.seq (.ops [
.op ⟨(some 50), (.pure (.mv (.tmp 5))), none⟩,
.op ⟨(some 51), (.pure (.len (.tmp 50))), none⟩,
.op ⟨(some 52), (.pure (.bin .gtr (.tmp 51) (.const (.int .i64 (60))))), none⟩])
(.cond (.tmp 52)
(.ops [
.op ⟨(some 53), (.pure (.mv (.tmp 5))), none⟩,
.op ⟨(some 54), (.pure (.slc 3 (.tmp 53) none (some (.const (.int .i64 (60)))) none)), none⟩,
.op ⟨(some 5), (.pure (.mv (.tmp 54))), none⟩])
(.skip)))
(.seq (.seq (.ops [
.op ⟨(some 55), (.pure (.fieldAddr 1 (.tmp 3))), none⟩,
.op ⟨(some 56), (.load none (.tmp 55)), none⟩,
.op ⟨(some 57), (.pure (.len (.tmp 56))), none⟩,
.op ⟨(some 58), (.pure (.bin .gtr (.tmp 57) (.const (.int .i64 (0))))), none⟩,
.op ⟨(some 59), (.pure (.mv (.tmp 58))), none⟩,
.split 59,
.op ⟨(some 60), (.pure (.mv (.tmp 0))), (some (59, true))⟩,
.op ⟨(some 61), (.eff (.call 159 [(.tmp 60), (.const (.int .i64 (24)))])), (some (59, true))⟩,
.op ⟨(some 62), (.pure (.pick (.tmp 59) (.tmp 61) (.const (.bool false)))), none⟩])
(.cond (.tmp 62)
(.seq (.ops [
.op ⟨(some 5), (.pure (.mv (.const (.slice none 0 0)))), none⟩])
(.seq (.ops [
.op ⟨(some 63), (.pure (.mv (.tmp 0))), none⟩,
.op ⟨(some 64), (.eff (.call 160 [(.tmp 63), (.const (.int .i64 (2)))])), none⟩,
.op ⟨(some 65), (.pure (.bin .add (.const (.int .i64 (60))) (.tmp 64))), none⟩,
.op ⟨(some 11), (.pure (.mv (.tmp 65))), none⟩])
(.block 4 (.loop (.seq (.seq (.ops [
.op ⟨(some 66), (.pure (.mv (.tmp 5))), none⟩,
.op ⟨(some 67), (.pure (.len (.tmp 66))), none⟩,
.op ⟨(some 68), (.pure (.mv (.tmp 11))), none⟩,
.op ⟨(some 69), (.pure (.bin .lss (.tmp 67) (.tmp 68))), none⟩])
(.cond (.tmp 69)
(.skip)
(.exit 4)))
(.block 5 (.ops [
.op ⟨(some 70), (.pure (.mv (.tmp 5))), none⟩,
.op ⟨(some 71), (.pure (.mv (.tmp 5))), none⟩,
.op ⟨(some 72), (.pure (.len (.tmp 71))), none⟩,
.op ⟨(some 73), (.pure (.bin .mul (.const (.int .i64 (4))) (.tmp 72))), none⟩,
.op ⟨(some 74), (.pure (.mv (.tmp 5))), none⟩,
.op ⟨(some 75), (.pure (.len (.tmp 74))), none⟩,
.op ⟨(some 76), (.pure (.bin .mul (.const (.int .i64 (4))) (.tmp 75))), none⟩,
.op ⟨(some 77), (.pure (.bin .add (.tmp 76) (.const (.int .i64 (2))))), none⟩,
.op ⟨(some 78), (.pure (.build [(.int .i64 (0)), (.int .i64 (0)), (.int .i64 (0))] [(0, 1, (.const (.int .i64 (0)))), (1, 1, (.tmp 73)), (2, 1, (.tmp 77))])), none⟩,
.op ⟨(some 79), (.eff (.row 96 1 [(.int .i64 (0)), (.int .i64 (0)), (.int .i64 (0))] [(0, 3, (.tmp 78))])), none⟩,
.op ⟨(some 80), (.eff (.app 96 3 24 (.tmp 70) (.tmp 79))), none⟩,
.op ⟨(some 5), (.pure (.mv (.tmp 80))), none⟩])))))))
(.skip)))
(.seq (.seq (.ops [
.op ⟨(some 81), (.pure (.mv (.tmp 5))), none⟩,
.op ⟨(some 82), (.pure (.len (.tmp 81))), none⟩,
.op ⟨(some 83), (.pure (.bin .gtr (.tmp 82) (.const (.int .i64 (0))))), none⟩])
(.cond (.tmp 83)
(.seq (.ops [
.op ⟨(some 84), (.pure (.mv (.tmp 5))), none⟩,
.op ⟨(some 85), (.pure (.mv (.tmp 0))), none⟩,
.op ⟨(some 86), (.pure (.mv (.tmp 5))), none⟩,
.op ⟨(some 87), (.pure (.len (.tmp 86))), none⟩,
.op ⟨(some 88), (.eff (.call 160 [(.tmp 85), (.tmp 87)])), none⟩,
.op ⟨(some 89), (.pure (.idx 3 (.tmp 84) (.tmp 88))), none⟩,
.op ⟨(some 12), (.pure (.mv (.tmp 89))), none⟩])
(.seq (.ops [
.op ⟨(some 90), (.pure (.mv (.tmp 0))), none⟩,
.op ⟨(some 91), (.eff (.call 160 [(.tmp 90), (.const (.int .i64 (30)))])), none⟩])
(.block 6 (.seq (.ops [
.op ⟨(some 93), (.pure (.bin .eql (.tmp 91) (.const (.int .i64 (0))))), none⟩,
.op ⟨(some 92), (.pure (.mv (.tmp 93))), none⟩])
(.cond (.tmp 92)
(.ops [
.op ⟨(some 94), (.pure (.mv (.tmp 12))), none⟩,
.op ⟨(some 95), (.pure (.mv (.tmp 0))), none⟩,
.op ⟨(some 96), (.pure (.fieldAddr 1 (.tmp 3))), none⟩,
.op ⟨(some 97), (.load none (.tmp 96)), none⟩,
.op ⟨(some 98), (.pure (.len (.tmp 97))), none⟩,
.op ⟨(some 99), (.eff (.row 3 2 [(.int .i64 (0)), (.int .i64 (0))] [(0, 1, (.const (.int .i64 (-1)))), (1, 1, (.tmp 98))])), none⟩,
.op ⟨(some 100), (.eff (.call 137 [(.tmp 95), (.tmp 99)])), none⟩,
.op ⟨(some 101), (.pure (.nilc (.tmp 94))), none⟩,
.op ⟨(some 102), (.pure (.fieldAddr 0 (.tmp 101))), none⟩,
.op ⟨none, (.eff (.store 1 (.tmp 102) (.tmp 100))), none⟩])
(.seq (.ops [
.op ⟨(some 104), (.pure (.bin .eql (.tmp 91) (.const (.int .i64 (1))))), none⟩,
.op ⟨(some 103), (.pure (.mv (.tmp 104))), none⟩])
(.cond (.tmp 103)
(.ops [
.op ⟨(some 105), (.pure (.mv (.tmp 12))), none⟩,
.op ⟨(some 106), (.pure (.mv (.tmp 0))), none⟩,
.op ⟨(some 107), (.pure (.mv (.tmp 12))), none⟩,
.op ⟨(some 108), (.pure (.nilc (.tmp 107))), none⟩,
.op ⟨(some 109), (.pure (.fieldAddr 2 (.tmp 108))), none⟩,
.op ⟨(some 110), (.load none (.tmp 109)), none⟩,
.op ⟨(some 111), (.eff (.row 3 2 [(.int .i64 (0)), (.int .i64 (0))] [(0, 1, (.const (.int .i64 (-1)))), (1, 1, (.tmp 110))])), none⟩,
.op ⟨(some 112), (.eff (.call 137 [(.tmp 106), (.tmp 111)])), none⟩,
.op ⟨(some 113), (.pure (.nilc (.tmp 105))), none⟩,
.op ⟨(some 114), (.pure (.fieldAddr 1 (.tmp 113))), none⟩,
.op ⟨none, (.eff (.store 1 (.tmp 114) (.tmp 112))), none⟩])
(.seq (.ops [
.op ⟨(some 116), (.pure (.bin .eql (.tmp 91) (.const (.int .i64 (2))))), none⟩,
.op ⟨(some 115), (.pure (.mv (.tmp 116))), none⟩])
(.cond (.tmp 115)
(.ops [
.op ⟨(some 117), (.pure (.mv (.tmp 12))), none⟩,
.op ⟨(some 118), (.pure (.mv (.tmp 0))), none⟩,
.op ⟨(some 119), (.pure (.mv (.tmp 12))), none⟩,
.op ⟨(some 120), (.pure (.nilc (.tmp 119))), none⟩,
.op ⟨(some 121), (.pure (.fieldAddr 1 (.tmp 120))), none⟩,
.op ⟨(some 122), (.load none (.tmp 121)), none⟩,
.op ⟨(some 123), (.eff (.row 3 3 [(.int .i64 (0)), (.int .i64 (0)), (.int .i64 (0))] [(0, 1, (.tmp 122)), (1, 1, (.const (.int .i64 (10000)))), (2, 1, (.const (.int .i64 (10001))))])), none⟩,
.op ⟨(some 124), (.eff (.call 137 [(.tmp 118), (.tmp 123)])), none⟩,
.op ⟨(some 125), (.pure (.nilc (.tmp 117))), none⟩,
.op ⟨(some 126), (.pure (.fieldAddr 2 (.tmp 125))), none⟩,
.op ⟨none, (.eff (.store 1 (.tmp 126) (.tmp 124))), none⟩])
(.skip))))))))))
(.skip)))
(.seq (.ops [
.op ⟨(some 127), (.pure (.mv (.tmp 5))), none⟩,
.op ⟨(some 4), (.pure (.mv (.tmp 127))), none⟩])
(.ret)))))))),
[.tmp 4]⟩
theorem r_spec_l1Cur_fog : resFun Try.prog f_spec_l1Cur_fog = some c_spec_l1Cur_fog := by kernel_rfl

/- loop.example/g00940/spec.l1Has -/
abbrev f_spec_l1Has : Nat := 189
def c_spec_l1Has : MFun := ⟨17, .seq (.ops [
.op ⟨(some 4), (.pure (.mv (.const (.bool false)))), none⟩])
(.seq (.seq (.ops [
.op ⟨(some 7), (.pure (.mv (.tmp 0))), none⟩,
.op ⟨(some 8), (.pure (.len (.tmp 7))), none⟩,
.op ⟨(some 9), (.pure (.mv (.const (.int .i64 (0))))), none⟩])
(.block 0 (.loop (.seq (.ops [
.op ⟨(some 10), (.pure (.bin .lss (.tmp 9) (.tmp 8))), none⟩])
(.seq (.cond (.tmp 10)
(.skip)
(.exit 0))
(.seq (.block 1 (.seq (.ops [
.op ⟨(some 11), (.pure (.idx 1 (.tmp 7) (.tmp 9))), none⟩,
.op ⟨(some 12), (.load none (.tmp 11)), none⟩,
.op ⟨(some 6), (.pure (.mv (.tmp 12))), none⟩])
(.seq (.ops [
.op ⟨(some 13), (.pure (.mv (.tmp 6))), none⟩,
.op ⟨(some 14), (.pure (.mv (.tmp 1))), none⟩,
.op ⟨(some 15), (.pure (.bin .eql (.tmp 13) (.tmp 14))), none⟩])
(.cond (.tmp 15)
(.seq (.ops [
.op ⟨(some 4), (.pure (.mv (.const (.bool true)))), none⟩])
(.ret))
(.skip)))))
(.ops [
.op ⟨(some 16), (.pure (.bin .add (.tmp 9) (.const (.int .i64 (1))))), none⟩,
.op ⟨(some 9), (.pure (.mv (.tmp 16))), none⟩])))))))
(.seq (.ops [
.op ⟨(some 4), (.pure (.mv (.const (.bool false)))), none⟩])
(.ret))),
[.tmp 4]⟩
theorem r_spec_l1Has : resFun Try.prog f_spec_l1Has = some c_spec_l1Has := by kernel_rfl

/- (*loop.example/g00940/spec.l1Cur).next -/
abbrev f_spec_l1Cur_next : Nat := 191
def c_spec_l1Cur_next : MFun := ⟨62, .seq (.ops [
.op ⟨(some 2), (.pure (.mv (.const (.int .i64 (0))))), none⟩])
(.seq (.ops [
.op ⟨(some 3), (.pure (.mv (.const (.int .i64 (0))))), none⟩])
(.seq (.seq (.ops [
.op ⟨(some 4), (.pure (.mv (.tmp 0))), none⟩,
.op ⟨(some 5), (.pure (.nilc (.tmp 4))), none⟩,
.op ⟨(some 6), (.pure (.fieldAddr 1 (.tmp 5))), none⟩,
.op ⟨(some 8), (.pure (.mv (.tmp 0))), none⟩,
.op ⟨(some 9), (.pure (.nilc (.tmp 8))), none⟩,
.op ⟨(some 10), (.pure (.fieldAddr 0 (.tmp 9))), none⟩,
.op ⟨(some 7), (.load none (.tmp 6)), none⟩,
.op ⟨(some 11), (.load none (.tmp 10)), none⟩,
.op ⟨(some 12), (.pure (.len (.tmp 11))), none⟩,
.op ⟨(some 13), (.pure (.bin .lss (.tmp 7) (.tmp 12))), none⟩])
(.cond (.tmp 13)
(.ops [
.op ⟨(some 14), (.pure (.mv (.tmp 0))), none⟩,
.op ⟨(some 15), (.pure (.nilc (.tmp 14))), none⟩,
.op ⟨(some 16), (.pure (.fieldAddr 0 (.tmp 15))), none⟩,
.op ⟨(some 18), (.pure (.mv (.tmp 0))), none⟩,
.op ⟨(some 19), (.pure (.nilc (.tmp 18))), none⟩,
.op ⟨(some 20), (.pure (.fieldAddr 1 (.tmp 19))), none⟩,
.op ⟨(some 17), (.load none (.tmp 16)), none⟩,
.op ⟨(some 21), (.load none (.tmp 20)), none⟩,
.op ⟨(some 22), (.pure (.idx 1 (.tmp 17) (.tmp 21))), none⟩,
.op ⟨(some 23), (.load none (.tmp 22)), none⟩,
.op ⟨(some 24), (.pure (.conv .i64 (.tmp 23))), none⟩,
.op ⟨(some 3), (.pure (.mv (.tmp 24))), none⟩])
(.skip)))
(.seq (.ops [
.op ⟨(some 25), (.pure (.mv (.tmp 0))), none⟩,
.op ⟨(some 26), (.pure (.nilc (.tmp 25))), none⟩,
.op ⟨(some 27), (.pure (.fieldAddr 1 (.tmp 26))), none⟩,
.op ⟨(some 28), (.load none (.tmp 27)), none⟩,
.op ⟨(some 29), (.pure (.bin .add (.tmp 28) (.const (.int .i64 (1))))), none⟩,
.op ⟨(some 30), (.pure (.nilc (.tmp 25))), none⟩,
.op ⟨(some 31), (.pure (.fieldAddr 1 (.tmp 30))), none⟩,
.op ⟨none, (.eff (.store 1 (.tmp 31) (.tmp 29))), none⟩])
(.seq (.ops [
.op ⟨(some 32), (.pure (.mv (.tmp 0))), none⟩,
.op ⟨(some 33), (.pure (.mv (.tmp 0))), none⟩,
.op ⟨(some 34), (.pure (.nilc (.tmp 33))), none⟩,
.op ⟨(some 35), (.pure (.fieldAddr 2 (.tmp 34))), none⟩,
.op ⟨(some 36), (.load none (.tmp 35)), none⟩,
.op ⟨(some 37), (.pure (.bin .mul (.tmp 36) (.const (.int .u64 (6364136223846793005))))), none⟩,
.op ⟨(some 38), (.pure (.mv (.tmp 3))), none⟩,
.op ⟨(some 39), (.pure (.conv .u64 (.tmp 38))), none⟩,
.op ⟨(some 40), (.pure (.bin .add (.tmp 37) (.tmp 39))), none⟩,
.op ⟨(some 41), (.pure (.bin .add (.tmp 40) (.const (.int .u64 (1442695040888963407))))), none⟩,
.op ⟨(some 42), (.pure (.nilc (.tmp 32))), none⟩,
.op ⟨(some 43), (.pure (.fieldAddr 2 (.tmp 42))), none⟩,
.op ⟨none, (.eff (.store 1 (.tmp 43) (.tmp 41))), none⟩])
(.seq (.seq (.ops [
.op ⟨(some 44), (.pure (.mv (.tmp 0))), none⟩,
.op ⟨(some 45), (.pure (.nilc (.tmp 44))), none⟩,
.op ⟨(some 46), (.pure (.fieldAddr 1 (.tmp 45))), none⟩,
.op ⟨(some 48), (.pure (.mv (.tmp 0))), none⟩,
.op ⟨(some 49), (.pure (.nilc (.tmp 48))), none⟩,
.op ⟨(some 50), (.pure (.fieldAddr 0 (.tmp 49))), none⟩,
.op ⟨(some 47), (.load none (.tmp 46)), none⟩,
.op ⟨(some 51), (.load none (.tmp 50)), none⟩,
.op ⟨(some 52), (.pure (.len (.tmp 51))), none⟩,
.op ⟨(some 53), (.pure (.bin .leq (.tmp 47) (.tmp 52))), none⟩])
(.cond (.tmp 53)
(.seq (.ops [
.op ⟨(some 54), (.pure (.mv (.tmp 3))), none⟩,
.op ⟨(some 2), (.pure (.mv (.tmp 54))), none⟩])
(.ret))
(.skip)))
(.seq (.ops [
.op ⟨(some 55), (.pure (.mv (.tmp 0))), none⟩,
.op ⟨(some 56), (.pure (.nilc (.tmp 55))), none⟩,
.op ⟨(some 57), (.pure (.fieldAddr 2 (.tmp 56))), none⟩,
.op ⟨(some 58), (.load none (.tmp 57)), none⟩,
.op ⟨(some 59), (.pure (.bin .shr (.tmp 58) (.const (.int .u64 (40))))), none⟩,
.op ⟨(some 60), (.pure (.bin .and (.tmp 59) (.const (.int .u64 (255))))), none⟩,
.op ⟨(some 61), (.pure (.conv .i64 (.tmp 60))), none⟩,
.op ⟨(some 2), (.pure (.mv (.tmp 61))), none⟩])
(.ret))))))),
[.tmp 2]⟩
theorem r_spec_l1Cur_next : resFun Try.prog f_spec_l1Cur_next = some c_spec_l1Cur_next := by kernel_rfl

/- cmp.Or[int] -/
abbrev f_cmp_Or_int : Nat := 194
def c_cmp_Or_int : MFun := ⟨18, .seq (.ops [
.op ⟨(some 2), (.pure (.mv (.const (.int .i64 (0))))), none⟩])
(.seq (.ops [
.op ⟨(some 3), (.pure (.mv (.const (.int .i64 (0))))), none⟩])
(.seq (.seq (.ops [
.op ⟨(some 6), (.pure (.mv (.tmp 0))), none⟩,
.op ⟨(some 7), (.pure (.len (.tmp 6))), none⟩,
.op ⟨(some 8), (.pure (.mv (.const (.int .i64 (0))))), none⟩])
(.block 0 (.loop (.seq (.ops [
.op ⟨(some 9), (.pure (.bin .lss (.tmp 8) (.tmp 7))), none⟩])
(.seq (.cond (.tmp 9)
(.skip)
(.exit 0))
(.seq (.block 1 (.seq (.ops [
.op ⟨(some 10), (.pure (.idx 1 (.tmp 6) (.tmp 8))), none⟩,
.op ⟨(some 11), (.load none (.tmp 10)), none⟩,
.op ⟨(some 5), (.pure (.mv (.tmp 11))), none⟩])
(.seq (.ops [
.op ⟨(some 12), (.pure (.mv (.tmp 5))), none⟩,
.op ⟨(some 13), (.pure (.mv (.tmp 3))), none⟩,
.op ⟨(some 14), (.pure (.bin .neq (.tmp 12) (.tmp 13))), none⟩])
(.cond (.tmp 14)
(.seq (.ops [
.op ⟨(some 15), (.pure (.mv (.tmp 5))), none⟩,
.op ⟨(some 2), (.pure (.mv (.tmp 15))), none⟩])
(.ret))
(.skip)))))
(.ops [
.op ⟨(some 16), (.pure (.bin .add (.tmp 8) (.const (.int .i64 (1))))), none⟩,
.op ⟨(some 8), (.pure (.mv (.tmp 16))), none⟩])))))))
(.seq (.ops [
.op ⟨(some 17), (.pure (.mv (.tmp 3))), none⟩,
.op ⟨(some 2), (.pure (.mv (.tmp 17))), none⟩])
(.ret)))),
[.tmp 2]⟩
theorem r_cmp_Or_int : resFun Try.prog f_cmp_Or_int = some c_cmp_Or_int := by kernel_rfl

/- cmp.Compare[int] -/
abbrev f_cmp_Compare_int : Nat := 195
def c_cmp_Compare_int : MFun := ⟨20, .seq (.ops [
.op ⟨(some 4), (.pure (.mv (.const (.int .i64 (0))))), none⟩])
(.seq (.ops [
.op ⟨(some 7), (.pure (.mv (.tmp 0))), none⟩,
.op ⟨(some 8), (.eff (.call 208 [(.tmp 7)])), none⟩,
.op ⟨(some 5), (.pure (.mv (.tmp 8))), none⟩])
(.seq (.ops [
.op ⟨(some 9), (.pure (.mv (.tmp 1))), none⟩,
.op ⟨(some 10), (.eff (.call 208 [(.tmp 9)])), none⟩,
.op ⟨(some 6), (.pure (.mv (.tmp 10))), none⟩])
(.seq (.seq (.ops [
.op ⟨(some 11), (.pure (.mv (.tmp 5))), none⟩])
(.cond (.tmp 11)
(.seq (.seq (.ops [
.op ⟨(some 12), (.pure (.mv (.tmp 6))), none⟩])
(.cond (.tmp 12)
(.seq (.ops [
.op ⟨(some 4), (.pure (.mv (.const (.int .i64 (0))))), none⟩])
(.ret))
(.skip)))
(.seq (.ops [
.op ⟨(some 4), (.pure (.mv (.const (.int .i64 (-1))))), none⟩])
(.ret)))
(.skip)))
(.seq (.seq (.ops [
.op ⟨(some 13), (.pure (.mv (.tmp 6))), none⟩])
(.cond (.tmp 13)
(.seq (.ops [
.op ⟨(some 4), (.pure (.mv (.const (.int .i64 (1))))), none⟩])
(.ret))
(.skip)))
(.seq (.seq (.ops [
.op ⟨(some 14), (.pure (.mv (.tmp 0))), none⟩,
.op ⟨(some 15), (.pure (.mv (.tmp 1))), none⟩,
.op ⟨(some 16), (.pure (.bin .lss (.tmp 14) (.tmp 15))), none⟩])
(.cond (.tmp 16)
(.seq (.ops [
.op ⟨(some 4), (.pure (.mv (.const (.int .i64 (-1))))), none⟩])
(.ret))
(.skip)))
(.seq (.seq (.ops [
.op ⟨(some 17), (.pure (.mv (.tmp 0))), none⟩,
.op ⟨(some 18), (.pure (.mv (.tmp 1))), none⟩,
.op ⟨(some 19), (.pure (.bin .gtr (.tmp 17) (.tmp 18))), none⟩])
(.cond (.tmp 19)
(.seq (.ops [
.op ⟨(some 4), (.pure (.mv (.const (.int .i64 (1))))), none⟩])
(.ret))
(.skip)))
(.seq (.ops [
.op ⟨(some 4), (.pure (.mv (.const (.int .i64 (0))))), none⟩])
(.ret)))))))),
[.tmp 4]⟩
theorem r_cmp_Compare_int : resFun Try.prog f_cmp_Compare_int = some c_cmp_Compare_int := by kernel_rfl

/- loop.example/g00940/spec.l1All -/
abbrev f_spec_l1All : Nat := 196
def c_spec_l1All : MFun := ⟨21, .seq (.ops [
.op ⟨(some 6), (.pure (.mv (.const (.bool false)))), none⟩])
(.seq (.seq (.ops [
.op ⟨(some 9), (.pure (.mv (.tmp 0))), none⟩,
.op ⟨(some 10), (.pure (.len (.tmp 9))), none⟩,
.op ⟨(some 11), (.pure (.mv (.const (.int .i64 (0))))), none⟩])
(.block 0 (.loop (.seq (.ops [
.op ⟨(some 12), (.pure (.bin .lss (.tmp 11) (.tmp 10))), none⟩])
(.seq (.cond (.tmp 12)
(.skip)
(.exit 0))
(.seq (.block 1 (.seq (.ops [
.op ⟨(some 13), (.pure (.idx 1 (.tmp 9) (.tmp 11))), none⟩,
.op ⟨(some 14), (.load none (.tmp 13)), none⟩,
.op ⟨(some 8), (.pure (.mv (.tmp 14))), none⟩])
(.seq (.ops [
.op ⟨(some 15), (.pure (.mv (.tmp 8))), none⟩,
.op ⟨(some 16), (.pure (.mv (.tmp 1))), none⟩,
.op ⟨(some 17), (.pure (.mv (.tmp 2))), none⟩,
.op ⟨(some 18), (.eff (.call 108 [(.tmp 15), (.tmp 16), (.tmp 17)])), none⟩,
.op ⟨(some 19), (.pure (.bnot (.tmp 18))), none⟩])
(.cond (.tmp 19)
(.seq (.ops [
.op ⟨(some 6), (.pure (.mv (.const (.bool false)))), none⟩])
(.ret))
(.skip)))))
(.ops [
.op ⟨(some 20), (.pure (.bin .add (.tmp 11) (.const (.int .i64 (1))))), none⟩,
.op ⟨(some 11), (.pure (.mv (.tmp 20))), none⟩])))))))
(.seq (.ops [
.op ⟨(some 6), (.pure (.mv (.const (.bool true)))), none⟩])
(.ret))),
[.tmp 6]⟩
theorem r_spec_l1All : resFun Try.prog f_spec_l1All = some c_spec_l1All := by kernel_rfl

/- cmp.isNaN[int] -/
abbrev f_cmp_isNaN_int : Nat := 208
def c_cmp_isNaN_int : MFun := ⟨6, .seq (.ops [
.op ⟨(some 2), (.pure (.mv (.const (.bool false)))), none⟩])
(.seq (.ops [
.op ⟨(some 3), (.pure (.mv (.tmp 0))), none⟩,
.op ⟨(some 4), (.pure (.mv (.tmp 0))), none⟩,
.op ⟨(some 5), (.pure (.bin .neq (.tmp 3) (.tmp 4))), none⟩,
.op ⟨(some 2), (.pure (.mv (.tmp 5))), none⟩])
(.ret)),
[.tmp 2]⟩
theorem r_cmp_isNaN_int : resFun Try.prog f_cmp_isNaN_int = some c_cmp_isNaN_int := by kernel_rfl
end Go.Proofs.Ythagdkmalchhgaa
