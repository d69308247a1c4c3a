/- The code of this seat's functions, resolved, written by a program of mine; each is held against the given program by the kernel. Condition: none. -/
import Derived.Test.YthagdkmalchhgaaProg
import Derived.Test.YthagdkmalchhgaaBase9
import Derived.KernelRfl
namespace Go.Proofs.Ythagdkmalchhgaa
open Go.Vc

/- loop.example/g00940/spec.fgFog -/
abbrev f_spec_fgFog : Nat := 161
def c_spec_fgFog : MFun := ⟨25, .seq (.ops [
.op ⟨(some 2), (.eff (.box 32 (.tmp 0))), none⟩,
.op ⟨(some 3), (.eff (.box 96 (.tmp 1))), none⟩,
.op ⟨(some 4), (.pure (.mv (.const (.bool false)))), none⟩])
(.seq (.ops [
.op ⟨(some 5), (.pure (.fieldAddr 0 (.tmp 3))), none⟩,
.op ⟨(some 6), (.load none (.tmp 5)), none⟩,
.op ⟨(some 7), (.pure (.fieldAddr 1 (.tmp 2))), none⟩,
.op ⟨(some 8), (.load none (.tmp 7)), none⟩,
.op ⟨(some 9), (.pure (.len (.tmp 8))), none⟩,
.op ⟨(some 10), (.pure (.bin .sub (.tmp 9) (.const (.int .i64 (1))))), none⟩,
.op ⟨(some 11), (.eff (.call 108 [(.tmp 6), (.const (.int .i64 (0))), (.tmp 10)])), none⟩,
.op ⟨(some 12), (.pure (.mv (.tmp 11))), none⟩,
.split 12,
.op ⟨(some 13), (.pure (.fieldAddr 1 (.tmp 3))), (some (12, true))⟩,
.op ⟨(some 14), (.load none (.tmp 13)), (some (12, true))⟩,
.op ⟨(some 15), (.eff (.call 108 [(.tmp 14), (.const (.int .i64 (0))), (.const (.int .i64 (9999)))])), (some (12, true))⟩,
.op ⟨(some 16), (.pure (.pick (.tmp 12) (.tmp 15) (.const (.bool false)))), none⟩,
.op ⟨(some 17), (.pure (.mv (.tmp 16))), none⟩,
.split 17,
.op ⟨(some 18), (.pure (.fieldAddr 2 (.tmp 3))), (some (17, true))⟩,
.op ⟨(some 19), (.load none (.tmp 18)), (some (17, true))⟩,
.op ⟨(some 20), (.pure (.fieldAddr 1 (.tmp 3))), (some (17, true))⟩,
.op ⟨(some 21), (.load none (.tmp 20)), (some (17, true))⟩,
.op ⟨(some 22), (.pure (.bin .add (.tmp 21) (.const (.int .i64 (1))))), (some (17, true))⟩,
.op ⟨(some 23), (.eff (.call 108 [(.tmp 19), (.tmp 22), (.const (.int .i64 (10000)))])), (some (17, true))⟩,
.op ⟨(some 24), (.pure (.pick (.tmp 17) (.tmp 23) (.const (.bool false)))), none⟩,
.op ⟨(some 4), (.pure (.mv (.tmp 24))), none⟩])
(.ret)),
[.tmp 4]⟩
theorem r_spec_fgFog : resFun Try.prog f_spec_fgFog = some c_spec_fgFog := by kernel_rfl

/- loop.example/g00940/impl.isFog -/
abbrev f_impl_isFog : Nat := 163
def c_impl_isFog : MFun := ⟨29, .seq (.ops [
.op ⟨(some 2), (.eff (.box 32 (.tmp 0))), none⟩,
.op ⟨(some 3), (.eff (.box 96 (.tmp 1))), none⟩,
.op ⟨(some 4), (.pure (.mv (.const (.bool false)))), none⟩])
(.seq (.ops [
.op ⟨(some 5), (.pure (.fieldAddr 0 (.tmp 3))), none⟩,
.op ⟨(some 6), (.load none (.tmp 5)), none⟩,
.op ⟨(some 7), (.pure (.fieldAddr 1 (.tmp 2))), none⟩,
.op ⟨(some 8), (.load none (.tmp 7)), none⟩,
.op ⟨(some 9), (.pure (.len (.tmp 8))), none⟩,
.op ⟨(some 10), (.pure (.bin .sub (.tmp 9) (.const (.int .i64 (1))))), none⟩,
.op ⟨(some 11), (.eff (.call 129 [(.tmp 6), (.const (.int .i64 (0))), (.tmp 10)])), none⟩,
.op ⟨(some 12), (.pure (.mv (.tmp 11))), none⟩,
.split 12,
.op ⟨(some 13), (.pure (.fieldAddr 1 (.tmp 3))), (some (12, true))⟩,
.op ⟨(some 14), (.load none (.tmp 13)), (some (12, true))⟩,
.op ⟨(some 15), (.pure (.bin .geq (.tmp 14) (.const (.int .i64 (0))))), (some (12, true))⟩,
.op ⟨(some 16), (.pure (.pick (.tmp 12) (.tmp 15) (.const (.bool false)))), none⟩,
.op ⟨(some 17), (.pure (.mv (.tmp 16))), none⟩,
.split 17,
.op ⟨(some 18), (.pure (.fieldAddr 1 (.tmp 3))), (some (17, true))⟩,
.op ⟨(some 19), (.load none (.tmp 18)), (some (17, true))⟩,
.op ⟨(some 20), (.pure (.fieldAddr 2 (.tmp 3))), (some (17, true))⟩,
.op ⟨(some 21), (.load none (.tmp 20)), (some (17, true))⟩,
.op ⟨(some 22), (.pure (.bin .lss (.tmp 19) (.tmp 21))), (some (17, true))⟩,
.op ⟨(some 23), (.pure (.pick (.tmp 17) (.tmp 22) (.const (.bool false)))), none⟩,
.op ⟨(some 24), (.pure (.mv (.tmp 23))), none⟩,
.split 24,
.op ⟨(some 25), (.pure (.fieldAddr 2 (.tmp 3))), (some (24, true))⟩,
.op ⟨(some 26), (.load none (.tmp 25)), (some (24, true))⟩,
.op ⟨(some 27), (.pure (.bin .leq (.tmp 26) (.const (.int .i64 (10000))))), (some (24, true))⟩,
.op ⟨(some 28), (.pure (.pick (.tmp 24) (.tmp 27) (.const (.bool false)))), none⟩,
.op ⟨(some 4), (.pure (.mv (.tmp 28))), none⟩])
(.ret)),
[.tmp 4]⟩
theorem r_impl_isFog : resFun Try.prog f_impl_isFog = some c_impl_isFog := by kernel_rfl

/- loop.example/g00940/impl.compareFogs -/
abbrev f_impl_compareFogs : Nat := 165
def c_impl_compareFogs : MFun := ⟨17, .seq (.ops [
.op ⟨(some 2), (.eff (.box 96 (.tmp 0))), none⟩,
.op ⟨(some 3), (.eff (.box 96 (.tmp 1))), none⟩,
.op ⟨(some 4), (.pure (.mv (.const (.int .i64 (0))))), none⟩])
(.seq (.draw true
(.take ⟨(some 5), (.pure (.fieldAddr 0 (.tmp 2))), none⟩
(.take ⟨(some 7), (.pure (.fieldAddr 0 (.tmp 3))), none⟩
(.take ⟨(some 10), (.pure (.fieldAddr 1 (.tmp 2))), none⟩
(.take ⟨(some 12), (.pure (.fieldAddr 1 (.tmp 3))), none⟩
(.take ⟨(some 6), (.load none (.tmp 5)), none⟩
(.take ⟨(some 8), (.load none (.tmp 7)), none⟩
(.take ⟨(some 11), (.load none (.tmp 10)), none⟩
(.take ⟨(some 13), (.load none (.tmp 12)), none⟩
(.only false ⟨(some 9), (.eff (.call 195 [(.tmp 6), (.tmp 8)])), none⟩
(.only false ⟨(some 14), (.eff (.call 195 [(.tmp 11), (.tmp 13)])), none⟩
(.only false ⟨(some 15), (.eff (.row 3 2 [(.int .i64 (0)), (.int .i64 (0))] [(0, 1, (.tmp 9)), (1, 1, (.tmp 14))])), none⟩
(.only false ⟨(some 16), (.eff (.call 194 [(.tmp 15)])), none⟩
(.take ⟨(some 4), (.pure (.mv (.tmp 16))), none⟩
(.done)))))))))))))))
(.ret)),
[.tmp 4]⟩
theorem r_impl_compareFogs : resFun Try.prog f_impl_compareFogs = some c_impl_compareFogs := by kernel_rfl

/- loop.example/g00940/laws.toTower -/
abbrev f_laws_toTower : Nat := 169
def c_laws_toTower : MFun := ⟨14, .seq (.ops [
.op ⟨(some 1), (.eff (.box 149 (.tmp 0))), none⟩,
.op ⟨(some 2), (.eff (.new 147 [(.int .i64 (0)), (.int .i64 (0)), (.int .i64 (0))])), none⟩])
(.seq (.ops [
.op ⟨(some 3), (.eff (.new 147 [(.int .i64 (0)), (.int .i64 (0)), (.int .i64 (0))])), none⟩])
(.seq (.ops [
.op ⟨(some 4), (.pure (.fieldAddr 0 (.tmp 1))), none⟩,
.op ⟨(some 5), (.load none (.tmp 4)), none⟩,
.op ⟨(some 6), (.pure (.fieldAddr 0 (.tmp 3))), none⟩,
.op ⟨none, (.eff (.store 1 (.tmp 6) (.tmp 5))), none⟩])
(.seq (.ops [
.op ⟨(some 7), (.pure (.fieldAddr 1 (.tmp 1))), none⟩,
.op ⟨(some 8), (.load none (.tmp 7)), none⟩,
.op ⟨(some 9), (.pure (.fieldAddr 1 (.tmp 3))), none⟩,
.op ⟨none, (.eff (.store 1 (.tmp 9) (.tmp 8))), none⟩])
(.seq (.ops [
.op ⟨(some 10), (.pure (.fieldAddr 2 (.tmp 1))), none⟩,
.op ⟨(some 11), (.load none (.tmp 10)), none⟩,
.op ⟨(some 12), (.pure (.fieldAddr 2 (.tmp 3))), none⟩,
.op ⟨none, (.eff (.store 1 (.tmp 12) (.tmp 11))), none⟩])
(.seq (.ops [
.op ⟨(some 13), (.load (some 3) (.tmp 3)), none⟩,
.op ⟨none, (.eff (.store 3 (.tmp 2) (.tmp 13))), none⟩])
(.ret)))))),
[.cell 2 (some 3)]⟩
theorem r_laws_toTower : resFun Try.prog f_laws_toTower = some c_laws_toTower := by kernel_rfl

/- loop.example/g00940/laws.toLink -/
abbrev f_laws_toLink : Nat := 170
def c_laws_toLink : MFun := ⟨14, .seq (.ops [
.op ⟨(some 1), (.eff (.box 151 (.tmp 0))), none⟩,
.op ⟨(some 2), (.eff (.new 88 [(.int .i64 (0)), (.int .i64 (0)), (.int .i64 (0))])), none⟩])
(.seq (.ops [
.op ⟨(some 3), (.eff (.new 88 [(.int .i64 (0)), (.int .i64 (0)), (.int .i64 (0))])), none⟩])
(.seq (.ops [
.op ⟨(some 4), (.pure (.fieldAddr 0 (.tmp 1))), none⟩,
.op ⟨(some 5), (.load none (.tmp 4)), none⟩,
.op ⟨(some 6), (.pure (.fieldAddr 0 (.tmp 3))), none⟩,
.op ⟨none, (.eff (.store 1 (.tmp 6) (.tmp 5))), none⟩])
(.seq (.ops [
.op ⟨(some 7), (.pure (.fieldAddr 1 (.tmp 1))), none⟩,
.op ⟨(some 8), (.load none (.tmp 7)), none⟩,
.op ⟨(some 9), (.pure (.fieldAddr 1 (.tmp 3))), none⟩,
.op ⟨none, (.eff (.store 1 (.tmp 9) (.tmp 8))), none⟩])
(.seq (.ops [
.op ⟨(some 10), (.pure (.fieldAddr 2 (.tmp 1))), none⟩,
.op ⟨(some 11), (.load none (.tmp 10)), none⟩,
.op ⟨(some 12), (.pure (.fieldAddr 2 (.tmp 3))), none⟩,
.op ⟨none, (.eff (.store 1 (.tmp 12) (.tmp 11))), none⟩])
(.seq (.ops [
.op ⟨(some 13), (.load (some 3) (.tmp 3)), none⟩,
.op ⟨none, (.eff (.store 3 (.tmp 2) (.tmp 13))), none⟩])
(.ret)))))),
[.cell 2 (some 3)]⟩
theorem r_laws_toLink : resFun Try.prog f_laws_toLink = some c_laws_toLink := by kernel_rfl

/- loop.example/g00940/laws.eqTower -/
abbrev f_laws_eqTower : Nat := 171
def c_laws_eqTower : MFun := ⟨20, .seq (.ops [
.op ⟨(some 2), (.eff (.box 147 (.tmp 0))), none⟩,
.op ⟨(some 3), (.eff (.box 147 (.tmp 1))), none⟩,
.op ⟨(some 4), (.pure (.mv (.const (.bool false)))), none⟩])
(.seq (.seq (.ops [
.op ⟨(some 5), (.pure (.fieldAddr 0 (.tmp 2))), none⟩,
.op ⟨(some 6), (.load none (.tmp 5)), none⟩,
.op ⟨(some 7), (.pure (.fieldAddr 0 (.tmp 3))), none⟩,
.op ⟨(some 8), (.load none (.tmp 7)), none⟩,
.op ⟨(some 9), (.pure (.bin .neq (.tmp 6) (.tmp 8))), none⟩])
(.cond (.tmp 9)
(.seq (.ops [
.op ⟨(some 4), (.pure (.mv (.const (.bool false)))), none⟩])
(.ret))
(.skip)))
(.seq (.seq (.ops [
.op ⟨(some 10), (.pure (.fieldAddr 1 (.tmp 2))), none⟩,
.op ⟨(some 11), (.load none (.tmp 10)), none⟩,
.op ⟨(some 12), (.pure (.fieldAddr 1 (.tmp 3))), none⟩,
.op ⟨(some 13), (.load none (.tmp 12)), none⟩,
.op ⟨(some 14), (.pure (.bin .neq (.tmp 11) (.tmp 13))), none⟩])
(.cond (.tmp 14)
(.seq (.ops [
.op ⟨(some 4), (.pure (.mv (.const (.bool false)))), none⟩])
(.ret))
(.skip)))
(.seq (.seq (.ops [
.op ⟨(some 15), (.pure (.fieldAddr 2 (.tmp 2))), none⟩,
.op ⟨(some 16), (.load none (.tmp 15)), none⟩,
.op ⟨(some 17), (.pure (.fieldAddr 2 (.tmp 3))), none⟩,
.op ⟨(some 18), (.load none (.tmp 17)), none⟩,
.op ⟨(some 19), (.pure (.bin .neq (.tmp 16) (.tmp 18))), none⟩])
(.cond (.tmp 19)
(.seq (.ops [
.op ⟨(some 4), (.pure (.mv (.const (.bool false)))), none⟩])
(.ret))
(.skip)))
(.seq (.ops [
.op ⟨(some 4), (.pure (.mv (.const (.bool true)))), none⟩])
(.ret))))),
[.tmp 4]⟩
theorem r_laws_eqTower : resFun Try.prog f_laws_eqTower = some c_laws_eqTower := by kernel_rfl

/- loop.example/g00940/laws.eqLink -/
abbrev f_laws_eqLink : Nat := 172
def c_laws_eqLink : MFun := ⟨20, .seq (.ops [
.op ⟨(some 2), (.eff (.box 88 (.tmp 0))), none⟩,
.op ⟨(some 3), (.eff (.box 88 (.tmp 1))), none⟩,
.op ⟨(some 4), (.pure (.mv (.const (.bool false)))), none⟩])
(.seq (.seq (.ops [
.op ⟨(some 5), (.pure (.fieldAddr 0 (.tmp 2))), none⟩,
.op ⟨(some 6), (.load none (.tmp 5)), none⟩,
.op ⟨(some 7), (.pure (.fieldAddr 0 (.tmp 3))), none⟩,
.op ⟨(some 8), (.load none (.tmp 7)), none⟩,
.op ⟨(some 9), (.pure (.bin .neq (.tmp 6) (.tmp 8))), none⟩])
(.cond (.tmp 9)
(.seq (.ops [
.op ⟨(some 4), (.pure (.mv (.const (.bool false)))), none⟩])
(.ret))
(.skip)))
(.seq (.seq (.ops [
.op ⟨(some 10), (.pure (.fieldAddr 1 (.tmp 2))), none⟩,
.op ⟨(some 11), (.load none (.tmp 10)), none⟩,
.op ⟨(some 12), (.pure (.fieldAddr 1 (.tmp 3))), none⟩,
.op ⟨(some 13), (.load none (.tmp 12)), none⟩,
.op ⟨(some 14), (.pure (.bin .neq (.tmp 11) (.tmp 13))), none⟩])
(.cond (.tmp 14)
(.seq (.ops [
.op ⟨(some 4), (.pure (.mv (.const (.bool false)))), none⟩])
(.ret))
(.skip)))
(.seq (.seq (.ops [
.op ⟨(some 15), (.pure (.fieldAddr 2 (.tmp 2))), none⟩,
.op ⟨(some 16), (.load none (.tmp 15)), none⟩,
.op ⟨(some 17), (.pure (.fieldAddr 2 (.tmp 3))), none⟩,
.op ⟨(some 18), (.load none (.tmp 17)), none⟩,
.op ⟨(some 19), (.pure (.bin .neq (.tmp 16) (.tmp 18))), none⟩])
(.cond (.tmp 19)
(.seq (.ops [
.op ⟨(some 4), (.pure (.mv (.const (.bool false)))), none⟩])
(.ret))
(.skip)))
(.seq (.ops [
.op ⟨(some 4), (.pure (.mv (.const (.bool true)))), none⟩])
(.ret))))),
[.tmp 4]⟩
theorem r_laws_eqLink : resFun Try.prog f_laws_eqLink = some c_laws_eqLink := by kernel_rfl

/- loop.example/g00940/spec.neBefore -/
abbrev f_spec_neBefore : Nat := 173
def c_spec_neBefore : MFun := ⟨24, .seq (.ops [
.op ⟨(some 2), (.eff (.box 88 (.tmp 0))), none⟩,
.op ⟨(some 3), (.eff (.box 88 (.tmp 1))), none⟩,
.op ⟨(some 4), (.pure (.mv (.const (.bool false)))), none⟩])
(.seq (.ops [
.op ⟨(some 5), (.pure (.fieldAddr 0 (.tmp 2))), none⟩,
.op ⟨(some 6), (.load none (.tmp 5)), none⟩,
.op ⟨(some 7), (.pure (.fieldAddr 0 (.tmp 3))), none⟩,
.op ⟨(some 8), (.load none (.tmp 7)), none⟩,
.op ⟨(some 9), (.pure (.bin .lss (.tmp 6) (.tmp 8))), none⟩,
.op ⟨(some 10), (.pure (.mv (.tmp 9))), none⟩,
.split 10,
.op ⟨(some 11), (.pure (.fieldAddr 0 (.tmp 2))), (some (10, false))⟩,
.op ⟨(some 12), (.load none (.tmp 11)), (some (10, false))⟩,
.op ⟨(some 13), (.pure (.fieldAddr 0 (.tmp 3))), (some (10, false))⟩,
.op ⟨(some 14), (.load none (.tmp 13)), (some (10, false))⟩,
.op ⟨(some 15), (.pure (.bin .eql (.tmp 12) (.tmp 14))), (some (10, false))⟩,
.op ⟨(some 16), (.pure (.mv (.tmp 15))), (some (10, false))⟩,
.split 16,
.op ⟨(some 17), (.pure (.fieldAddr 1 (.tmp 2))), (some (16, true))⟩,
.op ⟨(some 18), (.load none (.tmp 17)), (some (16, true))⟩,
.op ⟨(some 19), (.pure (.fieldAddr 1 (.tmp 3))), (some (16, true))⟩,
.op ⟨(some 20), (.load none (.tmp 19)), (some (16, true))⟩,
.op ⟨(some 21), (.pure (.bin .lss (.tmp 18) (.tmp 20))), (some (16, true))⟩,
.op ⟨(some 22), (.pure (.pick (.tmp 16) (.tmp 21) (.const (.bool false)))), (some (10, false))⟩,
.op ⟨(some 23), (.pure (.pick (.tmp 10) (.const (.bool true)) (.tmp 22))), none⟩,
.op ⟨(some 4), (.pure (.mv (.tmp 23))), none⟩])
(.ret)),
[.tmp 4]⟩
theorem r_spec_neBefore : resFun Try.prog f_spec_neBefore = some c_spec_neBefore := by kernel_rfl

/- slices.Delete[[]loop.example/g00940/impl.Link,loop.example/g00940/impl.Link] -/
abbrev f_slices_Delete_Limpl_Link_impl_Link : Nat := 174
def c_slices_Delete_Limpl_Link_impl_Link : MFun := ⟨33, .seq (.ops [
.op ⟨(some 6), (.pure (.mv (.const (.slice none 0 0)))), none⟩])
(.seq (.ops [
.op ⟨(some 8), (.pure (.mv (.tmp 0))), none⟩,
.op ⟨(some 9), (.pure (.mv (.tmp 1))), none⟩,
.op ⟨(some 10), (.pure (.mv (.tmp 2))), none⟩,
.op ⟨(some 11), (.pure (.mv (.tmp 0))), none⟩,
.op ⟨(some 12), (.pure (.len (.tmp 11))), none⟩,
.op ⟨(some 13), (.pure (.slc 3 (.tmp 8) (some (.tmp 9)) (some (.tmp 10)) (some (.tmp 12)))), none⟩])
(.seq (.seq (.ops [
.op ⟨(some 14), (.pure (.mv (.tmp 1))), none⟩,
.op ⟨(some 15), (.pure (.mv (.tmp 2))), none⟩,
.op ⟨(some 16), (.pure (.bin .eql (.tmp 14) (.tmp 15))), none⟩])
(.cond (.tmp 16)
(.seq (.ops [
.op ⟨(some 17), (.pure (.mv (.tmp 0))), none⟩,
.op ⟨(some 6), (.pure (.mv (.tmp 17))), none⟩])
(.ret))
(.skip)))
(.seq (.ops [
.op ⟨(some 18), (.pure (.mv (.tmp 0))), none⟩,
.op ⟨(some 19), (.pure (.len (.tmp 18))), none⟩,
.op ⟨(some 7), (.pure (.mv (.tmp 19))), none⟩])
(.seq (.draw false
(.take ⟨(some 20), (.pure (.mv (.tmp 0))), none⟩
(.take ⟨(some 21), (.pure (.mv (.tmp 1))), none⟩
(.take ⟨(some 22), (.pure (.slc 3 (.tmp 20) none (some (.tmp 21)) none)), none⟩
(.take ⟨(some 23), (.pure (.mv (.tmp 0))), none⟩
(.take ⟨(some 24), (.pure (.mv (.tmp 2))), none⟩
(.take ⟨(some 25), (.pure (.slc 3 (.tmp 23) (some (.tmp 24)) none none)), none⟩
(.only true ⟨(some 26), (.eff (.app 88 3 24 (.tmp 22) (.tmp 25))), none⟩
(.take ⟨(some 0), (.pure (.mv (.tmp 26))), none⟩
(.done))))))))))
(.seq (.ops [
.op ⟨(some 27), (.pure (.mv (.tmp 0))), none⟩,
.op ⟨(some 28), (.pure (.mv (.tmp 0))), none⟩,
.op ⟨(some 29), (.pure (.len (.tmp 28))), none⟩,
.op ⟨(some 30), (.pure (.mv (.tmp 7))), none⟩,
.op ⟨(some 31), (.pure (.slc 3 (.tmp 27) (some (.tmp 29)) (some (.tmp 30)) none)), none⟩,
.op ⟨none, (.eff (.clear 3 [(.int .i64 (0)), (.int .i64 (0)), (.int .i64 (0))] (.tmp 31))), none⟩])
(.seq (.ops [
.op ⟨(some 32), (.pure (.mv (.tmp 0))), none⟩,
.op ⟨(some 6), (.pure (.mv (.tmp 32))), none⟩])
(.ret))))))),
[.tmp 6]⟩
theorem r_slices_Delete_Limpl_Link_impl_Link : resFun Try.prog f_slices_Delete_Limpl_Link_impl_Link = some c_slices_Delete_Limpl_Link_impl_Link := by kernel_rfl

/- slices.Clone[[]loop.example/g00940/impl.Link,loop.example/g00940/impl.Link] -/
abbrev f_slices_Clone_Limpl_Link_impl_Link : Nat := 175
def c_slices_Clone_Limpl_Link_impl_Link : MFun := ⟨8, .seq (.ops [
.op ⟨(some 2), (.pure (.mv (.const (.slice none 0 0)))), none⟩])
(.seq (.seq (.ops [
.op ⟨(some 3), (.pure (.mv (.tmp 0))), none⟩,
.op ⟨(some 4), (.pure (.isnil false (.tmp 3))), none⟩])
(.cond (.tmp 4)
(.seq (.ops [
.op ⟨(some 2), (.pure (.mv (.const (.slice none 0 0)))), none⟩])
(.ret))
(.skip)))
(.seq (.ops [
.op ⟨(some 5), (.eff (.row 88 0 [] [])), none⟩,
.op ⟨(some 6), (.pure (.mv (.tmp 0))), none⟩,
.op ⟨(some 7), (.eff (.app 88 3 24 (.tmp 5) (.tmp 6))), none⟩,
.op ⟨(some 2), (.pure (.mv (.tmp 7))), none⟩])
(.ret))),
[.tmp 2]⟩
theorem r_slices_Clone_Limpl_Link_impl_Link : resFun Try.prog f_slices_Clone_Limpl_Link_impl_Link = some c_slices_Clone_Limpl_Link_impl_Link := by kernel_rfl

/- loop.example/g00940/spec.roOther -/
abbrev f_spec_roOther : Nat := 176
def c_spec_roOther : MFun := ⟨18, .seq (.ops [
.op ⟨(some 2), (.eff (.box 88 (.tmp 0))), none⟩,
.op ⟨(some 4), (.pure (.mv (.const (.int .i64 (0))))), none⟩])
(.seq (.seq (.ops [
.op ⟨(some 5), (.pure (.mv (.tmp 1))), none⟩])
(.block 0 (.seq (.ops [
.op ⟨(some 7), (.pure (.fieldAddr 0 (.tmp 2))), none⟩,
.op ⟨(some 8), (.load none (.tmp 7)), none⟩,
.op ⟨(some 9), (.pure (.bin .eql (.tmp 5) (.tmp 8))), none⟩,
.op ⟨(some 6), (.pure (.mv (.tmp 9))), none⟩])
(.cond (.tmp 6)
(.seq (.ops [
.op ⟨(some 10), (.pure (.fieldAddr 1 (.tmp 2))), none⟩,
.op ⟨(some 11), (.load none (.tmp 10)), none⟩,
.op ⟨(some 4), (.pure (.mv (.tmp 11))), none⟩])
(.ret))
(.seq (.ops [
.op ⟨(some 13), (.pure (.fieldAddr 1 (.tmp 2))), none⟩,
.op ⟨(some 14), (.load none (.tmp 13)), none⟩,
.op ⟨(some 15), (.pure (.bin .eql (.tmp 5) (.tmp 14))), none⟩,
.op ⟨(some 12), (.pure (.mv (.tmp 15))), none⟩])
(.cond (.tmp 12)
(.seq (.ops [
.op ⟨(some 16), (.pure (.fieldAddr 0 (.tmp 2))), none⟩,
.op ⟨(some 17), (.load none (.tmp 16)), none⟩,
.op ⟨(some 4), (.pure (.mv (.tmp 17))), none⟩])
(.ret))
(.skip)))))))
(.seq (.ops [
.op ⟨(some 4), (.pure (.mv (.const (.int .i64 (-1))))), none⟩])
(.ret))),
[.tmp 4]⟩
theorem r_spec_roOther : resFun Try.prog f_spec_roOther = some c_spec_roOther := by kernel_rfl

/- loop.example/g00940/spec.roOver -/
abbrev f_spec_roOver : Nat := 177
def c_spec_roOver : MFun := ⟨23, .seq (.ops [
.op ⟨(some 4), (.eff (.box 32 (.tmp 0))), none⟩,
.op ⟨(some 8), (.pure (.mv (.const (.int .i64 (0))))), none⟩])
(.seq (.ops [
.op ⟨(some 10), (.pure (.fieldAddr 1 (.tmp 4))), none⟩,
.op ⟨(some 11), (.load none (.tmp 10)), none⟩,
.op ⟨(some 12), (.pure (.mv (.tmp 2))), none⟩,
.op ⟨(some 13), (.pure (.idx 3 (.tmp 11) (.tmp 12))), none⟩,
.op ⟨(some 14), (.pure (.fieldAddr 2 (.tmp 13))), none⟩,
.op ⟨(some 15), (.load none (.tmp 14)), none⟩,
.op ⟨(some 9), (.pure (.mv (.tmp 15))), none⟩])
(.seq (.ops [
.op ⟨(some 16), (.pure (.mv (.tmp 1))), none⟩,
.op ⟨(some 17), (.pure (.mv (.tmp 2))), none⟩,
.op ⟨(some 18), (.pure (.mv (.tmp 3))), none⟩,
.op ⟨(some 19), (.pure (.mv (.tmp 9))), none⟩,
.op ⟨(some 20), (.eff (.call 141 [(.tmp 16), (.tmp 17), (.tmp 18), (.tmp 19)])), none⟩,
.op ⟨(some 21), (.pure (.mv (.tmp 9))), none⟩,
.op ⟨(some 22), (.pure (.bin .add (.tmp 20) (.tmp 21))), none⟩,
.op ⟨(some 8), (.pure (.mv (.tmp 22))), none⟩])
(.ret))),
[.tmp 8]⟩
theorem r_spec_roOver : resFun Try.prog f_spec_roOver = some c_spec_roOver := by kernel_rfl

/- loop.example/g00940/spec.roLinks -/
abbrev f_spec_roLinks : Nat := 178
def c_spec_roLinks : MFun := ⟨56, .seq (.ops [
.op ⟨(some 2), (.eff (.box 32 (.tmp 0))), none⟩,
.op ⟨(some 4), (.pure (.mv (.const (.slice none 0 0)))), none⟩,
.op ⟨(some 5), (.pure (.mv (.const (.bool false)))), none⟩])
(.seq (.seq (.ops [
.op ⟨(some 9), (.pure (.mv (.tmp 1))), none⟩,
.op ⟨(some 10), (.pure (.len (.tmp 9))), none⟩,
.op ⟨(some 11), (.eff (.call 108 [(.tmp 10), (.const (.int .i64 (1))), (.const (.int .i64 (16)))])), none⟩,
.op ⟨(some 12), (.pure (.bnot (.tmp 11))), none⟩,
.op ⟨(some 13), (.pure (.mv (.tmp 12))), none⟩,
.split 13,
.op ⟨(some 14), (.pure (.mv (.tmp 1))), (some (13, false))⟩,
.op ⟨(some 15), (.pure (.fieldAddr 0 (.tmp 2))), (some (13, false))⟩,
.op ⟨(some 16), (.load none (.tmp 15)), (some (13, false))⟩,
.op ⟨(some 17), (.pure (.len (.tmp 16))), (some (13, false))⟩,
.op ⟨(some 18), (.pure (.bin .sub (.tmp 17) (.const (.int .i64 (1))))), (some (13, false))⟩,
.op ⟨(some 19), (.eff (.call 196 [(.tmp 14), (.const (.int .i64 (0))), (.tmp 18)])), (some (13, false))⟩,
.op ⟨(some 20), (.pure (.bnot (.tmp 19))), (some (13, false))⟩,
.op ⟨(some 21), (.pure (.pick (.tmp 13) (.const (.bool true)) (.tmp 20))), none⟩])
(.cond (.tmp 21)
(.seq (.ops [
.op ⟨(some 4), (.pure (.mv (.const (.slice none 0 0)))), none⟩,
.op ⟨(some 5), (.pure (.mv (.const (.bool false)))), none⟩])
(.ret))
(.skip)))
(.seq (.ops [
.op ⟨(some 6), (.pure (.mv (.const (.slice none 0 0)))), none⟩])
(.seq (.seq (.ops [
.op ⟨(some 7), (.pure (.mv (.const (.int .i64 (1))))), none⟩])
(.block 0 (.loop (.seq (.seq (.ops [
.op ⟨(some 22), (.pure (.mv (.tmp 7))), none⟩,
.op ⟨(some 23), (.pure (.mv (.tmp 1))), none⟩,
.op ⟨(some 24), (.pure (.len (.tmp 23))), none⟩,
.op ⟨(some 25), (.pure (.bin .lss (.tmp 22) (.tmp 24))), none⟩])
(.cond (.tmp 25)
(.skip)
(.exit 0)))
(.seq (.block 1 (.seq (.draw true
(.take ⟨(some 29), (.pure (.mv (.tmp 1))), none⟩
(.take ⟨(some 30), (.pure (.mv (.tmp 7))), none⟩
(.take ⟨(some 31), (.pure (.bin .sub (.tmp 30) (.const (.int .i64 (1))))), none⟩
(.take ⟨(some 32), (.pure (.idx 1 (.tmp 29) (.tmp 31))), none⟩
(.take ⟨(some 34), (.pure (.mv (.tmp 1))), none⟩
(.take ⟨(some 35), (.pure (.mv (.tmp 7))), none⟩
(.take ⟨(some 36), (.pure (.idx 1 (.tmp 34) (.tmp 35))), none⟩
(.take ⟨(some 28), (.load (some 2) (.tmp 2)), none⟩
(.take ⟨(some 33), (.load none (.tmp 32)), none⟩
(.only false ⟨(some 37), (.load none (.tmp 36)), none⟩
(.only true ⟨(some 38), (.eff (.call 157 [(.tmp 28), (.tmp 33), (.tmp 37)])), none⟩
(.take ⟨(some 8), (.pure (.mv (.tmp 38))), none⟩
(.done))))))))))))))
(.seq (.seq (.draw false
(.take ⟨(some 39), (.pure (.mv (.tmp 8))), none⟩
(.take ⟨(some 40), (.pure (.bin .lss (.tmp 39) (.const (.int .i64 (0))))), none⟩
(.take ⟨(some 41), (.pure (.mv (.tmp 40))), none⟩
(.split 41
(.take ⟨(some 42), (.pure (.mv (.tmp 1))), (some (41, false))⟩
(.take ⟨(some 43), (.pure (.mv (.tmp 7))), (some (41, false))⟩
(.take ⟨(some 44), (.pure (.slc 1 (.tmp 42) none (some (.tmp 43)) none)), (some (41, false))⟩
(.take ⟨(some 45), (.pure (.mv (.tmp 1))), (some (41, false))⟩
(.take ⟨(some 46), (.pure (.mv (.tmp 7))), (some (41, false))⟩
(.take ⟨(some 47), (.pure (.idx 1 (.tmp 45) (.tmp 46))), (some (41, false))⟩
(.only false ⟨(some 48), (.load none (.tmp 47)), (some (41, false))⟩
(.only true ⟨(some 49), (.eff (.call 189 [(.tmp 44), (.tmp 48)])), (some (41, false))⟩
(.take ⟨(some 50), (.pure (.pick (.tmp 41) (.const (.bool true)) (.tmp 49))), none⟩
(.done)))))))))))))))
(.cond (.tmp 50)
(.seq (.ops [
.op ⟨(some 4), (.pure (.mv (.const (.slice none 0 0)))), none⟩,
.op ⟨(some 5), (.pure (.mv (.const (.bool false)))), none⟩])
(.ret))
(.skip)))
(.ops [
.op ⟨(some 51), (.pure (.mv (.tmp 6))), none⟩,
.op ⟨(some 52), (.pure (.mv (.tmp 8))), none⟩,
.op ⟨(some 53), (.eff (.row 3 1 [(.int .i64 (0))] [(0, 1, (.tmp 52))])), none⟩,
.op ⟨(some 54), (.eff (.app 3 1 8 (.tmp 51) (.tmp 53))), none⟩,
.op ⟨(some 6), (.pure (.mv (.tmp 54))), none⟩]))))
(.ops [
.op ⟨(some 26), (.pure (.mv (.tmp 7))), none⟩,
.op ⟨(some 27), (.pure (.bin .add (.tmp 26) (.const (.int .i64 (1))))), none⟩,
.op ⟨(some 7), (.pure (.mv (.tmp 27))), none⟩]))))))
(.seq (.ops [
.op ⟨(some 55), (.pure (.mv (.tmp 6))), none⟩,
.op ⟨(some 4), (.pure (.mv (.tmp 55))), none⟩,
.op ⟨(some 5), (.pure (.mv (.const (.bool true)))), none⟩])
(.ret))))),
[.tmp 4, .tmp 5]⟩
theorem r_spec_roLinks : resFun Try.prog f_spec_roLinks = some c_spec_roLinks := by kernel_rfl

/- slices.IndexFunc[[]loop.example/g00940/impl.Link,loop.example/g00940/impl.Link] -/
abbrev f_slices_IndexFunc_Limpl_Link_impl_Link : Nat := 179
def c_slices_IndexFunc_Limpl_Link_impl_Link : MFun := ⟨19, .seq (.ops [
.op ⟨(some 4), (.pure (.mv (.const (.int .i64 (0))))), none⟩])
(.seq (.seq (.ops [
.op ⟨(some 6), (.pure (.mv (.tmp 0))), none⟩,
.op ⟨(some 7), (.pure (.len (.tmp 6))), none⟩,
.op ⟨(some 8), (.pure (.mv (.const (.int .i64 (0))))), none⟩])
(.block 0 (.loop (.seq (.ops [
.op ⟨(some 9), (.pure (.bin .lss (.tmp 8) (.tmp 7))), none⟩])
(.seq (.cond (.tmp 9)
(.skip)
(.exit 0))
(.seq (.block 1 (.seq (.ops [
.op ⟨(some 10), (.pure (.mv (.tmp 8))), none⟩,
.op ⟨(some 5), (.pure (.mv (.tmp 10))), none⟩])
(.seq (.ops [
.op ⟨(some 11), (.pure (.mv (.tmp 1))), none⟩,
.op ⟨(some 12), (.pure (.mv (.tmp 0))), none⟩,
.op ⟨(some 13), (.pure (.mv (.tmp 5))), none⟩,
.op ⟨(some 14), (.pure (.idx 3 (.tmp 12) (.tmp 13))), none⟩,
.op ⟨(some 15), (.load (some 3) (.tmp 14)), none⟩,
.op ⟨(some 16), (.eff (.callv (.tmp 11) [(.tmp 15)])), none⟩])
(.cond (.tmp 16)
(.seq (.ops [
.op ⟨(some 17), (.pure (.mv (.tmp 5))), none⟩,
.op ⟨(some 4), (.pure (.mv (.tmp 17))), none⟩])
(.ret))
(.skip)))))
(.ops [
.op ⟨(some 18), (.pure (.bin .add (.tmp 8) (.const (.int .i64 (1))))), none⟩,
.op ⟨(some 8), (.pure (.mv (.tmp 18))), none⟩])))))))
(.seq (.ops [
.op ⟨(some 4), (.pure (.mv (.const (.int .i64 (-1))))), none⟩])
(.ret))),
[.tmp 4]⟩
theorem r_slices_IndexFunc_Limpl_Link_impl_Link : resFun Try.prog f_slices_IndexFunc_Limpl_Link_impl_Link = some c_slices_IndexFunc_Limpl_Link_impl_Link := by kernel_rfl

/- loop.example/g00940/impl.linkIndex$1 -/
abbrev f_impl_linkIndex_1 : Nat := 180
def c_impl_linkIndex_1 : MFun := ⟨19, .seq (.ops [
.op ⟨(some 3), (.eff (.box 88 (.tmp 0))), none⟩,
.op ⟨(some 4), (.pure (.mv (.const (.bool false)))), none⟩])
(.seq (.ops [
.op ⟨(some 5), (.pure (.fieldAddr 0 (.tmp 3))), none⟩,
.op ⟨(some 6), (.load none (.tmp 5)), none⟩,
.op ⟨(some 7), (.load none (.tmp 1)), none⟩,
.op ⟨(some 8), (.load none (.tmp 2)), none⟩,
.op ⟨(some 9), (.pure (.min2 (.tmp 7) (.tmp 8))), none⟩,
.op ⟨(some 10), (.pure (.bin .eql (.tmp 6) (.tmp 9))), none⟩,
.op ⟨(some 11), (.pure (.mv (.tmp 10))), none⟩,
.split 11,
.op ⟨(some 12), (.pure (.fieldAddr 1 (.tmp 3))), (some (11, true))⟩,
.op ⟨(some 13), (.load none (.tmp 12)), (some (11, true))⟩,
.op ⟨(some 14), (.load none (.tmp 1)), (some (11, true))⟩,
.op ⟨(some 15), (.load none (.tmp 2)), (some (11, true))⟩,
.op ⟨(some 16), (.pure (.max2 (.tmp 14) (.tmp 15))), (some (11, true))⟩,
.op ⟨(some 17), (.pure (.bin .eql (.tmp 13) (.tmp 16))), (some (11, true))⟩,
.op ⟨(some 18), (.pure (.pick (.tmp 11) (.tmp 17) (.const (.bool false)))), none⟩,
.op ⟨(some 4), (.pure (.mv (.tmp 18))), none⟩])
(.ret)),
[.tmp 4]⟩
theorem r_impl_linkIndex_1 : resFun Try.prog f_impl_linkIndex_1 = some c_impl_linkIndex_1 := by kernel_rfl

/- loop.example/g00940/impl.compareLinks -/
abbrev f_impl_compareLinks : Nat := 181
def c_impl_compareLinks : MFun := ⟨17, .seq (.ops [
.op ⟨(some 2), (.eff (.box 88 (.tmp 0))), none⟩,
.op ⟨(some 3), (.eff (.box 88 (.tmp 1))), none⟩,
.op ⟨(some 4), (.pure (.mv (.const (.int .i64 (0))))), none⟩])
(.seq (.draw true
(.take ⟨(some 5), (.pure (.fieldAddr 0 (.tmp 2))), none⟩
(.take ⟨(some 7), (.pure (.fieldAddr 0 (.tmp 3))), none⟩
(.take ⟨(some 10), (.pure (.fieldAddr 1 (.tmp 2))), none⟩
(.take ⟨(some 12), (.pure (.fieldAddr 1 (.tmp 3))), none⟩
(.take ⟨(some 6), (.load none (.tmp 5)), none⟩
(.take ⟨(some 8), (.load none (.tmp 7)), none⟩
(.take ⟨(some 11), (.load none (.tmp 10)), none⟩
(.take ⟨(some 13), (.load none (.tmp 12)), none⟩
(.only false ⟨(some 9), (.eff (.call 195 [(.tmp 6), (.tmp 8)])), none⟩
(.only false ⟨(some 14), (.eff (.call 195 [(.tmp 11), (.tmp 13)])), none⟩
(.only false ⟨(some 15), (.eff (.row 3 2 [(.int .i64 (0)), (.int .i64 (0))] [(0, 1, (.tmp 9)), (1, 1, (.tmp 14))])), none⟩
(.only false ⟨(some 16), (.eff (.call 194 [(.tmp 15)])), none⟩
(.take ⟨(some 4), (.pure (.mv (.tmp 16))), none⟩
(.done)))))))))))))))
(.ret)),
[.tmp 4]⟩
theorem r_impl_compareLinks : resFun Try.prog f_impl_compareLinks = some c_impl_compareLinks := by kernel_rfl

/- loop.example/g00940/impl.allWithin -/
abbrev f_impl_allWithin : Nat := 182
def c_impl_allWithin : MFun := ⟨21, .seq (.ops [
.op ⟨(some 6), (.pure (.mv (.const (.bool false)))), none⟩])
(.seq (.seq (.ops [
.op ⟨(some 9), (.pure (.mv (.tmp 0))), none⟩,
.op ⟨(some 10), (.pure (.len (.tmp 9))), none⟩,
.op ⟨(some 11), (.pure (.mv (.const (.int .i64 (0))))), none⟩])
(.block 0 (.loop (.seq (.ops [
.op ⟨(some 12), (.pure (.bin .lss (.tmp 11) (.tmp 10))), none⟩])
(.seq (.cond (.tmp 12)
(.skip)
(.exit 0))
(.seq (.block 1 (.seq (.ops [
.op ⟨(some 13), (.pure (.idx 1 (.tmp 9) (.tmp 11))), none⟩,
.op ⟨(some 14), (.load none (.tmp 13)), none⟩,
.op ⟨(some 8), (.pure (.mv (.tmp 14))), none⟩])
(.seq (.ops [
.op ⟨(some 15), (.pure (.mv (.tmp 8))), none⟩,
.op ⟨(some 16), (.pure (.mv (.tmp 1))), none⟩,
.op ⟨(some 17), (.pure (.mv (.tmp 2))), none⟩,
.op ⟨(some 18), (.eff (.call 129 [(.tmp 15), (.tmp 16), (.tmp 17)])), none⟩,
.op ⟨(some 19), (.pure (.bnot (.tmp 18))), none⟩])
(.cond (.tmp 19)
(.seq (.ops [
.op ⟨(some 6), (.pure (.mv (.const (.bool false)))), none⟩])
(.ret))
(.skip)))))
(.ops [
.op ⟨(some 20), (.pure (.bin .add (.tmp 11) (.const (.int .i64 (1))))), none⟩,
.op ⟨(some 11), (.pure (.mv (.tmp 20))), none⟩])))))))
(.seq (.ops [
.op ⟨(some 6), (.pure (.mv (.const (.bool true)))), none⟩])
(.ret))),
[.tmp 6]⟩
theorem r_impl_allWithin : resFun Try.prog f_impl_allWithin = some c_impl_allWithin := by kernel_rfl

/- slices.Contains[[]int,int] -/
abbrev f_slices_Contains_Lint_int : Nat := 183
def c_slices_Contains_Lint_int : MFun := ⟨9, .seq (.ops [
.op ⟨(some 4), (.pure (.mv (.const (.bool false)))), none⟩])
(.seq (.ops [
.op ⟨(some 5), (.pure (.mv (.tmp 0))), none⟩,
.op ⟨(some 6), (.pure (.mv (.tmp 1))), none⟩,
.op ⟨(some 7), (.eff (.call 150 [(.tmp 5), (.tmp 6)])), none⟩,
.op ⟨(some 8), (.pure (.bin .geq (.tmp 7) (.const (.int .i64 (0))))), none⟩,
.op ⟨(some 4), (.pure (.mv (.tmp 8))), none⟩])
(.ret)),
[.tmp 4]⟩
theorem r_slices_Contains_Lint_int : resFun Try.prog f_slices_Contains_Lint_int = some c_slices_Contains_Lint_int := by kernel_rfl

/- loop.example/g00940/spec.l1Has -/
abbrev f_spec_l1Has : Nat := 189
def c_spec_l1Has : MFun := ⟨17, .seq (.ops [
.op ⟨(some 4), (.pure (.mv (.const (.bool false)))), none⟩])
(.seq (.seq (.ops [
.op ⟨(some 7), (.pure (.mv (.tmp 0))), none⟩,
.op ⟨(some 8), (.pure (.len (.tmp 7))), none⟩,
.op ⟨(some 9), (.pure (.mv (.const (.int .i64 (0))))), none⟩])
(.block 0 (.loop (.seq (.ops [
.op ⟨(some 10), (.pure (.bin .lss (.tmp 9) (.tmp 8))), none⟩])
(.seq (.cond (.tmp 10)
(.skip)
(.exit 0))
(.seq (.block 1 (.seq (.ops [
.op ⟨(some 11), (.pure (.idx 1 (.tmp 7) (.tmp 9))), none⟩,
.op ⟨(some 12), (.load none (.tmp 11)), none⟩,
.op ⟨(some 6), (.pure (.mv (.tmp 12))), none⟩])
(.seq (.ops [
.op ⟨(some 13), (.pure (.mv (.tmp 6))), none⟩,
.op ⟨(some 14), (.pure (.mv (.tmp 1))), none⟩,
.op ⟨(some 15), (.pure (.bin .eql (.tmp 13) (.tmp 14))), none⟩])
(.cond (.tmp 15)
(.seq (.ops [
.op ⟨(some 4), (.pure (.mv (.const (.bool true)))), none⟩])
(.ret))
(.skip)))))
(.ops [
.op ⟨(some 16), (.pure (.bin .add (.tmp 9) (.const (.int .i64 (1))))), none⟩,
.op ⟨(some 9), (.pure (.mv (.tmp 16))), none⟩])))))))
(.seq (.ops [
.op ⟨(some 4), (.pure (.mv (.const (.bool false)))), none⟩])
(.ret))),
[.tmp 4]⟩
theorem r_spec_l1Has : resFun Try.prog f_spec_l1Has = some c_spec_l1Has := by kernel_rfl

/- cmp.Or[int] -/
abbrev f_cmp_Or_int : Nat := 194
def c_cmp_Or_int : MFun := ⟨18, .seq (.ops [
.op ⟨(some 2), (.pure (.mv (.const (.int .i64 (0))))), none⟩])
(.seq (.ops [
.op ⟨(some 3), (.pure (.mv (.const (.int .i64 (0))))), none⟩])
(.seq (.seq (.ops [
.op ⟨(some 6), (.pure (.mv (.tmp 0))), none⟩,
.op ⟨(some 7), (.pure (.len (.tmp 6))), none⟩,
.op ⟨(some 8), (.pure (.mv (.const (.int .i64 (0))))), none⟩])
(.block 0 (.loop (.seq (.ops [
.op ⟨(some 9), (.pure (.bin .lss (.tmp 8) (.tmp 7))), none⟩])
(.seq (.cond (.tmp 9)
(.skip)
(.exit 0))
(.seq (.block 1 (.seq (.ops [
.op ⟨(some 10), (.pure (.idx 1 (.tmp 6) (.tmp 8))), none⟩,
.op ⟨(some 11), (.load none (.tmp 10)), none⟩,
.op ⟨(some 5), (.pure (.mv (.tmp 11))), none⟩])
(.seq (.ops [
.op ⟨(some 12), (.pure (.mv (.tmp 5))), none⟩,
.op ⟨(some 13), (.pure (.mv (.tmp 3))), none⟩,
.op ⟨(some 14), (.pure (.bin .neq (.tmp 12) (.tmp 13))), none⟩])
(.cond (.tmp 14)
(.seq (.ops [
.op ⟨(some 15), (.pure (.mv (.tmp 5))), none⟩,
.op ⟨(some 2), (.pure (.mv (.tmp 15))), none⟩])
(.ret))
(.skip)))))
(.ops [
.op ⟨(some 16), (.pure (.bin .add (.tmp 8) (.const (.int .i64 (1))))), none⟩,
.op ⟨(some 8), (.pure (.mv (.tmp 16))), none⟩])))))))
(.seq (.ops [
.op ⟨(some 17), (.pure (.mv (.tmp 3))), none⟩,
.op ⟨(some 2), (.pure (.mv (.tmp 17))), none⟩])
(.ret)))),
[.tmp 2]⟩
theorem r_cmp_Or_int : resFun Try.prog f_cmp_Or_int = some c_cmp_Or_int := by kernel_rfl

/- cmp.Compare[int] -/
abbrev f_cmp_Compare_int : Nat := 195
def c_cmp_Compare_int : MFun := ⟨20, .seq (.ops [
.op ⟨(some 4), (.pure (.mv (.const (.int .i64 (0))))), none⟩])
(.seq (.ops [
.op ⟨(some 7), (.pure (.mv (.tmp 0))), none⟩,
.op ⟨(some 8), (.eff (.call 208 [(.tmp 7)])), none⟩,
.op ⟨(some 5), (.pure (.mv (.tmp 8))), none⟩])
(.seq (.ops [
.op ⟨(some 9), (.pure (.mv (.tmp 1))), none⟩,
.op ⟨(some 10), (.eff (.call 208 [(.tmp 9)])), none⟩,
.op ⟨(some 6), (.pure (.mv (.tmp 10))), none⟩])
(.seq (.seq (.ops [
.op ⟨(some 11), (.pure (.mv (.tmp 5))), none⟩])
(.cond (.tmp 11)
(.seq (.seq (.ops [
.op ⟨(some 12), (.pure (.mv (.tmp 6))), none⟩])
(.cond (.tmp 12)
(.seq (.ops [
.op ⟨(some 4), (.pure (.mv (.const (.int .i64 (0))))), none⟩])
(.ret))
(.skip)))
(.seq (.ops [
.op ⟨(some 4), (.pure (.mv (.const (.int .i64 (-1))))), none⟩])
(.ret)))
(.skip)))
(.seq (.seq (.ops [
.op ⟨(some 13), (.pure (.mv (.tmp 6))), none⟩])
(.cond (.tmp 13)
(.seq (.ops [
.op ⟨(some 4), (.pure (.mv (.const (.int .i64 (1))))), none⟩])
(.ret))
(.skip)))
(.seq (.seq (.ops [
.op ⟨(some 14), (.pure (.mv (.tmp 0))), none⟩,
.op ⟨(some 15), (.pure (.mv (.tmp 1))), none⟩,
.op ⟨(some 16), (.pure (.bin .lss (.tmp 14) (.tmp 15))), none⟩])
(.cond (.tmp 16)
(.seq (.ops [
.op ⟨(some 4), (.pure (.mv (.const (.int .i64 (-1))))), none⟩])
(.ret))
(.skip)))
(.seq (.seq (.ops [
.op ⟨(some 17), (.pure (.mv (.tmp 0))), none⟩,
.op ⟨(some 18), (.pure (.mv (.tmp 1))), none⟩,
.op ⟨(some 19), (.pure (.bin .gtr (.tmp 17) (.tmp 18))), none⟩])
(.cond (.tmp 19)
(.seq (.ops [
.op ⟨(some 4), (.pure (.mv (.const (.int .i64 (1))))), none⟩])
(.ret))
(.skip)))
(.seq (.ops [
.op ⟨(some 4), (.pure (.mv (.const (.int .i64 (0))))), none⟩])
(.ret)))))))),
[.tmp 4]⟩
theorem r_cmp_Compare_int : resFun Try.prog f_cmp_Compare_int = some c_cmp_Compare_int := by kernel_rfl

/- loop.example/g00940/spec.l1All -/
abbrev f_spec_l1All : Nat := 196
def c_spec_l1All : MFun := ⟨21, .seq (.ops [
.op ⟨(some 6), (.pure (.mv (.const (.bool false)))), none⟩])
(.seq (.seq (.ops [
.op ⟨(some 9), (.pure (.mv (.tmp 0))), none⟩,
.op ⟨(some 10), (.pure (.len (.tmp 9))), none⟩,
.op ⟨(some 11), (.pure (.mv (.const (.int .i64 (0))))), none⟩])
(.block 0 (.loop (.seq (.ops [
.op ⟨(some 12), (.pure (.bin .lss (.tmp 11) (.tmp 10))), none⟩])
(.seq (.cond (.tmp 12)
(.skip)
(.exit 0))
(.seq (.block 1 (.seq (.ops [
.op ⟨(some 13), (.pure (.idx 1 (.tmp 9) (.tmp 11))), none⟩,
.op ⟨(some 14), (.load none (.tmp 13)), none⟩,
.op ⟨(some 8), (.pure (.mv (.tmp 14))), none⟩])
(.seq (.ops [
.op ⟨(some 15), (.pure (.mv (.tmp 8))), none⟩,
.op ⟨(some 16), (.pure (.mv (.tmp 1))), none⟩,
.op ⟨(some 17), (.pure (.mv (.tmp 2))), none⟩,
.op ⟨(some 18), (.eff (.call 108 [(.tmp 15), (.tmp 16), (.tmp 17)])), none⟩,
.op ⟨(some 19), (.pure (.bnot (.tmp 18))), none⟩])
(.cond (.tmp 19)
(.seq (.ops [
.op ⟨(some 6), (.pure (.mv (.const (.bool false)))), none⟩])
(.ret))
(.skip)))))
(.ops [
.op ⟨(some 20), (.pure (.bin .add (.tmp 11) (.const (.int .i64 (1))))), none⟩,
.op ⟨(some 11), (.pure (.mv (.tmp 20))), none⟩])))))))
(.seq (.ops [
.op ⟨(some 6), (.pure (.mv (.const (.bool true)))), none⟩])
(.ret))),
[.tmp 6]⟩
theorem r_spec_l1All : resFun Try.prog f_spec_l1All = some c_spec_l1All := by kernel_rfl

/- cmp.isNaN[int] -/
abbrev f_cmp_isNaN_int : Nat := 208
def c_cmp_isNaN_int : MFun := ⟨6, .seq (.ops [
.op ⟨(some 2), (.pure (.mv (.const (.bool false)))), none⟩])
(.seq (.ops [
.op ⟨(some 3), (.pure (.mv (.tmp 0))), none⟩,
.op ⟨(some 4), (.pure (.mv (.tmp 0))), none⟩,
.op ⟨(some 5), (.pure (.bin .neq (.tmp 3) (.tmp 4))), none⟩,
.op ⟨(some 2), (.pure (.mv (.tmp 5))), none⟩])
(.ret)),
[.tmp 2]⟩
theorem r_cmp_isNaN_int : resFun Try.prog f_cmp_isNaN_int = some c_cmp_isNaN_int := by kernel_rfl
end Go.Proofs.Ythagdkmalchhgaa
