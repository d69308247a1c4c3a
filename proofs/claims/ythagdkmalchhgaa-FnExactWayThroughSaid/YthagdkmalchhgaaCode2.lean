/- The code of this seat's functions, resolved, written by a program of mine; each is held against the given program by the kernel. Condition: none. -/
import Derived.Test.YthagdkmalchhgaaProg
import Derived.Test.YthagdkmalchhgaaBase9
import Derived.KernelRfl
namespace Go.Proofs.Ythagdkmalchhgaa
open Go.Vc

/- loop.example/g00940/laws.eqIntS -/
abbrev f_laws_eqIntS : Nat := 44
def c_laws_eqIntS : MFun := ⟨26, .seq (.ops [
.op ⟨(some 4), (.pure (.mv (.const (.bool false)))), none⟩])
(.seq (.seq (.ops [
.op ⟨(some 6), (.pure (.mv (.tmp 0))), none⟩,
.op ⟨(some 7), (.pure (.len (.tmp 6))), none⟩,
.op ⟨(some 8), (.pure (.mv (.tmp 1))), none⟩,
.op ⟨(some 9), (.pure (.len (.tmp 8))), none⟩,
.op ⟨(some 10), (.pure (.bin .neq (.tmp 7) (.tmp 9))), none⟩])
(.cond (.tmp 10)
(.seq (.ops [
.op ⟨(some 4), (.pure (.mv (.const (.bool false)))), none⟩])
(.ret))
(.skip)))
(.seq (.seq (.ops [
.op ⟨(some 5), (.pure (.mv (.const (.int .i64 (0))))), none⟩])
(.block 0 (.loop (.seq (.seq (.ops [
.op ⟨(some 11), (.pure (.mv (.tmp 5))), none⟩,
.op ⟨(some 12), (.pure (.mv (.tmp 0))), none⟩,
.op ⟨(some 13), (.pure (.len (.tmp 12))), none⟩,
.op ⟨(some 14), (.pure (.bin .lss (.tmp 11) (.tmp 13))), none⟩])
(.cond (.tmp 14)
(.skip)
(.exit 0)))
(.seq (.block 1 (.seq (.ops [
.op ⟨(some 17), (.pure (.mv (.tmp 0))), none⟩,
.op ⟨(some 18), (.pure (.mv (.tmp 5))), none⟩,
.op ⟨(some 19), (.pure (.idx 1 (.tmp 17) (.tmp 18))), none⟩,
.op ⟨(some 21), (.pure (.mv (.tmp 1))), none⟩,
.op ⟨(some 22), (.pure (.mv (.tmp 5))), none⟩,
.op ⟨(some 23), (.pure (.idx 1 (.tmp 21) (.tmp 22))), none⟩,
.op ⟨(some 20), (.load none (.tmp 19)), none⟩,
.op ⟨(some 24), (.load none (.tmp 23)), none⟩,
.op ⟨(some 25), (.pure (.bin .neq (.tmp 20) (.tmp 24))), none⟩])
(.cond (.tmp 25)
(.seq (.ops [
.op ⟨(some 4), (.pure (.mv (.const (.bool false)))), none⟩])
(.ret))
(.skip))))
(.ops [
.op ⟨(some 15), (.pure (.mv (.tmp 5))), none⟩,
.op ⟨(some 16), (.pure (.bin .add (.tmp 15) (.const (.int .i64 (1))))), none⟩,
.op ⟨(some 5), (.pure (.mv (.tmp 16))), none⟩]))))))
(.seq (.ops [
.op ⟨(some 4), (.pure (.mv (.const (.bool true)))), none⟩])
(.ret)))),
[.tmp 4]⟩
theorem r_laws_eqIntS : resFun Try.prog f_laws_eqIntS = some c_laws_eqIntS := by kernel_rfl

/- loop.example/g00940/laws.markIntS -/
abbrev f_laws_markIntS : Nat := 45
def c_laws_markIntS : MFun := ⟨19, .seq (.ops [
.op ⟨(some 4), (.pure (.mv (.const (.int .i64 (0))))), none⟩])
(.seq (.seq (.ops [
.op ⟨(some 5), (.pure (.mv (.const (.int .i64 (0))))), none⟩])
(.block 0 (.loop (.seq (.seq (.ops [
.op ⟨(some 6), (.pure (.mv (.tmp 5))), none⟩,
.op ⟨(some 7), (.pure (.mv (.tmp 0))), none⟩,
.op ⟨(some 8), (.pure (.len (.tmp 7))), none⟩,
.op ⟨(some 9), (.pure (.bin .lss (.tmp 6) (.tmp 8))), none⟩])
(.cond (.tmp 9)
(.skip)
(.exit 0)))
(.seq (.block 1 (.seq (.ops [
.op ⟨(some 12), (.pure (.mv (.tmp 0))), none⟩,
.op ⟨(some 13), (.pure (.mv (.tmp 5))), none⟩,
.op ⟨(some 14), (.pure (.mv (.tmp 1))), none⟩,
.op ⟨(some 15), (.pure (.idx 1 (.tmp 12) (.tmp 13))), none⟩,
.op ⟨none, (.eff (.store 1 (.tmp 15) (.tmp 14))), none⟩])
(.ops [
.op ⟨(some 16), (.pure (.mv (.tmp 1))), none⟩,
.op ⟨(some 17), (.pure (.bin .add (.tmp 16) (.const (.int .i64 (1))))), none⟩,
.op ⟨(some 1), (.pure (.mv (.tmp 17))), none⟩])))
(.ops [
.op ⟨(some 10), (.pure (.mv (.tmp 5))), none⟩,
.op ⟨(some 11), (.pure (.bin .add (.tmp 10) (.const (.int .i64 (1))))), none⟩,
.op ⟨(some 5), (.pure (.mv (.tmp 11))), none⟩]))))))
(.seq (.ops [
.op ⟨(some 18), (.pure (.mv (.tmp 1))), none⟩,
.op ⟨(some 4), (.pure (.mv (.tmp 18))), none⟩])
(.ret))),
[.tmp 4]⟩
theorem r_laws_markIntS : resFun Try.prog f_laws_markIntS = some c_laws_markIntS := by kernel_rfl

/- loop.example/g00940/laws.heldIntS -/
abbrev f_laws_heldIntS : Nat := 46
def c_laws_heldIntS : MFun := ⟨21, .seq (.ops [
.op ⟨(some 4), (.pure (.mv (.const (.int .i64 (0))))), none⟩])
(.seq (.seq (.ops [
.op ⟨(some 5), (.pure (.mv (.const (.int .i64 (0))))), none⟩])
(.block 0 (.loop (.seq (.seq (.ops [
.op ⟨(some 6), (.pure (.mv (.tmp 5))), none⟩,
.op ⟨(some 7), (.pure (.mv (.tmp 0))), none⟩,
.op ⟨(some 8), (.pure (.len (.tmp 7))), none⟩,
.op ⟨(some 9), (.pure (.bin .lss (.tmp 6) (.tmp 8))), none⟩])
(.cond (.tmp 9)
(.skip)
(.exit 0)))
(.seq (.block 1 (.seq (.seq (.ops [
.op ⟨(some 12), (.pure (.mv (.tmp 0))), none⟩,
.op ⟨(some 13), (.pure (.mv (.tmp 5))), none⟩,
.op ⟨(some 14), (.pure (.idx 1 (.tmp 12) (.tmp 13))), none⟩,
.op ⟨(some 15), (.load none (.tmp 14)), none⟩,
.op ⟨(some 16), (.pure (.mv (.tmp 1))), none⟩,
.op ⟨(some 17), (.pure (.bin .neq (.tmp 15) (.tmp 16))), none⟩])
(.cond (.tmp 17)
(.seq (.ops [
.op ⟨(some 4), (.pure (.mv (.const (.int .i64 (-1))))), none⟩])
(.ret))
(.skip)))
(.ops [
.op ⟨(some 18), (.pure (.mv (.tmp 1))), none⟩,
.op ⟨(some 19), (.pure (.bin .add (.tmp 18) (.const (.int .i64 (1))))), none⟩,
.op ⟨(some 1), (.pure (.mv (.tmp 19))), none⟩])))
(.ops [
.op ⟨(some 10), (.pure (.mv (.tmp 5))), none⟩,
.op ⟨(some 11), (.pure (.bin .add (.tmp 10) (.const (.int .i64 (1))))), none⟩,
.op ⟨(some 5), (.pure (.mv (.tmp 11))), none⟩]))))))
(.seq (.ops [
.op ⟨(some 20), (.pure (.mv (.tmp 1))), none⟩,
.op ⟨(some 4), (.pure (.mv (.tmp 20))), none⟩])
(.ret))),
[.tmp 4]⟩
theorem r_laws_heldIntS : resFun Try.prog f_laws_heldIntS = some c_laws_heldIntS := by kernel_rfl

/- loop.example/g00940/spec.ArrivalAlong -/
abbrev f_spec_ArrivalAlong : Nat := 47
def c_spec_ArrivalAlong : MFun := ⟨24, .seq (.ops [
.op ⟨(some 4), (.eff (.box 32 (.tmp 0))), none⟩,
.op ⟨(some 8), (.pure (.mv (.const (.int .i64 (0))))), none⟩,
.op ⟨(some 9), (.pure (.mv (.const (.bool false)))), none⟩])
(.seq (.ops [
.op ⟨(some 14), (.load (some 2) (.tmp 4)), none⟩,
.op ⟨(some 15), (.pure (.mv (.tmp 1))), none⟩,
.op ⟨(some 16), (.pure (.mv (.tmp 2))), none⟩,
.op ⟨(some 17), (.pure (.mv (.tmp 3))), none⟩,
.op ⟨(some 18), (.eff (.call 123 [(.tmp 14), (.tmp 15), (.tmp 16), (.tmp 17)])), none⟩,
.op ⟨(some 13), (.pure (.mv (.tmp 18))), none⟩,
.op ⟨(some 19), (.pure (.ext 0 (.tmp 13))), none⟩,
.op ⟨(some 20), (.pure (.ext 1 (.tmp 13))), none⟩,
.op ⟨(some 21), (.pure (.ext 2 (.tmp 13))), none⟩,
.op ⟨(some 10), (.pure (.mv (.tmp 19))), none⟩,
.op ⟨(some 11), (.pure (.mv (.tmp 20))), none⟩,
.op ⟨(some 12), (.pure (.mv (.tmp 21))), none⟩])
(.seq (.ops [
.op ⟨(some 22), (.pure (.mv (.tmp 10))), none⟩,
.op ⟨(some 23), (.pure (.mv (.tmp 12))), none⟩,
.op ⟨(some 8), (.pure (.mv (.tmp 22))), none⟩,
.op ⟨(some 9), (.pure (.mv (.tmp 23))), none⟩])
(.ret))),
[.tmp 8, .tmp 9]⟩
theorem r_spec_ArrivalAlong : resFun Try.prog f_spec_ArrivalAlong = some c_spec_ArrivalAlong := by kernel_rfl

/- loop.example/g00940/laws.toIntS -/
abbrev f_laws_toIntS : Nat := 48
def c_laws_toIntS : MFun := ⟨22, .seq (.ops [
.op ⟨(some 2), (.pure (.mv (.const (.slice none 0 0)))), none⟩])
(.seq (.ops [
.op ⟨(some 5), (.pure (.mv (.tmp 0))), none⟩,
.op ⟨(some 6), (.pure (.len (.tmp 5))), none⟩,
.op ⟨(some 7), (.eff (.mk 3 1 8 [(.int .i64 (0))] (.tmp 6) (.tmp 6))), none⟩,
.op ⟨(some 3), (.pure (.mv (.tmp 7))), none⟩])
(.seq (.seq (.ops [
.op ⟨(some 4), (.pure (.mv (.const (.int .i64 (0))))), none⟩])
(.block 0 (.loop (.seq (.seq (.ops [
.op ⟨(some 8), (.pure (.mv (.tmp 4))), none⟩,
.op ⟨(some 9), (.pure (.mv (.tmp 0))), none⟩,
.op ⟨(some 10), (.pure (.len (.tmp 9))), none⟩,
.op ⟨(some 11), (.pure (.bin .lss (.tmp 8) (.tmp 10))), none⟩])
(.cond (.tmp 11)
(.skip)
(.exit 0)))
(.seq (.block 1 (.ops [
.op ⟨(some 14), (.pure (.mv (.tmp 3))), none⟩,
.op ⟨(some 15), (.pure (.mv (.tmp 4))), none⟩,
.op ⟨(some 16), (.pure (.mv (.tmp 0))), none⟩,
.op ⟨(some 17), (.pure (.mv (.tmp 4))), none⟩,
.op ⟨(some 18), (.pure (.idx 1 (.tmp 16) (.tmp 17))), none⟩,
.op ⟨(some 19), (.load none (.tmp 18)), none⟩,
.op ⟨(some 20), (.pure (.idx 1 (.tmp 14) (.tmp 15))), none⟩,
.op ⟨none, (.eff (.store 1 (.tmp 20) (.tmp 19))), none⟩]))
(.ops [
.op ⟨(some 12), (.pure (.mv (.tmp 4))), none⟩,
.op ⟨(some 13), (.pure (.bin .add (.tmp 12) (.const (.int .i64 (1))))), none⟩,
.op ⟨(some 4), (.pure (.mv (.tmp 13))), none⟩]))))))
(.seq (.ops [
.op ⟨(some 21), (.pure (.mv (.tmp 3))), none⟩,
.op ⟨(some 2), (.pure (.mv (.tmp 21))), none⟩])
(.ret)))),
[.tmp 2]⟩
theorem r_laws_toIntS : resFun Try.prog f_laws_toIntS = some c_laws_toIntS := by kernel_rfl

/- loop.example/g00940/impl.ArrivalAlong -/
abbrev f_impl_ArrivalAlong : Nat := 49
def c_impl_ArrivalAlong : MFun := ⟨53, .seq (.ops [
.op ⟨(some 4), (.eff (.box 32 (.tmp 0))), none⟩,
.op ⟨(some 8), (.pure (.mv (.const (.int .i64 (0))))), none⟩,
.op ⟨(some 9), (.pure (.mv (.const (.bool false)))), none⟩])
(.seq (.ops [
.op ⟨(some 15), (.load (some 2) (.tmp 4)), none⟩,
.op ⟨(some 16), (.pure (.mv (.tmp 1))), none⟩,
.op ⟨(some 17), (.pure (.mv (.tmp 2))), none⟩,
.op ⟨(some 18), (.pure (.mv (.tmp 3))), none⟩,
.op ⟨(some 19), (.eff (.call 53 [(.tmp 15), (.tmp 16), (.tmp 17), (.tmp 18)])), none⟩,
.op ⟨(some 14), (.pure (.mv (.tmp 19))), none⟩,
.op ⟨(some 20), (.pure (.ext 0 (.tmp 14))), none⟩,
.op ⟨(some 21), (.pure (.ext 1 (.tmp 14))), none⟩,
.op ⟨(some 10), (.pure (.mv (.tmp 20))), none⟩,
.op ⟨(some 11), (.pure (.mv (.tmp 21))), none⟩])
(.seq (.seq (.ops [
.op ⟨(some 22), (.pure (.mv (.tmp 11))), none⟩,
.op ⟨(some 23), (.pure (.bnot (.tmp 22))), none⟩])
(.cond (.tmp 23)
(.seq (.ops [
.op ⟨(some 8), (.pure (.mv (.const (.int .i64 (0))))), none⟩,
.op ⟨(some 9), (.pure (.mv (.const (.bool false)))), none⟩])
(.ret))
(.skip)))
(.seq (.seq (.ops [
.op ⟨(some 24), (.pure (.mv (.tmp 10))), none⟩,
.op ⟨(some 25), (.pure (.len (.tmp 24))), none⟩,
.op ⟨(some 26), (.pure (.mv (.const (.int .i64 (0))))), none⟩])
(.block 0 (.loop (.seq (.ops [
.op ⟨(some 27), (.pure (.bin .lss (.tmp 26) (.tmp 25))), none⟩])
(.seq (.cond (.tmp 27)
(.skip)
(.exit 0))
(.seq (.block 1 (.seq (.ops [
.op ⟨(some 28), (.pure (.mv (.tmp 26))), none⟩,
.op ⟨(some 29), (.pure (.idx 1 (.tmp 24) (.tmp 26))), none⟩,
.op ⟨(some 30), (.load none (.tmp 29)), none⟩,
.op ⟨(some 12), (.pure (.mv (.tmp 28))), none⟩,
.op ⟨(some 13), (.pure (.mv (.tmp 30))), none⟩])
(.draw true
(.take ⟨(some 31), (.pure (.mv (.tmp 3))), none⟩
(.take ⟨(some 32), (.pure (.mv (.tmp 13))), none⟩
(.take ⟨(some 33), (.pure (.fieldAddr 1 (.tmp 4))), none⟩
(.take ⟨(some 36), (.pure (.mv (.tmp 2))), none⟩
(.take ⟨(some 37), (.pure (.mv (.tmp 12))), none⟩
(.take ⟨(some 38), (.pure (.idx 1 (.tmp 36) (.tmp 37))), none⟩
(.take ⟨(some 40), (.pure (.mv (.tmp 2))), none⟩
(.take ⟨(some 41), (.pure (.mv (.tmp 12))), none⟩
(.take ⟨(some 42), (.pure (.bin .add (.tmp 41) (.const (.int .i64 (1))))), none⟩
(.take ⟨(some 43), (.pure (.idx 1 (.tmp 40) (.tmp 42))), none⟩
(.take ⟨(some 34), (.load none (.tmp 33)), none⟩
(.take ⟨(some 35), (.load (some 2) (.tmp 4)), none⟩
(.take ⟨(some 39), (.load none (.tmp 38)), none⟩
(.only false ⟨(some 44), (.load none (.tmp 43)), none⟩
(.only false ⟨(some 45), (.eff (.call 124 [(.tmp 35), (.tmp 39), (.tmp 44)])), none⟩
(.take ⟨(some 46), (.pure (.idx 3 (.tmp 34) (.tmp 45))), none⟩
(.take ⟨(some 47), (.pure (.fieldAddr 2 (.tmp 46))), none⟩
(.only false ⟨(some 48), (.load none (.tmp 47)), none⟩
(.take ⟨(some 49), (.pure (.bin .add (.tmp 32) (.tmp 48))), none⟩
(.take ⟨(some 50), (.pure (.bin .add (.tmp 31) (.tmp 49))), none⟩
(.take ⟨(some 3), (.pure (.mv (.tmp 50))), none⟩
(.done)))))))))))))))))))))))))
(.ops [
.op ⟨(some 51), (.pure (.bin .add (.tmp 26) (.const (.int .i64 (1))))), none⟩,
.op ⟨(some 26), (.pure (.mv (.tmp 51))), none⟩])))))))
(.seq (.ops [
.op ⟨(some 52), (.pure (.mv (.tmp 3))), none⟩,
.op ⟨(some 8), (.pure (.mv (.tmp 52))), none⟩,
.op ⟨(some 9), (.pure (.mv (.const (.bool true)))), none⟩])
(.ret))))),
[.tmp 8, .tmp 9]⟩
theorem r_impl_ArrivalAlong : resFun Try.prog f_impl_ArrivalAlong = some c_impl_ArrivalAlong := by kernel_rfl

/- loop.example/g00940/spec.ArrivalsFrom -/
abbrev f_spec_ArrivalsFrom : Nat := 50
def c_spec_ArrivalsFrom : MFun := ⟨26, .seq (.ops [
.op ⟨(some 4), (.eff (.box 32 (.tmp 0))), none⟩,
.op ⟨(some 8), (.pure (.mv (.const (.slice none 0 0)))), none⟩,
.op ⟨(some 9), (.pure (.mv (.const (.bool false)))), none⟩])
(.seq (.seq (.ops [
.op ⟨(some 10), (.load (some 2) (.tmp 4)), none⟩,
.op ⟨(some 11), (.pure (.mv (.tmp 1))), none⟩,
.op ⟨(some 12), (.pure (.mv (.tmp 3))), none⟩,
.op ⟨(some 13), (.eff (.call 125 [(.tmp 10), (.tmp 11), (.tmp 12)])), none⟩,
.op ⟨(some 14), (.pure (.bnot (.tmp 13))), none⟩,
.op ⟨(some 15), (.pure (.mv (.tmp 14))), none⟩,
.split 15,
.op ⟨(some 16), (.load (some 2) (.tmp 4)), (some (15, false))⟩,
.op ⟨(some 17), (.pure (.mv (.tmp 2))), (some (15, false))⟩,
.op ⟨(some 18), (.eff (.call 126 [(.tmp 16), (.tmp 17)])), (some (15, false))⟩,
.op ⟨(some 19), (.pure (.bnot (.tmp 18))), (some (15, false))⟩,
.op ⟨(some 20), (.pure (.pick (.tmp 15) (.const (.bool true)) (.tmp 19))), none⟩])
(.cond (.tmp 20)
(.seq (.ops [
.op ⟨(some 8), (.pure (.mv (.const (.slice none 0 0)))), none⟩,
.op ⟨(some 9), (.pure (.mv (.const (.bool false)))), none⟩])
(.ret))
(.skip)))
(.seq (.ops [
.op ⟨(some 21), (.load (some 2) (.tmp 4)), none⟩,
.op ⟨(some 22), (.pure (.mv (.tmp 1))), none⟩,
.op ⟨(some 23), (.pure (.mv (.tmp 2))), none⟩,
.op ⟨(some 24), (.pure (.mv (.tmp 3))), none⟩,
.op ⟨(some 25), (.eff (.call 113 [(.tmp 21), (.tmp 22), (.tmp 23), (.tmp 24)])), none⟩,
.op ⟨(some 8), (.pure (.mv (.tmp 25))), none⟩,
.op ⟨(some 9), (.pure (.mv (.const (.bool true)))), none⟩])
(.ret))),
[.tmp 8, .tmp 9]⟩
theorem r_spec_ArrivalsFrom : resFun Try.prog f_spec_ArrivalsFrom = some c_spec_ArrivalsFrom := by kernel_rfl

/- loop.example/g00940/impl.ArrivalsFrom -/
abbrev f_impl_ArrivalsFrom : Nat := 51
def c_impl_ArrivalsFrom : MFun := ⟨22, .seq (.ops [
.op ⟨(some 4), (.eff (.box 32 (.tmp 0))), none⟩,
.op ⟨(some 8), (.pure (.mv (.const (.slice none 0 0)))), none⟩,
.op ⟨(some 9), (.pure (.mv (.const (.bool false)))), none⟩])
(.seq (.seq (.ops [
.op ⟨(some 10), (.load (some 2) (.tmp 4)), none⟩,
.op ⟨(some 11), (.pure (.mv (.tmp 1))), none⟩,
.op ⟨(some 12), (.pure (.mv (.tmp 2))), none⟩,
.op ⟨(some 13), (.pure (.mv (.tmp 2))), none⟩,
.op ⟨(some 14), (.pure (.mv (.tmp 3))), none⟩,
.op ⟨(some 15), (.eff (.call 115 [(.tmp 10), (.tmp 11), (.tmp 12), (.tmp 13), (.tmp 14)])), none⟩,
.op ⟨(some 16), (.pure (.bnot (.tmp 15))), none⟩])
(.cond (.tmp 16)
(.seq (.ops [
.op ⟨(some 8), (.pure (.mv (.const (.slice none 0 0)))), none⟩,
.op ⟨(some 9), (.pure (.mv (.const (.bool false)))), none⟩])
(.ret))
(.skip)))
(.seq (.ops [
.op ⟨(some 17), (.load (some 2) (.tmp 4)), none⟩,
.op ⟨(some 18), (.pure (.mv (.tmp 1))), none⟩,
.op ⟨(some 19), (.pure (.mv (.tmp 2))), none⟩,
.op ⟨(some 20), (.pure (.mv (.tmp 3))), none⟩,
.op ⟨(some 21), (.eff (.call 116 [(.tmp 17), (.tmp 18), (.tmp 19), (.tmp 20)])), none⟩,
.op ⟨(some 8), (.pure (.mv (.tmp 21))), none⟩,
.op ⟨(some 9), (.pure (.mv (.const (.bool true)))), none⟩])
(.ret))),
[.tmp 8, .tmp 9]⟩
theorem r_impl_ArrivalsFrom : resFun Try.prog f_impl_ArrivalsFrom = some c_impl_ArrivalsFrom := by kernel_rfl

/- loop.example/g00940/spec.WaitsAlong -/
abbrev f_spec_WaitsAlong : Nat := 52
def c_spec_WaitsAlong : MFun := ⟨24, .seq (.ops [
.op ⟨(some 4), (.eff (.box 32 (.tmp 0))), none⟩,
.op ⟨(some 8), (.pure (.mv (.const (.slice none 0 0)))), none⟩,
.op ⟨(some 9), (.pure (.mv (.const (.bool false)))), none⟩])
(.seq (.ops [
.op ⟨(some 14), (.load (some 2) (.tmp 4)), none⟩,
.op ⟨(some 15), (.pure (.mv (.tmp 1))), none⟩,
.op ⟨(some 16), (.pure (.mv (.tmp 2))), none⟩,
.op ⟨(some 17), (.pure (.mv (.tmp 3))), none⟩,
.op ⟨(some 18), (.eff (.call 123 [(.tmp 14), (.tmp 15), (.tmp 16), (.tmp 17)])), none⟩,
.op ⟨(some 13), (.pure (.mv (.tmp 18))), none⟩,
.op ⟨(some 19), (.pure (.ext 0 (.tmp 13))), none⟩,
.op ⟨(some 20), (.pure (.ext 1 (.tmp 13))), none⟩,
.op ⟨(some 21), (.pure (.ext 2 (.tmp 13))), none⟩,
.op ⟨(some 10), (.pure (.mv (.tmp 19))), none⟩,
.op ⟨(some 11), (.pure (.mv (.tmp 20))), none⟩,
.op ⟨(some 12), (.pure (.mv (.tmp 21))), none⟩])
(.seq (.ops [
.op ⟨(some 22), (.pure (.mv (.tmp 11))), none⟩,
.op ⟨(some 23), (.pure (.mv (.tmp 12))), none⟩,
.op ⟨(some 8), (.pure (.mv (.tmp 22))), none⟩,
.op ⟨(some 9), (.pure (.mv (.tmp 23))), none⟩])
(.ret))),
[.tmp 8, .tmp 9]⟩
theorem r_spec_WaitsAlong : resFun Try.prog f_spec_WaitsAlong = some c_spec_WaitsAlong := by kernel_rfl

/- loop.example/g00940/impl.WaitsAlong -/
abbrev f_impl_WaitsAlong : Nat := 53
def c_impl_WaitsAlong : MFun := ⟨72, .seq (.ops [
.op ⟨(some 4), (.eff (.box 32 (.tmp 0))), none⟩,
.op ⟨(some 8), (.pure (.mv (.const (.slice none 0 0)))), none⟩,
.op ⟨(some 9), (.pure (.mv (.const (.bool false)))), none⟩])
(.seq (.seq (.ops [
.op ⟨(some 14), (.load (some 2) (.tmp 4)), none⟩,
.op ⟨(some 15), (.eff (.call 127 [(.tmp 14)])), none⟩,
.op ⟨(some 16), (.pure (.bnot (.tmp 15))), none⟩,
.op ⟨(some 17), (.pure (.mv (.tmp 16))), none⟩,
.split 17,
.op ⟨(some 18), (.load (some 2) (.tmp 4)), (some (17, false))⟩,
.op ⟨(some 19), (.pure (.mv (.tmp 1))), (some (17, false))⟩,
.op ⟨(some 20), (.eff (.call 128 [(.tmp 18), (.tmp 19)])), (some (17, false))⟩,
.op ⟨(some 21), (.pure (.bnot (.tmp 20))), (some (17, false))⟩,
.op ⟨(some 22), (.pure (.pick (.tmp 17) (.const (.bool true)) (.tmp 21))), none⟩,
.op ⟨(some 23), (.pure (.mv (.tmp 22))), none⟩,
.split 23,
.op ⟨(some 24), (.pure (.mv (.tmp 3))), (some (23, false))⟩,
.op ⟨(some 25), (.eff (.call 129 [(.tmp 24), (.const (.int .i64 (0))), (.const (.int .i64 (10000)))])), (some (23, false))⟩,
.op ⟨(some 26), (.pure (.bnot (.tmp 25))), (some (23, false))⟩,
.op ⟨(some 27), (.pure (.pick (.tmp 23) (.const (.bool true)) (.tmp 26))), none⟩,
.op ⟨(some 28), (.pure (.mv (.tmp 27))), none⟩,
.split 28,
.op ⟨(some 29), (.load (some 2) (.tmp 4)), (some (28, false))⟩,
.op ⟨(some 30), (.pure (.mv (.tmp 2))), (some (28, false))⟩,
.op ⟨(some 31), (.eff (.call 130 [(.tmp 29), (.tmp 30)])), (some (28, false))⟩,
.op ⟨(some 32), (.pure (.bnot (.tmp 31))), (some (28, false))⟩,
.op ⟨(some 33), (.pure (.pick (.tmp 28) (.const (.bool true)) (.tmp 32))), none⟩])
(.cond (.tmp 33)
(.seq (.ops [
.op ⟨(some 8), (.pure (.mv (.const (.slice none 0 0)))), none⟩,
.op ⟨(some 9), (.pure (.mv (.const (.bool false)))), none⟩])
(.ret))
(.skip)))
(.seq (.ops [
.op ⟨(some 10), (.pure (.mv (.const (.slice none 0 0)))), none⟩])
(.seq (.seq (.ops [
.op ⟨(some 34), (.pure (.mv (.tmp 2))), none⟩,
.op ⟨(some 35), (.pure (.len (.tmp 34))), none⟩,
.op ⟨(some 36), (.pure (.bin .sub (.tmp 35) (.const (.int .i64 (1))))), none⟩,
.op ⟨(some 37), (.pure (.mv (.const (.int .i64 (0))))), none⟩])
(.block 0 (.loop (.seq (.ops [
.op ⟨(some 38), (.pure (.bin .lss (.tmp 37) (.tmp 36))), none⟩])
(.seq (.cond (.tmp 38)
(.skip)
(.exit 0))
(.seq (.block 1 (.seq (.ops [
.op ⟨(some 39), (.pure (.mv (.tmp 37))), none⟩,
.op ⟨(some 11), (.pure (.mv (.tmp 39))), none⟩])
(.seq (.draw true
(.take ⟨(some 41), (.pure (.mv (.tmp 2))), none⟩
(.take ⟨(some 42), (.pure (.mv (.tmp 11))), none⟩
(.take ⟨(some 43), (.pure (.idx 1 (.tmp 41) (.tmp 42))), none⟩
(.take ⟨(some 45), (.pure (.mv (.tmp 2))), none⟩
(.take ⟨(some 46), (.pure (.mv (.tmp 11))), none⟩
(.take ⟨(some 47), (.pure (.bin .add (.tmp 46) (.const (.int .i64 (1))))), none⟩
(.take ⟨(some 48), (.pure (.idx 1 (.tmp 45) (.tmp 47))), none⟩
(.take ⟨(some 40), (.load (some 2) (.tmp 4)), none⟩
(.take ⟨(some 44), (.load none (.tmp 43)), none⟩
(.only false ⟨(some 49), (.load none (.tmp 48)), none⟩
(.only true ⟨(some 50), (.eff (.call 124 [(.tmp 40), (.tmp 44), (.tmp 49)])), none⟩
(.take ⟨(some 12), (.pure (.mv (.tmp 50))), none⟩
(.done))))))))))))))
(.seq (.ops [
.op ⟨(some 51), (.load (some 2) (.tmp 4)), none⟩,
.op ⟨(some 52), (.pure (.mv (.tmp 1))), none⟩,
.op ⟨(some 53), (.pure (.mv (.tmp 12))), none⟩,
.op ⟨(some 54), (.pure (.mv (.tmp 3))), none⟩,
.op ⟨(some 55), (.eff (.call 131 [(.tmp 51), (.tmp 52), (.tmp 53), (.tmp 54)])), none⟩,
.op ⟨(some 13), (.pure (.mv (.tmp 55))), none⟩])
(.seq (.ops [
.op ⟨(some 56), (.pure (.mv (.tmp 10))), none⟩,
.op ⟨(some 57), (.pure (.mv (.tmp 13))), none⟩,
.op ⟨(some 58), (.pure (.mv (.tmp 3))), none⟩,
.op ⟨(some 59), (.pure (.bin .sub (.tmp 57) (.tmp 58))), none⟩,
.op ⟨(some 60), (.pure (.fieldAddr 1 (.tmp 4))), none⟩,
.op ⟨(some 61), (.load none (.tmp 60)), none⟩,
.op ⟨(some 62), (.pure (.mv (.tmp 12))), none⟩,
.op ⟨(some 63), (.pure (.idx 3 (.tmp 61) (.tmp 62))), none⟩,
.op ⟨(some 64), (.pure (.fieldAddr 2 (.tmp 63))), none⟩,
.op ⟨(some 65), (.load none (.tmp 64)), none⟩,
.op ⟨(some 66), (.pure (.bin .sub (.tmp 59) (.tmp 65))), none⟩,
.op ⟨(some 67), (.eff (.row 3 1 [(.int .i64 (0))] [(0, 1, (.tmp 66))])), none⟩,
.op ⟨(some 68), (.eff (.app 3 1 8 (.tmp 56) (.tmp 67))), none⟩,
.op ⟨(some 10), (.pure (.mv (.tmp 68))), none⟩])
(.ops [
.op ⟨(some 69), (.pure (.mv (.tmp 13))), none⟩,
.op ⟨(some 3), (.pure (.mv (.tmp 69))), none⟩]))))))
(.ops [
.op ⟨(some 70), (.pure (.bin .add (.tmp 37) (.const (.int .i64 (1))))), none⟩,
.op ⟨(some 37), (.pure (.mv (.tmp 70))), none⟩])))))))
(.seq (.ops [
.op ⟨(some 71), (.pure (.mv (.tmp 10))), none⟩,
.op ⟨(some 8), (.pure (.mv (.tmp 71))), none⟩,
.op ⟨(some 9), (.pure (.mv (.const (.bool true)))), none⟩])
(.ret))))),
[.tmp 8, .tmp 9]⟩
theorem r_impl_WaitsAlong : resFun Try.prog f_impl_WaitsAlong = some c_impl_WaitsAlong := by kernel_rfl

/- loop.example/g00940/spec.WayThrough -/
abbrev f_spec_WayThrough : Nat := 54
def c_spec_WayThrough : MFun := ⟨46, .seq (.ops [
.op ⟨(some 5), (.eff (.box 32 (.tmp 0))), none⟩,
.op ⟨(some 10), (.pure (.mv (.const (.slice none 0 0)))), none⟩,
.op ⟨(some 11), (.pure (.mv (.const (.bool false)))), none⟩])
(.seq (.seq (.ops [
.op ⟨(some 14), (.load (some 2) (.tmp 5)), none⟩,
.op ⟨(some 15), (.pure (.mv (.tmp 1))), none⟩,
.op ⟨(some 16), (.pure (.mv (.tmp 2))), none⟩,
.op ⟨(some 17), (.pure (.mv (.tmp 3))), none⟩,
.op ⟨(some 18), (.pure (.mv (.tmp 4))), none⟩,
.op ⟨(some 19), (.eff (.call 112 [(.tmp 14), (.tmp 15), (.tmp 16), (.tmp 17), (.tmp 18)])), none⟩,
.op ⟨(some 20), (.pure (.bnot (.tmp 19))), none⟩])
(.cond (.tmp 20)
(.seq (.ops [
.op ⟨(some 10), (.pure (.mv (.const (.slice none 0 0)))), none⟩,
.op ⟨(some 11), (.pure (.mv (.const (.bool false)))), none⟩])
(.ret))
(.skip)))
(.seq (.ops [
.op ⟨(some 21), (.load (some 2) (.tmp 5)), none⟩,
.op ⟨(some 22), (.pure (.mv (.tmp 1))), none⟩,
.op ⟨(some 23), (.pure (.mv (.tmp 2))), none⟩,
.op ⟨(some 24), (.pure (.mv (.tmp 4))), none⟩,
.op ⟨(some 25), (.eff (.call 113 [(.tmp 21), (.tmp 22), (.tmp 23), (.tmp 24)])), none⟩,
.op ⟨(some 12), (.pure (.mv (.tmp 25))), none⟩])
(.seq (.seq (.ops [
.op ⟨(some 26), (.pure (.mv (.tmp 12))), none⟩,
.op ⟨(some 27), (.pure (.mv (.tmp 3))), none⟩,
.op ⟨(some 28), (.pure (.idx 1 (.tmp 26) (.tmp 27))), none⟩,
.op ⟨(some 29), (.load none (.tmp 28)), none⟩,
.op ⟨(some 30), (.pure (.bin .lss (.tmp 29) (.const (.int .i64 (0))))), none⟩])
(.cond (.tmp 30)
(.seq (.ops [
.op ⟨(some 10), (.pure (.mv (.const (.slice none 0 0)))), none⟩,
.op ⟨(some 11), (.pure (.mv (.const (.bool false)))), none⟩])
(.ret))
(.skip)))
(.seq (.ops [
.op ⟨(some 31), (.pure (.mv (.tmp 3))), none⟩,
.op ⟨(some 32), (.eff (.row 3 1 [(.int .i64 (0))] [(0, 1, (.tmp 31))])), none⟩,
.op ⟨(some 13), (.pure (.mv (.tmp 32))), none⟩])
(.seq (.block 0 (.loop (.seq (.seq (.ops [
.op ⟨(some 33), (.pure (.mv (.tmp 3))), none⟩,
.op ⟨(some 34), (.pure (.mv (.tmp 2))), none⟩,
.op ⟨(some 35), (.pure (.bin .neq (.tmp 33) (.tmp 34))), none⟩])
(.cond (.tmp 35)
(.skip)
(.exit 0)))
(.block 1 (.seq (.ops [
.op ⟨(some 36), (.load (some 2) (.tmp 5)), none⟩,
.op ⟨(some 37), (.pure (.mv (.tmp 1))), none⟩,
.op ⟨(some 38), (.pure (.mv (.tmp 12))), none⟩,
.op ⟨(some 39), (.pure (.mv (.tmp 3))), none⟩,
.op ⟨(some 40), (.eff (.call 132 [(.tmp 36), (.tmp 37), (.tmp 38), (.tmp 39)])), none⟩,
.op ⟨(some 3), (.pure (.mv (.tmp 40))), none⟩])
(.ops [
.op ⟨(some 41), (.pure (.mv (.tmp 3))), none⟩,
.op ⟨(some 42), (.eff (.row 3 1 [(.int .i64 (0))] [(0, 1, (.tmp 41))])), none⟩,
.op ⟨(some 43), (.pure (.mv (.tmp 13))), none⟩,
.op ⟨(some 44), (.eff (.app 3 1 8 (.tmp 42) (.tmp 43))), none⟩,
.op ⟨(some 13), (.pure (.mv (.tmp 44))), none⟩]))))))
(.seq (.ops [
.op ⟨(some 45), (.pure (.mv (.tmp 13))), none⟩,
.op ⟨(some 10), (.pure (.mv (.tmp 45))), none⟩,
.op ⟨(some 11), (.pure (.mv (.const (.bool true)))), none⟩])
(.ret))))))),
[.tmp 10, .tmp 11]⟩
theorem r_spec_WayThrough : resFun Try.prog f_spec_WayThrough = some c_spec_WayThrough := by kernel_rfl

/- loop.example/g00940/impl.WayThrough -/
abbrev f_impl_WayThrough : Nat := 55
def c_impl_WayThrough : MFun := ⟨83, .seq (.ops [
.op ⟨(some 5), (.eff (.box 32 (.tmp 0))), none⟩,
.op ⟨(some 10), (.pure (.mv (.const (.slice none 0 0)))), none⟩,
.op ⟨(some 11), (.pure (.mv (.const (.bool false)))), none⟩])
(.seq (.seq (.ops [
.op ⟨(some 17), (.load (some 2) (.tmp 5)), none⟩,
.op ⟨(some 18), (.pure (.mv (.tmp 1))), none⟩,
.op ⟨(some 19), (.pure (.mv (.tmp 2))), none⟩,
.op ⟨(some 20), (.pure (.mv (.tmp 3))), none⟩,
.op ⟨(some 21), (.pure (.mv (.tmp 4))), none⟩,
.op ⟨(some 22), (.eff (.call 115 [(.tmp 17), (.tmp 18), (.tmp 19), (.tmp 20), (.tmp 21)])), none⟩,
.op ⟨(some 23), (.pure (.bnot (.tmp 22))), none⟩])
(.cond (.tmp 23)
(.seq (.ops [
.op ⟨(some 10), (.pure (.mv (.const (.slice none 0 0)))), none⟩,
.op ⟨(some 11), (.pure (.mv (.const (.bool false)))), none⟩])
(.ret))
(.skip)))
(.seq (.ops [
.op ⟨(some 24), (.load (some 2) (.tmp 5)), none⟩,
.op ⟨(some 25), (.pure (.mv (.tmp 1))), none⟩,
.op ⟨(some 26), (.pure (.mv (.tmp 2))), none⟩,
.op ⟨(some 27), (.pure (.mv (.tmp 4))), none⟩,
.op ⟨(some 28), (.eff (.call 116 [(.tmp 24), (.tmp 25), (.tmp 26), (.tmp 27)])), none⟩,
.op ⟨(some 12), (.pure (.mv (.tmp 28))), none⟩])
(.seq (.seq (.ops [
.op ⟨(some 29), (.pure (.mv (.tmp 12))), none⟩,
.op ⟨(some 30), (.pure (.mv (.tmp 3))), none⟩,
.op ⟨(some 31), (.pure (.idx 1 (.tmp 29) (.tmp 30))), none⟩,
.op ⟨(some 32), (.load none (.tmp 31)), none⟩,
.op ⟨(some 33), (.pure (.bin .lss (.tmp 32) (.const (.int .i64 (0))))), none⟩])
(.cond (.tmp 33)
(.seq (.ops [
.op ⟨(some 10), (.pure (.mv (.const (.slice none 0 0)))), none⟩,
.op ⟨(some 11), (.pure (.mv (.const (.bool false)))), none⟩])
(.ret))
(.skip)))
(.seq (.ops [
.op ⟨(some 34), (.pure (.mv (.tmp 3))), none⟩,
.op ⟨(some 35), (.eff (.row 3 1 [(.int .i64 (0))] [(0, 1, (.tmp 34))])), none⟩,
.op ⟨(some 13), (.pure (.mv (.tmp 35))), none⟩])
(.seq (.seq (.ops [
.op ⟨(some 36), (.pure (.mv (.tmp 3))), none⟩,
.op ⟨(some 14), (.pure (.mv (.tmp 36))), none⟩])
(.block 0 (.loop (.seq (.seq (.ops [
.op ⟨(some 37), (.pure (.mv (.tmp 14))), none⟩,
.op ⟨(some 38), (.pure (.mv (.tmp 2))), none⟩,
.op ⟨(some 39), (.pure (.bin .neq (.tmp 37) (.tmp 38))), none⟩])
(.cond (.tmp 39)
(.skip)
(.exit 0)))
(.block 1 (.seq (.seq (.ops [
.op ⟨(some 40), (.pure (.fieldAddr 0 (.tmp 5))), none⟩,
.op ⟨(some 41), (.load none (.tmp 40)), none⟩,
.op ⟨(some 42), (.pure (.len (.tmp 41))), none⟩,
.op ⟨(some 43), (.pure (.mv (.const (.int .i64 (0))))), none⟩])
(.block 2 (.loop (.seq (.ops [
.op ⟨(some 44), (.pure (.bin .lss (.tmp 43) (.tmp 42))), none⟩])
(.seq (.cond (.tmp 44)
(.skip)
(.exit 2))
(.seq (.block 3 (.seq (.ops [
.op ⟨(some 45), (.pure (.mv (.tmp 43))), none⟩,
.op ⟨(some 15), (.pure (.mv (.tmp 45))), none⟩])
(.seq (.ops [
.op ⟨(some 46), (.load (some 2) (.tmp 5)), none⟩,
.op ⟨(some 47), (.pure (.mv (.tmp 15))), none⟩,
.op ⟨(some 48), (.pure (.mv (.tmp 14))), none⟩,
.op ⟨(some 49), (.eff (.call 124 [(.tmp 46), (.tmp 47), (.tmp 48)])), none⟩,
.op ⟨(some 16), (.pure (.mv (.tmp 49))), none⟩])
(.seq (.draw true
(.take ⟨(some 50), (.pure (.mv (.tmp 16))), none⟩
(.take ⟨(some 51), (.pure (.bin .geq (.tmp 50) (.const (.int .i64 (0))))), none⟩
(.take ⟨(some 52), (.pure (.mv (.tmp 51))), none⟩
(.split 52
(.take ⟨(some 53), (.pure (.mv (.tmp 12))), (some (52, true))⟩
(.take ⟨(some 54), (.pure (.mv (.tmp 15))), (some (52, true))⟩
(.take ⟨(some 55), (.pure (.idx 1 (.tmp 53) (.tmp 54))), (some (52, true))⟩
(.only false ⟨(some 56), (.load none (.tmp 55)), (some (52, true))⟩
(.take ⟨(some 57), (.pure (.bin .geq (.tmp 56) (.const (.int .i64 (0))))), (some (52, true))⟩
(.take ⟨(some 58), (.pure (.pick (.tmp 52) (.tmp 57) (.const (.bool false)))), none⟩
(.take ⟨(some 59), (.pure (.mv (.tmp 58))), none⟩
(.split 59
(.take ⟨(some 61), (.pure (.mv (.tmp 1))), (some (59, true))⟩
(.take ⟨(some 62), (.pure (.mv (.tmp 16))), (some (59, true))⟩
(.take ⟨(some 63), (.pure (.mv (.tmp 12))), (some (59, true))⟩
(.take ⟨(some 64), (.pure (.mv (.tmp 15))), (some (59, true))⟩
(.take ⟨(some 65), (.pure (.idx 1 (.tmp 63) (.tmp 64))), (some (59, true))⟩
(.take ⟨(some 68), (.pure (.mv (.tmp 12))), (some (59, true))⟩
(.take ⟨(some 69), (.pure (.mv (.tmp 14))), (some (59, true))⟩
(.take ⟨(some 70), (.pure (.idx 1 (.tmp 68) (.tmp 69))), (some (59, true))⟩
(.take ⟨(some 60), (.load (some 2) (.tmp 5)), (some (59, true))⟩
(.take ⟨(some 66), (.load none (.tmp 65)), (some (59, true))⟩
(.take ⟨(some 71), (.load none (.tmp 70)), (some (59, true))⟩
(.only false ⟨(some 67), (.eff (.call 131 [(.tmp 60), (.tmp 61), (.tmp 62), (.tmp 66)])), (some (59, true))⟩
(.take ⟨(some 72), (.pure (.bin .eql (.tmp 67) (.tmp 71))), (some (59, true))⟩
(.take ⟨(some 73), (.pure (.pick (.tmp 59) (.tmp 72) (.const (.bool false)))), none⟩
(.done))))))))))))))))))))))))))))
(.cond (.tmp 73)
(.seq (.ops [
.op ⟨(some 74), (.pure (.mv (.tmp 15))), none⟩,
.op ⟨(some 14), (.pure (.mv (.tmp 74))), none⟩])
(.exit 2))
(.skip))))))
(.ops [
.op ⟨(some 75), (.pure (.bin .add (.tmp 43) (.const (.int .i64 (1))))), none⟩,
.op ⟨(some 43), (.pure (.mv (.tmp 75))), none⟩])))))))
(.ops [
.op ⟨(some 76), (.pure (.mv (.tmp 13))), none⟩,
.op ⟨(some 77), (.pure (.mv (.tmp 14))), none⟩,
.op ⟨(some 78), (.eff (.row 3 1 [(.int .i64 (0))] [(0, 1, (.tmp 77))])), none⟩,
.op ⟨(some 79), (.eff (.app 3 1 8 (.tmp 76) (.tmp 78))), none⟩,
.op ⟨(some 13), (.pure (.mv (.tmp 79))), none⟩])))))))
(.seq (.ops [
.op ⟨(some 80), (.pure (.mv (.tmp 13))), none⟩,
.op ⟨(some 81), (.eff (.call 133 [(.tmp 80)])), none⟩])
(.seq (.ops [
.op ⟨(some 82), (.pure (.mv (.tmp 13))), none⟩,
.op ⟨(some 10), (.pure (.mv (.tmp 82))), none⟩,
.op ⟨(some 11), (.pure (.mv (.const (.bool true)))), none⟩])
(.ret)))))))),
[.tmp 10, .tmp 11]⟩
theorem r_impl_WayThrough : resFun Try.prog f_impl_WayThrough = some c_impl_WayThrough := by kernel_rfl

/- loop.example/g00940/laws.toFog -/
abbrev f_laws_toFog : Nat := 87
def c_laws_toFog : MFun := ⟨14, .seq (.ops [
.op ⟨(some 1), (.eff (.box 93 (.tmp 0))), none⟩,
.op ⟨(some 2), (.eff (.new 96 [(.int .i64 (0)), (.int .i64 (0)), (.int .i64 (0))])), none⟩])
(.seq (.ops [
.op ⟨(some 3), (.eff (.new 96 [(.int .i64 (0)), (.int .i64 (0)), (.int .i64 (0))])), none⟩])
(.seq (.ops [
.op ⟨(some 4), (.pure (.fieldAddr 0 (.tmp 1))), none⟩,
.op ⟨(some 5), (.load none (.tmp 4)), none⟩,
.op ⟨(some 6), (.pure (.fieldAddr 0 (.tmp 3))), none⟩,
.op ⟨none, (.eff (.store 1 (.tmp 6) (.tmp 5))), none⟩])
(.seq (.ops [
.op ⟨(some 7), (.pure (.fieldAddr 1 (.tmp 1))), none⟩,
.op ⟨(some 8), (.load none (.tmp 7)), none⟩,
.op ⟨(some 9), (.pure (.fieldAddr 1 (.tmp 3))), none⟩,
.op ⟨none, (.eff (.store 1 (.tmp 9) (.tmp 8))), none⟩])
(.seq (.ops [
.op ⟨(some 10), (.pure (.fieldAddr 2 (.tmp 1))), none⟩,
.op ⟨(some 11), (.load none (.tmp 10)), none⟩,
.op ⟨(some 12), (.pure (.fieldAddr 2 (.tmp 3))), none⟩,
.op ⟨none, (.eff (.store 1 (.tmp 12) (.tmp 11))), none⟩])
(.seq (.ops [
.op ⟨(some 13), (.load (some 3) (.tmp 3)), none⟩,
.op ⟨none, (.eff (.store 3 (.tmp 2) (.tmp 13))), none⟩])
(.ret)))))),
[.cell 2 (some 3)]⟩
theorem r_laws_toFog : resFun Try.prog f_laws_toFog = some c_laws_toFog := by kernel_rfl

/- loop.example/g00940/laws.heldFogS -/
abbrev f_laws_heldFogS : Nat := 89
def c_laws_heldFogS : MFun := ⟨40, .seq (.ops [
.op ⟨(some 4), (.pure (.mv (.const (.int .i64 (0))))), none⟩])
(.seq (.seq (.ops [
.op ⟨(some 5), (.pure (.mv (.const (.int .i64 (0))))), none⟩])
(.block 0 (.loop (.seq (.seq (.ops [
.op ⟨(some 6), (.pure (.mv (.tmp 5))), none⟩,
.op ⟨(some 7), (.pure (.mv (.tmp 0))), none⟩,
.op ⟨(some 8), (.pure (.len (.tmp 7))), none⟩,
.op ⟨(some 9), (.pure (.bin .lss (.tmp 6) (.tmp 8))), none⟩])
(.cond (.tmp 9)
(.skip)
(.exit 0)))
(.seq (.block 1 (.seq (.seq (.ops [
.op ⟨(some 12), (.pure (.mv (.tmp 0))), none⟩,
.op ⟨(some 13), (.pure (.mv (.tmp 5))), none⟩,
.op ⟨(some 14), (.pure (.idx 3 (.tmp 12) (.tmp 13))), none⟩,
.op ⟨(some 15), (.pure (.fieldAddr 0 (.tmp 14))), none⟩,
.op ⟨(some 16), (.load none (.tmp 15)), none⟩,
.op ⟨(some 17), (.pure (.mv (.tmp 1))), none⟩,
.op ⟨(some 18), (.pure (.bin .neq (.tmp 16) (.tmp 17))), none⟩])
(.cond (.tmp 18)
(.seq (.ops [
.op ⟨(some 4), (.pure (.mv (.const (.int .i64 (-1))))), none⟩])
(.ret))
(.skip)))
(.seq (.ops [
.op ⟨(some 19), (.pure (.mv (.tmp 1))), none⟩,
.op ⟨(some 20), (.pure (.bin .add (.tmp 19) (.const (.int .i64 (1))))), none⟩,
.op ⟨(some 1), (.pure (.mv (.tmp 20))), none⟩])
(.seq (.seq (.ops [
.op ⟨(some 21), (.pure (.mv (.tmp 0))), none⟩,
.op ⟨(some 22), (.pure (.mv (.tmp 5))), none⟩,
.op ⟨(some 23), (.pure (.idx 3 (.tmp 21) (.tmp 22))), none⟩,
.op ⟨(some 24), (.pure (.fieldAddr 1 (.tmp 23))), none⟩,
.op ⟨(some 25), (.load none (.tmp 24)), none⟩,
.op ⟨(some 26), (.pure (.mv (.tmp 1))), none⟩,
.op ⟨(some 27), (.pure (.bin .neq (.tmp 25) (.tmp 26))), none⟩])
(.cond (.tmp 27)
(.seq (.ops [
.op ⟨(some 4), (.pure (.mv (.const (.int .i64 (-1))))), none⟩])
(.ret))
(.skip)))
(.seq (.ops [
.op ⟨(some 28), (.pure (.mv (.tmp 1))), none⟩,
.op ⟨(some 29), (.pure (.bin .add (.tmp 28) (.const (.int .i64 (1))))), none⟩,
.op ⟨(some 1), (.pure (.mv (.tmp 29))), none⟩])
(.seq (.seq (.ops [
.op ⟨(some 30), (.pure (.mv (.tmp 0))), none⟩,
.op ⟨(some 31), (.pure (.mv (.tmp 5))), none⟩,
.op ⟨(some 32), (.pure (.idx 3 (.tmp 30) (.tmp 31))), none⟩,
.op ⟨(some 33), (.pure (.fieldAddr 2 (.tmp 32))), none⟩,
.op ⟨(some 34), (.load none (.tmp 33)), none⟩,
.op ⟨(some 35), (.pure (.mv (.tmp 1))), none⟩,
.op ⟨(some 36), (.pure (.bin .neq (.tmp 34) (.tmp 35))), none⟩])
(.cond (.tmp 36)
(.seq (.ops [
.op ⟨(some 4), (.pure (.mv (.const (.int .i64 (-1))))), none⟩])
(.ret))
(.skip)))
(.ops [
.op ⟨(some 37), (.pure (.mv (.tmp 1))), none⟩,
.op ⟨(some 38), (.pure (.bin .add (.tmp 37) (.const (.int .i64 (1))))), none⟩,
.op ⟨(some 1), (.pure (.mv (.tmp 38))), none⟩])))))))
(.ops [
.op ⟨(some 10), (.pure (.mv (.tmp 5))), none⟩,
.op ⟨(some 11), (.pure (.bin .add (.tmp 10) (.const (.int .i64 (1))))), none⟩,
.op ⟨(some 5), (.pure (.mv (.tmp 11))), none⟩]))))))
(.seq (.ops [
.op ⟨(some 39), (.pure (.mv (.tmp 1))), none⟩,
.op ⟨(some 4), (.pure (.mv (.tmp 39))), none⟩])
(.ret))),
[.tmp 4]⟩
theorem r_laws_heldFogS : resFun Try.prog f_laws_heldFogS = some c_laws_heldFogS := by kernel_rfl

/- loop.example/g00940/laws.szTowerS -/
abbrev f_laws_szTowerS : Nat := 99
def c_laws_szTowerS : MFun := ⟨12, .seq (.ops [
.op ⟨(some 4), (.pure (.mv (.const (.int .i64 (0))))), none⟩])
(.seq (.ops [
.op ⟨(some 5), (.pure (.mv (.tmp 1))), none⟩,
.op ⟨(some 6), (.pure (.mv (.tmp 0))), none⟩,
.op ⟨(some 7), (.pure (.len (.tmp 6))), none⟩,
.op ⟨(some 8), (.pure (.bin .sub (.tmp 5) (.tmp 7))), none⟩,
.op ⟨(some 1), (.pure (.mv (.tmp 8))), none⟩])
(.seq (.seq (.ops [
.op ⟨(some 9), (.pure (.mv (.tmp 1))), none⟩,
.op ⟨(some 10), (.pure (.bin .lss (.tmp 9) (.const (.int .i64 (0))))), none⟩])
(.cond (.tmp 10)
(.seq (.ops [
.op ⟨(some 4), (.pure (.mv (.const (.int .i64 (-1))))), none⟩])
(.ret))
(.skip)))
(.seq (.ops [
.op ⟨(some 11), (.pure (.mv (.tmp 1))), none⟩,
.op ⟨(some 4), (.pure (.mv (.tmp 11))), none⟩])
(.ret)))),
[.tmp 4]⟩
theorem r_laws_szTowerS : resFun Try.prog f_laws_szTowerS = some c_laws_szTowerS := by kernel_rfl

/- loop.example/g00940/laws.szLinkS -/
abbrev f_laws_szLinkS : Nat := 100
def c_laws_szLinkS : MFun := ⟨12, .seq (.ops [
.op ⟨(some 4), (.pure (.mv (.const (.int .i64 (0))))), none⟩])
(.seq (.ops [
.op ⟨(some 5), (.pure (.mv (.tmp 1))), none⟩,
.op ⟨(some 6), (.pure (.mv (.tmp 0))), none⟩,
.op ⟨(some 7), (.pure (.len (.tmp 6))), none⟩,
.op ⟨(some 8), (.pure (.bin .sub (.tmp 5) (.tmp 7))), none⟩,
.op ⟨(some 1), (.pure (.mv (.tmp 8))), none⟩])
(.seq (.seq (.ops [
.op ⟨(some 9), (.pure (.mv (.tmp 1))), none⟩,
.op ⟨(some 10), (.pure (.bin .lss (.tmp 9) (.const (.int .i64 (0))))), none⟩])
(.cond (.tmp 10)
(.seq (.ops [
.op ⟨(some 4), (.pure (.mv (.const (.int .i64 (-1))))), none⟩])
(.ret))
(.skip)))
(.seq (.ops [
.op ⟨(some 11), (.pure (.mv (.tmp 1))), none⟩,
.op ⟨(some 4), (.pure (.mv (.tmp 11))), none⟩])
(.ret)))),
[.tmp 4]⟩
theorem r_laws_szLinkS : resFun Try.prog f_laws_szLinkS = some c_laws_szLinkS := by kernel_rfl

/- loop.example/g00940/laws.toTowerS -/
abbrev f_laws_toTowerS : Nat := 101
def c_laws_toTowerS : MFun := ⟨23, .seq (.ops [
.op ⟨(some 2), (.pure (.mv (.const (.slice none 0 0)))), none⟩])
(.seq (.ops [
.op ⟨(some 5), (.pure (.mv (.tmp 0))), none⟩,
.op ⟨(some 6), (.pure (.len (.tmp 5))), none⟩,
.op ⟨(some 7), (.eff (.mk 147 3 24 [(.int .i64 (0)), (.int .i64 (0)), (.int .i64 (0))] (.tmp 6) (.tmp 6))), none⟩,
.op ⟨(some 3), (.pure (.mv (.tmp 7))), none⟩])
(.seq (.seq (.ops [
.op ⟨(some 4), (.pure (.mv (.const (.int .i64 (0))))), none⟩])
(.block 0 (.loop (.seq (.seq (.ops [
.op ⟨(some 8), (.pure (.mv (.tmp 4))), none⟩,
.op ⟨(some 9), (.pure (.mv (.tmp 0))), none⟩,
.op ⟨(some 10), (.pure (.len (.tmp 9))), none⟩,
.op ⟨(some 11), (.pure (.bin .lss (.tmp 8) (.tmp 10))), none⟩])
(.cond (.tmp 11)
(.skip)
(.exit 0)))
(.seq (.block 1 (.ops [
.op ⟨(some 14), (.pure (.mv (.tmp 3))), none⟩,
.op ⟨(some 15), (.pure (.mv (.tmp 4))), none⟩,
.op ⟨(some 16), (.pure (.mv (.tmp 0))), none⟩,
.op ⟨(some 17), (.pure (.mv (.tmp 4))), none⟩,
.op ⟨(some 18), (.pure (.idx 3 (.tmp 16) (.tmp 17))), none⟩,
.op ⟨(some 19), (.load (some 3) (.tmp 18)), none⟩,
.op ⟨(some 20), (.eff (.call 169 [(.tmp 19)])), none⟩,
.op ⟨(some 21), (.pure (.idx 3 (.tmp 14) (.tmp 15))), none⟩,
.op ⟨none, (.eff (.store 3 (.tmp 21) (.tmp 20))), none⟩]))
(.ops [
.op ⟨(some 12), (.pure (.mv (.tmp 4))), none⟩,
.op ⟨(some 13), (.pure (.bin .add (.tmp 12) (.const (.int .i64 (1))))), none⟩,
.op ⟨(some 4), (.pure (.mv (.tmp 13))), none⟩]))))))
(.seq (.ops [
.op ⟨(some 22), (.pure (.mv (.tmp 3))), none⟩,
.op ⟨(some 2), (.pure (.mv (.tmp 22))), none⟩])
(.ret)))),
[.tmp 2]⟩
theorem r_laws_toTowerS : resFun Try.prog f_laws_toTowerS = some c_laws_toTowerS := by kernel_rfl

/- loop.example/g00940/laws.toLinkS -/
abbrev f_laws_toLinkS : Nat := 102
def c_laws_toLinkS : MFun := ⟨23, .seq (.ops [
.op ⟨(some 2), (.pure (.mv (.const (.slice none 0 0)))), none⟩])
(.seq (.ops [
.op ⟨(some 5), (.pure (.mv (.tmp 0))), none⟩,
.op ⟨(some 6), (.pure (.len (.tmp 5))), none⟩,
.op ⟨(some 7), (.eff (.mk 88 3 24 [(.int .i64 (0)), (.int .i64 (0)), (.int .i64 (0))] (.tmp 6) (.tmp 6))), none⟩,
.op ⟨(some 3), (.pure (.mv (.tmp 7))), none⟩])
(.seq (.seq (.ops [
.op ⟨(some 4), (.pure (.mv (.const (.int .i64 (0))))), none⟩])
(.block 0 (.loop (.seq (.seq (.ops [
.op ⟨(some 8), (.pure (.mv (.tmp 4))), none⟩,
.op ⟨(some 9), (.pure (.mv (.tmp 0))), none⟩,
.op ⟨(some 10), (.pure (.len (.tmp 9))), none⟩,
.op ⟨(some 11), (.pure (.bin .lss (.tmp 8) (.tmp 10))), none⟩])
(.cond (.tmp 11)
(.skip)
(.exit 0)))
(.seq (.block 1 (.ops [
.op ⟨(some 14), (.pure (.mv (.tmp 3))), none⟩,
.op ⟨(some 15), (.pure (.mv (.tmp 4))), none⟩,
.op ⟨(some 16), (.pure (.mv (.tmp 0))), none⟩,
.op ⟨(some 17), (.pure (.mv (.tmp 4))), none⟩,
.op ⟨(some 18), (.pure (.idx 3 (.tmp 16) (.tmp 17))), none⟩,
.op ⟨(some 19), (.load (some 3) (.tmp 18)), none⟩,
.op ⟨(some 20), (.eff (.call 170 [(.tmp 19)])), none⟩,
.op ⟨(some 21), (.pure (.idx 3 (.tmp 14) (.tmp 15))), none⟩,
.op ⟨none, (.eff (.store 3 (.tmp 21) (.tmp 20))), none⟩]))
(.ops [
.op ⟨(some 12), (.pure (.mv (.tmp 4))), none⟩,
.op ⟨(some 13), (.pure (.bin .add (.tmp 12) (.const (.int .i64 (1))))), none⟩,
.op ⟨(some 4), (.pure (.mv (.tmp 13))), none⟩]))))))
(.seq (.ops [
.op ⟨(some 22), (.pure (.mv (.tmp 3))), none⟩,
.op ⟨(some 2), (.pure (.mv (.tmp 22))), none⟩])
(.ret)))),
[.tmp 2]⟩
theorem r_laws_toLinkS : resFun Try.prog f_laws_toLinkS = some c_laws_toLinkS := by kernel_rfl

/- loop.example/g00940/impl.isTower -/
abbrev f_impl_isTower : Nat := 103
def c_impl_isTower : MFun := ⟨15, .seq (.ops [
.op ⟨(some 2), (.eff (.box 32 (.tmp 0))), none⟩,
.op ⟨(some 4), (.pure (.mv (.const (.bool false)))), none⟩])
(.seq (.ops [
.op ⟨(some 5), (.load (some 2) (.tmp 2)), none⟩,
.op ⟨(some 6), (.eff (.call 127 [(.tmp 5)])), none⟩,
.op ⟨(some 7), (.pure (.mv (.tmp 6))), none⟩,
.split 7,
.op ⟨(some 8), (.pure (.mv (.tmp 1))), (some (7, true))⟩,
.op ⟨(some 9), (.pure (.fieldAddr 0 (.tmp 2))), (some (7, true))⟩,
.op ⟨(some 10), (.load none (.tmp 9)), (some (7, true))⟩,
.op ⟨(some 11), (.pure (.len (.tmp 10))), (some (7, true))⟩,
.op ⟨(some 12), (.pure (.bin .sub (.tmp 11) (.const (.int .i64 (1))))), (some (7, true))⟩,
.op ⟨(some 13), (.eff (.call 129 [(.tmp 8), (.const (.int .i64 (0))), (.tmp 12)])), (some (7, true))⟩,
.op ⟨(some 14), (.pure (.pick (.tmp 7) (.tmp 13) (.const (.bool false)))), none⟩,
.op ⟨(some 4), (.pure (.mv (.tmp 14))), none⟩])
(.ret)),
[.tmp 4]⟩
theorem r_impl_isTower : resFun Try.prog f_impl_isTower = some c_impl_isTower := by kernel_rfl

/- loop.example/g00940/impl.plainDelay -/
abbrev f_impl_plainDelay : Nat := 104
def c_impl_plainDelay : MFun := ⟨18, .seq (.ops [
.op ⟨(some 3), (.eff (.box 32 (.tmp 0))), none⟩,
.op ⟨(some 6), (.pure (.mv (.const (.int .i64 (0))))), none⟩,
.op ⟨(some 7), (.pure (.mv (.const (.bool false)))), none⟩])
(.seq (.ops [
.op ⟨(some 9), (.load (some 2) (.tmp 3)), none⟩,
.op ⟨(some 10), (.pure (.mv (.tmp 1))), none⟩,
.op ⟨(some 11), (.eff (.call 116 [(.tmp 9), (.const (.slice none 0 0)), (.tmp 10), (.const (.int .i64 (0)))])), none⟩,
.op ⟨(some 12), (.pure (.mv (.tmp 2))), none⟩,
.op ⟨(some 13), (.pure (.idx 1 (.tmp 11) (.tmp 12))), none⟩,
.op ⟨(some 14), (.load none (.tmp 13)), none⟩,
.op ⟨(some 8), (.pure (.mv (.tmp 14))), none⟩])
(.seq (.seq (.ops [
.op ⟨(some 15), (.pure (.mv (.tmp 8))), none⟩,
.op ⟨(some 16), (.pure (.bin .lss (.tmp 15) (.const (.int .i64 (0))))), none⟩])
(.cond (.tmp 16)
(.seq (.ops [
.op ⟨(some 6), (.pure (.mv (.const (.int .i64 (0))))), none⟩,
.op ⟨(some 7), (.pure (.mv (.const (.bool false)))), none⟩])
(.ret))
(.skip)))
(.seq (.ops [
.op ⟨(some 17), (.pure (.mv (.tmp 8))), none⟩,
.op ⟨(some 6), (.pure (.mv (.tmp 17))), none⟩,
.op ⟨(some 7), (.pure (.mv (.const (.bool true)))), none⟩])
(.ret)))),
[.tmp 6, .tmp 7]⟩
theorem r_impl_plainDelay : resFun Try.prog f_impl_plainDelay = some c_impl_plainDelay := by kernel_rfl

/- loop.example/g00940/laws.eqTowerS -/
abbrev f_laws_eqTowerS : Nat := 105
def c_laws_eqTowerS : MFun := ⟨27, .seq (.ops [
.op ⟨(some 4), (.pure (.mv (.const (.bool false)))), none⟩])
(.seq (.seq (.ops [
.op ⟨(some 6), (.pure (.mv (.tmp 0))), none⟩,
.op ⟨(some 7), (.pure (.len (.tmp 6))), none⟩,
.op ⟨(some 8), (.pure (.mv (.tmp 1))), none⟩,
.op ⟨(some 9), (.pure (.len (.tmp 8))), none⟩,
.op ⟨(some 10), (.pure (.bin .neq (.tmp 7) (.tmp 9))), none⟩])
(.cond (.tmp 10)
(.seq (.ops [
.op ⟨(some 4), (.pure (.mv (.const (.bool false)))), none⟩])
(.ret))
(.skip)))
(.seq (.seq (.ops [
.op ⟨(some 5), (.pure (.mv (.const (.int .i64 (0))))), none⟩])
(.block 0 (.loop (.seq (.seq (.ops [
.op ⟨(some 11), (.pure (.mv (.tmp 5))), none⟩,
.op ⟨(some 12), (.pure (.mv (.tmp 0))), none⟩,
.op ⟨(some 13), (.pure (.len (.tmp 12))), none⟩,
.op ⟨(some 14), (.pure (.bin .lss (.tmp 11) (.tmp 13))), none⟩])
(.cond (.tmp 14)
(.skip)
(.exit 0)))
(.seq (.block 1 (.seq (.draw true
(.take ⟨(some 17), (.pure (.mv (.tmp 0))), none⟩
(.take ⟨(some 18), (.pure (.mv (.tmp 5))), none⟩
(.take ⟨(some 19), (.pure (.idx 3 (.tmp 17) (.tmp 18))), none⟩
(.take ⟨(some 21), (.pure (.mv (.tmp 1))), none⟩
(.take ⟨(some 22), (.pure (.mv (.tmp 5))), none⟩
(.take ⟨(some 23), (.pure (.idx 3 (.tmp 21) (.tmp 22))), none⟩
(.take ⟨(some 20), (.load (some 3) (.tmp 19)), none⟩
(.only false ⟨(some 24), (.load (some 3) (.tmp 23)), none⟩
(.only true ⟨(some 25), (.eff (.call 171 [(.tmp 20), (.tmp 24)])), none⟩
(.take ⟨(some 26), (.pure (.bnot (.tmp 25))), none⟩
(.done))))))))))))
(.cond (.tmp 26)
(.seq (.ops [
.op ⟨(some 4), (.pure (.mv (.const (.bool false)))), none⟩])
(.ret))
(.skip))))
(.ops [
.op ⟨(some 15), (.pure (.mv (.tmp 5))), none⟩,
.op ⟨(some 16), (.pure (.bin .add (.tmp 15) (.const (.int .i64 (1))))), none⟩,
.op ⟨(some 5), (.pure (.mv (.tmp 16))), none⟩]))))))
(.seq (.ops [
.op ⟨(some 4), (.pure (.mv (.const (.bool true)))), none⟩])
(.ret)))),
[.tmp 4]⟩
theorem r_laws_eqTowerS : resFun Try.prog f_laws_eqTowerS = some c_laws_eqTowerS := by kernel_rfl

/- loop.example/g00940/laws.eqLinkS -/
abbrev f_laws_eqLinkS : Nat := 106
def c_laws_eqLinkS : MFun := ⟨27, .seq (.ops [
.op ⟨(some 4), (.pure (.mv (.const (.bool false)))), none⟩])
(.seq (.seq (.ops [
.op ⟨(some 6), (.pure (.mv (.tmp 0))), none⟩,
.op ⟨(some 7), (.pure (.len (.tmp 6))), none⟩,
.op ⟨(some 8), (.pure (.mv (.tmp 1))), none⟩,
.op ⟨(some 9), (.pure (.len (.tmp 8))), none⟩,
.op ⟨(some 10), (.pure (.bin .neq (.tmp 7) (.tmp 9))), none⟩])
(.cond (.tmp 10)
(.seq (.ops [
.op ⟨(some 4), (.pure (.mv (.const (.bool false)))), none⟩])
(.ret))
(.skip)))
(.seq (.seq (.ops [
.op ⟨(some 5), (.pure (.mv (.const (.int .i64 (0))))), none⟩])
(.block 0 (.loop (.seq (.seq (.ops [
.op ⟨(some 11), (.pure (.mv (.tmp 5))), none⟩,
.op ⟨(some 12), (.pure (.mv (.tmp 0))), none⟩,
.op ⟨(some 13), (.pure (.len (.tmp 12))), none⟩,
.op ⟨(some 14), (.pure (.bin .lss (.tmp 11) (.tmp 13))), none⟩])
(.cond (.tmp 14)
(.skip)
(.exit 0)))
(.seq (.block 1 (.seq (.draw true
(.take ⟨(some 17), (.pure (.mv (.tmp 0))), none⟩
(.take ⟨(some 18), (.pure (.mv (.tmp 5))), none⟩
(.take ⟨(some 19), (.pure (.idx 3 (.tmp 17) (.tmp 18))), none⟩
(.take ⟨(some 21), (.pure (.mv (.tmp 1))), none⟩
(.take ⟨(some 22), (.pure (.mv (.tmp 5))), none⟩
(.take ⟨(some 23), (.pure (.idx 3 (.tmp 21) (.tmp 22))), none⟩
(.take ⟨(some 20), (.load (some 3) (.tmp 19)), none⟩
(.only false ⟨(some 24), (.load (some 3) (.tmp 23)), none⟩
(.only true ⟨(some 25), (.eff (.call 172 [(.tmp 20), (.tmp 24)])), none⟩
(.take ⟨(some 26), (.pure (.bnot (.tmp 25))), none⟩
(.done))))))))))))
(.cond (.tmp 26)
(.seq (.ops [
.op ⟨(some 4), (.pure (.mv (.const (.bool false)))), none⟩])
(.ret))
(.skip))))
(.ops [
.op ⟨(some 15), (.pure (.mv (.tmp 5))), none⟩,
.op ⟨(some 16), (.pure (.bin .add (.tmp 15) (.const (.int .i64 (1))))), none⟩,
.op ⟨(some 5), (.pure (.mv (.tmp 16))), none⟩]))))))
(.seq (.ops [
.op ⟨(some 4), (.pure (.mv (.const (.bool true)))), none⟩])
(.ret)))),
[.tmp 4]⟩
theorem r_laws_eqLinkS : resFun Try.prog f_laws_eqLinkS = some c_laws_eqLinkS := by kernel_rfl

/- loop.example/g00940/spec.neGood -/
abbrev f_spec_neGood : Nat := 107
def c_spec_neGood : MFun := ⟨88, .seq (.ops [
.op ⟨(some 1), (.eff (.box 32 (.tmp 0))), none⟩,
.op ⟨(some 2), (.pure (.mv (.const (.bool false)))), none⟩])
(.seq (.seq (.ops [
.op ⟨(some 7), (.pure (.fieldAddr 0 (.tmp 1))), none⟩,
.op ⟨(some 8), (.load none (.tmp 7)), none⟩,
.op ⟨(some 9), (.pure (.len (.tmp 8))), none⟩,
.op ⟨(some 10), (.pure (.mv (.const (.int .i64 (0))))), none⟩])
(.block 0 (.loop (.seq (.ops [
.op ⟨(some 11), (.pure (.bin .lss (.tmp 10) (.tmp 9))), none⟩])
(.seq (.cond (.tmp 11)
(.skip)
(.exit 0))
(.seq (.block 1 (.seq (.ops [
.op ⟨(some 12), (.pure (.idx 3 (.tmp 8) (.tmp 10))), none⟩,
.op ⟨(some 13), (.load (some 3) (.tmp 12)), none⟩,
.op ⟨(some 4), (.eff (.new 147 [(.int .i64 (0)), (.int .i64 (0)), (.int .i64 (0))])), none⟩,
.op ⟨none, (.eff (.store 3 (.tmp 4) (.tmp 13))), none⟩])
(.seq (.ops [
.op ⟨(some 14), (.pure (.fieldAddr 0 (.tmp 4))), none⟩,
.op ⟨(some 15), (.load none (.tmp 14)), none⟩,
.op ⟨(some 16), (.eff (.call 108 [(.tmp 15), (.const (.int .i64 (0))), (.const (.int .i64 (999)))])), none⟩,
.op ⟨(some 17), (.pure (.bnot (.tmp 16))), none⟩,
.op ⟨(some 18), (.pure (.mv (.tmp 17))), none⟩,
.split 18,
.op ⟨(some 19), (.pure (.fieldAddr 1 (.tmp 4))), (some (18, false))⟩,
.op ⟨(some 20), (.load none (.tmp 19)), (some (18, false))⟩,
.op ⟨(some 21), (.eff (.call 108 [(.tmp 20), (.const (.int .i64 (0))), (.const (.int .i64 (999)))])), (some (18, false))⟩,
.op ⟨(some 22), (.pure (.bnot (.tmp 21))), (some (18, false))⟩,
.op ⟨(some 23), (.pure (.pick (.tmp 18) (.const (.bool true)) (.tmp 22))), none⟩,
.op ⟨(some 24), (.pure (.mv (.tmp 23))), none⟩,
.split 24,
.op ⟨(some 25), (.pure (.fieldAddr 2 (.tmp 4))), (some (24, false))⟩,
.op ⟨(some 26), (.load none (.tmp 25)), (some (24, false))⟩,
.op ⟨(some 27), (.eff (.call 108 [(.tmp 26), (.const (.int .i64 (0))), (.const (.int .i64 (500)))])), (some (24, false))⟩,
.op ⟨(some 28), (.pure (.bnot (.tmp 27))), (some (24, false))⟩,
.op ⟨(some 29), (.pure (.pick (.tmp 24) (.const (.bool true)) (.tmp 28))), none⟩])
(.cond (.tmp 29)
(.seq (.ops [
.op ⟨(some 2), (.pure (.mv (.const (.bool false)))), none⟩])
(.ret))
(.skip)))))
(.ops [
.op ⟨(some 30), (.pure (.bin .add (.tmp 10) (.const (.int .i64 (1))))), none⟩,
.op ⟨(some 10), (.pure (.mv (.tmp 30))), none⟩])))))))
(.seq (.seq (.ops [
.op ⟨(some 31), (.pure (.fieldAddr 1 (.tmp 1))), none⟩,
.op ⟨(some 32), (.load none (.tmp 31)), none⟩,
.op ⟨(some 33), (.pure (.len (.tmp 32))), none⟩,
.op ⟨(some 34), (.pure (.mv (.const (.int .i64 (0))))), none⟩])
(.block 2 (.loop (.seq (.ops [
.op ⟨(some 35), (.pure (.bin .lss (.tmp 34) (.tmp 33))), none⟩])
(.seq (.cond (.tmp 35)
(.skip)
(.exit 2))
(.seq (.block 3 (.seq (.ops [
.op ⟨(some 36), (.pure (.mv (.tmp 34))), none⟩,
.op ⟨(some 37), (.pure (.idx 3 (.tmp 32) (.tmp 34))), none⟩,
.op ⟨(some 38), (.load (some 3) (.tmp 37)), none⟩,
.op ⟨(some 6), (.eff (.new 88 [(.int .i64 (0)), (.int .i64 (0)), (.int .i64 (0))])), none⟩,
.op ⟨(some 5), (.pure (.mv (.tmp 36))), none⟩,
.op ⟨none, (.eff (.store 3 (.tmp 6) (.tmp 38))), none⟩])
(.seq (.draw true
(.take ⟨(some 39), (.pure (.fieldAddr 0 (.tmp 6))), none⟩
(.take ⟨(some 41), (.pure (.fieldAddr 1 (.tmp 6))), none⟩
(.take ⟨(some 40), (.load none (.tmp 39)), none⟩
(.only false ⟨(some 42), (.load none (.tmp 41)), none⟩
(.take ⟨(some 43), (.pure (.bin .sub (.tmp 42) (.const (.int .i64 (1))))), none⟩
(.only false ⟨(some 44), (.eff (.call 108 [(.tmp 40), (.const (.int .i64 (0))), (.tmp 43)])), none⟩
(.take ⟨(some 45), (.pure (.bnot (.tmp 44))), none⟩
(.take ⟨(some 46), (.pure (.mv (.tmp 45))), none⟩
(.split 46
(.take ⟨(some 47), (.pure (.fieldAddr 1 (.tmp 6))), (some (46, false))⟩
(.take ⟨(some 49), (.pure (.fieldAddr 0 (.tmp 1))), (some (46, false))⟩
(.take ⟨(some 48), (.load none (.tmp 47)), (some (46, false))⟩
(.only false ⟨(some 50), (.load none (.tmp 49)), (some (46, false))⟩
(.take ⟨(some 51), (.pure (.len (.tmp 50))), (some (46, false))⟩
(.take ⟨(some 52), (.pure (.bin .sub (.tmp 51) (.const (.int .i64 (1))))), (some (46, false))⟩
(.only false ⟨(some 53), (.eff (.call 108 [(.tmp 48), (.const (.int .i64 (0))), (.tmp 52)])), (some (46, false))⟩
(.take ⟨(some 54), (.pure (.bnot (.tmp 53))), (some (46, false))⟩
(.take ⟨(some 55), (.pure (.pick (.tmp 46) (.const (.bool true)) (.tmp 54))), none⟩
(.take ⟨(some 56), (.pure (.mv (.tmp 55))), none⟩
(.split 56
(.take ⟨(some 57), (.pure (.fieldAddr 2 (.tmp 6))), (some (56, false))⟩
(.only false ⟨(some 58), (.load none (.tmp 57)), (some (56, false))⟩
(.only false ⟨(some 59), (.eff (.call 108 [(.tmp 58), (.const (.int .i64 (1))), (.const (.int .i64 (60)))])), (some (56, false))⟩
(.take ⟨(some 60), (.pure (.bnot (.tmp 59))), (some (56, false))⟩
(.take ⟨(some 61), (.pure (.pick (.tmp 56) (.const (.bool true)) (.tmp 60))), none⟩
(.take ⟨(some 62), (.pure (.mv (.tmp 61))), none⟩
(.split 62
(.take ⟨(some 63), (.pure (.mv (.tmp 5))), (some (62, false))⟩
(.take ⟨(some 64), (.pure (.bin .gtr (.tmp 63) (.const (.int .i64 (0))))), (some (62, false))⟩
(.take ⟨(some 65), (.pure (.mv (.tmp 64))), (some (62, false))⟩
(.split 65
(.take ⟨(some 66), (.pure (.fieldAddr 1 (.tmp 1))), (some (65, true))⟩
(.take ⟨(some 68), (.pure (.mv (.tmp 5))), (some (65, true))⟩
(.take ⟨(some 69), (.pure (.bin .sub (.tmp 68) (.const (.int .i64 (1))))), (some (65, true))⟩
(.take ⟨(some 67), (.load none (.tmp 66)), (some (65, true))⟩
(.take ⟨(some 70), (.pure (.idx 3 (.tmp 67) (.tmp 69))), (some (65, true))⟩
(.take ⟨(some 71), (.load (some 3) (.tmp 70)), (some (65, true))⟩
(.only false ⟨(some 72), (.load (some 3) (.tmp 6)), (some (65, true))⟩
(.only false ⟨(some 73), (.eff (.call 173 [(.tmp 71), (.tmp 72)])), (some (65, true))⟩
(.take ⟨(some 74), (.pure (.bnot (.tmp 73))), (some (65, true))⟩
(.take ⟨(some 75), (.pure (.pick (.tmp 65) (.tmp 74) (.const (.bool false)))), (some (62, false))⟩
(.take ⟨(some 76), (.pure (.pick (.tmp 62) (.const (.bool true)) (.tmp 75))), none⟩
(.done))))))))))))))))))))))))))))))))))))))))))))
(.cond (.tmp 76)
(.seq (.ops [
.op ⟨(some 2), (.pure (.mv (.const (.bool false)))), none⟩])
(.ret))
(.skip)))))
(.ops [
.op ⟨(some 77), (.pure (.bin .add (.tmp 34) (.const (.int .i64 (1))))), none⟩,
.op ⟨(some 34), (.pure (.mv (.tmp 77))), none⟩])))))))
(.seq (.ops [
.op ⟨(some 78), (.pure (.fieldAddr 0 (.tmp 1))), none⟩,
.op ⟨(some 79), (.load none (.tmp 78)), none⟩,
.op ⟨(some 80), (.pure (.len (.tmp 79))), none⟩,
.op ⟨(some 81), (.eff (.call 108 [(.tmp 80), (.const (.int .i64 (1))), (.const (.int .i64 (16)))])), none⟩,
.op ⟨(some 82), (.pure (.mv (.tmp 81))), none⟩,
.split 82,
.op ⟨(some 83), (.pure (.fieldAddr 1 (.tmp 1))), (some (82, true))⟩,
.op ⟨(some 84), (.load none (.tmp 83)), (some (82, true))⟩,
.op ⟨(some 85), (.pure (.len (.tmp 84))), (some (82, true))⟩,
.op ⟨(some 86), (.pure (.bin .leq (.tmp 85) (.const (.int .i64 (40))))), (some (82, true))⟩,
.op ⟨(some 87), (.pure (.pick (.tmp 82) (.tmp 86) (.const (.bool false)))), none⟩,
.op ⟨(some 2), (.pure (.mv (.tmp 87))), none⟩])
(.ret)))),
[.tmp 2]⟩
theorem r_spec_neGood : resFun Try.prog f_spec_neGood = some c_spec_neGood := by kernel_rfl

/- loop.example/g00940/spec.l1In -/
abbrev f_spec_l1In : Nat := 108
def c_spec_l1In : MFun := ⟨15, .seq (.ops [
.op ⟨(some 6), (.pure (.mv (.const (.bool false)))), none⟩])
(.seq (.ops [
.op ⟨(some 7), (.pure (.mv (.tmp 0))), none⟩,
.op ⟨(some 8), (.pure (.mv (.tmp 1))), none⟩,
.op ⟨(some 9), (.pure (.bin .geq (.tmp 7) (.tmp 8))), none⟩,
.op ⟨(some 10), (.pure (.mv (.tmp 9))), none⟩,
.split 10,
.op ⟨(some 11), (.pure (.mv (.tmp 0))), (some (10, true))⟩,
.op ⟨(some 12), (.pure (.mv (.tmp 2))), (some (10, true))⟩,
.op ⟨(some 13), (.pure (.bin .leq (.tmp 11) (.tmp 12))), (some (10, true))⟩,
.op ⟨(some 14), (.pure (.pick (.tmp 10) (.tmp 13) (.const (.bool false)))), none⟩,
.op ⟨(some 6), (.pure (.mv (.tmp 14))), none⟩])
(.ret)),
[.tmp 6]⟩
theorem r_spec_l1In : resFun Try.prog f_spec_l1In = some c_spec_l1In := by kernel_rfl

/- loop.example/g00940/spec.roWithout -/
abbrev f_spec_roWithout : Nat := 109
def c_spec_roWithout : MFun := ⟨20, .seq (.ops [
.op ⟨(some 2), (.eff (.box 32 (.tmp 0))), none⟩,
.op ⟨(some 4), (.eff (.new 32 [(.slice none 0 0), (.slice none 0 0)])), none⟩])
(.seq (.draw true
(.take ⟨(some 5), (.pure (.fieldAddr 0 (.tmp 2))), none⟩
(.take ⟨(some 8), (.pure (.fieldAddr 1 (.tmp 2))), none⟩
(.take ⟨(some 10), (.pure (.mv (.tmp 1))), none⟩
(.take ⟨(some 13), (.pure (.fieldAddr 1 (.tmp 2))), none⟩
(.take ⟨(some 15), (.pure (.mv (.tmp 1))), none⟩
(.take ⟨(some 16), (.pure (.bin .add (.tmp 15) (.const (.int .i64 (1))))), none⟩
(.take ⟨(some 6), (.load none (.tmp 5)), none⟩
(.take ⟨(some 9), (.load none (.tmp 8)), none⟩
(.take ⟨(some 11), (.pure (.slc 3 (.tmp 9) none (some (.tmp 10)) none)), none⟩
(.take ⟨(some 14), (.load none (.tmp 13)), none⟩
(.take ⟨(some 17), (.pure (.slc 3 (.tmp 14) (some (.tmp 16)) none none)), none⟩
(.only false ⟨(some 7), (.eff (.row 88 0 [] [])), none⟩
(.only false ⟨(some 12), (.eff (.app 88 3 24 (.tmp 7) (.tmp 11))), none⟩
(.only false ⟨(some 18), (.eff (.app 88 3 24 (.tmp 12) (.tmp 17))), none⟩
(.take ⟨(some 19), (.pure (.build [(.slice none 0 0), (.slice none 0 0)] [(0, 1, (.tmp 6)), (1, 1, (.tmp 18))])), none⟩
(.only true ⟨none, (.eff (.store 2 (.tmp 4) (.tmp 19))), none⟩
(.done))))))))))))))))))
(.ret)),
[.cell 4 (some 2)]⟩
theorem r_spec_roWithout : resFun Try.prog f_spec_roWithout = some c_spec_roWithout := by kernel_rfl

/- loop.example/g00940/impl.isLink -/
abbrev f_impl_isLink : Nat := 110
def c_impl_isLink : MFun := ⟨15, .seq (.ops [
.op ⟨(some 2), (.eff (.box 32 (.tmp 0))), none⟩,
.op ⟨(some 4), (.pure (.mv (.const (.bool false)))), none⟩])
(.seq (.ops [
.op ⟨(some 5), (.load (some 2) (.tmp 2)), none⟩,
.op ⟨(some 6), (.eff (.call 127 [(.tmp 5)])), none⟩,
.op ⟨(some 7), (.pure (.mv (.tmp 6))), none⟩,
.split 7,
.op ⟨(some 8), (.pure (.mv (.tmp 1))), (some (7, true))⟩,
.op ⟨(some 9), (.pure (.fieldAddr 1 (.tmp 2))), (some (7, true))⟩,
.op ⟨(some 10), (.load none (.tmp 9)), (some (7, true))⟩,
.op ⟨(some 11), (.pure (.len (.tmp 10))), (some (7, true))⟩,
.op ⟨(some 12), (.pure (.bin .sub (.tmp 11) (.const (.int .i64 (1))))), (some (7, true))⟩,
.op ⟨(some 13), (.eff (.call 129 [(.tmp 8), (.const (.int .i64 (0))), (.tmp 12)])), (some (7, true))⟩,
.op ⟨(some 14), (.pure (.pick (.tmp 7) (.tmp 13) (.const (.bool false)))), none⟩,
.op ⟨(some 4), (.pure (.mv (.tmp 14))), none⟩])
(.ret)),
[.tmp 4]⟩
theorem r_impl_isLink : resFun Try.prog f_impl_isLink = some c_impl_isLink := by kernel_rfl

/- loop.example/g00940/impl.withoutLink -/
abbrev f_impl_withoutLink : Nat := 111
def c_impl_withoutLink : MFun := ⟨15, .seq (.ops [
.op ⟨(some 2), (.eff (.box 32 (.tmp 0))), none⟩,
.op ⟨(some 4), (.eff (.new 32 [(.slice none 0 0), (.slice none 0 0)])), none⟩])
(.seq (.draw true
(.take ⟨(some 5), (.pure (.fieldAddr 0 (.tmp 2))), none⟩
(.take ⟨(some 7), (.pure (.fieldAddr 1 (.tmp 2))), none⟩
(.take ⟨(some 10), (.pure (.mv (.tmp 1))), none⟩
(.take ⟨(some 11), (.pure (.mv (.tmp 1))), none⟩
(.take ⟨(some 12), (.pure (.bin .add (.tmp 11) (.const (.int .i64 (1))))), none⟩
(.take ⟨(some 6), (.load none (.tmp 5)), none⟩
(.only false ⟨(some 8), (.load none (.tmp 7)), none⟩
(.only false ⟨(some 9), (.eff (.call 175 [(.tmp 8)])), none⟩
(.only false ⟨(some 13), (.eff (.call 174 [(.tmp 9), (.tmp 10), (.tmp 12)])), none⟩
(.take ⟨(some 14), (.pure (.build [(.slice none 0 0), (.slice none 0 0)] [(0, 1, (.tmp 6)), (1, 1, (.tmp 13))])), none⟩
(.only true ⟨none, (.eff (.store 2 (.tmp 4) (.tmp 14))), none⟩
(.done)))))))))))))
(.ret)),
[.cell 4 (some 2)]⟩
theorem r_impl_withoutLink : resFun Try.prog f_impl_withoutLink = some c_impl_withoutLink := by kernel_rfl

/- loop.example/g00940/spec.roAsked -/
abbrev f_spec_roAsked : Nat := 112
def c_spec_roAsked : MFun := ⟨25, .seq (.ops [
.op ⟨(some 5), (.eff (.box 32 (.tmp 0))), none⟩,
.op ⟨(some 10), (.pure (.mv (.const (.bool false)))), none⟩])
(.seq (.ops [
.op ⟨(some 11), (.load (some 2) (.tmp 5)), none⟩,
.op ⟨(some 12), (.pure (.mv (.tmp 1))), none⟩,
.op ⟨(some 13), (.pure (.mv (.tmp 4))), none⟩,
.op ⟨(some 14), (.eff (.call 125 [(.tmp 11), (.tmp 12), (.tmp 13)])), none⟩,
.op ⟨(some 15), (.pure (.mv (.tmp 14))), none⟩,
.split 15,
.op ⟨(some 16), (.load (some 2) (.tmp 5)), (some (15, true))⟩,
.op ⟨(some 17), (.pure (.mv (.tmp 2))), (some (15, true))⟩,
.op ⟨(some 18), (.eff (.call 126 [(.tmp 16), (.tmp 17)])), (some (15, true))⟩,
.op ⟨(some 19), (.pure (.pick (.tmp 15) (.tmp 18) (.const (.bool false)))), none⟩,
.op ⟨(some 20), (.pure (.mv (.tmp 19))), none⟩,
.split 20,
.op ⟨(some 21), (.load (some 2) (.tmp 5)), (some (20, true))⟩,
.op ⟨(some 22), (.pure (.mv (.tmp 3))), (some (20, true))⟩,
.op ⟨(some 23), (.eff (.call 126 [(.tmp 21), (.tmp 22)])), (some (20, true))⟩,
.op ⟨(some 24), (.pure (.pick (.tmp 20) (.tmp 23) (.const (.bool false)))), none⟩,
.op ⟨(some 10), (.pure (.mv (.tmp 24))), none⟩])
(.ret)),
[.tmp 10]⟩
theorem r_spec_roAsked : resFun Try.prog f_spec_roAsked = some c_spec_roAsked := by kernel_rfl

/- loop.example/g00940/spec.roFirst -/
abbrev f_spec_roFirst : Nat := 113
def c_spec_roFirst : MFun := ⟨110, .seq (.ops [
.op ⟨(some 4), (.eff (.box 32 (.tmp 0))), none⟩,
.op ⟨(some 8), (.pure (.mv (.const (.slice none 0 0)))), none⟩])
(.seq (.ops [
.op ⟨(some 9), (.pure (.mv (.const (.slice none 0 0)))), none⟩])
(.seq (.seq (.ops [
.op ⟨(some 18), (.pure (.fieldAddr 0 (.tmp 4))), none⟩,
.op ⟨(some 19), (.load none (.tmp 18)), none⟩,
.op ⟨(some 20), (.pure (.len (.tmp 19))), none⟩,
.op ⟨(some 21), (.pure (.mv (.const (.int .i64 (0))))), none⟩])
(.block 0 (.loop (.seq (.ops [
.op ⟨(some 22), (.pure (.bin .lss (.tmp 21) (.tmp 20))), none⟩])
(.seq (.cond (.tmp 22)
(.skip)
(.exit 0))
(.seq (.block 1 (.ops [
.op ⟨(some 23), (.pure (.mv (.tmp 9))), none⟩,
.op ⟨(some 24), (.eff (.row 3 1 [(.int .i64 (0))] [(0, 1, (.const (.int .i64 (-1))))])), none⟩,
.op ⟨(some 25), (.eff (.app 3 1 8 (.tmp 23) (.tmp 24))), none⟩,
.op ⟨(some 9), (.pure (.mv (.tmp 25))), none⟩]))
(.ops [
.op ⟨(some 26), (.pure (.bin .add (.tmp 21) (.const (.int .i64 (1))))), none⟩,
.op ⟨(some 21), (.pure (.mv (.tmp 26))), none⟩])))))))
(.seq (.ops [
.op ⟨(some 27), (.pure (.mv (.tmp 9))), none⟩,
.op ⟨(some 28), (.pure (.mv (.tmp 2))), none⟩,
.op ⟨(some 29), (.pure (.mv (.tmp 3))), none⟩,
.op ⟨(some 30), (.pure (.idx 1 (.tmp 27) (.tmp 28))), none⟩,
.op ⟨none, (.eff (.store 1 (.tmp 30) (.tmp 29))), none⟩])
(.seq (.ops [
.op ⟨(some 31), (.pure (.fieldAddr 0 (.tmp 4))), none⟩,
.op ⟨(some 32), (.load none (.tmp 31)), none⟩,
.op ⟨(some 33), (.pure (.len (.tmp 32))), none⟩,
.op ⟨(some 34), (.eff (.mk 4 1 1 [(.bool false)] (.tmp 33) (.tmp 33))), none⟩,
.op ⟨(some 10), (.pure (.mv (.tmp 34))), none⟩])
(.block 2 (.loop (.block 3 (.seq (.ops [
.op ⟨(some 11), (.pure (.mv (.const (.int .i64 (-1))))), none⟩])
(.seq (.seq (.ops [
.op ⟨(some 35), (.pure (.mv (.tmp 9))), none⟩,
.op ⟨(some 36), (.pure (.len (.tmp 35))), none⟩,
.op ⟨(some 37), (.pure (.mv (.const (.int .i64 (0))))), none⟩])
(.block 4 (.loop (.seq (.ops [
.op ⟨(some 38), (.pure (.bin .lss (.tmp 37) (.tmp 36))), none⟩])
(.seq (.cond (.tmp 38)
(.skip)
(.exit 4))
(.seq (.block 5 (.seq (.ops [
.op ⟨(some 39), (.pure (.mv (.tmp 37))), none⟩,
.op ⟨(some 40), (.pure (.idx 1 (.tmp 35) (.tmp 37))), none⟩,
.op ⟨(some 41), (.load none (.tmp 40)), none⟩,
.op ⟨(some 12), (.pure (.mv (.tmp 39))), none⟩,
.op ⟨(some 13), (.pure (.mv (.tmp 41))), none⟩])
(.seq (.ops [
.op ⟨(some 42), (.pure (.mv (.tmp 10))), none⟩,
.op ⟨(some 43), (.pure (.mv (.tmp 12))), none⟩,
.op ⟨(some 44), (.pure (.idx 1 (.tmp 42) (.tmp 43))), none⟩,
.op ⟨(some 45), (.load none (.tmp 44)), none⟩,
.op ⟨(some 46), (.pure (.bnot (.tmp 45))), none⟩,
.op ⟨(some 47), (.pure (.mv (.tmp 46))), none⟩,
.split 47,
.op ⟨(some 48), (.pure (.mv (.tmp 13))), (some (47, true))⟩,
.op ⟨(some 49), (.pure (.bin .geq (.tmp 48) (.const (.int .i64 (0))))), (some (47, true))⟩,
.op ⟨(some 50), (.pure (.pick (.tmp 47) (.tmp 49) (.const (.bool false)))), none⟩,
.op ⟨(some 51), (.pure (.mv (.tmp 50))), none⟩,
.split 51,
.op ⟨(some 52), (.pure (.mv (.tmp 11))), (some (51, true))⟩,
.op ⟨(some 53), (.pure (.bin .lss (.tmp 52) (.const (.int .i64 (0))))), (some (51, true))⟩,
.op ⟨(some 54), (.pure (.mv (.tmp 53))), (some (51, true))⟩,
.split 54,
.op ⟨(some 55), (.pure (.mv (.tmp 13))), (some (54, false))⟩,
.op ⟨(some 56), (.pure (.mv (.tmp 9))), (some (54, false))⟩,
.op ⟨(some 57), (.pure (.mv (.tmp 11))), (some (54, false))⟩,
.op ⟨(some 58), (.pure (.idx 1 (.tmp 56) (.tmp 57))), (some (54, false))⟩,
.op ⟨(some 59), (.load none (.tmp 58)), (some (54, false))⟩,
.op ⟨(some 60), (.pure (.bin .lss (.tmp 55) (.tmp 59))), (some (54, false))⟩,
.op ⟨(some 61), (.pure (.pick (.tmp 54) (.const (.bool true)) (.tmp 60))), (some (51, true))⟩,
.op ⟨(some 62), (.pure (.pick (.tmp 51) (.tmp 61) (.const (.bool false)))), none⟩])
(.cond (.tmp 62)
(.ops [
.op ⟨(some 63), (.pure (.mv (.tmp 12))), none⟩,
.op ⟨(some 11), (.pure (.mv (.tmp 63))), none⟩])
(.skip)))))
(.ops [
.op ⟨(some 64), (.pure (.bin .add (.tmp 37) (.const (.int .i64 (1))))), none⟩,
.op ⟨(some 37), (.pure (.mv (.tmp 64))), none⟩])))))))
(.seq (.seq (.ops [
.op ⟨(some 65), (.pure (.mv (.tmp 11))), none⟩,
.op ⟨(some 66), (.pure (.bin .lss (.tmp 65) (.const (.int .i64 (0))))), none⟩])
(.cond (.tmp 66)
(.seq (.ops [
.op ⟨(some 67), (.pure (.mv (.tmp 9))), none⟩,
.op ⟨(some 8), (.pure (.mv (.tmp 67))), none⟩])
(.ret))
(.skip)))
(.seq (.ops [
.op ⟨(some 68), (.pure (.mv (.tmp 10))), none⟩,
.op ⟨(some 69), (.pure (.mv (.tmp 11))), none⟩,
.op ⟨(some 70), (.pure (.idx 1 (.tmp 68) (.tmp 69))), none⟩,
.op ⟨none, (.eff (.store 1 (.tmp 70) (.const (.bool true)))), none⟩])
(.seq (.ops [
.op ⟨(some 71), (.pure (.fieldAddr 1 (.tmp 4))), none⟩,
.op ⟨(some 72), (.load none (.tmp 71)), none⟩,
.op ⟨(some 73), (.pure (.len (.tmp 72))), none⟩,
.op ⟨(some 74), (.pure (.mv (.const (.int .i64 (0))))), none⟩])
(.block 6 (.loop (.seq (.ops [
.op ⟨(some 75), (.pure (.bin .lss (.tmp 74) (.tmp 73))), none⟩])
(.seq (.cond (.tmp 75)
(.skip)
(.exit 6))
(.seq (.block 7 (.seq (.ops [
.op ⟨(some 76), (.pure (.mv (.tmp 74))), none⟩,
.op ⟨(some 77), (.pure (.idx 3 (.tmp 72) (.tmp 74))), none⟩,
.op ⟨(some 78), (.load (some 3) (.tmp 77)), none⟩,
.op ⟨(some 15), (.eff (.new 88 [(.int .i64 (0)), (.int .i64 (0)), (.int .i64 (0))])), none⟩,
.op ⟨(some 14), (.pure (.mv (.tmp 76))), none⟩,
.op ⟨none, (.eff (.store 3 (.tmp 15) (.tmp 78))), none⟩])
(.seq (.ops [
.op ⟨(some 79), (.load (some 3) (.tmp 15)), none⟩,
.op ⟨(some 80), (.pure (.mv (.tmp 11))), none⟩,
.op ⟨(some 81), (.eff (.call 176 [(.tmp 79), (.tmp 80)])), none⟩,
.op ⟨(some 16), (.pure (.mv (.tmp 81))), none⟩])
(.seq (.seq (.ops [
.op ⟨(some 82), (.pure (.mv (.tmp 16))), none⟩,
.op ⟨(some 83), (.pure (.bin .lss (.tmp 82) (.const (.int .i64 (0))))), none⟩])
(.cond (.tmp 83)
(.exit 7)
(.skip)))
(.seq (.draw true
(.take ⟨(some 85), (.pure (.mv (.tmp 1))), none⟩
(.take ⟨(some 86), (.pure (.mv (.tmp 14))), none⟩
(.take ⟨(some 87), (.pure (.mv (.tmp 9))), none⟩
(.take ⟨(some 88), (.pure (.mv (.tmp 11))), none⟩
(.take ⟨(some 89), (.pure (.idx 1 (.tmp 87) (.tmp 88))), none⟩
(.take ⟨(some 84), (.load (some 2) (.tmp 4)), none⟩
(.only false ⟨(some 90), (.load none (.tmp 89)), none⟩
(.only true ⟨(some 91), (.eff (.call 177 [(.tmp 84), (.tmp 85), (.tmp 86), (.tmp 90)])), none⟩
(.take ⟨(some 17), (.pure (.mv (.tmp 91))), none⟩
(.done)))))))))))
(.seq (.ops [
.op ⟨(some 92), (.pure (.mv (.tmp 9))), none⟩,
.op ⟨(some 93), (.pure (.mv (.tmp 16))), none⟩,
.op ⟨(some 94), (.pure (.idx 1 (.tmp 92) (.tmp 93))), none⟩,
.op ⟨(some 95), (.load none (.tmp 94)), none⟩,
.op ⟨(some 96), (.pure (.bin .lss (.tmp 95) (.const (.int .i64 (0))))), none⟩,
.op ⟨(some 97), (.pure (.mv (.tmp 96))), none⟩,
.split 97,
.op ⟨(some 98), (.pure (.mv (.tmp 17))), (some (97, false))⟩,
.op ⟨(some 99), (.pure (.mv (.tmp 9))), (some (97, false))⟩,
.op ⟨(some 100), (.pure (.mv (.tmp 16))), (some (97, false))⟩,
.op ⟨(some 101), (.pure (.idx 1 (.tmp 99) (.tmp 100))), (some (97, false))⟩,
.op ⟨(some 102), (.load none (.tmp 101)), (some (97, false))⟩,
.op ⟨(some 103), (.pure (.bin .lss (.tmp 98) (.tmp 102))), (some (97, false))⟩,
.op ⟨(some 104), (.pure (.pick (.tmp 97) (.const (.bool true)) (.tmp 103))), none⟩])
(.cond (.tmp 104)
(.ops [
.op ⟨(some 105), (.pure (.mv (.tmp 9))), none⟩,
.op ⟨(some 106), (.pure (.mv (.tmp 16))), none⟩,
.op ⟨(some 107), (.pure (.mv (.tmp 17))), none⟩,
.op ⟨(some 108), (.pure (.idx 1 (.tmp 105) (.tmp 106))), none⟩,
.op ⟨none, (.eff (.store 1 (.tmp 108) (.tmp 107))), none⟩])
(.skip))))))))
(.ops [
.op ⟨(some 109), (.pure (.bin .add (.tmp 74) (.const (.int .i64 (1))))), none⟩,
.op ⟨(some 74), (.pure (.mv (.tmp 109))), none⟩])))))))))))))))))),
[.tmp 8]⟩
theorem r_spec_roFirst : resFun Try.prog f_spec_roFirst = some c_spec_roFirst := by kernel_rfl
end Go.Proofs.Ythagdkmalchhgaa
