/- The code of this seat's functions, resolved, written by a program of mine; each is held against the given program by the kernel. Condition: none. -/
import Derived.Test.YthagdkmalchhgaaProg
import Derived.Test.YthagdkmalchhgaaBase9
import Derived.KernelRfl
namespace Go.Proofs.Ythagdkmalchhgaa
open Go.Vc

/- loop.example/g00940/spec.l1Most -/
abbrev f_spec_l1Most : Nat := 114
def c_spec_l1Most : MFun := ⟨10, .seq (.ops [
.op ⟨(some 4), (.pure (.mv (.const (.int .i64 (0))))), none⟩])
(.seq (.seq (.ops [
.op ⟨(some 5), (.pure (.mv (.tmp 0))), none⟩,
.op ⟨(some 6), (.pure (.mv (.tmp 1))), none⟩,
.op ⟨(some 7), (.pure (.bin .gtr (.tmp 5) (.tmp 6))), none⟩])
(.cond (.tmp 7)
(.seq (.ops [
.op ⟨(some 8), (.pure (.mv (.tmp 0))), none⟩,
.op ⟨(some 4), (.pure (.mv (.tmp 8))), none⟩])
(.ret))
(.skip)))
(.seq (.ops [
.op ⟨(some 9), (.pure (.mv (.tmp 1))), none⟩,
.op ⟨(some 4), (.pure (.mv (.tmp 9))), none⟩])
(.ret))),
[.tmp 4]⟩
theorem r_spec_l1Most : resFun Try.prog f_spec_l1Most = some c_spec_l1Most := by kernel_rfl

/- loop.example/g00940/impl.wayAsked -/
abbrev f_impl_wayAsked : Nat := 115
def c_impl_wayAsked : MFun := ⟨28, .seq (.ops [
.op ⟨(some 5), (.eff (.box 32 (.tmp 0))), none⟩,
.op ⟨(some 10), (.pure (.mv (.const (.bool false)))), none⟩])
(.seq (.ops [
.op ⟨(some 11), (.load (some 2) (.tmp 5)), none⟩,
.op ⟨(some 12), (.pure (.mv (.tmp 2))), none⟩,
.op ⟨(some 13), (.eff (.call 103 [(.tmp 11), (.tmp 12)])), none⟩,
.op ⟨(some 14), (.pure (.mv (.tmp 13))), none⟩,
.split 14,
.op ⟨(some 15), (.load (some 2) (.tmp 5)), (some (14, true))⟩,
.op ⟨(some 16), (.pure (.mv (.tmp 3))), (some (14, true))⟩,
.op ⟨(some 17), (.eff (.call 103 [(.tmp 15), (.tmp 16)])), (some (14, true))⟩,
.op ⟨(some 18), (.pure (.pick (.tmp 14) (.tmp 17) (.const (.bool false)))), none⟩,
.op ⟨(some 19), (.pure (.mv (.tmp 18))), none⟩,
.split 19,
.op ⟨(some 20), (.load (some 2) (.tmp 5)), (some (19, true))⟩,
.op ⟨(some 21), (.pure (.mv (.tmp 1))), (some (19, true))⟩,
.op ⟨(some 22), (.eff (.call 128 [(.tmp 20), (.tmp 21)])), (some (19, true))⟩,
.op ⟨(some 23), (.pure (.pick (.tmp 19) (.tmp 22) (.const (.bool false)))), none⟩,
.op ⟨(some 24), (.pure (.mv (.tmp 23))), none⟩,
.split 24,
.op ⟨(some 25), (.pure (.mv (.tmp 4))), (some (24, true))⟩,
.op ⟨(some 26), (.eff (.call 129 [(.tmp 25), (.const (.int .i64 (0))), (.const (.int .i64 (10000)))])), (some (24, true))⟩,
.op ⟨(some 27), (.pure (.pick (.tmp 24) (.tmp 26) (.const (.bool false)))), none⟩,
.op ⟨(some 10), (.pure (.mv (.tmp 27))), none⟩])
(.ret)),
[.tmp 10]⟩
theorem r_impl_wayAsked : resFun Try.prog f_impl_wayAsked = some c_impl_wayAsked := by kernel_rfl

/- loop.example/g00940/impl.arrivals -/
abbrev f_impl_arrivals : Nat := 116
def c_impl_arrivals : MFun := ⟨96, .seq (.ops [
.op ⟨(some 4), (.eff (.box 32 (.tmp 0))), none⟩,
.op ⟨(some 8), (.pure (.mv (.const (.slice none 0 0)))), none⟩])
(.seq (.ops [
.op ⟨(some 19), (.pure (.fieldAddr 0 (.tmp 4))), none⟩,
.op ⟨(some 20), (.load none (.tmp 19)), none⟩,
.op ⟨(some 21), (.pure (.len (.tmp 20))), none⟩,
.op ⟨(some 22), (.eff (.mk 3 1 8 [(.int .i64 (0))] (.tmp 21) (.tmp 21))), none⟩,
.op ⟨(some 9), (.pure (.mv (.tmp 22))), none⟩])
(.seq (.seq (.ops [
.op ⟨(some 23), (.pure (.mv (.tmp 9))), none⟩,
.op ⟨(some 24), (.pure (.len (.tmp 23))), none⟩,
.op ⟨(some 25), (.pure (.mv (.const (.int .i64 (0))))), none⟩])
(.block 0 (.loop (.seq (.ops [
.op ⟨(some 26), (.pure (.bin .lss (.tmp 25) (.tmp 24))), none⟩])
(.seq (.cond (.tmp 26)
(.skip)
(.exit 0))
(.seq (.block 1 (.seq (.ops [
.op ⟨(some 27), (.pure (.mv (.tmp 25))), none⟩,
.op ⟨(some 10), (.pure (.mv (.tmp 27))), none⟩])
(.ops [
.op ⟨(some 28), (.pure (.mv (.tmp 9))), none⟩,
.op ⟨(some 29), (.pure (.mv (.tmp 10))), none⟩,
.op ⟨(some 30), (.pure (.idx 1 (.tmp 28) (.tmp 29))), none⟩,
.op ⟨none, (.eff (.store 1 (.tmp 30) (.const (.int .i64 (-1))))), none⟩])))
(.ops [
.op ⟨(some 31), (.pure (.bin .add (.tmp 25) (.const (.int .i64 (1))))), none⟩,
.op ⟨(some 25), (.pure (.mv (.tmp 31))), none⟩])))))))
(.seq (.ops [
.op ⟨(some 32), (.pure (.mv (.tmp 9))), none⟩,
.op ⟨(some 33), (.pure (.mv (.tmp 2))), none⟩,
.op ⟨(some 34), (.pure (.mv (.tmp 3))), none⟩,
.op ⟨(some 35), (.pure (.idx 1 (.tmp 32) (.tmp 33))), none⟩,
.op ⟨none, (.eff (.store 1 (.tmp 35) (.tmp 34))), none⟩])
(.seq (.seq (.ops [
.op ⟨(some 11), (.pure (.mv (.const (.bool true)))), none⟩])
(.block 2 (.loop (.seq (.seq (.ops [
.op ⟨(some 36), (.pure (.mv (.tmp 11))), none⟩])
(.cond (.tmp 36)
(.skip)
(.exit 2)))
(.block 3 (.seq (.ops [
.op ⟨(some 11), (.pure (.mv (.const (.bool false)))), none⟩])
(.seq (.ops [
.op ⟨(some 37), (.pure (.fieldAddr 1 (.tmp 4))), none⟩,
.op ⟨(some 38), (.load none (.tmp 37)), none⟩,
.op ⟨(some 39), (.pure (.len (.tmp 38))), none⟩,
.op ⟨(some 40), (.pure (.mv (.const (.int .i64 (0))))), none⟩])
(.block 4 (.loop (.seq (.ops [
.op ⟨(some 41), (.pure (.bin .lss (.tmp 40) (.tmp 39))), none⟩])
(.seq (.cond (.tmp 41)
(.skip)
(.exit 4))
(.seq (.block 5 (.seq (.ops [
.op ⟨(some 42), (.pure (.mv (.tmp 40))), none⟩,
.op ⟨(some 43), (.pure (.idx 3 (.tmp 38) (.tmp 40))), none⟩,
.op ⟨(some 44), (.load (some 3) (.tmp 43)), none⟩,
.op ⟨(some 13), (.eff (.new 88 [(.int .i64 (0)), (.int .i64 (0)), (.int .i64 (0))])), none⟩,
.op ⟨(some 12), (.pure (.mv (.tmp 42))), none⟩,
.op ⟨none, (.eff (.store 3 (.tmp 13) (.tmp 44))), none⟩])
(.seq (.ops [
.op ⟨(some 45), (.pure (.fieldAddr 0 (.tmp 13))), none⟩,
.op ⟨(some 46), (.load none (.tmp 45)), none⟩,
.op ⟨(some 47), (.pure (.fieldAddr 1 (.tmp 13))), none⟩,
.op ⟨(some 48), (.load none (.tmp 47)), none⟩,
.op ⟨(some 49), (.pure (.build [(.int .i64 (0)), (.int .i64 (0))] [(0, 1, (.tmp 46)), (1, 1, (.tmp 48))])), none⟩,
.op ⟨(some 50), (.pure (.fieldAddr 1 (.tmp 13))), none⟩,
.op ⟨(some 51), (.load none (.tmp 50)), none⟩,
.op ⟨(some 52), (.pure (.fieldAddr 0 (.tmp 13))), none⟩,
.op ⟨(some 53), (.load none (.tmp 52)), none⟩,
.op ⟨(some 54), (.pure (.build [(.int .i64 (0)), (.int .i64 (0))] [(0, 1, (.tmp 51)), (1, 1, (.tmp 53))])), none⟩,
.op ⟨(some 55), (.pure (.build [(.int .i64 (0)), (.int .i64 (0)), (.int .i64 (0)), (.int .i64 (0))] [(0, 2, (.tmp 49)), (2, 2, (.tmp 54))])), none⟩,
.op ⟨(some 56), (.pure (.mv (.const (.int .i64 (0))))), none⟩])
(.block 6 (.loop (.seq (.ops [
.op ⟨(some 57), (.pure (.bin .lss (.tmp 56) (.const (.int .i64 (2))))), none⟩])
(.seq (.cond (.tmp 57)
(.skip)
(.exit 6))
(.seq (.block 7 (.seq (.ops [
.op ⟨(some 58), (.pure (.arr 2 2 (some 2) (.tmp 55) (.tmp 56))), none⟩,
.op ⟨(some 15), (.eff (.new 158 [(.int .i64 (0)), (.int .i64 (0))])), none⟩,
.op ⟨none, (.eff (.store 2 (.tmp 15) (.tmp 58))), none⟩])
(.seq (.ops [
.op ⟨(some 59), (.pure (.idxA 2 1 (.tmp 15) (.const (.int .i64 (0))))), none⟩,
.op ⟨(some 61), (.pure (.idxA 2 1 (.tmp 15) (.const (.int .i64 (1))))), none⟩,
.op ⟨(some 60), (.load none (.tmp 59)), none⟩,
.op ⟨(some 16), (.pure (.mv (.tmp 60))), none⟩,
.op ⟨(some 62), (.load none (.tmp 61)), none⟩,
.op ⟨(some 17), (.pure (.mv (.tmp 62))), none⟩])
(.seq (.seq (.ops [
.op ⟨(some 63), (.pure (.mv (.tmp 9))), none⟩,
.op ⟨(some 64), (.pure (.mv (.tmp 16))), none⟩,
.op ⟨(some 65), (.pure (.idx 1 (.tmp 63) (.tmp 64))), none⟩,
.op ⟨(some 66), (.load none (.tmp 65)), none⟩,
.op ⟨(some 67), (.pure (.bin .lss (.tmp 66) (.const (.int .i64 (0))))), none⟩])
(.cond (.tmp 67)
(.exit 7)
(.skip)))
(.seq (.draw true
(.take ⟨(some 69), (.pure (.mv (.tmp 1))), none⟩
(.take ⟨(some 70), (.pure (.mv (.tmp 12))), none⟩
(.take ⟨(some 71), (.pure (.mv (.tmp 9))), none⟩
(.take ⟨(some 72), (.pure (.mv (.tmp 16))), none⟩
(.take ⟨(some 73), (.pure (.idx 1 (.tmp 71) (.tmp 72))), none⟩
(.take ⟨(some 68), (.load (some 2) (.tmp 4)), none⟩
(.only false ⟨(some 74), (.load none (.tmp 73)), none⟩
(.only true ⟨(some 75), (.eff (.call 131 [(.tmp 68), (.tmp 69), (.tmp 70), (.tmp 74)])), none⟩
(.take ⟨(some 18), (.pure (.mv (.tmp 75))), none⟩
(.done)))))))))))
(.seq (.ops [
.op ⟨(some 76), (.pure (.mv (.tmp 9))), none⟩,
.op ⟨(some 77), (.pure (.mv (.tmp 17))), none⟩,
.op ⟨(some 78), (.pure (.idx 1 (.tmp 76) (.tmp 77))), none⟩,
.op ⟨(some 79), (.load none (.tmp 78)), none⟩,
.op ⟨(some 80), (.pure (.bin .lss (.tmp 79) (.const (.int .i64 (0))))), none⟩,
.op ⟨(some 81), (.pure (.mv (.tmp 80))), none⟩,
.split 81,
.op ⟨(some 82), (.pure (.mv (.tmp 18))), (some (81, false))⟩,
.op ⟨(some 83), (.pure (.mv (.tmp 9))), (some (81, false))⟩,
.op ⟨(some 84), (.pure (.mv (.tmp 17))), (some (81, false))⟩,
.op ⟨(some 85), (.pure (.idx 1 (.tmp 83) (.tmp 84))), (some (81, false))⟩,
.op ⟨(some 86), (.load none (.tmp 85)), (some (81, false))⟩,
.op ⟨(some 87), (.pure (.bin .lss (.tmp 82) (.tmp 86))), (some (81, false))⟩,
.op ⟨(some 88), (.pure (.pick (.tmp 81) (.const (.bool true)) (.tmp 87))), none⟩])
(.cond (.tmp 88)
(.ops [
.op ⟨(some 89), (.pure (.mv (.tmp 9))), none⟩,
.op ⟨(some 90), (.pure (.mv (.tmp 17))), none⟩,
.op ⟨(some 91), (.pure (.mv (.tmp 18))), none⟩,
.op ⟨(some 92), (.pure (.idx 1 (.tmp 89) (.tmp 90))), none⟩,
.op ⟨none, (.eff (.store 1 (.tmp 92) (.tmp 91))), none⟩,
.op ⟨(some 11), (.pure (.mv (.const (.bool true)))), none⟩])
(.skip))))))))
(.ops [
.op ⟨(some 93), (.pure (.bin .add (.tmp 56) (.const (.int .i64 (1))))), none⟩,
.op ⟨(some 56), (.pure (.mv (.tmp 93))), none⟩])))))))))
(.ops [
.op ⟨(some 94), (.pure (.bin .add (.tmp 40) (.const (.int .i64 (1))))), none⟩,
.op ⟨(some 40), (.pure (.mv (.tmp 94))), none⟩])))))))))))))
(.seq (.ops [
.op ⟨(some 95), (.pure (.mv (.tmp 9))), none⟩,
.op ⟨(some 8), (.pure (.mv (.tmp 95))), none⟩])
(.ret)))))),
[.tmp 8]⟩
theorem r_impl_arrivals : resFun Try.prog f_impl_arrivals = some c_impl_arrivals := by kernel_rfl

/- loop.example/g00940/laws.eqFog -/
abbrev f_laws_eqFog : Nat := 117
def c_laws_eqFog : MFun := ⟨20, .seq (.ops [
.op ⟨(some 2), (.eff (.box 96 (.tmp 0))), none⟩,
.op ⟨(some 3), (.eff (.box 96 (.tmp 1))), none⟩,
.op ⟨(some 4), (.pure (.mv (.const (.bool false)))), none⟩])
(.seq (.seq (.ops [
.op ⟨(some 5), (.pure (.fieldAddr 0 (.tmp 2))), none⟩,
.op ⟨(some 6), (.load none (.tmp 5)), none⟩,
.op ⟨(some 7), (.pure (.fieldAddr 0 (.tmp 3))), none⟩,
.op ⟨(some 8), (.load none (.tmp 7)), none⟩,
.op ⟨(some 9), (.pure (.bin .neq (.tmp 6) (.tmp 8))), none⟩])
(.cond (.tmp 9)
(.seq (.ops [
.op ⟨(some 4), (.pure (.mv (.const (.bool false)))), none⟩])
(.ret))
(.skip)))
(.seq (.seq (.ops [
.op ⟨(some 10), (.pure (.fieldAddr 1 (.tmp 2))), none⟩,
.op ⟨(some 11), (.load none (.tmp 10)), none⟩,
.op ⟨(some 12), (.pure (.fieldAddr 1 (.tmp 3))), none⟩,
.op ⟨(some 13), (.load none (.tmp 12)), none⟩,
.op ⟨(some 14), (.pure (.bin .neq (.tmp 11) (.tmp 13))), none⟩])
(.cond (.tmp 14)
(.seq (.ops [
.op ⟨(some 4), (.pure (.mv (.const (.bool false)))), none⟩])
(.ret))
(.skip)))
(.seq (.seq (.ops [
.op ⟨(some 15), (.pure (.fieldAddr 2 (.tmp 2))), none⟩,
.op ⟨(some 16), (.load none (.tmp 15)), none⟩,
.op ⟨(some 17), (.pure (.fieldAddr 2 (.tmp 3))), none⟩,
.op ⟨(some 18), (.load none (.tmp 17)), none⟩,
.op ⟨(some 19), (.pure (.bin .neq (.tmp 16) (.tmp 18))), none⟩])
(.cond (.tmp 19)
(.seq (.ops [
.op ⟨(some 4), (.pure (.mv (.const (.bool false)))), none⟩])
(.ret))
(.skip)))
(.seq (.ops [
.op ⟨(some 4), (.pure (.mv (.const (.bool true)))), none⟩])
(.ret))))),
[.tmp 4]⟩
theorem r_laws_eqFog : resFun Try.prog f_laws_eqFog = some c_laws_eqFog := by kernel_rfl

/- loop.example/g00940/spec.fgSpan -/
abbrev f_spec_fgSpan : Nat := 118
def c_spec_fgSpan : MFun := ⟨28, .seq (.ops [
.op ⟨(some 5), (.eff (.box 32 (.tmp 0))), none⟩,
.op ⟨(some 10), (.pure (.mv (.const (.bool false)))), none⟩])
(.seq (.ops [
.op ⟨(some 11), (.load (some 2) (.tmp 5)), none⟩,
.op ⟨(some 12), (.pure (.mv (.tmp 1))), none⟩,
.op ⟨(some 13), (.pure (.mv (.tmp 2))), none⟩,
.op ⟨(some 14), (.eff (.call 139 [(.tmp 11), (.tmp 12), (.tmp 13)])), none⟩,
.op ⟨(some 15), (.pure (.mv (.tmp 14))), none⟩,
.split 15,
.op ⟨(some 16), (.pure (.mv (.tmp 3))), (some (15, true))⟩,
.op ⟨(some 17), (.eff (.call 140 [(.tmp 16)])), (some (15, true))⟩,
.op ⟨(some 18), (.pure (.pick (.tmp 15) (.tmp 17) (.const (.bool false)))), none⟩,
.op ⟨(some 19), (.pure (.mv (.tmp 18))), none⟩,
.split 19,
.op ⟨(some 20), (.pure (.mv (.tmp 4))), (some (19, true))⟩,
.op ⟨(some 21), (.eff (.call 140 [(.tmp 20)])), (some (19, true))⟩,
.op ⟨(some 22), (.pure (.pick (.tmp 19) (.tmp 21) (.const (.bool false)))), none⟩,
.op ⟨(some 23), (.pure (.mv (.tmp 22))), none⟩,
.split 23,
.op ⟨(some 24), (.pure (.mv (.tmp 3))), (some (23, true))⟩,
.op ⟨(some 25), (.pure (.mv (.tmp 4))), (some (23, true))⟩,
.op ⟨(some 26), (.pure (.bin .leq (.tmp 24) (.tmp 25))), (some (23, true))⟩,
.op ⟨(some 27), (.pure (.pick (.tmp 23) (.tmp 26) (.const (.bool false)))), none⟩,
.op ⟨(some 10), (.pure (.mv (.tmp 27))), none⟩])
(.ret)),
[.tmp 10]⟩
theorem r_spec_fgSpan : resFun Try.prog f_spec_fgSpan = some c_spec_fgSpan := by kernel_rfl

/- loop.example/g00940/spec.l1Least -/
abbrev f_spec_l1Least : Nat := 119
def c_spec_l1Least : MFun := ⟨10, .seq (.ops [
.op ⟨(some 4), (.pure (.mv (.const (.int .i64 (0))))), none⟩])
(.seq (.seq (.ops [
.op ⟨(some 5), (.pure (.mv (.tmp 0))), none⟩,
.op ⟨(some 6), (.pure (.mv (.tmp 1))), none⟩,
.op ⟨(some 7), (.pure (.bin .lss (.tmp 5) (.tmp 6))), none⟩])
(.cond (.tmp 7)
(.seq (.ops [
.op ⟨(some 8), (.pure (.mv (.tmp 0))), none⟩,
.op ⟨(some 4), (.pure (.mv (.tmp 8))), none⟩])
(.ret))
(.skip)))
(.seq (.ops [
.op ⟨(some 9), (.pure (.mv (.tmp 1))), none⟩,
.op ⟨(some 4), (.pure (.mv (.tmp 9))), none⟩])
(.ret))),
[.tmp 4]⟩
theorem r_spec_l1Least : resFun Try.prog f_spec_l1Least = some c_spec_l1Least := by kernel_rfl

/- loop.example/g00940/impl.fogAsked -/
abbrev f_impl_fogAsked : Nat := 120
def c_impl_fogAsked : MFun := ⟨32, .seq (.ops [
.op ⟨(some 5), (.eff (.box 32 (.tmp 0))), none⟩,
.op ⟨(some 10), (.pure (.mv (.const (.bool false)))), none⟩])
(.seq (.ops [
.op ⟨(some 11), (.load (some 2) (.tmp 5)), none⟩,
.op ⟨(some 12), (.pure (.mv (.tmp 2))), none⟩,
.op ⟨(some 13), (.eff (.call 110 [(.tmp 11), (.tmp 12)])), none⟩,
.op ⟨(some 14), (.pure (.mv (.tmp 13))), none⟩,
.split 14,
.op ⟨(some 15), (.load (some 2) (.tmp 5)), (some (14, true))⟩,
.op ⟨(some 16), (.pure (.mv (.tmp 1))), (some (14, true))⟩,
.op ⟨(some 17), (.eff (.call 128 [(.tmp 15), (.tmp 16)])), (some (14, true))⟩,
.op ⟨(some 18), (.pure (.pick (.tmp 14) (.tmp 17) (.const (.bool false)))), none⟩,
.op ⟨(some 19), (.pure (.mv (.tmp 18))), none⟩,
.split 19,
.op ⟨(some 20), (.pure (.mv (.tmp 3))), (some (19, true))⟩,
.op ⟨(some 21), (.pure (.bin .geq (.tmp 20) (.const (.int .i64 (0))))), (some (19, true))⟩,
.op ⟨(some 22), (.pure (.pick (.tmp 19) (.tmp 21) (.const (.bool false)))), none⟩,
.op ⟨(some 23), (.pure (.mv (.tmp 22))), none⟩,
.split 23,
.op ⟨(some 24), (.pure (.mv (.tmp 3))), (some (23, true))⟩,
.op ⟨(some 25), (.pure (.mv (.tmp 4))), (some (23, true))⟩,
.op ⟨(some 26), (.pure (.bin .leq (.tmp 24) (.tmp 25))), (some (23, true))⟩,
.op ⟨(some 27), (.pure (.pick (.tmp 23) (.tmp 26) (.const (.bool false)))), none⟩,
.op ⟨(some 28), (.pure (.mv (.tmp 27))), none⟩,
.split 28,
.op ⟨(some 29), (.pure (.mv (.tmp 4))), (some (28, true))⟩,
.op ⟨(some 30), (.pure (.bin .leq (.tmp 29) (.const (.int .i64 (10000))))), (some (28, true))⟩,
.op ⟨(some 31), (.pure (.pick (.tmp 28) (.tmp 30) (.const (.bool false)))), none⟩,
.op ⟨(some 10), (.pure (.mv (.tmp 31))), none⟩])
(.ret)),
[.tmp 10]⟩
theorem r_impl_fogAsked : resFun Try.prog f_impl_fogAsked = some c_impl_fogAsked := by kernel_rfl

/- loop.example/g00940/laws.markTowerS -/
abbrev f_laws_markTowerS : Nat := 121
def c_laws_markTowerS : MFun := ⟨34, .seq (.ops [
.op ⟨(some 4), (.pure (.mv (.const (.int .i64 (0))))), none⟩])
(.seq (.seq (.ops [
.op ⟨(some 5), (.pure (.mv (.const (.int .i64 (0))))), none⟩])
(.block 0 (.loop (.seq (.seq (.ops [
.op ⟨(some 6), (.pure (.mv (.tmp 5))), none⟩,
.op ⟨(some 7), (.pure (.mv (.tmp 0))), none⟩,
.op ⟨(some 8), (.pure (.len (.tmp 7))), none⟩,
.op ⟨(some 9), (.pure (.bin .lss (.tmp 6) (.tmp 8))), none⟩])
(.cond (.tmp 9)
(.skip)
(.exit 0)))
(.seq (.block 1 (.seq (.ops [
.op ⟨(some 12), (.pure (.mv (.tmp 0))), none⟩,
.op ⟨(some 13), (.pure (.mv (.tmp 5))), none⟩,
.op ⟨(some 14), (.pure (.mv (.tmp 1))), none⟩,
.op ⟨(some 15), (.pure (.idx 3 (.tmp 12) (.tmp 13))), none⟩,
.op ⟨(some 16), (.pure (.fieldAddr 0 (.tmp 15))), none⟩,
.op ⟨none, (.eff (.store 1 (.tmp 16) (.tmp 14))), none⟩])
(.seq (.ops [
.op ⟨(some 17), (.pure (.mv (.tmp 1))), none⟩,
.op ⟨(some 18), (.pure (.bin .add (.tmp 17) (.const (.int .i64 (1))))), none⟩,
.op ⟨(some 1), (.pure (.mv (.tmp 18))), none⟩])
(.seq (.ops [
.op ⟨(some 19), (.pure (.mv (.tmp 0))), none⟩,
.op ⟨(some 20), (.pure (.mv (.tmp 5))), none⟩,
.op ⟨(some 21), (.pure (.mv (.tmp 1))), none⟩,
.op ⟨(some 22), (.pure (.idx 3 (.tmp 19) (.tmp 20))), none⟩,
.op ⟨(some 23), (.pure (.fieldAddr 1 (.tmp 22))), none⟩,
.op ⟨none, (.eff (.store 1 (.tmp 23) (.tmp 21))), none⟩])
(.seq (.ops [
.op ⟨(some 24), (.pure (.mv (.tmp 1))), none⟩,
.op ⟨(some 25), (.pure (.bin .add (.tmp 24) (.const (.int .i64 (1))))), none⟩,
.op ⟨(some 1), (.pure (.mv (.tmp 25))), none⟩])
(.seq (.ops [
.op ⟨(some 26), (.pure (.mv (.tmp 0))), none⟩,
.op ⟨(some 27), (.pure (.mv (.tmp 5))), none⟩,
.op ⟨(some 28), (.pure (.mv (.tmp 1))), none⟩,
.op ⟨(some 29), (.pure (.idx 3 (.tmp 26) (.tmp 27))), none⟩,
.op ⟨(some 30), (.pure (.fieldAddr 2 (.tmp 29))), none⟩,
.op ⟨none, (.eff (.store 1 (.tmp 30) (.tmp 28))), none⟩])
(.ops [
.op ⟨(some 31), (.pure (.mv (.tmp 1))), none⟩,
.op ⟨(some 32), (.pure (.bin .add (.tmp 31) (.const (.int .i64 (1))))), none⟩,
.op ⟨(some 1), (.pure (.mv (.tmp 32))), none⟩])))))))
(.ops [
.op ⟨(some 10), (.pure (.mv (.tmp 5))), none⟩,
.op ⟨(some 11), (.pure (.bin .add (.tmp 10) (.const (.int .i64 (1))))), none⟩,
.op ⟨(some 5), (.pure (.mv (.tmp 11))), none⟩]))))))
(.seq (.ops [
.op ⟨(some 33), (.pure (.mv (.tmp 1))), none⟩,
.op ⟨(some 4), (.pure (.mv (.tmp 33))), none⟩])
(.ret))),
[.tmp 4]⟩
theorem r_laws_markTowerS : resFun Try.prog f_laws_markTowerS = some c_laws_markTowerS := by kernel_rfl

/- loop.example/g00940/laws.markLinkS -/
abbrev f_laws_markLinkS : Nat := 122
def c_laws_markLinkS : MFun := ⟨34, .seq (.ops [
.op ⟨(some 4), (.pure (.mv (.const (.int .i64 (0))))), none⟩])
(.seq (.seq (.ops [
.op ⟨(some 5), (.pure (.mv (.const (.int .i64 (0))))), none⟩])
(.block 0 (.loop (.seq (.seq (.ops [
.op ⟨(some 6), (.pure (.mv (.tmp 5))), none⟩,
.op ⟨(some 7), (.pure (.mv (.tmp 0))), none⟩,
.op ⟨(some 8), (.pure (.len (.tmp 7))), none⟩,
.op ⟨(some 9), (.pure (.bin .lss (.tmp 6) (.tmp 8))), none⟩])
(.cond (.tmp 9)
(.skip)
(.exit 0)))
(.seq (.block 1 (.seq (.ops [
.op ⟨(some 12), (.pure (.mv (.tmp 0))), none⟩,
.op ⟨(some 13), (.pure (.mv (.tmp 5))), none⟩,
.op ⟨(some 14), (.pure (.mv (.tmp 1))), none⟩,
.op ⟨(some 15), (.pure (.idx 3 (.tmp 12) (.tmp 13))), none⟩,
.op ⟨(some 16), (.pure (.fieldAddr 0 (.tmp 15))), none⟩,
.op ⟨none, (.eff (.store 1 (.tmp 16) (.tmp 14))), none⟩])
(.seq (.ops [
.op ⟨(some 17), (.pure (.mv (.tmp 1))), none⟩,
.op ⟨(some 18), (.pure (.bin .add (.tmp 17) (.const (.int .i64 (1))))), none⟩,
.op ⟨(some 1), (.pure (.mv (.tmp 18))), none⟩])
(.seq (.ops [
.op ⟨(some 19), (.pure (.mv (.tmp 0))), none⟩,
.op ⟨(some 20), (.pure (.mv (.tmp 5))), none⟩,
.op ⟨(some 21), (.pure (.mv (.tmp 1))), none⟩,
.op ⟨(some 22), (.pure (.idx 3 (.tmp 19) (.tmp 20))), none⟩,
.op ⟨(some 23), (.pure (.fieldAddr 1 (.tmp 22))), none⟩,
.op ⟨none, (.eff (.store 1 (.tmp 23) (.tmp 21))), none⟩])
(.seq (.ops [
.op ⟨(some 24), (.pure (.mv (.tmp 1))), none⟩,
.op ⟨(some 25), (.pure (.bin .add (.tmp 24) (.const (.int .i64 (1))))), none⟩,
.op ⟨(some 1), (.pure (.mv (.tmp 25))), none⟩])
(.seq (.ops [
.op ⟨(some 26), (.pure (.mv (.tmp 0))), none⟩,
.op ⟨(some 27), (.pure (.mv (.tmp 5))), none⟩,
.op ⟨(some 28), (.pure (.mv (.tmp 1))), none⟩,
.op ⟨(some 29), (.pure (.idx 3 (.tmp 26) (.tmp 27))), none⟩,
.op ⟨(some 30), (.pure (.fieldAddr 2 (.tmp 29))), none⟩,
.op ⟨none, (.eff (.store 1 (.tmp 30) (.tmp 28))), none⟩])
(.ops [
.op ⟨(some 31), (.pure (.mv (.tmp 1))), none⟩,
.op ⟨(some 32), (.pure (.bin .add (.tmp 31) (.const (.int .i64 (1))))), none⟩,
.op ⟨(some 1), (.pure (.mv (.tmp 32))), none⟩])))))))
(.ops [
.op ⟨(some 10), (.pure (.mv (.tmp 5))), none⟩,
.op ⟨(some 11), (.pure (.bin .add (.tmp 10) (.const (.int .i64 (1))))), none⟩,
.op ⟨(some 5), (.pure (.mv (.tmp 11))), none⟩]))))))
(.seq (.ops [
.op ⟨(some 33), (.pure (.mv (.tmp 1))), none⟩,
.op ⟨(some 4), (.pure (.mv (.tmp 33))), none⟩])
(.ret))),
[.tmp 4]⟩
theorem r_laws_markLinkS : resFun Try.prog f_laws_markLinkS = some c_laws_markLinkS := by kernel_rfl

/- loop.example/g00940/spec.roAlong -/
abbrev f_spec_roAlong : Nat := 123
def c_spec_roAlong : MFun := ⟨58, .seq (.ops [
.op ⟨(some 4), (.eff (.box 32 (.tmp 0))), none⟩,
.op ⟨(some 8), (.pure (.mv (.const (.int .i64 (0))))), none⟩,
.op ⟨(some 9), (.pure (.mv (.const (.slice none 0 0)))), none⟩,
.op ⟨(some 10), (.pure (.mv (.const (.bool false)))), none⟩])
(.seq (.seq (.ops [
.op ⟨(some 17), (.load (some 2) (.tmp 4)), none⟩,
.op ⟨(some 18), (.pure (.mv (.tmp 1))), none⟩,
.op ⟨(some 19), (.pure (.mv (.tmp 3))), none⟩,
.op ⟨(some 20), (.eff (.call 125 [(.tmp 17), (.tmp 18), (.tmp 19)])), none⟩,
.op ⟨(some 21), (.pure (.bnot (.tmp 20))), none⟩])
(.cond (.tmp 21)
(.seq (.ops [
.op ⟨(some 8), (.pure (.mv (.const (.int .i64 (0))))), none⟩,
.op ⟨(some 9), (.pure (.mv (.const (.slice none 0 0)))), none⟩,
.op ⟨(some 10), (.pure (.mv (.const (.bool false)))), none⟩])
(.ret))
(.skip)))
(.seq (.ops [
.op ⟨(some 23), (.load (some 2) (.tmp 4)), none⟩,
.op ⟨(some 24), (.pure (.mv (.tmp 2))), none⟩,
.op ⟨(some 25), (.eff (.call 178 [(.tmp 23), (.tmp 24)])), none⟩,
.op ⟨(some 22), (.pure (.mv (.tmp 25))), none⟩,
.op ⟨(some 26), (.pure (.ext 0 (.tmp 22))), none⟩,
.op ⟨(some 27), (.pure (.ext 1 (.tmp 22))), none⟩,
.op ⟨(some 11), (.pure (.mv (.tmp 26))), none⟩,
.op ⟨(some 12), (.pure (.mv (.tmp 27))), none⟩])
(.seq (.seq (.ops [
.op ⟨(some 28), (.pure (.mv (.tmp 12))), none⟩,
.op ⟨(some 29), (.pure (.bnot (.tmp 28))), none⟩])
(.cond (.tmp 29)
(.seq (.ops [
.op ⟨(some 8), (.pure (.mv (.const (.int .i64 (0))))), none⟩,
.op ⟨(some 9), (.pure (.mv (.const (.slice none 0 0)))), none⟩,
.op ⟨(some 10), (.pure (.mv (.const (.bool false)))), none⟩])
(.ret))
(.skip)))
(.seq (.ops [
.op ⟨(some 13), (.pure (.mv (.const (.slice none 0 0)))), none⟩])
(.seq (.seq (.ops [
.op ⟨(some 30), (.pure (.mv (.tmp 11))), none⟩,
.op ⟨(some 31), (.pure (.len (.tmp 30))), none⟩,
.op ⟨(some 32), (.pure (.mv (.const (.int .i64 (0))))), none⟩])
(.block 0 (.loop (.seq (.ops [
.op ⟨(some 33), (.pure (.bin .lss (.tmp 32) (.tmp 31))), none⟩])
(.seq (.cond (.tmp 33)
(.skip)
(.exit 0))
(.seq (.block 1 (.seq (.ops [
.op ⟨(some 34), (.pure (.idx 1 (.tmp 30) (.tmp 32))), none⟩,
.op ⟨(some 35), (.load none (.tmp 34)), none⟩,
.op ⟨(some 15), (.pure (.mv (.tmp 35))), none⟩])
(.seq (.ops [
.op ⟨(some 36), (.load (some 2) (.tmp 4)), none⟩,
.op ⟨(some 37), (.pure (.mv (.tmp 1))), none⟩,
.op ⟨(some 38), (.pure (.mv (.tmp 15))), none⟩,
.op ⟨(some 39), (.pure (.mv (.tmp 3))), none⟩,
.op ⟨(some 40), (.eff (.call 177 [(.tmp 36), (.tmp 37), (.tmp 38), (.tmp 39)])), none⟩,
.op ⟨(some 16), (.pure (.mv (.tmp 40))), none⟩])
(.seq (.ops [
.op ⟨(some 41), (.pure (.mv (.tmp 13))), none⟩,
.op ⟨(some 42), (.pure (.mv (.tmp 16))), none⟩,
.op ⟨(some 43), (.pure (.mv (.tmp 3))), none⟩,
.op ⟨(some 44), (.pure (.bin .sub (.tmp 42) (.tmp 43))), none⟩,
.op ⟨(some 45), (.pure (.fieldAddr 1 (.tmp 4))), none⟩,
.op ⟨(some 46), (.load none (.tmp 45)), none⟩,
.op ⟨(some 47), (.pure (.mv (.tmp 15))), none⟩,
.op ⟨(some 48), (.pure (.idx 3 (.tmp 46) (.tmp 47))), none⟩,
.op ⟨(some 49), (.pure (.fieldAddr 2 (.tmp 48))), none⟩,
.op ⟨(some 50), (.load none (.tmp 49)), none⟩,
.op ⟨(some 51), (.pure (.bin .sub (.tmp 44) (.tmp 50))), none⟩,
.op ⟨(some 52), (.eff (.row 3 1 [(.int .i64 (0))] [(0, 1, (.tmp 51))])), none⟩,
.op ⟨(some 53), (.eff (.app 3 1 8 (.tmp 41) (.tmp 52))), none⟩,
.op ⟨(some 13), (.pure (.mv (.tmp 53))), none⟩])
(.ops [
.op ⟨(some 54), (.pure (.mv (.tmp 16))), none⟩,
.op ⟨(some 3), (.pure (.mv (.tmp 54))), none⟩])))))
(.ops [
.op ⟨(some 55), (.pure (.bin .add (.tmp 32) (.const (.int .i64 (1))))), none⟩,
.op ⟨(some 32), (.pure (.mv (.tmp 55))), none⟩])))))))
(.seq (.ops [
.op ⟨(some 56), (.pure (.mv (.tmp 3))), none⟩,
.op ⟨(some 57), (.pure (.mv (.tmp 13))), none⟩,
.op ⟨(some 8), (.pure (.mv (.tmp 56))), none⟩,
.op ⟨(some 9), (.pure (.mv (.tmp 57))), none⟩,
.op ⟨(some 10), (.pure (.mv (.const (.bool true)))), none⟩])
(.ret))))))),
[.tmp 8, .tmp 9, .tmp 10]⟩
theorem r_spec_roAlong : resFun Try.prog f_spec_roAlong = some c_spec_roAlong := by kernel_rfl

/- loop.example/g00940/impl.linkIndex -/
abbrev f_impl_linkIndex : Nat := 124
def c_impl_linkIndex : MFun := ⟨11, .seq (.ops [
.op ⟨(some 3), (.eff (.box 32 (.tmp 0))), none⟩,
.op ⟨(some 4), (.eff (.box 3 (.tmp 1))), none⟩,
.op ⟨(some 5), (.eff (.box 3 (.tmp 2))), none⟩,
.op ⟨(some 6), (.pure (.mv (.const (.int .i64 (0))))), none⟩])
(.seq (.ops [
.op ⟨(some 7), (.pure (.fieldAddr 1 (.tmp 3))), none⟩,
.op ⟨(some 8), (.load none (.tmp 7)), none⟩,
.op ⟨(some 9), (.pure (.mkfn (.func 180) [] [(.tmp 4), (.tmp 5)])), none⟩,
.op ⟨(some 10), (.eff (.call 179 [(.tmp 8), (.tmp 9)])), none⟩,
.op ⟨(some 6), (.pure (.mv (.tmp 10))), none⟩])
(.ret)),
[.tmp 6]⟩
theorem r_impl_linkIndex : resFun Try.prog f_impl_linkIndex = some c_impl_linkIndex := by kernel_rfl

/- loop.example/g00940/spec.roGood -/
abbrev f_spec_roGood : Nat := 125
def c_spec_roGood : MFun := ⟨18, .seq (.ops [
.op ⟨(some 3), (.eff (.box 32 (.tmp 0))), none⟩,
.op ⟨(some 6), (.pure (.mv (.const (.bool false)))), none⟩])
(.seq (.ops [
.op ⟨(some 7), (.load (some 2) (.tmp 3)), none⟩,
.op ⟨(some 8), (.eff (.call 107 [(.tmp 7)])), none⟩,
.op ⟨(some 9), (.pure (.mv (.tmp 8))), none⟩,
.split 9,
.op ⟨(some 10), (.load (some 2) (.tmp 3)), (some (9, true))⟩,
.op ⟨(some 11), (.pure (.mv (.tmp 1))), (some (9, true))⟩,
.op ⟨(some 12), (.eff (.call 143 [(.tmp 10), (.tmp 11)])), (some (9, true))⟩,
.op ⟨(some 13), (.pure (.pick (.tmp 9) (.tmp 12) (.const (.bool false)))), none⟩,
.op ⟨(some 14), (.pure (.mv (.tmp 13))), none⟩,
.split 14,
.op ⟨(some 15), (.pure (.mv (.tmp 2))), (some (14, true))⟩,
.op ⟨(some 16), (.eff (.call 140 [(.tmp 15)])), (some (14, true))⟩,
.op ⟨(some 17), (.pure (.pick (.tmp 14) (.tmp 16) (.const (.bool false)))), none⟩,
.op ⟨(some 6), (.pure (.mv (.tmp 17))), none⟩])
(.ret)),
[.tmp 6]⟩
theorem r_spec_roGood : resFun Try.prog f_spec_roGood = some c_spec_roGood := by kernel_rfl

/- loop.example/g00940/spec.roTower -/
abbrev f_spec_roTower : Nat := 126
def c_spec_roTower : MFun := ⟨11, .seq (.ops [
.op ⟨(some 2), (.eff (.box 32 (.tmp 0))), none⟩,
.op ⟨(some 4), (.pure (.mv (.const (.bool false)))), none⟩])
(.seq (.ops [
.op ⟨(some 5), (.pure (.mv (.tmp 1))), none⟩,
.op ⟨(some 6), (.pure (.fieldAddr 0 (.tmp 2))), none⟩,
.op ⟨(some 7), (.load none (.tmp 6)), none⟩,
.op ⟨(some 8), (.pure (.len (.tmp 7))), none⟩,
.op ⟨(some 9), (.pure (.bin .sub (.tmp 8) (.const (.int .i64 (1))))), none⟩,
.op ⟨(some 10), (.eff (.call 108 [(.tmp 5), (.const (.int .i64 (0))), (.tmp 9)])), none⟩,
.op ⟨(some 4), (.pure (.mv (.tmp 10))), none⟩])
(.ret)),
[.tmp 4]⟩
theorem r_spec_roTower : resFun Try.prog f_spec_roTower = some c_spec_roTower := by kernel_rfl

/- loop.example/g00940/impl.IsNet -/
abbrev f_impl_IsNet : Nat := 127
def c_impl_IsNet : MFun := ⟨90, .seq (.ops [
.op ⟨(some 1), (.eff (.box 32 (.tmp 0))), none⟩,
.op ⟨(some 2), (.pure (.mv (.const (.bool false)))), none⟩])
(.seq (.seq (.ops [
.op ⟨(some 7), (.pure (.fieldAddr 0 (.tmp 1))), none⟩,
.op ⟨(some 8), (.load none (.tmp 7)), none⟩,
.op ⟨(some 9), (.pure (.len (.tmp 8))), none⟩,
.op ⟨(some 10), (.eff (.call 129 [(.tmp 9), (.const (.int .i64 (1))), (.const (.int .i64 (16)))])), none⟩,
.op ⟨(some 11), (.pure (.bnot (.tmp 10))), none⟩,
.op ⟨(some 12), (.pure (.mv (.tmp 11))), none⟩,
.split 12,
.op ⟨(some 13), (.pure (.fieldAddr 1 (.tmp 1))), (some (12, false))⟩,
.op ⟨(some 14), (.load none (.tmp 13)), (some (12, false))⟩,
.op ⟨(some 15), (.pure (.len (.tmp 14))), (some (12, false))⟩,
.op ⟨(some 16), (.pure (.bin .gtr (.tmp 15) (.const (.int .i64 (40))))), (some (12, false))⟩,
.op ⟨(some 17), (.pure (.pick (.tmp 12) (.const (.bool true)) (.tmp 16))), none⟩])
(.cond (.tmp 17)
(.seq (.ops [
.op ⟨(some 2), (.pure (.mv (.const (.bool false)))), none⟩])
(.ret))
(.skip)))
(.seq (.seq (.ops [
.op ⟨(some 18), (.pure (.fieldAddr 0 (.tmp 1))), none⟩,
.op ⟨(some 19), (.load none (.tmp 18)), none⟩,
.op ⟨(some 20), (.pure (.len (.tmp 19))), none⟩,
.op ⟨(some 21), (.pure (.mv (.const (.int .i64 (0))))), none⟩])
(.block 0 (.loop (.seq (.ops [
.op ⟨(some 22), (.pure (.bin .lss (.tmp 21) (.tmp 20))), none⟩])
(.seq (.cond (.tmp 22)
(.skip)
(.exit 0))
(.seq (.block 1 (.seq (.ops [
.op ⟨(some 23), (.pure (.idx 3 (.tmp 19) (.tmp 21))), none⟩,
.op ⟨(some 24), (.load (some 3) (.tmp 23)), none⟩,
.op ⟨(some 4), (.eff (.new 147 [(.int .i64 (0)), (.int .i64 (0)), (.int .i64 (0))])), none⟩,
.op ⟨none, (.eff (.store 3 (.tmp 4) (.tmp 24))), none⟩])
(.seq (.ops [
.op ⟨(some 25), (.pure (.fieldAddr 0 (.tmp 4))), none⟩,
.op ⟨(some 26), (.load none (.tmp 25)), none⟩,
.op ⟨(some 27), (.eff (.call 129 [(.tmp 26), (.const (.int .i64 (0))), (.const (.int .i64 (999)))])), none⟩,
.op ⟨(some 28), (.pure (.bnot (.tmp 27))), none⟩,
.op ⟨(some 29), (.pure (.mv (.tmp 28))), none⟩,
.split 29,
.op ⟨(some 30), (.pure (.fieldAddr 1 (.tmp 4))), (some (29, false))⟩,
.op ⟨(some 31), (.load none (.tmp 30)), (some (29, false))⟩,
.op ⟨(some 32), (.eff (.call 129 [(.tmp 31), (.const (.int .i64 (0))), (.const (.int .i64 (999)))])), (some (29, false))⟩,
.op ⟨(some 33), (.pure (.bnot (.tmp 32))), (some (29, false))⟩,
.op ⟨(some 34), (.pure (.pick (.tmp 29) (.const (.bool true)) (.tmp 33))), none⟩,
.op ⟨(some 35), (.pure (.mv (.tmp 34))), none⟩,
.split 35,
.op ⟨(some 36), (.pure (.fieldAddr 2 (.tmp 4))), (some (35, false))⟩,
.op ⟨(some 37), (.load none (.tmp 36)), (some (35, false))⟩,
.op ⟨(some 38), (.eff (.call 129 [(.tmp 37), (.const (.int .i64 (0))), (.const (.int .i64 (500)))])), (some (35, false))⟩,
.op ⟨(some 39), (.pure (.bnot (.tmp 38))), (some (35, false))⟩,
.op ⟨(some 40), (.pure (.pick (.tmp 35) (.const (.bool true)) (.tmp 39))), none⟩])
(.cond (.tmp 40)
(.seq (.ops [
.op ⟨(some 2), (.pure (.mv (.const (.bool false)))), none⟩])
(.ret))
(.skip)))))
(.ops [
.op ⟨(some 41), (.pure (.bin .add (.tmp 21) (.const (.int .i64 (1))))), none⟩,
.op ⟨(some 21), (.pure (.mv (.tmp 41))), none⟩])))))))
(.seq (.seq (.ops [
.op ⟨(some 42), (.pure (.fieldAddr 1 (.tmp 1))), none⟩,
.op ⟨(some 43), (.load none (.tmp 42)), none⟩,
.op ⟨(some 44), (.pure (.len (.tmp 43))), none⟩,
.op ⟨(some 45), (.pure (.mv (.const (.int .i64 (0))))), none⟩])
(.block 2 (.loop (.seq (.ops [
.op ⟨(some 46), (.pure (.bin .lss (.tmp 45) (.tmp 44))), none⟩])
(.seq (.cond (.tmp 46)
(.skip)
(.exit 2))
(.seq (.block 3 (.seq (.ops [
.op ⟨(some 47), (.pure (.mv (.tmp 45))), none⟩,
.op ⟨(some 48), (.pure (.idx 3 (.tmp 43) (.tmp 45))), none⟩,
.op ⟨(some 49), (.load (some 3) (.tmp 48)), none⟩,
.op ⟨(some 6), (.eff (.new 88 [(.int .i64 (0)), (.int .i64 (0)), (.int .i64 (0))])), none⟩,
.op ⟨(some 5), (.pure (.mv (.tmp 47))), none⟩,
.op ⟨none, (.eff (.store 3 (.tmp 6) (.tmp 49))), none⟩])
(.seq (.draw true
(.take ⟨(some 50), (.pure (.fieldAddr 0 (.tmp 6))), none⟩
(.only false ⟨(some 51), (.load none (.tmp 50)), none⟩
(.take ⟨(some 52), (.pure (.bin .lss (.tmp 51) (.const (.int .i64 (0))))), none⟩
(.take ⟨(some 53), (.pure (.mv (.tmp 52))), none⟩
(.split 53
(.take ⟨(some 54), (.pure (.fieldAddr 0 (.tmp 6))), (some (53, false))⟩
(.take ⟨(some 56), (.pure (.fieldAddr 1 (.tmp 6))), (some (53, false))⟩
(.take ⟨(some 55), (.load none (.tmp 54)), (some (53, false))⟩
(.only false ⟨(some 57), (.load none (.tmp 56)), (some (53, false))⟩
(.take ⟨(some 58), (.pure (.bin .geq (.tmp 55) (.tmp 57))), (some (53, false))⟩
(.take ⟨(some 59), (.pure (.pick (.tmp 53) (.const (.bool true)) (.tmp 58))), none⟩
(.take ⟨(some 60), (.pure (.mv (.tmp 59))), none⟩
(.split 60
(.take ⟨(some 61), (.pure (.fieldAddr 1 (.tmp 6))), (some (60, false))⟩
(.take ⟨(some 63), (.pure (.fieldAddr 0 (.tmp 1))), (some (60, false))⟩
(.take ⟨(some 62), (.load none (.tmp 61)), (some (60, false))⟩
(.only false ⟨(some 64), (.load none (.tmp 63)), (some (60, false))⟩
(.take ⟨(some 65), (.pure (.len (.tmp 64))), (some (60, false))⟩
(.take ⟨(some 66), (.pure (.bin .geq (.tmp 62) (.tmp 65))), (some (60, false))⟩
(.take ⟨(some 67), (.pure (.pick (.tmp 60) (.const (.bool true)) (.tmp 66))), none⟩
(.take ⟨(some 68), (.pure (.mv (.tmp 67))), none⟩
(.split 68
(.take ⟨(some 69), (.pure (.fieldAddr 2 (.tmp 6))), (some (68, false))⟩
(.only false ⟨(some 70), (.load none (.tmp 69)), (some (68, false))⟩
(.only false ⟨(some 71), (.eff (.call 129 [(.tmp 70), (.const (.int .i64 (1))), (.const (.int .i64 (60)))])), (some (68, false))⟩
(.take ⟨(some 72), (.pure (.bnot (.tmp 71))), (some (68, false))⟩
(.take ⟨(some 73), (.pure (.pick (.tmp 68) (.const (.bool true)) (.tmp 72))), none⟩
(.take ⟨(some 74), (.pure (.mv (.tmp 73))), none⟩
(.split 74
(.take ⟨(some 75), (.pure (.mv (.tmp 5))), (some (74, false))⟩
(.take ⟨(some 76), (.pure (.bin .gtr (.tmp 75) (.const (.int .i64 (0))))), (some (74, false))⟩
(.take ⟨(some 77), (.pure (.mv (.tmp 76))), (some (74, false))⟩
(.split 77
(.take ⟨(some 78), (.pure (.fieldAddr 1 (.tmp 1))), (some (77, true))⟩
(.take ⟨(some 80), (.pure (.mv (.tmp 5))), (some (77, true))⟩
(.take ⟨(some 81), (.pure (.bin .sub (.tmp 80) (.const (.int .i64 (1))))), (some (77, true))⟩
(.take ⟨(some 79), (.load none (.tmp 78)), (some (77, true))⟩
(.take ⟨(some 82), (.pure (.idx 3 (.tmp 79) (.tmp 81))), (some (77, true))⟩
(.take ⟨(some 83), (.load (some 3) (.tmp 82)), (some (77, true))⟩
(.only false ⟨(some 84), (.load (some 3) (.tmp 6)), (some (77, true))⟩
(.only false ⟨(some 85), (.eff (.call 181 [(.tmp 83), (.tmp 84)])), (some (77, true))⟩
(.take ⟨(some 86), (.pure (.bin .geq (.tmp 85) (.const (.int .i64 (0))))), (some (77, true))⟩
(.take ⟨(some 87), (.pure (.pick (.tmp 77) (.tmp 86) (.const (.bool false)))), (some (74, false))⟩
(.take ⟨(some 88), (.pure (.pick (.tmp 74) (.const (.bool true)) (.tmp 87))), none⟩
(.done))))))))))))))))))))))))))))))))))))))))))))))
(.cond (.tmp 88)
(.seq (.ops [
.op ⟨(some 2), (.pure (.mv (.const (.bool false)))), none⟩])
(.ret))
(.skip)))))
(.ops [
.op ⟨(some 89), (.pure (.bin .add (.tmp 45) (.const (.int .i64 (1))))), none⟩,
.op ⟨(some 45), (.pure (.mv (.tmp 89))), none⟩])))))))
(.seq (.ops [
.op ⟨(some 2), (.pure (.mv (.const (.bool true)))), none⟩])
(.ret))))),
[.tmp 2]⟩
theorem r_impl_IsNet : resFun Try.prog f_impl_IsNet = some c_impl_IsNet := by kernel_rfl

/- loop.example/g00940/impl.areFogs -/
abbrev f_impl_areFogs : Nat := 128
def c_impl_areFogs : MFun := ⟨58, .seq (.ops [
.op ⟨(some 2), (.eff (.box 32 (.tmp 0))), none⟩,
.op ⟨(some 4), (.pure (.mv (.const (.bool false)))), none⟩])
(.seq (.seq (.ops [
.op ⟨(some 7), (.pure (.mv (.tmp 1))), none⟩,
.op ⟨(some 8), (.pure (.len (.tmp 7))), none⟩,
.op ⟨(some 9), (.pure (.bin .gtr (.tmp 8) (.const (.int .i64 (60))))), none⟩])
(.cond (.tmp 9)
(.seq (.ops [
.op ⟨(some 4), (.pure (.mv (.const (.bool false)))), none⟩])
(.ret))
(.skip)))
(.seq (.seq (.ops [
.op ⟨(some 10), (.pure (.mv (.tmp 1))), none⟩,
.op ⟨(some 11), (.pure (.len (.tmp 10))), none⟩,
.op ⟨(some 12), (.pure (.mv (.const (.int .i64 (0))))), none⟩])
(.block 0 (.loop (.seq (.ops [
.op ⟨(some 13), (.pure (.bin .lss (.tmp 12) (.tmp 11))), none⟩])
(.seq (.cond (.tmp 13)
(.skip)
(.exit 0))
(.seq (.block 1 (.seq (.ops [
.op ⟨(some 14), (.pure (.mv (.tmp 12))), none⟩,
.op ⟨(some 15), (.pure (.idx 3 (.tmp 10) (.tmp 12))), none⟩,
.op ⟨(some 16), (.load (some 3) (.tmp 15)), none⟩,
.op ⟨(some 6), (.eff (.new 96 [(.int .i64 (0)), (.int .i64 (0)), (.int .i64 (0))])), none⟩,
.op ⟨(some 5), (.pure (.mv (.tmp 14))), none⟩,
.op ⟨none, (.eff (.store 3 (.tmp 6) (.tmp 16))), none⟩])
(.seq (.draw true
(.take ⟨(some 17), (.load (some 2) (.tmp 2)), none⟩
(.only false ⟨(some 18), (.load (some 3) (.tmp 6)), none⟩
(.only false ⟨(some 19), (.eff (.call 163 [(.tmp 17), (.tmp 18)])), none⟩
(.take ⟨(some 20), (.pure (.bnot (.tmp 19))), none⟩
(.take ⟨(some 21), (.pure (.mv (.tmp 20))), none⟩
(.split 21
(.take ⟨(some 22), (.pure (.mv (.tmp 5))), (some (21, false))⟩
(.take ⟨(some 23), (.pure (.bin .gtr (.tmp 22) (.const (.int .i64 (0))))), (some (21, false))⟩
(.take ⟨(some 24), (.pure (.mv (.tmp 23))), (some (21, false))⟩
(.split 24
(.take ⟨(some 25), (.pure (.mv (.tmp 1))), (some (24, true))⟩
(.take ⟨(some 26), (.pure (.mv (.tmp 5))), (some (24, true))⟩
(.take ⟨(some 27), (.pure (.bin .sub (.tmp 26) (.const (.int .i64 (1))))), (some (24, true))⟩
(.take ⟨(some 28), (.pure (.idx 3 (.tmp 25) (.tmp 27))), (some (24, true))⟩
(.take ⟨(some 29), (.load (some 3) (.tmp 28)), (some (24, true))⟩
(.only false ⟨(some 30), (.load (some 3) (.tmp 6)), (some (24, true))⟩
(.only false ⟨(some 31), (.eff (.call 165 [(.tmp 29), (.tmp 30)])), (some (24, true))⟩
(.take ⟨(some 32), (.pure (.bin .geq (.tmp 31) (.const (.int .i64 (0))))), (some (24, true))⟩
(.take ⟨(some 33), (.pure (.mv (.tmp 32))), (some (24, true))⟩
(.split 33
(.take ⟨(some 34), (.pure (.mv (.tmp 1))), (some (33, false))⟩
(.take ⟨(some 35), (.pure (.mv (.tmp 5))), (some (33, false))⟩
(.take ⟨(some 36), (.pure (.bin .sub (.tmp 35) (.const (.int .i64 (1))))), (some (33, false))⟩
(.take ⟨(some 37), (.pure (.idx 3 (.tmp 34) (.tmp 36))), (some (33, false))⟩
(.take ⟨(some 38), (.pure (.fieldAddr 0 (.tmp 37))), (some (33, false))⟩
(.take ⟨(some 40), (.pure (.fieldAddr 0 (.tmp 6))), (some (33, false))⟩
(.take ⟨(some 39), (.load none (.tmp 38)), (some (33, false))⟩
(.only false ⟨(some 41), (.load none (.tmp 40)), (some (33, false))⟩
(.take ⟨(some 42), (.pure (.bin .eql (.tmp 39) (.tmp 41))), (some (33, false))⟩
(.take ⟨(some 43), (.pure (.mv (.tmp 42))), (some (33, false))⟩
(.split 43
(.take ⟨(some 44), (.pure (.mv (.tmp 1))), (some (43, true))⟩
(.take ⟨(some 45), (.pure (.mv (.tmp 5))), (some (43, true))⟩
(.take ⟨(some 46), (.pure (.bin .sub (.tmp 45) (.const (.int .i64 (1))))), (some (43, true))⟩
(.take ⟨(some 47), (.pure (.idx 3 (.tmp 44) (.tmp 46))), (some (43, true))⟩
(.take ⟨(some 48), (.pure (.fieldAddr 2 (.tmp 47))), (some (43, true))⟩
(.take ⟨(some 50), (.pure (.fieldAddr 1 (.tmp 6))), (some (43, true))⟩
(.take ⟨(some 49), (.load none (.tmp 48)), (some (43, true))⟩
(.only false ⟨(some 51), (.load none (.tmp 50)), (some (43, true))⟩
(.take ⟨(some 52), (.pure (.bin .geq (.tmp 49) (.tmp 51))), (some (43, true))⟩
(.take ⟨(some 53), (.pure (.pick (.tmp 43) (.tmp 52) (.const (.bool false)))), (some (33, false))⟩
(.take ⟨(some 54), (.pure (.pick (.tmp 33) (.const (.bool true)) (.tmp 53))), (some (24, true))⟩
(.take ⟨(some 55), (.pure (.pick (.tmp 24) (.tmp 54) (.const (.bool false)))), (some (21, false))⟩
(.take ⟨(some 56), (.pure (.pick (.tmp 21) (.const (.bool true)) (.tmp 55))), none⟩
(.done))))))))))))))))))))))))))))))))))))))))))))))
(.cond (.tmp 56)
(.seq (.ops [
.op ⟨(some 4), (.pure (.mv (.const (.bool false)))), none⟩])
(.ret))
(.skip)))))
(.ops [
.op ⟨(some 57), (.pure (.bin .add (.tmp 12) (.const (.int .i64 (1))))), none⟩,
.op ⟨(some 12), (.pure (.mv (.tmp 57))), none⟩])))))))
(.seq (.ops [
.op ⟨(some 4), (.pure (.mv (.const (.bool true)))), none⟩])
(.ret)))),
[.tmp 4]⟩
theorem r_impl_areFogs : resFun Try.prog f_impl_areFogs = some c_impl_areFogs := by kernel_rfl

/- loop.example/g00940/impl.within -/
abbrev f_impl_within : Nat := 129
def c_impl_within : MFun := ⟨15, .seq (.ops [
.op ⟨(some 6), (.pure (.mv (.const (.bool false)))), none⟩])
(.seq (.ops [
.op ⟨(some 7), (.pure (.mv (.tmp 0))), none⟩,
.op ⟨(some 8), (.pure (.mv (.tmp 1))), none⟩,
.op ⟨(some 9), (.pure (.bin .geq (.tmp 7) (.tmp 8))), none⟩,
.op ⟨(some 10), (.pure (.mv (.tmp 9))), none⟩,
.split 10,
.op ⟨(some 11), (.pure (.mv (.tmp 0))), (some (10, true))⟩,
.op ⟨(some 12), (.pure (.mv (.tmp 2))), (some (10, true))⟩,
.op ⟨(some 13), (.pure (.bin .leq (.tmp 11) (.tmp 12))), (some (10, true))⟩,
.op ⟨(some 14), (.pure (.pick (.tmp 10) (.tmp 13) (.const (.bool false)))), none⟩,
.op ⟨(some 6), (.pure (.mv (.tmp 14))), none⟩])
(.ret)),
[.tmp 6]⟩
theorem r_impl_within : resFun Try.prog f_impl_within = some c_impl_within := by kernel_rfl

/- loop.example/g00940/impl.isWay -/
abbrev f_impl_isWay : Nat := 130
def c_impl_isWay : MFun := ⟨48, .seq (.ops [
.op ⟨(some 2), (.eff (.box 32 (.tmp 0))), none⟩,
.op ⟨(some 4), (.pure (.mv (.const (.bool false)))), none⟩])
(.seq (.seq (.ops [
.op ⟨(some 7), (.pure (.mv (.tmp 1))), none⟩,
.op ⟨(some 8), (.pure (.len (.tmp 7))), none⟩,
.op ⟨(some 9), (.eff (.call 129 [(.tmp 8), (.const (.int .i64 (1))), (.const (.int .i64 (16)))])), none⟩,
.op ⟨(some 10), (.pure (.bnot (.tmp 9))), none⟩,
.op ⟨(some 11), (.pure (.mv (.tmp 10))), none⟩,
.split 11,
.op ⟨(some 12), (.pure (.mv (.tmp 1))), (some (11, false))⟩,
.op ⟨(some 13), (.pure (.fieldAddr 0 (.tmp 2))), (some (11, false))⟩,
.op ⟨(some 14), (.load none (.tmp 13)), (some (11, false))⟩,
.op ⟨(some 15), (.pure (.len (.tmp 14))), (some (11, false))⟩,
.op ⟨(some 16), (.pure (.bin .sub (.tmp 15) (.const (.int .i64 (1))))), (some (11, false))⟩,
.op ⟨(some 17), (.eff (.call 182 [(.tmp 12), (.const (.int .i64 (0))), (.tmp 16)])), (some (11, false))⟩,
.op ⟨(some 18), (.pure (.bnot (.tmp 17))), (some (11, false))⟩,
.op ⟨(some 19), (.pure (.pick (.tmp 11) (.const (.bool true)) (.tmp 18))), none⟩])
(.cond (.tmp 19)
(.seq (.ops [
.op ⟨(some 4), (.pure (.mv (.const (.bool false)))), none⟩])
(.ret))
(.skip)))
(.seq (.seq (.ops [
.op ⟨(some 20), (.pure (.mv (.tmp 1))), none⟩,
.op ⟨(some 21), (.pure (.len (.tmp 20))), none⟩,
.op ⟨(some 22), (.pure (.mv (.const (.int .i64 (0))))), none⟩])
(.block 0 (.loop (.seq (.ops [
.op ⟨(some 23), (.pure (.bin .lss (.tmp 22) (.tmp 21))), none⟩])
(.seq (.cond (.tmp 23)
(.skip)
(.exit 0))
(.seq (.block 1 (.seq (.ops [
.op ⟨(some 24), (.pure (.mv (.tmp 22))), none⟩,
.op ⟨(some 25), (.pure (.idx 1 (.tmp 20) (.tmp 22))), none⟩,
.op ⟨(some 26), (.load none (.tmp 25)), none⟩,
.op ⟨(some 5), (.pure (.mv (.tmp 24))), none⟩,
.op ⟨(some 6), (.pure (.mv (.tmp 26))), none⟩])
(.seq (.draw true
(.take ⟨(some 27), (.pure (.mv (.tmp 1))), none⟩
(.take ⟨(some 28), (.pure (.mv (.tmp 5))), none⟩
(.take ⟨(some 29), (.pure (.slc 1 (.tmp 27) none (some (.tmp 28)) none)), none⟩
(.take ⟨(some 30), (.pure (.mv (.tmp 6))), none⟩
(.only false ⟨(some 31), (.eff (.call 183 [(.tmp 29), (.tmp 30)])), none⟩
(.take ⟨(some 32), (.pure (.mv (.tmp 31))), none⟩
(.split 32
(.take ⟨(some 33), (.pure (.mv (.tmp 5))), (some (32, false))⟩
(.take ⟨(some 34), (.pure (.bin .gtr (.tmp 33) (.const (.int .i64 (0))))), (some (32, false))⟩
(.take ⟨(some 35), (.pure (.mv (.tmp 34))), (some (32, false))⟩
(.split 35
(.take ⟨(some 37), (.pure (.mv (.tmp 1))), (some (35, true))⟩
(.take ⟨(some 38), (.pure (.mv (.tmp 5))), (some (35, true))⟩
(.take ⟨(some 39), (.pure (.bin .sub (.tmp 38) (.const (.int .i64 (1))))), (some (35, true))⟩
(.take ⟨(some 40), (.pure (.idx 1 (.tmp 37) (.tmp 39))), (some (35, true))⟩
(.take ⟨(some 42), (.pure (.mv (.tmp 6))), (some (35, true))⟩
(.take ⟨(some 36), (.load (some 2) (.tmp 2)), (some (35, true))⟩
(.only false ⟨(some 41), (.load none (.tmp 40)), (some (35, true))⟩
(.only true ⟨(some 43), (.eff (.call 124 [(.tmp 36), (.tmp 41), (.tmp 42)])), (some (35, true))⟩
(.take ⟨(some 44), (.pure (.bin .lss (.tmp 43) (.const (.int .i64 (0))))), (some (35, true))⟩
(.take ⟨(some 45), (.pure (.pick (.tmp 35) (.tmp 44) (.const (.bool false)))), (some (32, false))⟩
(.take ⟨(some 46), (.pure (.pick (.tmp 32) (.const (.bool true)) (.tmp 45))), none⟩
(.done))))))))))))))))))))))))
(.cond (.tmp 46)
(.seq (.ops [
.op ⟨(some 4), (.pure (.mv (.const (.bool false)))), none⟩])
(.ret))
(.skip)))))
(.ops [
.op ⟨(some 47), (.pure (.bin .add (.tmp 22) (.const (.int .i64 (1))))), none⟩,
.op ⟨(some 22), (.pure (.mv (.tmp 47))), none⟩])))))))
(.seq (.ops [
.op ⟨(some 4), (.pure (.mv (.const (.bool true)))), none⟩])
(.ret)))),
[.tmp 4]⟩
theorem r_impl_isWay : resFun Try.prog f_impl_isWay = some c_impl_isWay := by kernel_rfl

/- loop.example/g00940/impl.goOver -/
abbrev f_impl_goOver : Nat := 131
def c_impl_goOver : MFun := ⟨23, .seq (.ops [
.op ⟨(some 4), (.eff (.box 32 (.tmp 0))), none⟩,
.op ⟨(some 8), (.pure (.mv (.const (.int .i64 (0))))), none⟩])
(.seq (.ops [
.op ⟨(some 10), (.pure (.fieldAddr 1 (.tmp 4))), none⟩,
.op ⟨(some 11), (.load none (.tmp 10)), none⟩,
.op ⟨(some 12), (.pure (.mv (.tmp 2))), none⟩,
.op ⟨(some 13), (.pure (.idx 3 (.tmp 11) (.tmp 12))), none⟩,
.op ⟨(some 14), (.pure (.fieldAddr 2 (.tmp 13))), none⟩,
.op ⟨(some 15), (.load none (.tmp 14)), none⟩,
.op ⟨(some 9), (.pure (.mv (.tmp 15))), none⟩])
(.seq (.ops [
.op ⟨(some 16), (.pure (.mv (.tmp 1))), none⟩,
.op ⟨(some 17), (.pure (.mv (.tmp 2))), none⟩,
.op ⟨(some 18), (.pure (.mv (.tmp 3))), none⟩,
.op ⟨(some 19), (.pure (.mv (.tmp 9))), none⟩,
.op ⟨(some 20), (.eff (.call 138 [(.tmp 16), (.tmp 17), (.tmp 18), (.tmp 19)])), none⟩,
.op ⟨(some 21), (.pure (.mv (.tmp 9))), none⟩,
.op ⟨(some 22), (.pure (.bin .add (.tmp 20) (.tmp 21))), none⟩,
.op ⟨(some 8), (.pure (.mv (.tmp 22))), none⟩])
(.ret))),
[.tmp 8]⟩
theorem r_impl_goOver : resFun Try.prog f_impl_goOver = some c_impl_goOver := by kernel_rfl

/- loop.example/g00940/spec.roBefore -/
abbrev f_spec_roBefore : Nat := 132
def c_spec_roBefore : MFun := ⟨60, .seq (.ops [
.op ⟨(some 4), (.eff (.box 32 (.tmp 0))), none⟩,
.op ⟨(some 8), (.pure (.mv (.const (.int .i64 (0))))), none⟩])
(.seq (.ops [
.op ⟨(some 9), (.pure (.mv (.const (.int .i64 (-1))))), none⟩])
(.seq (.seq (.ops [
.op ⟨(some 13), (.pure (.fieldAddr 1 (.tmp 4))), none⟩,
.op ⟨(some 14), (.load none (.tmp 13)), none⟩,
.op ⟨(some 15), (.pure (.len (.tmp 14))), none⟩,
.op ⟨(some 16), (.pure (.mv (.const (.int .i64 (0))))), none⟩])
(.block 0 (.loop (.seq (.ops [
.op ⟨(some 17), (.pure (.bin .lss (.tmp 16) (.tmp 15))), none⟩])
(.seq (.cond (.tmp 17)
(.skip)
(.exit 0))
(.seq (.block 1 (.seq (.ops [
.op ⟨(some 18), (.pure (.mv (.tmp 16))), none⟩,
.op ⟨(some 19), (.pure (.idx 3 (.tmp 14) (.tmp 16))), none⟩,
.op ⟨(some 20), (.load (some 3) (.tmp 19)), none⟩,
.op ⟨(some 11), (.eff (.new 88 [(.int .i64 (0)), (.int .i64 (0)), (.int .i64 (0))])), none⟩,
.op ⟨(some 10), (.pure (.mv (.tmp 18))), none⟩,
.op ⟨none, (.eff (.store 3 (.tmp 11) (.tmp 20))), none⟩])
(.seq (.ops [
.op ⟨(some 21), (.load (some 3) (.tmp 11)), none⟩,
.op ⟨(some 22), (.pure (.mv (.tmp 3))), none⟩,
.op ⟨(some 23), (.eff (.call 176 [(.tmp 21), (.tmp 22)])), none⟩,
.op ⟨(some 12), (.pure (.mv (.tmp 23))), none⟩])
(.seq (.draw true
(.take ⟨(some 24), (.pure (.mv (.tmp 12))), none⟩
(.take ⟨(some 25), (.pure (.bin .geq (.tmp 24) (.const (.int .i64 (0))))), none⟩
(.take ⟨(some 26), (.pure (.mv (.tmp 25))), none⟩
(.split 26
(.take ⟨(some 27), (.pure (.mv (.tmp 2))), (some (26, true))⟩
(.take ⟨(some 28), (.pure (.mv (.tmp 12))), (some (26, true))⟩
(.take ⟨(some 29), (.pure (.idx 1 (.tmp 27) (.tmp 28))), (some (26, true))⟩
(.only false ⟨(some 30), (.load none (.tmp 29)), (some (26, true))⟩
(.take ⟨(some 31), (.pure (.bin .geq (.tmp 30) (.const (.int .i64 (0))))), (some (26, true))⟩
(.take ⟨(some 32), (.pure (.pick (.tmp 26) (.tmp 31) (.const (.bool false)))), none⟩
(.take ⟨(some 33), (.pure (.mv (.tmp 32))), none⟩
(.split 33
(.take ⟨(some 35), (.pure (.mv (.tmp 1))), (some (33, true))⟩
(.take ⟨(some 36), (.pure (.mv (.tmp 10))), (some (33, true))⟩
(.take ⟨(some 37), (.pure (.mv (.tmp 2))), (some (33, true))⟩
(.take ⟨(some 38), (.pure (.mv (.tmp 12))), (some (33, true))⟩
(.take ⟨(some 39), (.pure (.idx 1 (.tmp 37) (.tmp 38))), (some (33, true))⟩
(.take ⟨(some 42), (.pure (.mv (.tmp 2))), (some (33, true))⟩
(.take ⟨(some 43), (.pure (.mv (.tmp 3))), (some (33, true))⟩
(.take ⟨(some 44), (.pure (.idx 1 (.tmp 42) (.tmp 43))), (some (33, true))⟩
(.take ⟨(some 34), (.load (some 2) (.tmp 4)), (some (33, true))⟩
(.take ⟨(some 40), (.load none (.tmp 39)), (some (33, true))⟩
(.take ⟨(some 45), (.load none (.tmp 44)), (some (33, true))⟩
(.only false ⟨(some 41), (.eff (.call 177 [(.tmp 34), (.tmp 35), (.tmp 36), (.tmp 40)])), (some (33, true))⟩
(.take ⟨(some 46), (.pure (.bin .eql (.tmp 41) (.tmp 45))), (some (33, true))⟩
(.take ⟨(some 47), (.pure (.pick (.tmp 33) (.tmp 46) (.const (.bool false)))), none⟩
(.take ⟨(some 48), (.pure (.mv (.tmp 47))), none⟩
(.split 48
(.take ⟨(some 49), (.pure (.mv (.tmp 9))), (some (48, true))⟩
(.take ⟨(some 50), (.pure (.bin .lss (.tmp 49) (.const (.int .i64 (0))))), (some (48, true))⟩
(.take ⟨(some 51), (.pure (.mv (.tmp 50))), (some (48, true))⟩
(.split 51
(.take ⟨(some 52), (.pure (.mv (.tmp 12))), (some (51, false))⟩
(.take ⟨(some 53), (.pure (.mv (.tmp 9))), (some (51, false))⟩
(.take ⟨(some 54), (.pure (.bin .lss (.tmp 52) (.tmp 53))), (some (51, false))⟩
(.take ⟨(some 55), (.pure (.pick (.tmp 51) (.const (.bool true)) (.tmp 54))), (some (48, true))⟩
(.take ⟨(some 56), (.pure (.pick (.tmp 48) (.tmp 55) (.const (.bool false)))), none⟩
(.done)))))))))))))))))))))))))))))))))))))))
(.cond (.tmp 56)
(.ops [
.op ⟨(some 57), (.pure (.mv (.tmp 12))), none⟩,
.op ⟨(some 9), (.pure (.mv (.tmp 57))), none⟩])
(.skip))))))
(.ops [
.op ⟨(some 58), (.pure (.bin .add (.tmp 16) (.const (.int .i64 (1))))), none⟩,
.op ⟨(some 16), (.pure (.mv (.tmp 58))), none⟩])))))))
(.seq (.ops [
.op ⟨(some 59), (.pure (.mv (.tmp 9))), none⟩,
.op ⟨(some 8), (.pure (.mv (.tmp 59))), none⟩])
(.ret)))),
[.tmp 8]⟩
theorem r_spec_roBefore : resFun Try.prog f_spec_roBefore = some c_spec_roBefore := by kernel_rfl

/- slices.Reverse[[]int,int] -/
abbrev f_slices_Reverse_Lint_int : Nat := 133
def c_slices_Reverse_Lint_int : MFun := ⟨28, .seq (.ops [
.op ⟨(some 4), (.pure (.mv (.tmp 0))), none⟩,
.op ⟨(some 5), (.pure (.len (.tmp 4))), none⟩,
.op ⟨(some 6), (.pure (.bin .sub (.tmp 5) (.const (.int .i64 (1))))), none⟩,
.op ⟨(some 2), (.pure (.mv (.const (.int .i64 (0))))), none⟩,
.op ⟨(some 3), (.pure (.mv (.tmp 6))), none⟩])
(.block 0 (.loop (.seq (.seq (.ops [
.op ⟨(some 7), (.pure (.mv (.tmp 2))), none⟩,
.op ⟨(some 8), (.pure (.mv (.tmp 3))), none⟩,
.op ⟨(some 9), (.pure (.bin .lss (.tmp 7) (.tmp 8))), none⟩])
(.cond (.tmp 9)
(.skip)
(.exit 0)))
(.seq (.block 1 (.draw true
(.take ⟨(some 14), (.pure (.mv (.tmp 0))), none⟩
(.take ⟨(some 15), (.pure (.mv (.tmp 2))), none⟩
(.take ⟨(some 16), (.pure (.mv (.tmp 0))), none⟩
(.take ⟨(some 17), (.pure (.mv (.tmp 3))), none⟩
(.take ⟨(some 18), (.pure (.mv (.tmp 0))), none⟩
(.take ⟨(some 19), (.pure (.mv (.tmp 3))), none⟩
(.take ⟨(some 20), (.pure (.idx 1 (.tmp 18) (.tmp 19))), none⟩
(.take ⟨(some 22), (.pure (.mv (.tmp 0))), none⟩
(.take ⟨(some 23), (.pure (.mv (.tmp 2))), none⟩
(.take ⟨(some 24), (.pure (.idx 1 (.tmp 22) (.tmp 23))), none⟩
(.take ⟨(some 21), (.load none (.tmp 20)), none⟩
(.only false ⟨(some 25), (.load none (.tmp 24)), none⟩
(.take ⟨(some 26), (.pure (.idx 1 (.tmp 14) (.tmp 15))), none⟩
(.only true ⟨none, (.eff (.store 1 (.tmp 26) (.tmp 21))), none⟩
(.take ⟨(some 27), (.pure (.idx 1 (.tmp 16) (.tmp 17))), none⟩
(.only true ⟨none, (.eff (.store 1 (.tmp 27) (.tmp 25))), none⟩
(.done)))))))))))))))))))
(.ops [
.op ⟨(some 10), (.pure (.mv (.tmp 2))), none⟩,
.op ⟨(some 11), (.pure (.bin .add (.tmp 10) (.const (.int .i64 (1))))), none⟩,
.op ⟨(some 12), (.pure (.mv (.tmp 3))), none⟩,
.op ⟨(some 13), (.pure (.bin .sub (.tmp 12) (.const (.int .i64 (1))))), none⟩,
.op ⟨(some 2), (.pure (.mv (.tmp 11))), none⟩,
.op ⟨(some 3), (.pure (.mv (.tmp 13))), none⟩]))))),
[]⟩
theorem r_slices_Reverse_Lint_int : resFun Try.prog f_slices_Reverse_Lint_int = some c_slices_Reverse_Lint_int := by kernel_rfl

/- loop.example/g00940/impl.startAfter -/
abbrev f_impl_startAfter : Nat := 138
def c_impl_startAfter : MFun := ⟨39, .seq (.ops [
.op ⟨(some 8), (.pure (.mv (.const (.int .i64 (0))))), none⟩])
(.seq (.seq (.ops [
.op ⟨(some 11), (.pure (.mv (.tmp 0))), none⟩,
.op ⟨(some 12), (.pure (.len (.tmp 11))), none⟩,
.op ⟨(some 13), (.pure (.mv (.const (.int .i64 (0))))), none⟩])
(.block 0 (.loop (.seq (.ops [
.op ⟨(some 14), (.pure (.bin .lss (.tmp 13) (.tmp 12))), none⟩])
(.seq (.cond (.tmp 14)
(.skip)
(.exit 0))
(.seq (.block 1 (.seq (.ops [
.op ⟨(some 15), (.pure (.idx 3 (.tmp 11) (.tmp 13))), none⟩,
.op ⟨(some 16), (.load (some 3) (.tmp 15)), none⟩,
.op ⟨(some 10), (.eff (.new 96 [(.int .i64 (0)), (.int .i64 (0)), (.int .i64 (0))])), none⟩,
.op ⟨none, (.eff (.store 3 (.tmp 10) (.tmp 16))), none⟩])
(.seq (.ops [
.op ⟨(some 17), (.pure (.fieldAddr 0 (.tmp 10))), none⟩,
.op ⟨(some 18), (.load none (.tmp 17)), none⟩,
.op ⟨(some 19), (.pure (.mv (.tmp 1))), none⟩,
.op ⟨(some 20), (.pure (.bin .eql (.tmp 18) (.tmp 19))), none⟩,
.op ⟨(some 21), (.pure (.mv (.tmp 20))), none⟩,
.split 21,
.op ⟨(some 22), (.pure (.fieldAddr 2 (.tmp 10))), (some (21, true))⟩,
.op ⟨(some 23), (.load none (.tmp 22)), (some (21, true))⟩,
.op ⟨(some 24), (.pure (.mv (.tmp 2))), (some (21, true))⟩,
.op ⟨(some 25), (.pure (.bin .gtr (.tmp 23) (.tmp 24))), (some (21, true))⟩,
.op ⟨(some 26), (.pure (.pick (.tmp 21) (.tmp 25) (.const (.bool false)))), none⟩,
.op ⟨(some 27), (.pure (.mv (.tmp 26))), none⟩,
.split 27,
.op ⟨(some 28), (.pure (.fieldAddr 1 (.tmp 10))), (some (27, true))⟩,
.op ⟨(some 29), (.load none (.tmp 28)), (some (27, true))⟩,
.op ⟨(some 30), (.pure (.mv (.tmp 2))), (some (27, true))⟩,
.op ⟨(some 31), (.pure (.mv (.tmp 3))), (some (27, true))⟩,
.op ⟨(some 32), (.pure (.bin .add (.tmp 30) (.tmp 31))), (some (27, true))⟩,
.op ⟨(some 33), (.pure (.bin .lss (.tmp 29) (.tmp 32))), (some (27, true))⟩,
.op ⟨(some 34), (.pure (.pick (.tmp 27) (.tmp 33) (.const (.bool false)))), none⟩])
(.cond (.tmp 34)
(.ops [
.op ⟨(some 35), (.pure (.fieldAddr 2 (.tmp 10))), none⟩,
.op ⟨(some 36), (.load none (.tmp 35)), none⟩,
.op ⟨(some 2), (.pure (.mv (.tmp 36))), none⟩])
(.skip)))))
(.ops [
.op ⟨(some 37), (.pure (.bin .add (.tmp 13) (.const (.int .i64 (1))))), none⟩,
.op ⟨(some 13), (.pure (.mv (.tmp 37))), none⟩])))))))
(.seq (.ops [
.op ⟨(some 38), (.pure (.mv (.tmp 2))), none⟩,
.op ⟨(some 8), (.pure (.mv (.tmp 38))), none⟩])
(.ret))),
[.tmp 8]⟩
theorem r_impl_startAfter : resFun Try.prog f_impl_startAfter = some c_impl_startAfter := by kernel_rfl

/- loop.example/g00940/spec.fgHas -/
abbrev f_spec_fgHas : Nat := 139
def c_spec_fgHas : MFun := ⟨22, .seq (.ops [
.op ⟨(some 3), (.eff (.box 32 (.tmp 0))), none⟩,
.op ⟨(some 6), (.pure (.mv (.const (.bool false)))), none⟩])
(.seq (.ops [
.op ⟨(some 7), (.load (some 2) (.tmp 3)), none⟩,
.op ⟨(some 8), (.eff (.call 107 [(.tmp 7)])), none⟩,
.op ⟨(some 9), (.pure (.mv (.tmp 8))), none⟩,
.split 9,
.op ⟨(some 10), (.load (some 2) (.tmp 3)), (some (9, true))⟩,
.op ⟨(some 11), (.pure (.mv (.tmp 1))), (some (9, true))⟩,
.op ⟨(some 12), (.eff (.call 143 [(.tmp 10), (.tmp 11)])), (some (9, true))⟩,
.op ⟨(some 13), (.pure (.pick (.tmp 9) (.tmp 12) (.const (.bool false)))), none⟩,
.op ⟨(some 14), (.pure (.mv (.tmp 13))), none⟩,
.split 14,
.op ⟨(some 15), (.pure (.mv (.tmp 2))), (some (14, true))⟩,
.op ⟨(some 16), (.pure (.fieldAddr 1 (.tmp 3))), (some (14, true))⟩,
.op ⟨(some 17), (.load none (.tmp 16)), (some (14, true))⟩,
.op ⟨(some 18), (.pure (.len (.tmp 17))), (some (14, true))⟩,
.op ⟨(some 19), (.pure (.bin .sub (.tmp 18) (.const (.int .i64 (1))))), (some (14, true))⟩,
.op ⟨(some 20), (.eff (.call 108 [(.tmp 15), (.const (.int .i64 (0))), (.tmp 19)])), (some (14, true))⟩,
.op ⟨(some 21), (.pure (.pick (.tmp 14) (.tmp 20) (.const (.bool false)))), none⟩,
.op ⟨(some 6), (.pure (.mv (.tmp 21))), none⟩])
(.ret)),
[.tmp 6]⟩
theorem r_spec_fgHas : resFun Try.prog f_spec_fgHas = some c_spec_fgHas := by kernel_rfl

/- loop.example/g00940/spec.fgTime -/
abbrev f_spec_fgTime : Nat := 140
def c_spec_fgTime : MFun := ⟨5, .seq (.ops [
.op ⟨(some 2), (.pure (.mv (.const (.bool false)))), none⟩])
(.seq (.ops [
.op ⟨(some 3), (.pure (.mv (.tmp 0))), none⟩,
.op ⟨(some 4), (.eff (.call 108 [(.tmp 3), (.const (.int .i64 (0))), (.const (.int .i64 (10000)))])), none⟩,
.op ⟨(some 2), (.pure (.mv (.tmp 4))), none⟩])
(.ret)),
[.tmp 2]⟩
theorem r_spec_fgTime : resFun Try.prog f_spec_fgTime = some c_spec_fgTime := by kernel_rfl

/- loop.example/g00940/spec.fgStart -/
abbrev f_spec_fgStart : Nat := 141
def c_spec_fgStart : MFun := ⟨39, .seq (.ops [
.op ⟨(some 8), (.pure (.mv (.const (.int .i64 (0))))), none⟩])
(.seq (.seq (.ops [
.op ⟨(some 11), (.pure (.mv (.tmp 0))), none⟩,
.op ⟨(some 12), (.pure (.len (.tmp 11))), none⟩,
.op ⟨(some 13), (.pure (.mv (.const (.int .i64 (0))))), none⟩])
(.block 0 (.loop (.seq (.ops [
.op ⟨(some 14), (.pure (.bin .lss (.tmp 13) (.tmp 12))), none⟩])
(.seq (.cond (.tmp 14)
(.skip)
(.exit 0))
(.seq (.block 1 (.seq (.ops [
.op ⟨(some 15), (.pure (.idx 3 (.tmp 11) (.tmp 13))), none⟩,
.op ⟨(some 16), (.load (some 3) (.tmp 15)), none⟩,
.op ⟨(some 10), (.eff (.new 96 [(.int .i64 (0)), (.int .i64 (0)), (.int .i64 (0))])), none⟩,
.op ⟨none, (.eff (.store 3 (.tmp 10) (.tmp 16))), none⟩])
(.seq (.ops [
.op ⟨(some 17), (.pure (.fieldAddr 0 (.tmp 10))), none⟩,
.op ⟨(some 18), (.load none (.tmp 17)), none⟩,
.op ⟨(some 19), (.pure (.mv (.tmp 1))), none⟩,
.op ⟨(some 20), (.pure (.bin .eql (.tmp 18) (.tmp 19))), none⟩,
.op ⟨(some 21), (.pure (.mv (.tmp 20))), none⟩,
.split 21,
.op ⟨(some 22), (.pure (.mv (.tmp 2))), (some (21, true))⟩,
.op ⟨(some 23), (.pure (.fieldAddr 2 (.tmp 10))), (some (21, true))⟩,
.op ⟨(some 24), (.load none (.tmp 23)), (some (21, true))⟩,
.op ⟨(some 25), (.pure (.bin .lss (.tmp 22) (.tmp 24))), (some (21, true))⟩,
.op ⟨(some 26), (.pure (.pick (.tmp 21) (.tmp 25) (.const (.bool false)))), none⟩,
.op ⟨(some 27), (.pure (.mv (.tmp 26))), none⟩,
.split 27,
.op ⟨(some 28), (.pure (.mv (.tmp 2))), (some (27, true))⟩,
.op ⟨(some 29), (.pure (.mv (.tmp 3))), (some (27, true))⟩,
.op ⟨(some 30), (.pure (.bin .add (.tmp 28) (.tmp 29))), (some (27, true))⟩,
.op ⟨(some 31), (.pure (.fieldAddr 1 (.tmp 10))), (some (27, true))⟩,
.op ⟨(some 32), (.load none (.tmp 31)), (some (27, true))⟩,
.op ⟨(some 33), (.pure (.bin .gtr (.tmp 30) (.tmp 32))), (some (27, true))⟩,
.op ⟨(some 34), (.pure (.pick (.tmp 27) (.tmp 33) (.const (.bool false)))), none⟩])
(.cond (.tmp 34)
(.ops [
.op ⟨(some 35), (.pure (.fieldAddr 2 (.tmp 10))), none⟩,
.op ⟨(some 36), (.load none (.tmp 35)), none⟩,
.op ⟨(some 2), (.pure (.mv (.tmp 36))), none⟩])
(.skip)))))
(.ops [
.op ⟨(some 37), (.pure (.bin .add (.tmp 13) (.const (.int .i64 (1))))), none⟩,
.op ⟨(some 13), (.pure (.mv (.tmp 37))), none⟩])))))))
(.seq (.ops [
.op ⟨(some 38), (.pure (.mv (.tmp 2))), none⟩,
.op ⟨(some 8), (.pure (.mv (.tmp 38))), none⟩])
(.ret))),
[.tmp 8]⟩
theorem r_spec_fgStart : resFun Try.prog f_spec_fgStart = some c_spec_fgStart := by kernel_rfl

/- loop.example/g00940/spec.fgGood -/
abbrev f_spec_fgGood : Nat := 143
def c_spec_fgGood : MFun := ⟨57, .seq (.ops [
.op ⟨(some 2), (.eff (.box 32 (.tmp 0))), none⟩,
.op ⟨(some 4), (.pure (.mv (.const (.bool false)))), none⟩])
(.seq (.seq (.ops [
.op ⟨(some 7), (.pure (.mv (.tmp 1))), none⟩,
.op ⟨(some 8), (.pure (.len (.tmp 7))), none⟩,
.op ⟨(some 9), (.pure (.mv (.const (.int .i64 (0))))), none⟩])
(.block 0 (.loop (.seq (.ops [
.op ⟨(some 10), (.pure (.bin .lss (.tmp 9) (.tmp 8))), none⟩])
(.seq (.cond (.tmp 10)
(.skip)
(.exit 0))
(.seq (.block 1 (.seq (.ops [
.op ⟨(some 11), (.pure (.mv (.tmp 9))), none⟩,
.op ⟨(some 12), (.pure (.idx 3 (.tmp 7) (.tmp 9))), none⟩,
.op ⟨(some 13), (.load (some 3) (.tmp 12)), none⟩,
.op ⟨(some 6), (.eff (.new 96 [(.int .i64 (0)), (.int .i64 (0)), (.int .i64 (0))])), none⟩,
.op ⟨(some 5), (.pure (.mv (.tmp 11))), none⟩,
.op ⟨none, (.eff (.store 3 (.tmp 6) (.tmp 13))), none⟩])
(.seq (.seq (.ops [
.op ⟨(some 14), (.load (some 2) (.tmp 2)), none⟩,
.op ⟨(some 15), (.load (some 3) (.tmp 6)), none⟩,
.op ⟨(some 16), (.eff (.call 161 [(.tmp 14), (.tmp 15)])), none⟩,
.op ⟨(some 17), (.pure (.bnot (.tmp 16))), none⟩])
(.cond (.tmp 17)
(.seq (.ops [
.op ⟨(some 4), (.pure (.mv (.const (.bool false)))), none⟩])
(.ret))
(.skip)))
(.seq (.ops [
.op ⟨(some 18), (.pure (.mv (.tmp 5))), none⟩,
.op ⟨(some 19), (.pure (.bin .gtr (.tmp 18) (.const (.int .i64 (0))))), none⟩,
.op ⟨(some 20), (.pure (.mv (.tmp 19))), none⟩,
.split 20,
.op ⟨(some 21), (.pure (.mv (.tmp 1))), (some (20, true))⟩,
.op ⟨(some 22), (.pure (.mv (.tmp 5))), (some (20, true))⟩,
.op ⟨(some 23), (.pure (.bin .sub (.tmp 22) (.const (.int .i64 (1))))), (some (20, true))⟩,
.op ⟨(some 24), (.pure (.idx 3 (.tmp 21) (.tmp 23))), (some (20, true))⟩,
.op ⟨(some 25), (.pure (.fieldAddr 0 (.tmp 24))), (some (20, true))⟩,
.op ⟨(some 27), (.pure (.fieldAddr 0 (.tmp 6))), (some (20, true))⟩,
.op ⟨(some 26), (.load none (.tmp 25)), (some (20, true))⟩,
.op ⟨(some 28), (.load none (.tmp 27)), (some (20, true))⟩,
.op ⟨(some 29), (.pure (.bin .gtr (.tmp 26) (.tmp 28))), (some (20, true))⟩,
.op ⟨(some 30), (.pure (.mv (.tmp 29))), (some (20, true))⟩,
.split 30,
.op ⟨(some 31), (.pure (.mv (.tmp 1))), (some (30, false))⟩,
.op ⟨(some 32), (.pure (.mv (.tmp 5))), (some (30, false))⟩,
.op ⟨(some 33), (.pure (.bin .sub (.tmp 32) (.const (.int .i64 (1))))), (some (30, false))⟩,
.op ⟨(some 34), (.pure (.idx 3 (.tmp 31) (.tmp 33))), (some (30, false))⟩,
.op ⟨(some 35), (.pure (.fieldAddr 0 (.tmp 34))), (some (30, false))⟩,
.op ⟨(some 37), (.pure (.fieldAddr 0 (.tmp 6))), (some (30, false))⟩,
.op ⟨(some 36), (.load none (.tmp 35)), (some (30, false))⟩,
.op ⟨(some 38), (.load none (.tmp 37)), (some (30, false))⟩,
.op ⟨(some 39), (.pure (.bin .eql (.tmp 36) (.tmp 38))), (some (30, false))⟩,
.op ⟨(some 40), (.pure (.mv (.tmp 39))), (some (30, false))⟩,
.split 40,
.op ⟨(some 41), (.pure (.mv (.tmp 1))), (some (40, true))⟩,
.op ⟨(some 42), (.pure (.mv (.tmp 5))), (some (40, true))⟩,
.op ⟨(some 43), (.pure (.bin .sub (.tmp 42) (.const (.int .i64 (1))))), (some (40, true))⟩,
.op ⟨(some 44), (.pure (.idx 3 (.tmp 41) (.tmp 43))), (some (40, true))⟩,
.op ⟨(some 45), (.pure (.fieldAddr 2 (.tmp 44))), (some (40, true))⟩,
.op ⟨(some 47), (.pure (.fieldAddr 1 (.tmp 6))), (some (40, true))⟩,
.op ⟨(some 46), (.load none (.tmp 45)), (some (40, true))⟩,
.op ⟨(some 48), (.load none (.tmp 47)), (some (40, true))⟩,
.op ⟨(some 49), (.pure (.bin .geq (.tmp 46) (.tmp 48))), (some (40, true))⟩,
.op ⟨(some 50), (.pure (.pick (.tmp 40) (.tmp 49) (.const (.bool false)))), (some (30, false))⟩,
.op ⟨(some 51), (.pure (.pick (.tmp 30) (.const (.bool true)) (.tmp 50))), (some (20, true))⟩,
.op ⟨(some 52), (.pure (.pick (.tmp 20) (.tmp 51) (.const (.bool false)))), none⟩])
(.cond (.tmp 52)
(.seq (.ops [
.op ⟨(some 4), (.pure (.mv (.const (.bool false)))), none⟩])
(.ret))
(.skip))))))
(.ops [
.op ⟨(some 53), (.pure (.bin .add (.tmp 9) (.const (.int .i64 (1))))), none⟩,
.op ⟨(some 9), (.pure (.mv (.tmp 53))), none⟩])))))))
(.seq (.ops [
.op ⟨(some 54), (.pure (.mv (.tmp 1))), none⟩,
.op ⟨(some 55), (.pure (.len (.tmp 54))), none⟩,
.op ⟨(some 56), (.pure (.bin .leq (.tmp 55) (.const (.int .i64 (60))))), none⟩,
.op ⟨(some 4), (.pure (.mv (.tmp 56))), none⟩])
(.ret))),
[.tmp 4]⟩
theorem r_spec_fgGood : resFun Try.prog f_spec_fgGood = some c_spec_fgGood := by kernel_rfl

/- slices.Index[[]int,int] -/
abbrev f_slices_Index_Lint_int : Nat := 150
def c_slices_Index_Lint_int : MFun := ⟨19, .seq (.ops [
.op ⟨(some 4), (.pure (.mv (.const (.int .i64 (0))))), none⟩])
(.seq (.seq (.ops [
.op ⟨(some 6), (.pure (.mv (.tmp 0))), none⟩,
.op ⟨(some 7), (.pure (.len (.tmp 6))), none⟩,
.op ⟨(some 8), (.pure (.mv (.const (.int .i64 (0))))), none⟩])
(.block 0 (.loop (.seq (.ops [
.op ⟨(some 9), (.pure (.bin .lss (.tmp 8) (.tmp 7))), none⟩])
(.seq (.cond (.tmp 9)
(.skip)
(.exit 0))
(.seq (.block 1 (.seq (.ops [
.op ⟨(some 10), (.pure (.mv (.tmp 8))), none⟩,
.op ⟨(some 5), (.pure (.mv (.tmp 10))), none⟩])
(.seq (.ops [
.op ⟨(some 11), (.pure (.mv (.tmp 1))), none⟩,
.op ⟨(some 12), (.pure (.mv (.tmp 0))), none⟩,
.op ⟨(some 13), (.pure (.mv (.tmp 5))), none⟩,
.op ⟨(some 14), (.pure (.idx 1 (.tmp 12) (.tmp 13))), none⟩,
.op ⟨(some 15), (.load none (.tmp 14)), none⟩,
.op ⟨(some 16), (.pure (.bin .eql (.tmp 11) (.tmp 15))), none⟩])
(.cond (.tmp 16)
(.seq (.ops [
.op ⟨(some 17), (.pure (.mv (.tmp 5))), none⟩,
.op ⟨(some 4), (.pure (.mv (.tmp 17))), none⟩])
(.ret))
(.skip)))))
(.ops [
.op ⟨(some 18), (.pure (.bin .add (.tmp 8) (.const (.int .i64 (1))))), none⟩,
.op ⟨(some 8), (.pure (.mv (.tmp 18))), none⟩])))))))
(.seq (.ops [
.op ⟨(some 4), (.pure (.mv (.const (.int .i64 (-1))))), none⟩])
(.ret))),
[.tmp 4]⟩
theorem r_slices_Index_Lint_int : resFun Try.prog f_slices_Index_Lint_int = some c_slices_Index_Lint_int := by kernel_rfl

/- loop.example/g00940/spec.neHas -/
abbrev f_spec_neHas : Nat := 156
def c_spec_neHas : MFun := ⟨15, .seq (.ops [
.op ⟨(some 2), (.eff (.box 32 (.tmp 0))), none⟩,
.op ⟨(some 4), (.pure (.mv (.const (.bool false)))), none⟩])
(.seq (.ops [
.op ⟨(some 5), (.load (some 2) (.tmp 2)), none⟩,
.op ⟨(some 6), (.eff (.call 107 [(.tmp 5)])), none⟩,
.op ⟨(some 7), (.pure (.mv (.tmp 6))), none⟩,
.split 7,
.op ⟨(some 8), (.pure (.mv (.tmp 1))), (some (7, true))⟩,
.op ⟨(some 9), (.pure (.fieldAddr 0 (.tmp 2))), (some (7, true))⟩,
.op ⟨(some 10), (.load none (.tmp 9)), (some (7, true))⟩,
.op ⟨(some 11), (.pure (.len (.tmp 10))), (some (7, true))⟩,
.op ⟨(some 12), (.pure (.bin .sub (.tmp 11) (.const (.int .i64 (1))))), (some (7, true))⟩,
.op ⟨(some 13), (.eff (.call 108 [(.tmp 8), (.const (.int .i64 (0))), (.tmp 12)])), (some (7, true))⟩,
.op ⟨(some 14), (.pure (.pick (.tmp 7) (.tmp 13) (.const (.bool false)))), none⟩,
.op ⟨(some 4), (.pure (.mv (.tmp 14))), none⟩])
(.ret)),
[.tmp 4]⟩
theorem r_spec_neHas : resFun Try.prog f_spec_neHas = some c_spec_neHas := by kernel_rfl

/- loop.example/g00940/spec.neLink -/
abbrev f_spec_neLink : Nat := 157
def c_spec_neLink : MFun := ⟨41, .seq (.ops [
.op ⟨(some 3), (.eff (.box 32 (.tmp 0))), none⟩,
.op ⟨(some 6), (.pure (.mv (.const (.int .i64 (0))))), none⟩])
(.seq (.seq (.ops [
.op ⟨(some 9), (.pure (.fieldAddr 1 (.tmp 3))), none⟩,
.op ⟨(some 10), (.load none (.tmp 9)), none⟩,
.op ⟨(some 11), (.pure (.len (.tmp 10))), none⟩,
.op ⟨(some 12), (.pure (.mv (.const (.int .i64 (0))))), none⟩])
(.block 0 (.loop (.seq (.ops [
.op ⟨(some 13), (.pure (.bin .lss (.tmp 12) (.tmp 11))), none⟩])
(.seq (.cond (.tmp 13)
(.skip)
(.exit 0))
(.seq (.block 1 (.seq (.ops [
.op ⟨(some 14), (.pure (.mv (.tmp 12))), none⟩,
.op ⟨(some 15), (.pure (.idx 3 (.tmp 10) (.tmp 12))), none⟩,
.op ⟨(some 16), (.load (some 3) (.tmp 15)), none⟩,
.op ⟨(some 8), (.eff (.new 88 [(.int .i64 (0)), (.int .i64 (0)), (.int .i64 (0))])), none⟩,
.op ⟨(some 7), (.pure (.mv (.tmp 14))), none⟩,
.op ⟨none, (.eff (.store 3 (.tmp 8) (.tmp 16))), none⟩])
(.seq (.ops [
.op ⟨(some 17), (.pure (.fieldAddr 0 (.tmp 8))), none⟩,
.op ⟨(some 18), (.load none (.tmp 17)), none⟩,
.op ⟨(some 19), (.pure (.mv (.tmp 1))), none⟩,
.op ⟨(some 20), (.pure (.bin .eql (.tmp 18) (.tmp 19))), none⟩,
.op ⟨(some 21), (.pure (.mv (.tmp 20))), none⟩,
.split 21,
.op ⟨(some 22), (.pure (.fieldAddr 1 (.tmp 8))), (some (21, true))⟩,
.op ⟨(some 23), (.load none (.tmp 22)), (some (21, true))⟩,
.op ⟨(some 24), (.pure (.mv (.tmp 2))), (some (21, true))⟩,
.op ⟨(some 25), (.pure (.bin .eql (.tmp 23) (.tmp 24))), (some (21, true))⟩,
.op ⟨(some 26), (.pure (.pick (.tmp 21) (.tmp 25) (.const (.bool false)))), none⟩,
.op ⟨(some 27), (.pure (.mv (.tmp 26))), none⟩,
.split 27,
.op ⟨(some 28), (.pure (.fieldAddr 0 (.tmp 8))), (some (27, false))⟩,
.op ⟨(some 29), (.load none (.tmp 28)), (some (27, false))⟩,
.op ⟨(some 30), (.pure (.mv (.tmp 2))), (some (27, false))⟩,
.op ⟨(some 31), (.pure (.bin .eql (.tmp 29) (.tmp 30))), (some (27, false))⟩,
.op ⟨(some 32), (.pure (.mv (.tmp 31))), (some (27, false))⟩,
.split 32,
.op ⟨(some 33), (.pure (.fieldAddr 1 (.tmp 8))), (some (32, true))⟩,
.op ⟨(some 34), (.load none (.tmp 33)), (some (32, true))⟩,
.op ⟨(some 35), (.pure (.mv (.tmp 1))), (some (32, true))⟩,
.op ⟨(some 36), (.pure (.bin .eql (.tmp 34) (.tmp 35))), (some (32, true))⟩,
.op ⟨(some 37), (.pure (.pick (.tmp 32) (.tmp 36) (.const (.bool false)))), (some (27, false))⟩,
.op ⟨(some 38), (.pure (.pick (.tmp 27) (.const (.bool true)) (.tmp 37))), none⟩])
(.cond (.tmp 38)
(.seq (.ops [
.op ⟨(some 39), (.pure (.mv (.tmp 7))), none⟩,
.op ⟨(some 6), (.pure (.mv (.tmp 39))), none⟩])
(.ret))
(.skip)))))
(.ops [
.op ⟨(some 40), (.pure (.bin .add (.tmp 12) (.const (.int .i64 (1))))), none⟩,
.op ⟨(some 12), (.pure (.mv (.tmp 40))), none⟩])))))))
(.seq (.ops [
.op ⟨(some 6), (.pure (.mv (.const (.int .i64 (-1))))), none⟩])
(.ret))),
[.tmp 6]⟩
theorem r_spec_neLink : resFun Try.prog f_spec_neLink = some c_spec_neLink := by kernel_rfl
end Go.Proofs.Ythagdkmalchhgaa
