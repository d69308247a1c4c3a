/- The code of this seat's functions, resolved, written by a program of mine; each is held against the given program by the kernel. Condition: none. -/
import Derived.Test.YtgbaonaopkdlpaaProg
import Derived.Test.YtgbaonaopkdlpaaBase9
import Derived.KernelRfl
namespace Go.Proofs.Ytgbaonaopkdlpaa
open Go.Vc

/- loop.example/g00940/spec.WaitsAlong -/
abbrev f_spec_WaitsAlong : Nat := 7
def c_spec_WaitsAlong : MFun := ⟨24, .seq (.ops [ o_e 4 (.box 26 (.tmp 0)), o_p 8 (.mv (.const (.slice none 0 0))), o_p 9 (.mv (.const (.bool false)))])
(.seq (.ops [
.op ⟨(some 14), (.load (some 2) (.tmp 4)), none⟩, o_m 15 1, o_m 16 2, o_m 17 3, o_e 18 (.call 42 [(.tmp 14), (.tmp 15), (.tmp 16), (.tmp 17)]), o_m 13 18, o_p 19 (.ext 0 (.tmp 13)), o_p 20 (.ext 1 (.tmp 13)), o_p 21 (.ext 2 (.tmp 13)), o_m 10 19, o_m 11 20, o_m 12 21])
(.seq (.ops [ o_m 22 11, o_m 23 12, o_m 8 22, o_m 9 23])
(.ret))),
[.tmp 8, .tmp 9]⟩
theorem r_spec_WaitsAlong : resFun Try.prog f_spec_WaitsAlong = some c_spec_WaitsAlong := by kernel_rfl

/- loop.example/g00940/impl.ArrivalAlong -/
abbrev f_impl_ArrivalAlong : Nat := 8
def c_impl_ArrivalAlong : MFun := ⟨53, .seq (.ops [ o_e 4 (.box 26 (.tmp 0)), o_p 8 (.mv (.const (.int .i64 (0)))), o_p 9 (.mv (.const (.bool false)))])
(.seq (.ops [
.op ⟨(some 15), (.load (some 2) (.tmp 4)), none⟩, o_m 16 1, o_m 17 2, o_m 18 3, o_e 19 (.call 6 [(.tmp 15), (.tmp 16), (.tmp 17), (.tmp 18)]), o_m 14 19, o_p 20 (.ext 0 (.tmp 14)), o_p 21 (.ext 1 (.tmp 14)), o_m 10 20, o_m 11 21])
(.seq (.seq (.ops [ o_m 22 11, o_p 23 (.bnot (.tmp 22))])
(.cond (.tmp 23)
(.seq (.ops [ o_p 8 (.mv (.const (.int .i64 (0)))), o_p 9 (.mv (.const (.bool false)))])
(.ret))
(.skip)))
(.seq (.seq (.ops [ o_m 24 10, o_p 25 (.len (.tmp 24)), o_p 26 (.mv (.const (.int .i64 (0))))])
(.block 0 (.loop (.seq (.ops [ o_p 27 (.bin .lss (.tmp 26) (.tmp 25))])
(.seq (.cond (.tmp 27)
(.skip)
(.exit 0))
(.seq (.block 1 (.seq (.ops [ o_m 28 26, o_p 29 (.idx 1 (.tmp 24) (.tmp 26)), o_l 30 29, o_m 12 28, o_m 13 30])
(.draw true
(.take (t_m 31 3)
(.take (t_m 32 13)
(.take (t_p 33 (.fieldAddr 1 (.tmp 4)))
(.take (t_m 36 2)
(.take (t_m 37 12)
(.take (t_p 38 (.idx 1 (.tmp 36) (.tmp 37)))
(.take (t_m 40 2)
(.take (t_m 41 12)
(.take (t_p 42 (.bin .add (.tmp 41) (.const (.int .i64 (1)))))
(.take (t_p 43 (.idx 1 (.tmp 40) (.tmp 42)))
(.only false ⟨(some 35), (.load (some 2) (.tmp 4)), none⟩
(.only false (t_l 39 38)
(.only false (t_l 44 43)
(.take (t_l 34 33)
(.only false (t_e 45 (.call 40 [(.tmp 35), (.tmp 39), (.tmp 44)]))
(.take (t_p 46 (.idx 3 (.tmp 34) (.tmp 45)))
(.take (t_p 47 (.fieldAddr 2 (.tmp 46)))
(.only false (t_l 48 47)
(.take (t_p 49 (.bin .add (.tmp 32) (.tmp 48)))
(.take (t_p 50 (.bin .add (.tmp 31) (.tmp 49)))
(.take (t_m 3 50)
(.done)))))))))))))))))))))))))
(.ops [ o_p 51 (.bin .add (.tmp 26) (.const (.int .i64 (1)))), o_m 26 51])))))))
(.seq (.ops [ o_m 52 3, o_m 8 52, o_p 9 (.mv (.const (.bool true)))])
(.ret))))),
[.tmp 8, .tmp 9]⟩
theorem r_impl_ArrivalAlong : resFun Try.prog f_impl_ArrivalAlong = some c_impl_ArrivalAlong := by kernel_rfl

/- loop.example/g00940/spec.ArrivalAlong -/
/- loop.example/g00940/spec.DrawLinksThatMatter -/
/- loop.example/g00940/impl.LinksThatMatter -/
/- loop.example/g00940/spec.LinksThatMatter -/
/- loop.example/g00940/impl.PlainDelay -/
abbrev f_impl_PlainDelay : Nat := 13
def c_impl_PlainDelay : MFun := ⟨24, .seq (.ops [ o_e 3 (.box 26 (.tmp 0)), o_p 6 (.mv (.const (.int .i64 (0)))), o_p 7 (.mv (.const (.bool false)))])
(.seq (.seq (.ops [
.op ⟨(some 8), (.load (some 2) (.tmp 3)), none⟩, o_m 9 1, o_e 10 (.call 47 [(.tmp 8), (.tmp 9)]), o_p 11 (.bnot (.tmp 10)), o_m 12 11,
.split 12,
.op ⟨(some 13), (.load (some 2) (.tmp 3)), (some (12, false))⟩,
.op ⟨(some 14), (.pure (.mv (.tmp 2))), (some (12, false))⟩,
.op ⟨(some 15), (.eff (.call 47 [(.tmp 13), (.tmp 14)])), (some (12, false))⟩,
.op ⟨(some 16), (.pure (.bnot (.tmp 15))), (some (12, false))⟩, o_p 17 (.pick (.tmp 12) (.const (.bool true)) (.tmp 16))])
(.cond (.tmp 17)
(.seq (.ops [ o_p 6 (.mv (.const (.int .i64 (0)))), o_p 7 (.mv (.const (.bool false)))])
(.ret))
(.skip)))
(.seq (.ops [
.op ⟨(some 18), (.load (some 2) (.tmp 3)), none⟩, o_m 19 1, o_m 20 2, o_e 21 (.call 44 [(.tmp 18), (.tmp 19), (.tmp 20)]), o_p 22 (.ext 0 (.tmp 21)), o_p 23 (.ext 1 (.tmp 21)), o_m 6 22, o_m 7 23])
(.ret))),
[.tmp 6, .tmp 7]⟩
theorem r_impl_PlainDelay : resFun Try.prog f_impl_PlainDelay = some c_impl_PlainDelay := by kernel_rfl

/- loop.example/g00940/spec.PlainDelay -/
abbrev f_spec_PlainDelay : Nat := 14
def c_spec_PlainDelay : MFun := ⟨14, .seq (.ops [ o_e 3 (.box 26 (.tmp 0)), o_p 6 (.mv (.const (.int .i64 (0)))), o_p 7 (.mv (.const (.bool false)))])
(.seq (.ops [
.op ⟨(some 8), (.load (some 2) (.tmp 3)), none⟩, o_m 9 1, o_m 10 2, o_e 11 (.call 25 [(.tmp 8), (.const (.slice none 0 0)), (.tmp 9), (.tmp 10), (.const (.int .i64 (0)))]), o_p 12 (.ext 0 (.tmp 11)), o_p 13 (.ext 1 (.tmp 11)), o_m 6 12, o_m 7 13])
(.ret)),
[.tmp 6, .tmp 7]⟩
theorem r_spec_PlainDelay : resFun Try.prog f_spec_PlainDelay = some c_spec_PlainDelay := by kernel_rfl

/- loop.example/g00940/spec.DrawDelayWithout -/
/- loop.example/g00940/impl.DelayWithout -/
/- loop.example/g00940/spec.DelayWithout -/
/- loop.example/g00940/laws.qInts -/
abbrev f_laws_qInts : Nat := 18
def c_laws_qInts : MFun := ⟨26, .seq (.ops [ o_p 4 (.mv (.const (.bool false)))])
(.seq (.seq (.ops [ o_m 6 0, o_p 7 (.len (.tmp 6)), o_m 8 1, o_p 9 (.len (.tmp 8)), o_p 10 (.bin .neq (.tmp 7) (.tmp 9))])
(.cond (.tmp 10)
(.seq (.ops [ o_p 4 (.mv (.const (.bool false)))])
(.ret))
(.skip)))
(.seq (.seq (.ops [ o_m 11 0, o_p 12 (.len (.tmp 11)), o_p 13 (.mv (.const (.int .i64 (0))))])
(.block 0 (.loop (.seq (.ops [ o_p 14 (.bin .lss (.tmp 13) (.tmp 12))])
(.seq (.cond (.tmp 14)
(.skip)
(.exit 0))
(.seq (.block 1 (.seq (.ops [ o_m 15 13, o_m 5 15])
(.seq (.ops [ o_m 16 0, o_m 17 5, o_p 18 (.idx 1 (.tmp 16) (.tmp 17)), o_m 20 1, o_m 21 5, o_p 22 (.idx 1 (.tmp 20) (.tmp 21)), o_l 19 18, o_l 23 22, o_p 24 (.bin .neq (.tmp 19) (.tmp 23))])
(.cond (.tmp 24)
(.seq (.ops [ o_p 4 (.mv (.const (.bool false)))])
(.ret))
(.skip)))))
(.ops [ o_p 25 (.bin .add (.tmp 13) (.const (.int .i64 (1)))), o_m 13 25])))))))
(.seq (.ops [ o_p 4 (.mv (.const (.bool true)))])
(.ret)))),
[.tmp 4]⟩
theorem r_laws_qInts : resFun Try.prog f_laws_qInts = some c_laws_qInts := by kernel_rfl

/- loop.example/g00940/laws.qHas -/
/- loop.example/g00940/spec.LinkBetween -/
abbrev f_spec_LinkBetween : Nat := 20
def c_spec_LinkBetween : MFun := ⟨29, .seq (.ops [ o_e 3 (.box 26 (.tmp 0)), o_p 6 (.mv (.const (.int .i64 (0)))), o_p 7 (.mv (.const (.bool false)))])
(.seq (.seq (.ops [
.op ⟨(some 8), (.load (some 2) (.tmp 3)), none⟩, o_m 9 1, o_e 10 (.call 54 [(.tmp 8), (.tmp 9)]), o_p 11 (.bnot (.tmp 10)), o_m 12 11,
.split 12,
.op ⟨(some 13), (.load (some 2) (.tmp 3)), (some (12, false))⟩,
.op ⟨(some 14), (.pure (.mv (.tmp 2))), (some (12, false))⟩,
.op ⟨(some 15), (.eff (.call 54 [(.tmp 13), (.tmp 14)])), (some (12, false))⟩,
.op ⟨(some 16), (.pure (.bnot (.tmp 15))), (some (12, false))⟩, o_p 17 (.pick (.tmp 12) (.const (.bool true)) (.tmp 16)), o_m 18 17,
.split 18,
.op ⟨(some 19), (.load (some 2) (.tmp 3)), (some (18, false))⟩,
.op ⟨(some 20), (.pure (.mv (.tmp 1))), (some (18, false))⟩,
.op ⟨(some 21), (.pure (.mv (.tmp 2))), (some (18, false))⟩,
.op ⟨(some 22), (.eff (.call 55 [(.tmp 19), (.tmp 20), (.tmp 21)])), (some (18, false))⟩,
.op ⟨(some 23), (.pure (.bin .lss (.tmp 22) (.const (.int .i64 (0))))), (some (18, false))⟩, o_p 24 (.pick (.tmp 18) (.const (.bool true)) (.tmp 23))])
(.cond (.tmp 24)
(.seq (.ops [ o_p 6 (.mv (.const (.int .i64 (0)))), o_p 7 (.mv (.const (.bool false)))])
(.ret))
(.skip)))
(.seq (.ops [
.op ⟨(some 25), (.load (some 2) (.tmp 3)), none⟩, o_m 26 1, o_m 27 2, o_e 28 (.call 55 [(.tmp 25), (.tmp 26), (.tmp 27)]), o_m 6 28, o_p 7 (.mv (.const (.bool true)))])
(.ret))),
[.tmp 6, .tmp 7]⟩
theorem r_spec_LinkBetween : resFun Try.prog f_spec_LinkBetween = some c_spec_LinkBetween := by kernel_rfl

/- loop.example/g00940/impl.FirstArrival -/
abbrev f_impl_FirstArrival : Nat := 21
def c_impl_FirstArrival : MFun := ⟨31, .seq (.ops [ o_e 5 (.box 26 (.tmp 0)), o_p 10 (.mv (.const (.int .i64 (0)))), o_p 11 (.mv (.const (.bool false)))])
(.seq (.seq (.ops [
.op ⟨(some 13), (.load (some 2) (.tmp 5)), none⟩, o_m 14 1, o_m 15 2, o_m 16 3, o_m 17 4, o_e 18 (.call 56 [(.tmp 13), (.tmp 14), (.tmp 15), (.tmp 16), (.tmp 17)]), o_p 19 (.bnot (.tmp 18))])
(.cond (.tmp 19)
(.seq (.ops [ o_p 10 (.mv (.const (.int .i64 (0)))), o_p 11 (.mv (.const (.bool false)))])
(.ret))
(.skip)))
(.seq (.ops [
.op ⟨(some 20), (.load (some 2) (.tmp 5)), none⟩, o_m 21 1, o_m 22 2, o_m 23 4, o_e 24 (.call 57 [(.tmp 20), (.tmp 21), (.tmp 22), (.tmp 23)]), o_m 25 3, o_p 26 (.idx 1 (.tmp 24) (.tmp 25)), o_l 27 26, o_m 12 27])
(.seq (.seq (.ops [ o_m 28 12, o_p 29 (.bin .lss (.tmp 28) (.const (.int .i64 (0))))])
(.cond (.tmp 29)
(.seq (.ops [ o_p 10 (.mv (.const (.int .i64 (0)))), o_p 11 (.mv (.const (.bool false)))])
(.ret))
(.skip)))
(.seq (.ops [ o_m 30 12, o_m 10 30, o_p 11 (.mv (.const (.bool true)))])
(.ret))))),
[.tmp 10, .tmp 11]⟩
theorem r_impl_FirstArrival : resFun Try.prog f_impl_FirstArrival = some c_impl_FirstArrival := by kernel_rfl

/- loop.example/g00940/spec.DrawWayThrough -/
abbrev f_spec_DrawWayThrough : Nat := 22
def c_spec_DrawWayThrough : MFun := ⟨14, .seq (.ops [ o_e 2 (.new 26 [(.slice none 0 0), (.slice none 0 0)]), o_p 3 (.mv (.const (.slice none 0 0))), o_p 4 (.mv (.const (.int .i64 (0)))), o_p 5 (.mv (.const (.int .i64 (0)))), o_p 6 (.mv (.const (.int .i64 (0))))])
(.seq (.ops [ o_m 7 0, o_e 8 (.call 58 [(.tmp 7)]), o_p 9 (.ext 0 (.tmp 8)), o_p 10 (.ext 1 (.tmp 8)), o_p 11 (.ext 2 (.tmp 8)), o_p 12 (.ext 3 (.tmp 8)), o_p 13 (.ext 4 (.tmp 8)),
.op ⟨none, (.eff (.store 2 (.tmp 2) (.tmp 9))), none⟩, o_m 3 10, o_m 4 11, o_m 5 12, o_m 6 13])
(.ret)),
[.cell 2 (some 2), .tmp 3, .tmp 4, .tmp 5, .tmp 6]⟩
theorem r_spec_DrawWayThrough : resFun Try.prog f_spec_DrawWayThrough = some c_spec_DrawWayThrough := by kernel_rfl

/- loop.example/g00940/impl.WayThrough -/
abbrev f_impl_WayThrough : Nat := 23
def c_impl_WayThrough : MFun := ⟨83, .seq (.ops [ o_e 5 (.box 26 (.tmp 0)), o_p 10 (.mv (.const (.slice none 0 0))), o_p 11 (.mv (.const (.bool false)))])
(.seq (.seq (.ops [
.op ⟨(some 17), (.load (some 2) (.tmp 5)), none⟩, o_m 18 1, o_m 19 2, o_m 20 3, o_m 21 4, o_e 22 (.call 56 [(.tmp 17), (.tmp 18), (.tmp 19), (.tmp 20), (.tmp 21)]), o_p 23 (.bnot (.tmp 22))])
(.cond (.tmp 23)
(.seq (.ops [ o_p 10 (.mv (.const (.slice none 0 0))), o_p 11 (.mv (.const (.bool false)))])
(.ret))
(.skip)))
(.seq (.ops [
.op ⟨(some 24), (.load (some 2) (.tmp 5)), none⟩, o_m 25 1, o_m 26 2, o_m 27 4, o_e 28 (.call 57 [(.tmp 24), (.tmp 25), (.tmp 26), (.tmp 27)]), o_m 12 28])
(.seq (.seq (.ops [ o_m 29 12, o_m 30 3, o_p 31 (.idx 1 (.tmp 29) (.tmp 30)), o_l 32 31, o_p 33 (.bin .lss (.tmp 32) (.const (.int .i64 (0))))])
(.cond (.tmp 33)
(.seq (.ops [ o_p 10 (.mv (.const (.slice none 0 0))), o_p 11 (.mv (.const (.bool false)))])
(.ret))
(.skip)))
(.seq (.ops [ o_m 34 3, o_e 35 (.row 3 1 [(.int .i64 (0))] [(0, 1, (.tmp 34))]), o_m 13 35])
(.seq (.seq (.ops [ o_m 36 3, o_m 14 36])
(.block 0 (.loop (.seq (.seq (.ops [ o_m 37 14, o_m 38 2, o_p 39 (.bin .neq (.tmp 37) (.tmp 38))])
(.cond (.tmp 39)
(.skip)
(.exit 0)))
(.block 1 (.seq (.seq (.ops [ o_p 40 (.fieldAddr 0 (.tmp 5)), o_l 41 40, o_p 42 (.len (.tmp 41)), o_p 43 (.mv (.const (.int .i64 (0))))])
(.block 2 (.loop (.seq (.ops [ o_p 44 (.bin .lss (.tmp 43) (.tmp 42))])
(.seq (.cond (.tmp 44)
(.skip)
(.exit 2))
(.seq (.block 3 (.seq (.ops [ o_m 45 43, o_m 15 45])
(.seq (.ops [
.op ⟨(some 46), (.load (some 2) (.tmp 5)), none⟩, o_m 47 15, o_m 48 14, o_e 49 (.call 40 [(.tmp 46), (.tmp 47), (.tmp 48)]), o_m 16 49])
(.seq (.draw true
(.take (t_m 50 16)
(.take (t_p 51 (.bin .geq (.tmp 50) (.const (.int .i64 (0)))))
(.take (t_m 52 51)
(.split 52
(.take ⟨(some 53), (.pure (.mv (.tmp 12))), (some (52, true))⟩
(.take ⟨(some 54), (.pure (.mv (.tmp 15))), (some (52, true))⟩
(.take ⟨(some 55), (.pure (.idx 1 (.tmp 53) (.tmp 54))), (some (52, true))⟩
(.only false ⟨(some 56), (.load none (.tmp 55)), (some (52, true))⟩
(.take ⟨(some 57), (.pure (.bin .geq (.tmp 56) (.const (.int .i64 (0))))), (some (52, true))⟩
(.take (t_p 58 (.pick (.tmp 52) (.tmp 57) (.const (.bool false))))
(.take (t_m 59 58)
(.split 59
(.take ⟨(some 61), (.pure (.mv (.tmp 1))), (some (59, true))⟩
(.take ⟨(some 62), (.pure (.mv (.tmp 16))), (some (59, true))⟩
(.take ⟨(some 63), (.pure (.mv (.tmp 12))), (some (59, true))⟩
(.take ⟨(some 64), (.pure (.mv (.tmp 15))), (some (59, true))⟩
(.take ⟨(some 65), (.pure (.idx 1 (.tmp 63) (.tmp 64))), (some (59, true))⟩
(.take ⟨(some 68), (.pure (.mv (.tmp 12))), (some (59, true))⟩
(.take ⟨(some 69), (.pure (.mv (.tmp 14))), (some (59, true))⟩
(.take ⟨(some 70), (.pure (.idx 1 (.tmp 68) (.tmp 69))), (some (59, true))⟩
(.only false ⟨(some 60), (.load (some 2) (.tmp 5)), (some (59, true))⟩
(.only false ⟨(some 66), (.load none (.tmp 65)), (some (59, true))⟩
(.take ⟨(some 71), (.load none (.tmp 70)), (some (59, true))⟩
(.only false ⟨(some 67), (.eff (.call 41 [(.tmp 60), (.tmp 61), (.tmp 62), (.tmp 66)])), (some (59, true))⟩
(.take ⟨(some 72), (.pure (.bin .eql (.tmp 67) (.tmp 71))), (some (59, true))⟩
(.take (t_p 73 (.pick (.tmp 59) (.tmp 72) (.const (.bool false))))
(.done))))))))))))))))))))))))))))
(.cond (.tmp 73)
(.seq (.ops [ o_m 74 15, o_m 14 74])
(.exit 2))
(.skip))))))
(.ops [ o_p 75 (.bin .add (.tmp 43) (.const (.int .i64 (1)))), o_m 43 75])))))))
(.ops [ o_m 76 13, o_m 77 14, o_e 78 (.row 3 1 [(.int .i64 (0))] [(0, 1, (.tmp 77))]), o_e 79 (.app 3 1 8 (.tmp 76) (.tmp 78)), o_m 13 79])))))))
(.seq (.ops [ o_m 80 13, o_e 81 (.call 59 [(.tmp 80)])])
(.seq (.ops [ o_m 82 13, o_m 10 82, o_p 11 (.mv (.const (.bool true)))])
(.ret)))))))),
[.tmp 10, .tmp 11]⟩
theorem r_impl_WayThrough : resFun Try.prog f_impl_WayThrough = some c_impl_WayThrough := by kernel_rfl

/- loop.example/g00940/spec.WayThrough -/
abbrev f_spec_WayThrough : Nat := 24
def c_spec_WayThrough : MFun := ⟨46, .seq (.ops [ o_e 5 (.box 26 (.tmp 0)), o_p 10 (.mv (.const (.slice none 0 0))), o_p 11 (.mv (.const (.bool false)))])
(.seq (.seq (.ops [
.op ⟨(some 14), (.load (some 2) (.tmp 5)), none⟩, o_m 15 1, o_m 16 2, o_m 17 3, o_m 18 4, o_e 19 (.call 60 [(.tmp 14), (.tmp 15), (.tmp 16), (.tmp 17), (.tmp 18)]), o_p 20 (.bnot (.tmp 19))])
(.cond (.tmp 20)
(.seq (.ops [ o_p 10 (.mv (.const (.slice none 0 0))), o_p 11 (.mv (.const (.bool false)))])
(.ret))
(.skip)))
(.seq (.ops [
.op ⟨(some 21), (.load (some 2) (.tmp 5)), none⟩, o_m 22 1, o_m 23 2, o_m 24 4, o_e 25 (.call 61 [(.tmp 21), (.tmp 22), (.tmp 23), (.tmp 24)]), o_m 12 25])
(.seq (.seq (.ops [ o_m 26 12, o_m 27 3, o_p 28 (.idx 1 (.tmp 26) (.tmp 27)), o_l 29 28, o_p 30 (.bin .lss (.tmp 29) (.const (.int .i64 (0))))])
(.cond (.tmp 30)
(.seq (.ops [ o_p 10 (.mv (.const (.slice none 0 0))), o_p 11 (.mv (.const (.bool false)))])
(.ret))
(.skip)))
(.seq (.ops [ o_m 31 3, o_e 32 (.row 3 1 [(.int .i64 (0))] [(0, 1, (.tmp 31))]), o_m 13 32])
(.seq (.block 0 (.loop (.seq (.seq (.ops [ o_m 33 3, o_m 34 2, o_p 35 (.bin .neq (.tmp 33) (.tmp 34))])
(.cond (.tmp 35)
(.skip)
(.exit 0)))
(.block 1 (.seq (.ops [
.op ⟨(some 36), (.load (some 2) (.tmp 5)), none⟩, o_m 37 1, o_m 38 12, o_m 39 3, o_e 40 (.call 62 [(.tmp 36), (.tmp 37), (.tmp 38), (.tmp 39)]), o_m 3 40])
(.ops [ o_m 41 3, o_e 42 (.row 3 1 [(.int .i64 (0))] [(0, 1, (.tmp 41))]), o_m 43 13, o_e 44 (.app 3 1 8 (.tmp 42) (.tmp 43)), o_m 13 44]))))))
(.seq (.ops [ o_m 45 13, o_m 10 45, o_p 11 (.mv (.const (.bool true)))])
(.ret))))))),
[.tmp 10, .tmp 11]⟩
theorem r_spec_WayThrough : resFun Try.prog f_spec_WayThrough = some c_spec_WayThrough := by kernel_rfl

/- loop.example/g00940/spec.FirstArrival -/
abbrev f_spec_FirstArrival : Nat := 25
def c_spec_FirstArrival : MFun := ⟨32, .seq (.ops [ o_e 5 (.box 26 (.tmp 0)), o_p 10 (.mv (.const (.int .i64 (0)))), o_p 11 (.mv (.const (.bool false)))])
(.seq (.seq (.ops [
.op ⟨(some 13), (.load (some 2) (.tmp 5)), none⟩, o_m 14 1, o_m 15 2, o_m 16 3, o_m 17 4, o_e 18 (.call 60 [(.tmp 13), (.tmp 14), (.tmp 15), (.tmp 16), (.tmp 17)]), o_p 19 (.bnot (.tmp 18))])
(.cond (.tmp 19)
(.seq (.ops [ o_p 10 (.mv (.const (.int .i64 (0)))), o_p 11 (.mv (.const (.bool false)))])
(.ret))
(.skip)))
(.seq (.ops [
.op ⟨(some 20), (.load (some 2) (.tmp 5)), none⟩, o_m 21 1, o_m 22 2, o_m 23 4, o_e 24 (.call 61 [(.tmp 20), (.tmp 21), (.tmp 22), (.tmp 23)]), o_m 25 3, o_p 26 (.idx 1 (.tmp 24) (.tmp 25)), o_l 27 26, o_m 12 27])
(.seq (.ops [ o_m 28 12, o_e 29 (.call 63 [(.tmp 28), (.const (.int .i64 (0)))]), o_m 30 12, o_p 31 (.bin .geq (.tmp 30) (.const (.int .i64 (0)))), o_m 10 29, o_m 11 31])
(.ret)))),
[.tmp 10, .tmp 11]⟩
theorem r_spec_FirstArrival : resFun Try.prog f_spec_FirstArrival = some c_spec_FirstArrival := by kernel_rfl

/- loop.example/g00940/impl.FogDelay -/
abbrev f_impl_FogDelay : Nat := 26
def c_impl_FogDelay : MFun := ⟨39, .seq (.ops [ o_e 5 (.box 26 (.tmp 0)), o_p 10 (.mv (.const (.int .i64 (0)))), o_p 11 (.mv (.const (.bool false)))])
(.seq (.ops [
.op ⟨(some 17), (.load (some 2) (.tmp 5)), none⟩, o_m 18 1, o_m 19 2, o_m 20 3, o_m 21 4, o_e 22 (.call 21 [(.tmp 17), (.tmp 18), (.tmp 19), (.tmp 20), (.tmp 21)]), o_m 16 22, o_p 23 (.ext 0 (.tmp 16)), o_p 24 (.ext 1 (.tmp 16)), o_m 12 23, o_m 13 24])
(.seq (.seq (.ops [ o_m 25 13, o_p 26 (.bnot (.tmp 25))])
(.cond (.tmp 26)
(.seq (.ops [ o_p 10 (.mv (.const (.int .i64 (0)))), o_p 11 (.mv (.const (.bool false)))])
(.ret))
(.skip)))
(.seq (.ops [
.op ⟨(some 28), (.load (some 2) (.tmp 5)), none⟩, o_m 29 2, o_m 30 3, o_e 31 (.call 44 [(.tmp 28), (.tmp 29), (.tmp 30)]), o_m 27 31, o_p 32 (.ext 0 (.tmp 27)), o_p 33 (.ext 1 (.tmp 27)), o_m 14 32, o_m 15 33])
(.seq (.ops [ o_m 34 12, o_m 35 4, o_p 36 (.bin .sub (.tmp 34) (.tmp 35)), o_m 37 14, o_p 38 (.bin .sub (.tmp 36) (.tmp 37)), o_m 10 38, o_p 11 (.mv (.const (.bool true)))])
(.ret))))),
[.tmp 10, .tmp 11]⟩
theorem r_impl_FogDelay : resFun Try.prog f_impl_FogDelay = some c_impl_FogDelay := by kernel_rfl

/- loop.example/g00940/spec.FogDelay -/
abbrev f_spec_FogDelay : Nat := 27
def c_spec_FogDelay : MFun := ⟨39, .seq (.ops [ o_e 5 (.box 26 (.tmp 0)), o_p 10 (.mv (.const (.int .i64 (0)))), o_p 11 (.mv (.const (.bool false)))])
(.seq (.ops [
.op ⟨(some 17), (.load (some 2) (.tmp 5)), none⟩, o_m 18 1, o_m 19 2, o_m 20 3, o_m 21 4, o_e 22 (.call 25 [(.tmp 17), (.tmp 18), (.tmp 19), (.tmp 20), (.tmp 21)]), o_m 16 22, o_p 23 (.ext 0 (.tmp 16)), o_p 24 (.ext 1 (.tmp 16)), o_m 12 23, o_m 13 24])
(.seq (.seq (.ops [ o_m 25 13, o_p 26 (.bnot (.tmp 25))])
(.cond (.tmp 26)
(.seq (.ops [ o_p 10 (.mv (.const (.int .i64 (0)))), o_p 11 (.mv (.const (.bool false)))])
(.ret))
(.skip)))
(.seq (.ops [
.op ⟨(some 28), (.load (some 2) (.tmp 5)), none⟩, o_m 29 2, o_m 30 3, o_e 31 (.call 14 [(.tmp 28), (.tmp 29), (.tmp 30)]), o_m 27 31, o_p 32 (.ext 0 (.tmp 27)), o_p 33 (.ext 1 (.tmp 27)), o_m 14 32, o_m 15 33])
(.seq (.ops [ o_m 34 12, o_m 35 4, o_p 36 (.bin .sub (.tmp 34) (.tmp 35)), o_m 37 14, o_p 38 (.bin .sub (.tmp 36) (.tmp 37)), o_m 10 38, o_p 11 (.mv (.const (.bool true)))])
(.ret))))),
[.tmp 10, .tmp 11]⟩
theorem r_spec_FogDelay : resFun Try.prog f_spec_FogDelay = some c_spec_FogDelay := by kernel_rfl

/- loop.example/g00940/spec.DrawLatestStart -/
abbrev f_spec_DrawLatestStart : Nat := 28
def c_spec_DrawLatestStart : MFun := ⟨33, .seq (.ops [ o_e 2 (.new 26 [(.slice none 0 0), (.slice none 0 0)]), o_p 3 (.mv (.const (.slice none 0 0))), o_p 4 (.mv (.const (.int .i64 (0)))), o_p 5 (.mv (.const (.int .i64 (0)))), o_p 6 (.mv (.const (.int .i64 (0))))])
(.seq (.ops [ o_m 14 0, o_e 15 (.call 58 [(.tmp 14)]), o_m 13 15, o_p 16 (.ext 0 (.tmp 13)), o_p 17 (.ext 1 (.tmp 13)), o_p 18 (.ext 2 (.tmp 13)), o_p 19 (.ext 3 (.tmp 13)), o_p 20 (.ext 4 (.tmp 13)), o_e 7 (.new 26 [(.slice none 0 0), (.slice none 0 0)]),
.op ⟨none, (.eff (.store 2 (.tmp 7) (.tmp 16))), none⟩, o_m 8 17, o_m 9 18, o_m 10 19, o_m 11 20])
(.seq (.ops [ o_m 21 0, o_p 22 (.build [(.slice none 0 0), (.int .i64 (0)), (.int .u64 (0))] [(0, 1, (.tmp 21))]), o_e 23 (.box 68 (.tmp 22)), o_m 12 23])
(.seq (.seq (.ops [ o_m 24 12, o_e 25 (.call 64 [(.tmp 24), (.const (.int .i64 (3)))])])
(.cond (.tmp 25)
(.ops [ o_m 26 12, o_e 27 (.call 65 [(.tmp 26), (.const (.int .i64 (200)))]), o_m 11 27])
(.skip)))
(.seq (.ops [
.op ⟨(some 28), (.load (some 2) (.tmp 7)), none⟩, o_m 29 8, o_m 30 9, o_m 31 10, o_m 32 11,
.op ⟨none, (.eff (.store 2 (.tmp 2) (.tmp 28))), none⟩, o_m 3 29, o_m 4 30, o_m 5 31, o_m 6 32])
(.ret))))),
[.cell 2 (some 2), .tmp 3, .tmp 4, .tmp 5, .tmp 6]⟩
theorem r_spec_DrawLatestStart : resFun Try.prog f_spec_DrawLatestStart = some c_spec_DrawLatestStart := by kernel_rfl

/- loop.example/g00940/impl.LatestStart -/
abbrev f_impl_LatestStart : Nat := 29
def c_impl_LatestStart : MFun := ⟨60, .seq (.ops [ o_e 5 (.box 26 (.tmp 0)), o_p 10 (.mv (.const (.int .i64 (0)))), o_p 11 (.mv (.const (.bool false)))])
(.seq (.seq (.ops [
.op ⟨(some 16), (.load (some 2) (.tmp 5)), none⟩, o_m 17 1, o_m 18 2, o_m 19 3, o_m 20 4, o_e 21 (.call 56 [(.tmp 16), (.tmp 17), (.tmp 18), (.tmp 19), (.tmp 20)]), o_p 22 (.bnot (.tmp 21))])
(.cond (.tmp 22)
(.seq (.ops [ o_p 10 (.mv (.const (.int .i64 (0)))), o_p 11 (.mv (.const (.bool false)))])
(.ret))
(.skip)))
(.seq (.seq (.ops [
.op ⟨(some 23), (.load (some 2) (.tmp 5)), none⟩, o_m 24 1, o_m 25 2, o_e 26 (.call 57 [(.tmp 23), (.tmp 24), (.tmp 25), (.const (.int .i64 (0)))]), o_m 27 3, o_p 28 (.idx 1 (.tmp 26) (.tmp 27)), o_l 29 28, o_m 12 29])
(.seq (.ops [ o_m 30 12, o_p 31 (.bin .lss (.tmp 30) (.const (.int .i64 (0)))), o_m 32 31,
.split 32,
.op ⟨(some 33), (.pure (.mv (.tmp 12))), (some (32, false))⟩,
.op ⟨(some 34), (.pure (.mv (.tmp 4))), (some (32, false))⟩,
.op ⟨(some 35), (.pure (.bin .gtr (.tmp 33) (.tmp 34))), (some (32, false))⟩, o_p 36 (.pick (.tmp 32) (.const (.bool true)) (.tmp 35))])
(.cond (.tmp 36)
(.seq (.ops [ o_p 10 (.mv (.const (.int .i64 (0)))), o_p 11 (.mv (.const (.bool false)))])
(.ret))
(.skip))))
(.seq (.ops [ o_m 37 4, o_p 13 (.mv (.const (.int .i64 (0)))), o_m 14 37])
(.seq (.block 0 (.loop (.seq (.seq (.ops [ o_m 38 13, o_m 39 14, o_p 40 (.bin .lss (.tmp 38) (.tmp 39))])
(.cond (.tmp 40)
(.skip)
(.exit 0)))
(.block 1 (.seq (.ops [ o_m 41 13, o_m 42 14, o_p 43 (.bin .add (.tmp 41) (.tmp 42)), o_p 44 (.bin .add (.tmp 43) (.const (.int .i64 (1)))), o_p 45 (.bin .quo (.tmp 44) (.const (.int .i64 (2)))), o_m 15 45])
(.seq (.ops [
.op ⟨(some 46), (.load (some 2) (.tmp 5)), none⟩, o_m 47 1, o_m 48 2, o_m 49 15, o_e 50 (.call 57 [(.tmp 46), (.tmp 47), (.tmp 48), (.tmp 49)]), o_m 51 3, o_p 52 (.idx 1 (.tmp 50) (.tmp 51)), o_l 53 52, o_m 54 4, o_p 55 (.bin .leq (.tmp 53) (.tmp 54))])
(.cond (.tmp 55)
(.ops [ o_m 56 15, o_m 13 56])
(.ops [ o_m 57 15, o_p 58 (.bin .sub (.tmp 57) (.const (.int .i64 (1)))), o_m 14 58]))))))))
(.seq (.ops [ o_m 59 13, o_m 10 59, o_p 11 (.mv (.const (.bool true)))])
(.ret)))))),
[.tmp 10, .tmp 11]⟩
theorem r_impl_LatestStart : resFun Try.prog f_impl_LatestStart = some c_impl_LatestStart := by kernel_rfl

/- loop.example/g00940/spec.LatestStart -/
abbrev f_spec_LatestStart : Nat := 30
def c_spec_LatestStart : MFun := ⟨63, .seq (.ops [ o_e 5 (.box 26 (.tmp 0)), o_p 10 (.mv (.const (.int .i64 (0)))), o_p 11 (.mv (.const (.bool false)))])
(.seq (.seq (.ops [
.op ⟨(some 16), (.load (some 2) (.tmp 5)), none⟩, o_m 17 1, o_m 18 2, o_m 19 3, o_m 20 4, o_e 21 (.call 60 [(.tmp 16), (.tmp 17), (.tmp 18), (.tmp 19), (.tmp 20)]), o_p 22 (.bnot (.tmp 21))])
(.cond (.tmp 22)
(.seq (.ops [ o_p 10 (.mv (.const (.int .i64 (0)))), o_p 11 (.mv (.const (.bool false)))])
(.ret))
(.skip)))
(.seq (.seq (.ops [
.op ⟨(some 23), (.load (some 2) (.tmp 5)), none⟩, o_m 24 1, o_m 25 2, o_e 26 (.call 61 [(.tmp 23), (.tmp 24), (.tmp 25), (.const (.int .i64 (0)))]), o_m 12 26])
(.seq (.ops [ o_m 27 12, o_m 28 3, o_p 29 (.idx 1 (.tmp 27) (.tmp 28)), o_l 30 29, o_p 31 (.bin .lss (.tmp 30) (.const (.int .i64 (0)))), o_m 32 31,
.split 32,
.op ⟨(some 33), (.pure (.mv (.tmp 12))), (some (32, false))⟩,
.op ⟨(some 34), (.pure (.mv (.tmp 3))), (some (32, false))⟩,
.op ⟨(some 35), (.pure (.idx 1 (.tmp 33) (.tmp 34))), (some (32, false))⟩,
.op ⟨(some 36), (.load none (.tmp 35)), (some (32, false))⟩,
.op ⟨(some 37), (.pure (.mv (.tmp 4))), (some (32, false))⟩,
.op ⟨(some 38), (.pure (.bin .gtr (.tmp 36) (.tmp 37))), (some (32, false))⟩, o_p 39 (.pick (.tmp 32) (.const (.bool true)) (.tmp 38))])
(.cond (.tmp 39)
(.seq (.ops [ o_p 10 (.mv (.const (.int .i64 (0)))), o_p 11 (.mv (.const (.bool false)))])
(.ret))
(.skip))))
(.seq (.ops [ o_m 40 4, o_p 13 (.mv (.const (.int .i64 (0)))), o_m 14 40])
(.seq (.block 0 (.loop (.seq (.seq (.ops [ o_m 41 13, o_m 42 14, o_p 43 (.bin .lss (.tmp 41) (.tmp 42))])
(.cond (.tmp 43)
(.skip)
(.exit 0)))
(.block 1 (.seq (.ops [ o_m 44 13, o_m 45 14, o_p 46 (.bin .add (.tmp 44) (.tmp 45)), o_p 47 (.bin .add (.tmp 46) (.const (.int .i64 (1)))), o_p 48 (.bin .quo (.tmp 47) (.const (.int .i64 (2)))), o_m 15 48])
(.seq (.ops [
.op ⟨(some 49), (.load (some 2) (.tmp 5)), none⟩, o_m 50 1, o_m 51 2, o_m 52 15, o_e 53 (.call 61 [(.tmp 49), (.tmp 50), (.tmp 51), (.tmp 52)]), o_m 54 3, o_p 55 (.idx 1 (.tmp 53) (.tmp 54)), o_l 56 55, o_m 57 4, o_p 58 (.bin .leq (.tmp 56) (.tmp 57))])
(.cond (.tmp 58)
(.ops [ o_m 59 15, o_m 13 59])
(.ops [ o_m 60 15, o_p 61 (.bin .sub (.tmp 60) (.const (.int .i64 (1)))), o_m 14 61]))))))))
(.seq (.ops [ o_m 62 13, o_m 10 62, o_p 11 (.mv (.const (.bool true)))])
(.ret)))))),
[.tmp 10, .tmp 11]⟩
theorem r_spec_LatestStart : resFun Try.prog f_spec_LatestStart = some c_spec_LatestStart := by kernel_rfl

/- loop.example/g00940/spec.DrawArrivalsFrom -/
abbrev f_spec_DrawArrivalsFrom : Nat := 31
def c_spec_DrawArrivalsFrom : MFun := ⟨24, .seq (.ops [ o_e 2 (.new 26 [(.slice none 0 0), (.slice none 0 0)]), o_p 3 (.mv (.const (.slice none 0 0))), o_p 4 (.mv (.const (.int .i64 (0)))), o_p 5 (.mv (.const (.int .i64 (0))))])
(.seq (.ops [ o_m 9 0, o_p 10 (.build [(.slice none 0 0), (.int .i64 (0)), (.int .u64 (0))] [(0, 1, (.tmp 9))]), o_e 11 (.box 68 (.tmp 10)), o_m 6 11])
(.seq (.ops [ o_m 13 6, o_e 14 (.call 66 [(.tmp 13)]), o_m 12 14, o_p 15 (.ext 0 (.tmp 12)), o_p 16 (.ext 1 (.tmp 12)), o_e 7 (.new 26 [(.slice none 0 0), (.slice none 0 0)]),
.op ⟨none, (.eff (.store 2 (.tmp 7) (.tmp 15))), none⟩, o_m 8 16])
(.seq (.draw true
(.take (t_m 18 8)
(.take (t_m 19 6)
(.take (t_m 22 6)
(.only false ⟨(some 20), (.load (some 2) (.tmp 7)), none⟩
(.take ⟨(some 17), (.load (some 2) (.tmp 7)), none⟩
(.only false (t_e 21 (.call 50 [(.tmp 19), (.tmp 20)]))
(.only false (t_e 23 (.call 67 [(.tmp 22)]))
(.only true ⟨none, (.eff (.store 2 (.tmp 2) (.tmp 17))), none⟩
(.take (t_m 3 18)
(.take (t_m 4 21)
(.take (t_m 5 23)
(.done)))))))))))))
(.ret)))),
[.cell 2 (some 2), .tmp 3, .tmp 4, .tmp 5]⟩
theorem r_spec_DrawArrivalsFrom : resFun Try.prog f_spec_DrawArrivalsFrom = some c_spec_DrawArrivalsFrom := by kernel_rfl

/- loop.example/g00940/impl.ArrivalsFrom -/
abbrev f_impl_ArrivalsFrom : Nat := 32
def c_impl_ArrivalsFrom : MFun := ⟨22, .seq (.ops [ o_e 4 (.box 26 (.tmp 0)), o_p 8 (.mv (.const (.slice none 0 0))), o_p 9 (.mv (.const (.bool false)))])
(.seq (.seq (.ops [
.op ⟨(some 10), (.load (some 2) (.tmp 4)), none⟩, o_m 11 1, o_m 12 2, o_m 13 2, o_m 14 3, o_e 15 (.call 56 [(.tmp 10), (.tmp 11), (.tmp 12), (.tmp 13), (.tmp 14)]), o_p 16 (.bnot (.tmp 15))])
(.cond (.tmp 16)
(.seq (.ops [ o_p 8 (.mv (.const (.slice none 0 0))), o_p 9 (.mv (.const (.bool false)))])
(.ret))
(.skip)))
(.seq (.ops [
.op ⟨(some 17), (.load (some 2) (.tmp 4)), none⟩, o_m 18 1, o_m 19 2, o_m 20 3, o_e 21 (.call 57 [(.tmp 17), (.tmp 18), (.tmp 19), (.tmp 20)]), o_m 8 21, o_p 9 (.mv (.const (.bool true)))])
(.ret))),
[.tmp 8, .tmp 9]⟩
theorem r_impl_ArrivalsFrom : resFun Try.prog f_impl_ArrivalsFrom = some c_impl_ArrivalsFrom := by kernel_rfl

/- loop.example/g00940/spec.ArrivalsFrom -/
abbrev f_spec_ArrivalsFrom : Nat := 33
def c_spec_ArrivalsFrom : MFun := ⟨26, .seq (.ops [ o_e 4 (.box 26 (.tmp 0)), o_p 8 (.mv (.const (.slice none 0 0))), o_p 9 (.mv (.const (.bool false)))])
(.seq (.seq (.ops [
.op ⟨(some 10), (.load (some 2) (.tmp 4)), none⟩, o_m 11 1, o_m 12 3, o_e 13 (.call 68 [(.tmp 10), (.tmp 11), (.tmp 12)]), o_p 14 (.bnot (.tmp 13)), o_m 15 14,
.split 15,
.op ⟨(some 16), (.load (some 2) (.tmp 4)), (some (15, false))⟩,
.op ⟨(some 17), (.pure (.mv (.tmp 2))), (some (15, false))⟩,
.op ⟨(some 18), (.eff (.call 69 [(.tmp 16), (.tmp 17)])), (some (15, false))⟩,
.op ⟨(some 19), (.pure (.bnot (.tmp 18))), (some (15, false))⟩, o_p 20 (.pick (.tmp 15) (.const (.bool true)) (.tmp 19))])
(.cond (.tmp 20)
(.seq (.ops [ o_p 8 (.mv (.const (.slice none 0 0))), o_p 9 (.mv (.const (.bool false)))])
(.ret))
(.skip)))
(.seq (.ops [
.op ⟨(some 21), (.load (some 2) (.tmp 4)), none⟩, o_m 22 1, o_m 23 2, o_m 24 3, o_e 25 (.call 61 [(.tmp 21), (.tmp 22), (.tmp 23), (.tmp 24)]), o_m 8 25, o_p 9 (.mv (.const (.bool true)))])
(.ret))),
[.tmp 8, .tmp 9]⟩
theorem r_spec_ArrivalsFrom : resFun Try.prog f_spec_ArrivalsFrom = some c_spec_ArrivalsFrom := by kernel_rfl

/- loop.example/g00940/laws.qSum -/
abbrev f_laws_qSum : Nat := 34
def c_laws_qSum : MFun := ⟨17, .seq (.ops [ o_p 2 (.mv (.const (.int .i64 (0))))])
(.seq (.ops [ o_p 3 (.mv (.const (.int .i64 (0))))])
(.seq (.seq (.ops [ o_m 6 0, o_p 7 (.len (.tmp 6)), o_p 8 (.mv (.const (.int .i64 (0))))])
(.block 0 (.loop (.seq (.ops [ o_p 9 (.bin .lss (.tmp 8) (.tmp 7))])
(.seq (.cond (.tmp 9)
(.skip)
(.exit 0))
(.seq (.block 1 (.seq (.ops [ o_p 10 (.idx 1 (.tmp 6) (.tmp 8)), o_l 11 10, o_m 5 11])
(.ops [ o_m 12 3, o_m 13 5, o_p 14 (.bin .add (.tmp 12) (.tmp 13)), o_m 3 14])))
(.ops [ o_p 15 (.bin .add (.tmp 8) (.const (.int .i64 (1)))), o_m 8 15])))))))
(.seq (.ops [ o_m 16 3, o_m 2 16])
(.ret)))),
[.tmp 2]⟩
theorem r_laws_qSum : resFun Try.prog f_laws_qSum = some c_laws_qSum := by kernel_rfl

/- loop.example/g00940/spec.DrawArrivalAlong -/
end Go.Proofs.Ytgbaonaopkdlpaa

