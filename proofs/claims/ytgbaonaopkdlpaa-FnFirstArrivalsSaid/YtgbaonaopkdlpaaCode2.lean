/- The code of this seat's functions, resolved, written by a program of mine; each is held against the given program by the kernel. Condition: none. -/
import Derived.Test.YtgbaonaopkdlpaaProg
import Derived.Test.YtgbaonaopkdlpaaBase9
import Derived.KernelRfl
namespace Go.Proofs.Ytgbaonaopkdlpaa
open Go.Vc

/- loop.example/g00940/impl.IsNet -/
abbrev f_impl_IsNet : Nat := 36
def c_impl_IsNet : MFun := ⟨90, .seq (.ops [ o_e 1 (.box 26 (.tmp 0)), o_p 2 (.mv (.const (.bool false)))])
(.seq (.seq (.ops [ o_p 7 (.fieldAddr 0 (.tmp 1)), o_l 8 7, o_p 9 (.len (.tmp 8)), o_e 10 (.call 38 [(.tmp 9), (.const (.int .i64 (1))), (.const (.int .i64 (16)))]), o_p 11 (.bnot (.tmp 10)), o_m 12 11,
.split 12,
.op ⟨(some 13), (.pure (.fieldAddr 1 (.tmp 1))), (some (12, false))⟩,
.op ⟨(some 14), (.load none (.tmp 13)), (some (12, false))⟩,
.op ⟨(some 15), (.pure (.len (.tmp 14))), (some (12, false))⟩,
.op ⟨(some 16), (.pure (.bin .gtr (.tmp 15) (.const (.int .i64 (40))))), (some (12, false))⟩, o_p 17 (.pick (.tmp 12) (.const (.bool true)) (.tmp 16))])
(.cond (.tmp 17)
(.seq (.ops [ o_p 2 (.mv (.const (.bool false)))])
(.ret))
(.skip)))
(.seq (.seq (.ops [ o_p 18 (.fieldAddr 0 (.tmp 1)), o_l 19 18, o_p 20 (.len (.tmp 19)), o_p 21 (.mv (.const (.int .i64 (0))))])
(.block 0 (.loop (.seq (.ops [ o_p 22 (.bin .lss (.tmp 21) (.tmp 20))])
(.seq (.cond (.tmp 22)
(.skip)
(.exit 0))
(.seq (.block 1 (.seq (.ops [ o_p 23 (.idx 3 (.tmp 19) (.tmp 21)),
.op ⟨(some 24), (.load (some 3) (.tmp 23)), none⟩, o_e 4 (.new 84 [(.int .i64 (0)), (.int .i64 (0)), (.int .i64 (0))]),
.op ⟨none, (.eff (.store 3 (.tmp 4) (.tmp 24))), none⟩])
(.seq (.ops [ o_p 25 (.fieldAddr 0 (.tmp 4)), o_l 26 25, o_e 27 (.call 38 [(.tmp 26), (.const (.int .i64 (0))), (.const (.int .i64 (999)))]), o_p 28 (.bnot (.tmp 27)), o_m 29 28,
.split 29,
.op ⟨(some 30), (.pure (.fieldAddr 1 (.tmp 4))), (some (29, false))⟩,
.op ⟨(some 31), (.load none (.tmp 30)), (some (29, false))⟩,
.op ⟨(some 32), (.eff (.call 38 [(.tmp 31), (.const (.int .i64 (0))), (.const (.int .i64 (999)))])), (some (29, false))⟩,
.op ⟨(some 33), (.pure (.bnot (.tmp 32))), (some (29, false))⟩, o_p 34 (.pick (.tmp 29) (.const (.bool true)) (.tmp 33)), o_m 35 34,
.split 35,
.op ⟨(some 36), (.pure (.fieldAddr 2 (.tmp 4))), (some (35, false))⟩,
.op ⟨(some 37), (.load none (.tmp 36)), (some (35, false))⟩,
.op ⟨(some 38), (.eff (.call 38 [(.tmp 37), (.const (.int .i64 (0))), (.const (.int .i64 (500)))])), (some (35, false))⟩,
.op ⟨(some 39), (.pure (.bnot (.tmp 38))), (some (35, false))⟩, o_p 40 (.pick (.tmp 35) (.const (.bool true)) (.tmp 39))])
(.cond (.tmp 40)
(.seq (.ops [ o_p 2 (.mv (.const (.bool false)))])
(.ret))
(.skip)))))
(.ops [ o_p 41 (.bin .add (.tmp 21) (.const (.int .i64 (1)))), o_m 21 41])))))))
(.seq (.seq (.ops [ o_p 42 (.fieldAddr 1 (.tmp 1)), o_l 43 42, o_p 44 (.len (.tmp 43)), o_p 45 (.mv (.const (.int .i64 (0))))])
(.block 2 (.loop (.seq (.ops [ o_p 46 (.bin .lss (.tmp 45) (.tmp 44))])
(.seq (.cond (.tmp 46)
(.skip)
(.exit 2))
(.seq (.block 3 (.seq (.ops [ o_m 47 45, o_p 48 (.idx 3 (.tmp 43) (.tmp 45)),
.op ⟨(some 49), (.load (some 3) (.tmp 48)), none⟩, o_e 6 (.new 45 [(.int .i64 (0)), (.int .i64 (0)), (.int .i64 (0))]), o_m 5 47,
.op ⟨none, (.eff (.store 3 (.tmp 6) (.tmp 49))), none⟩])
(.seq (.draw true
(.take (t_p 50 (.fieldAddr 0 (.tmp 6)))
(.only false (t_l 51 50)
(.take (t_p 52 (.bin .lss (.tmp 51) (.const (.int .i64 (0)))))
(.take (t_m 53 52)
(.split 53
(.take ⟨(some 54), (.pure (.fieldAddr 0 (.tmp 6))), (some (53, false))⟩
(.take ⟨(some 56), (.pure (.fieldAddr 1 (.tmp 6))), (some (53, false))⟩
(.only false ⟨(some 55), (.load none (.tmp 54)), (some (53, false))⟩
(.only false ⟨(some 57), (.load none (.tmp 56)), (some (53, false))⟩
(.take ⟨(some 58), (.pure (.bin .geq (.tmp 55) (.tmp 57))), (some (53, false))⟩
(.take (t_p 59 (.pick (.tmp 53) (.const (.bool true)) (.tmp 58)))
(.take (t_m 60 59)
(.split 60
(.take ⟨(some 61), (.pure (.fieldAddr 1 (.tmp 6))), (some (60, false))⟩
(.take ⟨(some 63), (.pure (.fieldAddr 0 (.tmp 1))), (some (60, false))⟩
(.only false ⟨(some 62), (.load none (.tmp 61)), (some (60, false))⟩
(.only false ⟨(some 64), (.load none (.tmp 63)), (some (60, false))⟩
(.take ⟨(some 65), (.pure (.len (.tmp 64))), (some (60, false))⟩
(.take ⟨(some 66), (.pure (.bin .geq (.tmp 62) (.tmp 65))), (some (60, false))⟩
(.take (t_p 67 (.pick (.tmp 60) (.const (.bool true)) (.tmp 66)))
(.take (t_m 68 67)
(.split 68
(.take ⟨(some 69), (.pure (.fieldAddr 2 (.tmp 6))), (some (68, false))⟩
(.only false ⟨(some 70), (.load none (.tmp 69)), (some (68, false))⟩
(.only false ⟨(some 71), (.eff (.call 38 [(.tmp 70), (.const (.int .i64 (1))), (.const (.int .i64 (60)))])), (some (68, false))⟩
(.take ⟨(some 72), (.pure (.bnot (.tmp 71))), (some (68, false))⟩
(.take (t_p 73 (.pick (.tmp 68) (.const (.bool true)) (.tmp 72)))
(.take (t_m 74 73)
(.split 74
(.take ⟨(some 75), (.pure (.mv (.tmp 5))), (some (74, false))⟩
(.take ⟨(some 76), (.pure (.bin .gtr (.tmp 75) (.const (.int .i64 (0))))), (some (74, false))⟩
(.take ⟨(some 77), (.pure (.mv (.tmp 76))), (some (74, false))⟩
(.split 77
(.take ⟨(some 78), (.pure (.fieldAddr 1 (.tmp 1))), (some (77, true))⟩
(.take ⟨(some 80), (.pure (.mv (.tmp 5))), (some (77, true))⟩
(.take ⟨(some 81), (.pure (.bin .sub (.tmp 80) (.const (.int .i64 (1))))), (some (77, true))⟩
(.take ⟨(some 79), (.load none (.tmp 78)), (some (77, true))⟩
(.take ⟨(some 82), (.pure (.idx 3 (.tmp 79) (.tmp 81))), (some (77, true))⟩
(.take ⟨(some 83), (.load (some 3) (.tmp 82)), (some (77, true))⟩
(.only false ⟨(some 84), (.load (some 3) (.tmp 6)), (some (77, true))⟩
(.only true ⟨(some 85), (.eff (.call 73 [(.tmp 83), (.tmp 84)])), (some (77, true))⟩
(.take ⟨(some 86), (.pure (.bin .geq (.tmp 85) (.const (.int .i64 (0))))), (some (77, true))⟩
(.take ⟨(some 87), (.pure (.pick (.tmp 77) (.tmp 86) (.const (.bool false)))), (some (74, false))⟩
(.take (t_p 88 (.pick (.tmp 74) (.const (.bool true)) (.tmp 87)))
(.done))))))))))))))))))))))))))))))))))))))))))))))
(.cond (.tmp 88)
(.seq (.ops [ o_p 2 (.mv (.const (.bool false)))])
(.ret))
(.skip)))))
(.ops [ o_p 89 (.bin .add (.tmp 45) (.const (.int .i64 (1)))), o_m 45 89])))))))
(.seq (.ops [ o_p 2 (.mv (.const (.bool true)))])
(.ret))))),
[.tmp 2]⟩
theorem r_impl_IsNet : resFun Try.prog f_impl_IsNet = some c_impl_IsNet := by kernel_rfl

/- loop.example/g00940/impl.areFogs -/
abbrev f_impl_areFogs : Nat := 37
def c_impl_areFogs : MFun := ⟨58, .seq (.ops [ o_e 2 (.box 26 (.tmp 0)), o_p 4 (.mv (.const (.bool false)))])
(.seq (.seq (.ops [ o_m 7 1, o_p 8 (.len (.tmp 7)), o_p 9 (.bin .gtr (.tmp 8) (.const (.int .i64 (60))))])
(.cond (.tmp 9)
(.seq (.ops [ o_p 4 (.mv (.const (.bool false)))])
(.ret))
(.skip)))
(.seq (.seq (.ops [ o_m 10 1, o_p 11 (.len (.tmp 10)), o_p 12 (.mv (.const (.int .i64 (0))))])
(.block 0 (.loop (.seq (.ops [ o_p 13 (.bin .lss (.tmp 12) (.tmp 11))])
(.seq (.cond (.tmp 13)
(.skip)
(.exit 0))
(.seq (.block 1 (.seq (.ops [ o_m 14 12, o_p 15 (.idx 3 (.tmp 10) (.tmp 12)),
.op ⟨(some 16), (.load (some 3) (.tmp 15)), none⟩, o_e 6 (.new 87 [(.int .i64 (0)), (.int .i64 (0)), (.int .i64 (0))]), o_m 5 14,
.op ⟨none, (.eff (.store 3 (.tmp 6) (.tmp 16))), none⟩])
(.seq (.draw true
(.only false ⟨(some 17), (.load (some 2) (.tmp 2)), none⟩
(.only false ⟨(some 18), (.load (some 3) (.tmp 6)), none⟩
(.only false (t_e 19 (.call 74 [(.tmp 17), (.tmp 18)]))
(.take (t_p 20 (.bnot (.tmp 19)))
(.take (t_m 21 20)
(.split 21
(.take ⟨(some 22), (.pure (.mv (.tmp 5))), (some (21, false))⟩
(.take ⟨(some 23), (.pure (.bin .gtr (.tmp 22) (.const (.int .i64 (0))))), (some (21, false))⟩
(.take ⟨(some 24), (.pure (.mv (.tmp 23))), (some (21, false))⟩
(.split 24
(.take ⟨(some 25), (.pure (.mv (.tmp 1))), (some (24, true))⟩
(.take ⟨(some 26), (.pure (.mv (.tmp 5))), (some (24, true))⟩
(.take ⟨(some 27), (.pure (.bin .sub (.tmp 26) (.const (.int .i64 (1))))), (some (24, true))⟩
(.take ⟨(some 28), (.pure (.idx 3 (.tmp 25) (.tmp 27))), (some (24, true))⟩
(.take ⟨(some 29), (.load (some 3) (.tmp 28)), (some (24, true))⟩
(.only false ⟨(some 30), (.load (some 3) (.tmp 6)), (some (24, true))⟩
(.only false ⟨(some 31), (.eff (.call 75 [(.tmp 29), (.tmp 30)])), (some (24, true))⟩
(.take ⟨(some 32), (.pure (.bin .geq (.tmp 31) (.const (.int .i64 (0))))), (some (24, true))⟩
(.take ⟨(some 33), (.pure (.mv (.tmp 32))), (some (24, true))⟩
(.split 33
(.take ⟨(some 34), (.pure (.mv (.tmp 1))), (some (33, false))⟩
(.take ⟨(some 35), (.pure (.mv (.tmp 5))), (some (33, false))⟩
(.take ⟨(some 36), (.pure (.bin .sub (.tmp 35) (.const (.int .i64 (1))))), (some (33, false))⟩
(.take ⟨(some 37), (.pure (.idx 3 (.tmp 34) (.tmp 36))), (some (33, false))⟩
(.take ⟨(some 38), (.pure (.fieldAddr 0 (.tmp 37))), (some (33, false))⟩
(.take ⟨(some 40), (.pure (.fieldAddr 0 (.tmp 6))), (some (33, false))⟩
(.take ⟨(some 39), (.load none (.tmp 38)), (some (33, false))⟩
(.only false ⟨(some 41), (.load none (.tmp 40)), (some (33, false))⟩
(.take ⟨(some 42), (.pure (.bin .eql (.tmp 39) (.tmp 41))), (some (33, false))⟩
(.take ⟨(some 43), (.pure (.mv (.tmp 42))), (some (33, false))⟩
(.split 43
(.take ⟨(some 44), (.pure (.mv (.tmp 1))), (some (43, true))⟩
(.take ⟨(some 45), (.pure (.mv (.tmp 5))), (some (43, true))⟩
(.take ⟨(some 46), (.pure (.bin .sub (.tmp 45) (.const (.int .i64 (1))))), (some (43, true))⟩
(.take ⟨(some 47), (.pure (.idx 3 (.tmp 44) (.tmp 46))), (some (43, true))⟩
(.take ⟨(some 48), (.pure (.fieldAddr 2 (.tmp 47))), (some (43, true))⟩
(.take ⟨(some 50), (.pure (.fieldAddr 1 (.tmp 6))), (some (43, true))⟩
(.take ⟨(some 49), (.load none (.tmp 48)), (some (43, true))⟩
(.only false ⟨(some 51), (.load none (.tmp 50)), (some (43, true))⟩
(.take ⟨(some 52), (.pure (.bin .geq (.tmp 49) (.tmp 51))), (some (43, true))⟩
(.take ⟨(some 53), (.pure (.pick (.tmp 43) (.tmp 52) (.const (.bool false)))), (some (33, false))⟩
(.take ⟨(some 54), (.pure (.pick (.tmp 33) (.const (.bool true)) (.tmp 53))), (some (24, true))⟩
(.take ⟨(some 55), (.pure (.pick (.tmp 24) (.tmp 54) (.const (.bool false)))), (some (21, false))⟩
(.take (t_p 56 (.pick (.tmp 21) (.const (.bool true)) (.tmp 55)))
(.done))))))))))))))))))))))))))))))))))))))))))))))
(.cond (.tmp 56)
(.seq (.ops [ o_p 4 (.mv (.const (.bool false)))])
(.ret))
(.skip)))))
(.ops [ o_p 57 (.bin .add (.tmp 12) (.const (.int .i64 (1)))), o_m 12 57])))))))
(.seq (.ops [ o_p 4 (.mv (.const (.bool true)))])
(.ret)))),
[.tmp 4]⟩
theorem r_impl_areFogs : resFun Try.prog f_impl_areFogs = some c_impl_areFogs := by kernel_rfl

/- loop.example/g00940/impl.within -/
abbrev f_impl_within : Nat := 38
def c_impl_within : MFun := ⟨15, .seq (.ops [ o_p 6 (.mv (.const (.bool false)))])
(.seq (.ops [ o_m 7 0, o_m 8 1, o_p 9 (.bin .geq (.tmp 7) (.tmp 8)), o_m 10 9,
.split 10,
.op ⟨(some 11), (.pure (.mv (.tmp 0))), (some (10, true))⟩,
.op ⟨(some 12), (.pure (.mv (.tmp 2))), (some (10, true))⟩,
.op ⟨(some 13), (.pure (.bin .leq (.tmp 11) (.tmp 12))), (some (10, true))⟩, o_p 14 (.pick (.tmp 10) (.tmp 13) (.const (.bool false))), o_m 6 14])
(.ret)),
[.tmp 6]⟩
theorem r_impl_within : resFun Try.prog f_impl_within = some c_impl_within := by kernel_rfl

/- loop.example/g00940/impl.isWay -/
abbrev f_impl_isWay : Nat := 39
def c_impl_isWay : MFun := ⟨48, .seq (.ops [ o_e 2 (.box 26 (.tmp 0)), o_p 4 (.mv (.const (.bool false)))])
(.seq (.seq (.ops [ o_m 7 1, o_p 8 (.len (.tmp 7)), o_e 9 (.call 38 [(.tmp 8), (.const (.int .i64 (1))), (.const (.int .i64 (16)))]), o_p 10 (.bnot (.tmp 9)), o_m 11 10,
.split 11,
.op ⟨(some 12), (.pure (.mv (.tmp 1))), (some (11, false))⟩,
.op ⟨(some 13), (.pure (.fieldAddr 0 (.tmp 2))), (some (11, false))⟩,
.op ⟨(some 14), (.load none (.tmp 13)), (some (11, false))⟩,
.op ⟨(some 15), (.pure (.len (.tmp 14))), (some (11, false))⟩,
.op ⟨(some 16), (.pure (.bin .sub (.tmp 15) (.const (.int .i64 (1))))), (some (11, false))⟩,
.op ⟨(some 17), (.eff (.call 76 [(.tmp 12), (.const (.int .i64 (0))), (.tmp 16)])), (some (11, false))⟩,
.op ⟨(some 18), (.pure (.bnot (.tmp 17))), (some (11, false))⟩, o_p 19 (.pick (.tmp 11) (.const (.bool true)) (.tmp 18))])
(.cond (.tmp 19)
(.seq (.ops [ o_p 4 (.mv (.const (.bool false)))])
(.ret))
(.skip)))
(.seq (.seq (.ops [ o_m 20 1, o_p 21 (.len (.tmp 20)), o_p 22 (.mv (.const (.int .i64 (0))))])
(.block 0 (.loop (.seq (.ops [ o_p 23 (.bin .lss (.tmp 22) (.tmp 21))])
(.seq (.cond (.tmp 23)
(.skip)
(.exit 0))
(.seq (.block 1 (.seq (.ops [ o_m 24 22, o_p 25 (.idx 1 (.tmp 20) (.tmp 22)), o_l 26 25, o_m 5 24, o_m 6 26])
(.seq (.draw true
(.take (t_m 27 1)
(.take (t_m 28 5)
(.take (t_p 29 (.slc 1 (.tmp 27) none (some (.tmp 28)) none))
(.take (t_m 30 6)
(.only false (t_e 31 (.call 77 [(.tmp 29), (.tmp 30)]))
(.take (t_m 32 31)
(.split 32
(.take ⟨(some 33), (.pure (.mv (.tmp 5))), (some (32, false))⟩
(.take ⟨(some 34), (.pure (.bin .gtr (.tmp 33) (.const (.int .i64 (0))))), (some (32, false))⟩
(.take ⟨(some 35), (.pure (.mv (.tmp 34))), (some (32, false))⟩
(.split 35
(.take ⟨(some 37), (.pure (.mv (.tmp 1))), (some (35, true))⟩
(.take ⟨(some 38), (.pure (.mv (.tmp 5))), (some (35, true))⟩
(.take ⟨(some 39), (.pure (.bin .sub (.tmp 38) (.const (.int .i64 (1))))), (some (35, true))⟩
(.take ⟨(some 40), (.pure (.idx 1 (.tmp 37) (.tmp 39))), (some (35, true))⟩
(.take ⟨(some 42), (.pure (.mv (.tmp 6))), (some (35, true))⟩
(.take ⟨(some 36), (.load (some 2) (.tmp 2)), (some (35, true))⟩
(.only false ⟨(some 41), (.load none (.tmp 40)), (some (35, true))⟩
(.only true ⟨(some 43), (.eff (.call 40 [(.tmp 36), (.tmp 41), (.tmp 42)])), (some (35, true))⟩
(.take ⟨(some 44), (.pure (.bin .lss (.tmp 43) (.const (.int .i64 (0))))), (some (35, true))⟩
(.take ⟨(some 45), (.pure (.pick (.tmp 35) (.tmp 44) (.const (.bool false)))), (some (32, false))⟩
(.take (t_p 46 (.pick (.tmp 32) (.const (.bool true)) (.tmp 45)))
(.done))))))))))))))))))))))))
(.cond (.tmp 46)
(.seq (.ops [ o_p 4 (.mv (.const (.bool false)))])
(.ret))
(.skip)))))
(.ops [ o_p 47 (.bin .add (.tmp 22) (.const (.int .i64 (1)))), o_m 22 47])))))))
(.seq (.ops [ o_p 4 (.mv (.const (.bool true)))])
(.ret)))),
[.tmp 4]⟩
theorem r_impl_isWay : resFun Try.prog f_impl_isWay = some c_impl_isWay := by kernel_rfl

/- loop.example/g00940/impl.linkIndex -/
abbrev f_impl_linkIndex : Nat := 40
def c_impl_linkIndex : MFun := ⟨11, .seq (.ops [ o_e 3 (.box 26 (.tmp 0)), o_e 4 (.box 3 (.tmp 1)), o_e 5 (.box 3 (.tmp 2)), o_p 6 (.mv (.const (.int .i64 (0))))])
(.seq (.ops [ o_p 7 (.fieldAddr 1 (.tmp 3)), o_l 8 7, o_p 9 (.mkfn (.func 79) [] [(.tmp 4), (.tmp 5)]), o_e 10 (.call 78 [(.tmp 8), (.tmp 9)]), o_m 6 10])
(.ret)),
[.tmp 6]⟩
theorem r_impl_linkIndex : resFun Try.prog f_impl_linkIndex = some c_impl_linkIndex := by kernel_rfl

/- loop.example/g00940/impl.goOver -/
abbrev f_impl_goOver : Nat := 41
def c_impl_goOver : MFun := ⟨23, .seq (.ops [ o_e 4 (.box 26 (.tmp 0)), o_p 8 (.mv (.const (.int .i64 (0))))])
(.seq (.ops [ o_p 10 (.fieldAddr 1 (.tmp 4)), o_l 11 10, o_m 12 2, o_p 13 (.idx 3 (.tmp 11) (.tmp 12)), o_p 14 (.fieldAddr 2 (.tmp 13)), o_l 15 14, o_m 9 15])
(.seq (.ops [ o_m 16 1, o_m 17 2, o_m 18 3, o_m 19 9, o_e 20 (.call 80 [(.tmp 16), (.tmp 17), (.tmp 18), (.tmp 19)]), o_m 21 9, o_p 22 (.bin .add (.tmp 20) (.tmp 21)), o_m 8 22])
(.ret))),
[.tmp 8]⟩
theorem r_impl_goOver : resFun Try.prog f_impl_goOver = some c_impl_goOver := by kernel_rfl

/- loop.example/g00940/spec.roAlong -/
abbrev f_spec_roAlong : Nat := 42
def c_spec_roAlong : MFun := ⟨58, .seq (.ops [ o_e 4 (.box 26 (.tmp 0)), o_p 8 (.mv (.const (.int .i64 (0)))), o_p 9 (.mv (.const (.slice none 0 0))), o_p 10 (.mv (.const (.bool false)))])
(.seq (.seq (.ops [
.op ⟨(some 17), (.load (some 2) (.tmp 4)), none⟩, o_m 18 1, o_m 19 3, o_e 20 (.call 68 [(.tmp 17), (.tmp 18), (.tmp 19)]), o_p 21 (.bnot (.tmp 20))])
(.cond (.tmp 21)
(.seq (.ops [ o_p 8 (.mv (.const (.int .i64 (0)))), o_p 9 (.mv (.const (.slice none 0 0))), o_p 10 (.mv (.const (.bool false)))])
(.ret))
(.skip)))
(.seq (.ops [
.op ⟨(some 23), (.load (some 2) (.tmp 4)), none⟩, o_m 24 2, o_e 25 (.call 81 [(.tmp 23), (.tmp 24)]), o_m 22 25, o_p 26 (.ext 0 (.tmp 22)), o_p 27 (.ext 1 (.tmp 22)), o_m 11 26, o_m 12 27])
(.seq (.seq (.ops [ o_m 28 12, o_p 29 (.bnot (.tmp 28))])
(.cond (.tmp 29)
(.seq (.ops [ o_p 8 (.mv (.const (.int .i64 (0)))), o_p 9 (.mv (.const (.slice none 0 0))), o_p 10 (.mv (.const (.bool false)))])
(.ret))
(.skip)))
(.seq (.ops [ o_p 13 (.mv (.const (.slice none 0 0)))])
(.seq (.seq (.ops [ o_m 30 11, o_p 31 (.len (.tmp 30)), o_p 32 (.mv (.const (.int .i64 (0))))])
(.block 0 (.loop (.seq (.ops [ o_p 33 (.bin .lss (.tmp 32) (.tmp 31))])
(.seq (.cond (.tmp 33)
(.skip)
(.exit 0))
(.seq (.block 1 (.seq (.ops [ o_p 34 (.idx 1 (.tmp 30) (.tmp 32)), o_l 35 34, o_m 15 35])
(.seq (.ops [
.op ⟨(some 36), (.load (some 2) (.tmp 4)), none⟩, o_m 37 1, o_m 38 15, o_m 39 3, o_e 40 (.call 82 [(.tmp 36), (.tmp 37), (.tmp 38), (.tmp 39)]), o_m 16 40])
(.seq (.ops [ o_m 41 13, o_m 42 16, o_m 43 3, o_p 44 (.bin .sub (.tmp 42) (.tmp 43)), o_p 45 (.fieldAddr 1 (.tmp 4)), o_l 46 45, o_m 47 15, o_p 48 (.idx 3 (.tmp 46) (.tmp 47)), o_p 49 (.fieldAddr 2 (.tmp 48)), o_l 50 49, o_p 51 (.bin .sub (.tmp 44) (.tmp 50)), o_e 52 (.row 3 1 [(.int .i64 (0))] [(0, 1, (.tmp 51))]), o_e 53 (.app 3 1 8 (.tmp 41) (.tmp 52)), o_m 13 53])
(.ops [ o_m 54 16, o_m 3 54])))))
(.ops [ o_p 55 (.bin .add (.tmp 32) (.const (.int .i64 (1)))), o_m 32 55])))))))
(.seq (.ops [ o_m 56 3, o_m 57 13, o_m 8 56, o_m 9 57, o_p 10 (.mv (.const (.bool true)))])
(.ret))))))),
[.tmp 8, .tmp 9, .tmp 10]⟩
theorem r_spec_roAlong : resFun Try.prog f_spec_roAlong = some c_spec_roAlong := by kernel_rfl

/- loop.example/g00940/spec.DrawPlainDelay -/
/- loop.example/g00940/impl.plainDelay -/
abbrev f_impl_plainDelay : Nat := 44
def c_impl_plainDelay : MFun := ⟨18, .seq (.ops [ o_e 3 (.box 26 (.tmp 0)), o_p 6 (.mv (.const (.int .i64 (0)))), o_p 7 (.mv (.const (.bool false)))])
(.seq (.ops [
.op ⟨(some 9), (.load (some 2) (.tmp 3)), none⟩, o_m 10 1, o_e 11 (.call 57 [(.tmp 9), (.const (.slice none 0 0)), (.tmp 10), (.const (.int .i64 (0)))]), o_m 12 2, o_p 13 (.idx 1 (.tmp 11) (.tmp 12)), o_l 14 13, o_m 8 14])
(.seq (.seq (.ops [ o_m 15 8, o_p 16 (.bin .lss (.tmp 15) (.const (.int .i64 (0))))])
(.cond (.tmp 16)
(.seq (.ops [ o_p 6 (.mv (.const (.int .i64 (0)))), o_p 7 (.mv (.const (.bool false)))])
(.ret))
(.skip)))
(.seq (.ops [ o_m 17 8, o_m 6 17, o_p 7 (.mv (.const (.bool true)))])
(.ret)))),
[.tmp 6, .tmp 7]⟩
theorem r_impl_plainDelay : resFun Try.prog f_impl_plainDelay = some c_impl_plainDelay := by kernel_rfl

/- loop.example/g00940/impl.withoutLink -/
/- loop.example/g00940/spec.roWithout -/
/- loop.example/g00940/impl.isTower -/
abbrev f_impl_isTower : Nat := 47
def c_impl_isTower : MFun := ⟨15, .seq (.ops [ o_e 2 (.box 26 (.tmp 0)), o_p 4 (.mv (.const (.bool false)))])
(.seq (.ops [
.op ⟨(some 5), (.load (some 2) (.tmp 2)), none⟩, o_e 6 (.call 36 [(.tmp 5)]), o_m 7 6,
.split 7,
.op ⟨(some 8), (.pure (.mv (.tmp 1))), (some (7, true))⟩,
.op ⟨(some 9), (.pure (.fieldAddr 0 (.tmp 2))), (some (7, true))⟩,
.op ⟨(some 10), (.load none (.tmp 9)), (some (7, true))⟩,
.op ⟨(some 11), (.pure (.len (.tmp 10))), (some (7, true))⟩,
.op ⟨(some 12), (.pure (.bin .sub (.tmp 11) (.const (.int .i64 (1))))), (some (7, true))⟩,
.op ⟨(some 13), (.eff (.call 38 [(.tmp 8), (.const (.int .i64 (0))), (.tmp 12)])), (some (7, true))⟩, o_p 14 (.pick (.tmp 7) (.tmp 13) (.const (.bool false))), o_m 4 14])
(.ret)),
[.tmp 4]⟩
theorem r_impl_isTower : resFun Try.prog f_impl_isTower = some c_impl_isTower := by kernel_rfl

/- (*loop.example/g00940/spec.l1Cur).anyNet -/
abbrev f_spec_l1Cur_anyNet : Nat := 48
def c_spec_l1Cur_anyNet : MFun := ⟨164, .seq (.ops [ o_e 2 (.new 26 [(.slice none 0 0), (.slice none 0 0)])])
(.seq (.ops [ o_m 11 0, o_e 12 (.call 85 [(.tmp 11)]), o_e 3 (.new 26 [(.slice none 0 0), (.slice none 0 0)]),
.op ⟨none, (.eff (.store 2 (.tmp 3) (.tmp 12))), none⟩])
(.seq (.draw true
(.take (t_p 13 (.fieldAddr 0 (.tmp 3)))
(.take (t_m 15 0)
(.take (t_p 16 (.fieldAddr 0 (.tmp 3)))
(.only false (t_l 17 16)
(.take (t_p 18 (.len (.tmp 17)))
(.take (t_l 14 13)
(.only false (t_e 19 (.call 65 [(.tmp 15), (.tmp 18)]))
(.take (t_p 20 (.idx 3 (.tmp 14) (.tmp 19)))
(.take (t_m 4 20)
(.done)))))))))))
(.seq (.seq (.ops [ o_m 21 0, o_e 22 (.call 65 [(.tmp 21), (.const (.int .i64 (36)))])])
(.block 0 (.seq (.ops [ o_p 24 (.bin .eql (.tmp 22) (.const (.int .i64 (0)))), o_m 23 24])
(.cond (.tmp 23)
(.ops [ o_m 25 4, o_m 26 0, o_e 27 (.row 3 3 [(.int .i64 (0)), (.int .i64 (0)), (.int .i64 (0))] [(0, 1, (.const (.int .i64 (-1)))), (1, 1, (.const (.int .i64 (999)))), (2, 1, (.const (.int .i64 (1000))))]), o_e 28 (.call 72 [(.tmp 26), (.tmp 27)]), o_p 29 (.nilc (.tmp 25)), o_p 30 (.fieldAddr 0 (.tmp 29)),
.op ⟨none, (.eff (.store 1 (.tmp 30) (.tmp 28))), none⟩])
(.seq (.ops [ o_p 32 (.bin .eql (.tmp 22) (.const (.int .i64 (1)))), o_m 31 32])
(.cond (.tmp 31)
(.ops [ o_m 33 4, o_m 34 0, o_e 35 (.row 3 3 [(.int .i64 (0)), (.int .i64 (0)), (.int .i64 (0))] [(0, 1, (.const (.int .i64 (-1)))), (1, 1, (.const (.int .i64 (999)))), (2, 1, (.const (.int .i64 (1000))))]), o_e 36 (.call 72 [(.tmp 34), (.tmp 35)]), o_p 37 (.nilc (.tmp 33)), o_p 38 (.fieldAddr 1 (.tmp 37)),
.op ⟨none, (.eff (.store 1 (.tmp 38) (.tmp 36))), none⟩])
(.seq (.ops [ o_p 40 (.bin .eql (.tmp 22) (.const (.int .i64 (2)))), o_m 39 40])
(.cond (.tmp 39)
(.ops [ o_m 41 4, o_m 42 0, o_e 43 (.row 3 3 [(.int .i64 (0)), (.int .i64 (0)), (.int .i64 (0))] [(0, 1, (.const (.int .i64 (-1)))), (1, 1, (.const (.int .i64 (500)))), (2, 1, (.const (.int .i64 (501))))]), o_e 44 (.call 72 [(.tmp 42), (.tmp 43)]), o_p 45 (.nilc (.tmp 41)), o_p 46 (.fieldAddr 2 (.tmp 45)),
.op ⟨none, (.eff (.store 1 (.tmp 46) (.tmp 44))), none⟩])
(.seq (.ops [ o_p 48 (.bin .eql (.tmp 22) (.const (.int .i64 (3)))), o_m 47 48])
(.cond (.tmp 47)
(.ops [ o_p 49 (.fieldAddr 0 (.tmp 3)),
.op ⟨none, (.eff (.store 1 (.tmp 49) (.const (.slice none 0 0)))), none⟩])
(.seq (.ops [ o_p 51 (.bin .eql (.tmp 22) (.const (.int .i64 (4)))), o_m 50 51])
(.cond (.tmp 50)
(.seq (.ops [ o_m 52 0, o_e 53 (.call 65 [(.tmp 52), (.const (.int .i64 (2)))]), o_p 54 (.bin .add (.const (.int .i64 (16))) (.tmp 53)), o_m 5 54])
(.block 1 (.loop (.seq (.seq (.ops [ o_p 55 (.fieldAddr 0 (.tmp 3)), o_l 56 55, o_p 57 (.len (.tmp 56)), o_m 58 5, o_p 59 (.bin .lss (.tmp 57) (.tmp 58))])
(.cond (.tmp 59)
(.skip)
(.exit 1)))
(.block 2 (.draw true
(.take (t_p 60 (.fieldAddr 0 (.tmp 3)))
(.take (t_p 62 (.fieldAddr 0 (.tmp 3)))
(.only false (t_l 63 62)
(.take (t_p 64 (.idx 3 (.tmp 63) (.const (.int .i64 (0)))))
(.only false ⟨(some 65), (.load (some 3) (.tmp 64)), none⟩
(.take (t_l 61 60)
(.only false (t_e 66 (.row 84 1 [(.int .i64 (0)), (.int .i64 (0)), (.int .i64 (0))] [(0, 3, (.tmp 65))]))
(.only true (t_e 67 (.app 84 3 24 (.tmp 61) (.tmp 66)))
(.take (t_p 68 (.fieldAddr 0 (.tmp 3)))
(.only true ⟨none, (.eff (.store 1 (.tmp 68) (.tmp 67))), none⟩
(.done)))))))))))))))))
(.seq (.seq (.ops [ o_p 70 (.bin .eql (.tmp 22) (.const (.int .i64 (5)))), o_m 69 70])
(.cond (.tmp 69)
(.skip)
(.ops [ o_p 71 (.bin .eql (.tmp 22) (.const (.int .i64 (6)))), o_m 69 71])))
(.cond (.tmp 69)
(.seq (.ops [ o_p 72 (.fieldAddr 1 (.tmp 3)), o_l 73 72, o_p 74 (.len (.tmp 73)), o_m 6 74])
(.seq (.ops [ o_m 75 6, o_p 76 (.bin .gtr (.tmp 75) (.const (.int .i64 (0))))])
(.cond (.tmp 76)
(.seq (.draw true
(.take (t_p 77 (.fieldAddr 1 (.tmp 3)))
(.take (t_m 79 0)
(.take (t_m 80 6)
(.take (t_l 78 77)
(.only false (t_e 81 (.call 65 [(.tmp 79), (.tmp 80)]))
(.take (t_p 82 (.idx 3 (.tmp 78) (.tmp 81)))
(.take (t_m 7 82)
(.done)))))))))
(.seq (.ops [ o_m 83 0, o_e 84 (.call 65 [(.tmp 83), (.const (.int .i64 (4)))])])
(.block 3 (.seq (.ops [ o_p 86 (.bin .eql (.tmp 84) (.const (.int .i64 (0)))), o_m 85 86])
(.cond (.tmp 85)
(.ops [ o_m 87 7, o_m 88 0, o_m 89 7, o_p 90 (.nilc (.tmp 89)), o_p 91 (.fieldAddr 1 (.tmp 90)), o_l 92 91, o_e 93 (.row 3 2 [(.int .i64 (0)), (.int .i64 (0))] [(0, 1, (.const (.int .i64 (-1)))), (1, 1, (.tmp 92))]), o_e 94 (.call 72 [(.tmp 88), (.tmp 93)]), o_p 95 (.nilc (.tmp 87)), o_p 96 (.fieldAddr 0 (.tmp 95)),
.op ⟨none, (.eff (.store 1 (.tmp 96) (.tmp 94))), none⟩])
(.seq (.ops [ o_p 98 (.bin .eql (.tmp 84) (.const (.int .i64 (1)))), o_m 97 98])
(.cond (.tmp 97)
(.draw false
(.take (t_m 99 7)
(.take (t_m 100 0)
(.take (t_m 101 7)
(.take (t_p 102 (.nilc (.tmp 101)))
(.take (t_p 103 (.fieldAddr 0 (.tmp 102)))
(.take (t_p 105 (.fieldAddr 0 (.tmp 3)))
(.only false (t_l 104 103)
(.only false (t_l 106 105)
(.take (t_p 107 (.len (.tmp 106)))
(.only true (t_e 108 (.row 3 2 [(.int .i64 (0)), (.int .i64 (0))] [(0, 1, (.tmp 104)), (1, 1, (.tmp 107))]))
(.only true (t_e 109 (.call 72 [(.tmp 100), (.tmp 108)]))
(.take (t_p 110 (.nilc (.tmp 99)))
(.take (t_p 111 (.fieldAddr 1 (.tmp 110)))
(.only true ⟨none, (.eff (.store 1 (.tmp 111) (.tmp 109))), none⟩
(.done))))))))))))))))
(.seq (.ops [ o_p 113 (.bin .eql (.tmp 84) (.const (.int .i64 (2)))), o_m 112 113])
(.cond (.tmp 112)
(.ops [ o_m 114 7, o_m 115 0, o_e 116 (.row 3 3 [(.int .i64 (0)), (.int .i64 (0)), (.int .i64 (0))] [(0, 1, (.const (.int .i64 (0)))), (1, 1, (.const (.int .i64 (60)))), (2, 1, (.const (.int .i64 (61))))]), o_e 117 (.call 72 [(.tmp 115), (.tmp 116)]), o_p 118 (.nilc (.tmp 114)), o_p 119 (.fieldAddr 2 (.tmp 118)),
.op ⟨none, (.eff (.store 1 (.tmp 119) (.tmp 117))), none⟩])
(.seq (.ops [ o_p 121 (.bin .eql (.tmp 84) (.const (.int .i64 (3)))), o_m 120 121])
(.cond (.tmp 120)
(.draw true
(.take (t_p 122 (.fieldAddr 1 (.tmp 3)))
(.take (t_p 124 (.fieldAddr 1 (.tmp 3)))
(.only false (t_l 125 124)
(.take (t_p 126 (.idx 3 (.tmp 125) (.const (.int .i64 (0)))))
(.only false ⟨(some 127), (.load (some 3) (.tmp 126)), none⟩
(.take (t_l 123 122)
(.only false (t_e 128 (.row 45 1 [(.int .i64 (0)), (.int .i64 (0)), (.int .i64 (0))] [(0, 3, (.tmp 127))]))
(.only true (t_e 129 (.app 45 3 24 (.tmp 123) (.tmp 128)))
(.take (t_p 130 (.fieldAddr 1 (.tmp 3)))
(.only true ⟨none, (.eff (.store 1 (.tmp 130) (.tmp 129))), none⟩
(.done))))))))))))
(.skip))))))))))))
(.skip))))
(.seq (.ops [ o_p 132 (.bin .eql (.tmp 22) (.const (.int .i64 (7)))), o_m 131 132])
(.cond (.tmp 131)
(.seq (.ops [ o_e 133 (.mk 84 3 24 [(.int .i64 (0)), (.int .i64 (0)), (.int .i64 (0))] (.const (.int .i64 (10))) (.const (.int .i64 (10)))), o_p 134 (.build [(.slice none 0 0), (.slice none 0 0)] [(0, 1, (.tmp 133))]),
.op ⟨none, (.eff (.store 2 (.tmp 3) (.tmp 134))), none⟩])
(.seq (.ops [ o_m 135 0, o_e 136 (.call 65 [(.tmp 135), (.const (.int .i64 (2)))]), o_p 137 (.bin .add (.const (.int .i64 (40))) (.tmp 136)), o_m 8 137])
(.seq (.ops [ o_p 9 (.mv (.const (.int .i64 (0))))])
(.block 4 (.loop (.seq (.seq (.ops [ o_m 138 9, o_p 139 (.bin .lss (.tmp 138) (.const (.int .i64 (10))))])
(.cond (.tmp 139)
(.skip)
(.exit 4)))
(.seq (.block 5 (.seq (.ops [ o_m 142 9, o_p 143 (.bin .add (.tmp 142) (.const (.int .i64 (1)))), o_m 10 143])
(.block 6 (.loop (.seq (.seq (.ops [ o_m 144 10, o_p 145 (.bin .lss (.tmp 144) (.const (.int .i64 (10)))), o_m 146 145,
.split 146,
.op ⟨(some 147), (.pure (.fieldAddr 1 (.tmp 3))), (some (146, true))⟩,
.op ⟨(some 148), (.load none (.tmp 147)), (some (146, true))⟩,
.op ⟨(some 149), (.pure (.len (.tmp 148))), (some (146, true))⟩,
.op ⟨(some 150), (.pure (.mv (.tmp 8))), (some (146, true))⟩,
.op ⟨(some 151), (.pure (.bin .lss (.tmp 149) (.tmp 150))), (some (146, true))⟩, o_p 152 (.pick (.tmp 146) (.tmp 151) (.const (.bool false)))])
(.cond (.tmp 152)
(.skip)
(.exit 6)))
(.seq (.block 7 (.ops [ o_p 155 (.fieldAddr 1 (.tmp 3)), o_l 156 155, o_m 157 9, o_m 158 10, o_p 159 (.build [(.int .i64 (0)), (.int .i64 (0)), (.int .i64 (0))] [(0, 1, (.tmp 157)), (1, 1, (.tmp 158)), (2, 1, (.const (.int .i64 (5))))]), o_e 160 (.row 45 1 [(.int .i64 (0)), (.int .i64 (0)), (.int .i64 (0))] [(0, 3, (.tmp 159))]), o_e 161 (.app 45 3 24 (.tmp 156) (.tmp 160)), o_p 162 (.fieldAddr 1 (.tmp 3)),
.op ⟨none, (.eff (.store 1 (.tmp 162) (.tmp 161))), none⟩]))
(.ops [ o_m 153 10, o_p 154 (.bin .add (.tmp 153) (.const (.int .i64 (1)))), o_m 10 154])))))))
(.ops [ o_m 140 9, o_p 141 (.bin .add (.tmp 140) (.const (.int .i64 (1)))), o_m 9 141]))))))))
(.skip)))))))))))))))))
(.seq (.ops [
.op ⟨(some 163), (.load (some 2) (.tmp 3)), none⟩,
.op ⟨none, (.eff (.store 2 (.tmp 2) (.tmp 163))), none⟩])
(.ret))))),
[.cell 2 (some 2)]⟩
theorem r_spec_l1Cur_anyNet : resFun Try.prog f_spec_l1Cur_anyNet = some c_spec_l1Cur_anyNet := by kernel_rfl

/- (*loop.example/g00940/spec.l1Cur).link -/
/- (*loop.example/g00940/spec.l1Cur).tower -/
abbrev f_spec_l1Cur_tower : Nat := 50
def c_spec_l1Cur_tower : MFun := ⟨18, .seq (.ops [ o_e 3 (.box 26 (.tmp 1)), o_p 4 (.mv (.const (.int .i64 (0))))])
(.seq (.draw true
(.take (t_m 5 0)
(.take (t_p 6 (.fieldAddr 0 (.tmp 3)))
(.take (t_m 9 0)
(.take (t_m 14 0)
(.take (t_l 7 6)
(.take (t_p 8 (.len (.tmp 7)))
(.only false (t_e 10 (.call 65 [(.tmp 9), (.const (.int .i64 (16)))]))
(.take (t_p 11 (.bin .quo (.tmp 10) (.const (.int .i64 (15)))))
(.take (t_p 12 (.bin .add (.tmp 8) (.tmp 11)))
(.only true (t_e 13 (.call 65 [(.tmp 5), (.tmp 12)]))
(.only true (t_e 15 (.call 65 [(.tmp 14), (.const (.int .i64 (24)))]))
(.take (t_p 16 (.bin .quo (.tmp 15) (.const (.int .i64 (23)))))
(.take (t_p 17 (.bin .sub (.tmp 13) (.tmp 16)))
(.take (t_m 4 17)
(.done))))))))))))))))
(.ret)),
[.tmp 4]⟩
theorem r_spec_l1Cur_tower : resFun Try.prog f_spec_l1Cur_tower = some c_spec_l1Cur_tower := by kernel_rfl

/- loop.example/g00940/impl.isLink -/
/- loop.example/g00940/spec.neGood -/
abbrev f_spec_neGood : Nat := 52
def c_spec_neGood : MFun := ⟨88, .seq (.ops [ o_e 1 (.box 26 (.tmp 0)), o_p 2 (.mv (.const (.bool false)))])
(.seq (.seq (.ops [ o_p 7 (.fieldAddr 0 (.tmp 1)), o_l 8 7, o_p 9 (.len (.tmp 8)), o_p 10 (.mv (.const (.int .i64 (0))))])
(.block 0 (.loop (.seq (.ops [ o_p 11 (.bin .lss (.tmp 10) (.tmp 9))])
(.seq (.cond (.tmp 11)
(.skip)
(.exit 0))
(.seq (.block 1 (.seq (.ops [ o_p 12 (.idx 3 (.tmp 8) (.tmp 10)),
.op ⟨(some 13), (.load (some 3) (.tmp 12)), none⟩, o_e 4 (.new 84 [(.int .i64 (0)), (.int .i64 (0)), (.int .i64 (0))]),
.op ⟨none, (.eff (.store 3 (.tmp 4) (.tmp 13))), none⟩])
(.seq (.ops [ o_p 14 (.fieldAddr 0 (.tmp 4)), o_l 15 14, o_e 16 (.call 53 [(.tmp 15), (.const (.int .i64 (0))), (.const (.int .i64 (999)))]), o_p 17 (.bnot (.tmp 16)), o_m 18 17,
.split 18,
.op ⟨(some 19), (.pure (.fieldAddr 1 (.tmp 4))), (some (18, false))⟩,
.op ⟨(some 20), (.load none (.tmp 19)), (some (18, false))⟩,
.op ⟨(some 21), (.eff (.call 53 [(.tmp 20), (.const (.int .i64 (0))), (.const (.int .i64 (999)))])), (some (18, false))⟩,
.op ⟨(some 22), (.pure (.bnot (.tmp 21))), (some (18, false))⟩, o_p 23 (.pick (.tmp 18) (.const (.bool true)) (.tmp 22)), o_m 24 23,
.split 24,
.op ⟨(some 25), (.pure (.fieldAddr 2 (.tmp 4))), (some (24, false))⟩,
.op ⟨(some 26), (.load none (.tmp 25)), (some (24, false))⟩,
.op ⟨(some 27), (.eff (.call 53 [(.tmp 26), (.const (.int .i64 (0))), (.const (.int .i64 (500)))])), (some (24, false))⟩,
.op ⟨(some 28), (.pure (.bnot (.tmp 27))), (some (24, false))⟩, o_p 29 (.pick (.tmp 24) (.const (.bool true)) (.tmp 28))])
(.cond (.tmp 29)
(.seq (.ops [ o_p 2 (.mv (.const (.bool false)))])
(.ret))
(.skip)))))
(.ops [ o_p 30 (.bin .add (.tmp 10) (.const (.int .i64 (1)))), o_m 10 30])))))))
(.seq (.seq (.ops [ o_p 31 (.fieldAddr 1 (.tmp 1)), o_l 32 31, o_p 33 (.len (.tmp 32)), o_p 34 (.mv (.const (.int .i64 (0))))])
(.block 2 (.loop (.seq (.ops [ o_p 35 (.bin .lss (.tmp 34) (.tmp 33))])
(.seq (.cond (.tmp 35)
(.skip)
(.exit 2))
(.seq (.block 3 (.seq (.ops [ o_m 36 34, o_p 37 (.idx 3 (.tmp 32) (.tmp 34)),
.op ⟨(some 38), (.load (some 3) (.tmp 37)), none⟩, o_e 6 (.new 45 [(.int .i64 (0)), (.int .i64 (0)), (.int .i64 (0))]), o_m 5 36,
.op ⟨none, (.eff (.store 3 (.tmp 6) (.tmp 38))), none⟩])
(.seq (.draw true
(.take (t_p 39 (.fieldAddr 0 (.tmp 6)))
(.take (t_p 41 (.fieldAddr 1 (.tmp 6)))
(.only false (t_l 40 39)
(.only false (t_l 42 41)
(.take (t_p 43 (.bin .sub (.tmp 42) (.const (.int .i64 (1)))))
(.only false (t_e 44 (.call 53 [(.tmp 40), (.const (.int .i64 (0))), (.tmp 43)]))
(.take (t_p 45 (.bnot (.tmp 44)))
(.take (t_m 46 45)
(.split 46
(.take ⟨(some 47), (.pure (.fieldAddr 1 (.tmp 6))), (some (46, false))⟩
(.take ⟨(some 49), (.pure (.fieldAddr 0 (.tmp 1))), (some (46, false))⟩
(.take ⟨(some 48), (.load none (.tmp 47)), (some (46, false))⟩
(.only false ⟨(some 50), (.load none (.tmp 49)), (some (46, false))⟩
(.take ⟨(some 51), (.pure (.len (.tmp 50))), (some (46, false))⟩
(.take ⟨(some 52), (.pure (.bin .sub (.tmp 51) (.const (.int .i64 (1))))), (some (46, false))⟩
(.only false ⟨(some 53), (.eff (.call 53 [(.tmp 48), (.const (.int .i64 (0))), (.tmp 52)])), (some (46, false))⟩
(.take ⟨(some 54), (.pure (.bnot (.tmp 53))), (some (46, false))⟩
(.take (t_p 55 (.pick (.tmp 46) (.const (.bool true)) (.tmp 54)))
(.take (t_m 56 55)
(.split 56
(.take ⟨(some 57), (.pure (.fieldAddr 2 (.tmp 6))), (some (56, false))⟩
(.only false ⟨(some 58), (.load none (.tmp 57)), (some (56, false))⟩
(.only false ⟨(some 59), (.eff (.call 53 [(.tmp 58), (.const (.int .i64 (1))), (.const (.int .i64 (60)))])), (some (56, false))⟩
(.take ⟨(some 60), (.pure (.bnot (.tmp 59))), (some (56, false))⟩
(.take (t_p 61 (.pick (.tmp 56) (.const (.bool true)) (.tmp 60)))
(.take (t_m 62 61)
(.split 62
(.take ⟨(some 63), (.pure (.mv (.tmp 5))), (some (62, false))⟩
(.take ⟨(some 64), (.pure (.bin .gtr (.tmp 63) (.const (.int .i64 (0))))), (some (62, false))⟩
(.take ⟨(some 65), (.pure (.mv (.tmp 64))), (some (62, false))⟩
(.split 65
(.take ⟨(some 66), (.pure (.fieldAddr 1 (.tmp 1))), (some (65, true))⟩
(.take ⟨(some 68), (.pure (.mv (.tmp 5))), (some (65, true))⟩
(.take ⟨(some 69), (.pure (.bin .sub (.tmp 68) (.const (.int .i64 (1))))), (some (65, true))⟩
(.take ⟨(some 67), (.load none (.tmp 66)), (some (65, true))⟩
(.take ⟨(some 70), (.pure (.idx 3 (.tmp 67) (.tmp 69))), (some (65, true))⟩
(.take ⟨(some 71), (.load (some 3) (.tmp 70)), (some (65, true))⟩
(.only false ⟨(some 72), (.load (some 3) (.tmp 6)), (some (65, true))⟩
(.only true ⟨(some 73), (.eff (.call 86 [(.tmp 71), (.tmp 72)])), (some (65, true))⟩
(.take ⟨(some 74), (.pure (.bnot (.tmp 73))), (some (65, true))⟩
(.take ⟨(some 75), (.pure (.pick (.tmp 65) (.tmp 74) (.const (.bool false)))), (some (62, false))⟩
(.take (t_p 76 (.pick (.tmp 62) (.const (.bool true)) (.tmp 75)))
(.done))))))))))))))))))))))))))))))))))))))))))))
(.cond (.tmp 76)
(.seq (.ops [ o_p 2 (.mv (.const (.bool false)))])
(.ret))
(.skip)))))
(.ops [ o_p 77 (.bin .add (.tmp 34) (.const (.int .i64 (1)))), o_m 34 77])))))))
(.seq (.ops [ o_p 78 (.fieldAddr 0 (.tmp 1)), o_l 79 78, o_p 80 (.len (.tmp 79)), o_e 81 (.call 53 [(.tmp 80), (.const (.int .i64 (1))), (.const (.int .i64 (16)))]), o_m 82 81,
.split 82,
.op ⟨(some 83), (.pure (.fieldAddr 1 (.tmp 1))), (some (82, true))⟩,
.op ⟨(some 84), (.load none (.tmp 83)), (some (82, true))⟩,
.op ⟨(some 85), (.pure (.len (.tmp 84))), (some (82, true))⟩,
.op ⟨(some 86), (.pure (.bin .leq (.tmp 85) (.const (.int .i64 (40))))), (some (82, true))⟩, o_p 87 (.pick (.tmp 82) (.tmp 86) (.const (.bool false))), o_m 2 87])
(.ret)))),
[.tmp 2]⟩
theorem r_spec_neGood : resFun Try.prog f_spec_neGood = some c_spec_neGood := by kernel_rfl

/- loop.example/g00940/spec.l1In -/
abbrev f_spec_l1In : Nat := 53
def c_spec_l1In : MFun := ⟨15, .seq (.ops [ o_p 6 (.mv (.const (.bool false)))])
(.seq (.ops [ o_m 7 0, o_m 8 1, o_p 9 (.bin .geq (.tmp 7) (.tmp 8)), o_m 10 9,
.split 10,
.op ⟨(some 11), (.pure (.mv (.tmp 0))), (some (10, true))⟩,
.op ⟨(some 12), (.pure (.mv (.tmp 2))), (some (10, true))⟩,
.op ⟨(some 13), (.pure (.bin .leq (.tmp 11) (.tmp 12))), (some (10, true))⟩, o_p 14 (.pick (.tmp 10) (.tmp 13) (.const (.bool false))), o_m 6 14])
(.ret)),
[.tmp 6]⟩
theorem r_spec_l1In : resFun Try.prog f_spec_l1In = some c_spec_l1In := by kernel_rfl

/- loop.example/g00940/spec.neHas -/
abbrev f_spec_neHas : Nat := 54
def c_spec_neHas : MFun := ⟨15, .seq (.ops [ o_e 2 (.box 26 (.tmp 0)), o_p 4 (.mv (.const (.bool false)))])
(.seq (.ops [
.op ⟨(some 5), (.load (some 2) (.tmp 2)), none⟩, o_e 6 (.call 52 [(.tmp 5)]), o_m 7 6,
.split 7,
.op ⟨(some 8), (.pure (.mv (.tmp 1))), (some (7, true))⟩,
.op ⟨(some 9), (.pure (.fieldAddr 0 (.tmp 2))), (some (7, true))⟩,
.op ⟨(some 10), (.load none (.tmp 9)), (some (7, true))⟩,
.op ⟨(some 11), (.pure (.len (.tmp 10))), (some (7, true))⟩,
.op ⟨(some 12), (.pure (.bin .sub (.tmp 11) (.const (.int .i64 (1))))), (some (7, true))⟩,
.op ⟨(some 13), (.eff (.call 53 [(.tmp 8), (.const (.int .i64 (0))), (.tmp 12)])), (some (7, true))⟩, o_p 14 (.pick (.tmp 7) (.tmp 13) (.const (.bool false))), o_m 4 14])
(.ret)),
[.tmp 4]⟩
theorem r_spec_neHas : resFun Try.prog f_spec_neHas = some c_spec_neHas := by kernel_rfl

/- loop.example/g00940/spec.neLink -/
abbrev f_spec_neLink : Nat := 55
def c_spec_neLink : MFun := ⟨41, .seq (.ops [ o_e 3 (.box 26 (.tmp 0)), o_p 6 (.mv (.const (.int .i64 (0))))])
(.seq (.seq (.ops [ o_p 9 (.fieldAddr 1 (.tmp 3)), o_l 10 9, o_p 11 (.len (.tmp 10)), o_p 12 (.mv (.const (.int .i64 (0))))])
(.block 0 (.loop (.seq (.ops [ o_p 13 (.bin .lss (.tmp 12) (.tmp 11))])
(.seq (.cond (.tmp 13)
(.skip)
(.exit 0))
(.seq (.block 1 (.seq (.ops [ o_m 14 12, o_p 15 (.idx 3 (.tmp 10) (.tmp 12)),
.op ⟨(some 16), (.load (some 3) (.tmp 15)), none⟩, o_e 8 (.new 45 [(.int .i64 (0)), (.int .i64 (0)), (.int .i64 (0))]), o_m 7 14,
.op ⟨none, (.eff (.store 3 (.tmp 8) (.tmp 16))), none⟩])
(.seq (.ops [ o_p 17 (.fieldAddr 0 (.tmp 8)), o_l 18 17, o_m 19 1, o_p 20 (.bin .eql (.tmp 18) (.tmp 19)), o_m 21 20,
.split 21,
.op ⟨(some 22), (.pure (.fieldAddr 1 (.tmp 8))), (some (21, true))⟩,
.op ⟨(some 23), (.load none (.tmp 22)), (some (21, true))⟩,
.op ⟨(some 24), (.pure (.mv (.tmp 2))), (some (21, true))⟩,
.op ⟨(some 25), (.pure (.bin .eql (.tmp 23) (.tmp 24))), (some (21, true))⟩, o_p 26 (.pick (.tmp 21) (.tmp 25) (.const (.bool false))), o_m 27 26,
.split 27,
.op ⟨(some 28), (.pure (.fieldAddr 0 (.tmp 8))), (some (27, false))⟩,
.op ⟨(some 29), (.load none (.tmp 28)), (some (27, false))⟩,
.op ⟨(some 30), (.pure (.mv (.tmp 2))), (some (27, false))⟩,
.op ⟨(some 31), (.pure (.bin .eql (.tmp 29) (.tmp 30))), (some (27, false))⟩,
.op ⟨(some 32), (.pure (.mv (.tmp 31))), (some (27, false))⟩,
.split 32,
.op ⟨(some 33), (.pure (.fieldAddr 1 (.tmp 8))), (some (32, true))⟩,
.op ⟨(some 34), (.load none (.tmp 33)), (some (32, true))⟩,
.op ⟨(some 35), (.pure (.mv (.tmp 1))), (some (32, true))⟩,
.op ⟨(some 36), (.pure (.bin .eql (.tmp 34) (.tmp 35))), (some (32, true))⟩,
.op ⟨(some 37), (.pure (.pick (.tmp 32) (.tmp 36) (.const (.bool false)))), (some (27, false))⟩, o_p 38 (.pick (.tmp 27) (.const (.bool true)) (.tmp 37))])
(.cond (.tmp 38)
(.seq (.ops [ o_m 39 7, o_m 6 39])
(.ret))
(.skip)))))
(.ops [ o_p 40 (.bin .add (.tmp 12) (.const (.int .i64 (1)))), o_m 12 40])))))))
(.seq (.ops [ o_p 6 (.mv (.const (.int .i64 (-1))))])
(.ret))),
[.tmp 6]⟩
theorem r_spec_neLink : resFun Try.prog f_spec_neLink = some c_spec_neLink := by kernel_rfl

/- loop.example/g00940/impl.wayAsked -/
abbrev f_impl_wayAsked : Nat := 56
def c_impl_wayAsked : MFun := ⟨28, .seq (.ops [ o_e 5 (.box 26 (.tmp 0)), o_p 10 (.mv (.const (.bool false)))])
(.seq (.ops [
.op ⟨(some 11), (.load (some 2) (.tmp 5)), none⟩, o_m 12 2, o_e 13 (.call 47 [(.tmp 11), (.tmp 12)]), o_m 14 13,
.split 14,
.op ⟨(some 15), (.load (some 2) (.tmp 5)), (some (14, true))⟩,
.op ⟨(some 16), (.pure (.mv (.tmp 3))), (some (14, true))⟩,
.op ⟨(some 17), (.eff (.call 47 [(.tmp 15), (.tmp 16)])), (some (14, true))⟩, o_p 18 (.pick (.tmp 14) (.tmp 17) (.const (.bool false))), o_m 19 18,
.split 19,
.op ⟨(some 20), (.load (some 2) (.tmp 5)), (some (19, true))⟩,
.op ⟨(some 21), (.pure (.mv (.tmp 1))), (some (19, true))⟩,
.op ⟨(some 22), (.eff (.call 37 [(.tmp 20), (.tmp 21)])), (some (19, true))⟩, o_p 23 (.pick (.tmp 19) (.tmp 22) (.const (.bool false))), o_m 24 23,
.split 24,
.op ⟨(some 25), (.pure (.mv (.tmp 4))), (some (24, true))⟩,
.op ⟨(some 26), (.eff (.call 38 [(.tmp 25), (.const (.int .i64 (0))), (.const (.int .i64 (10000)))])), (some (24, true))⟩, o_p 27 (.pick (.tmp 24) (.tmp 26) (.const (.bool false))), o_m 10 27])
(.ret)),
[.tmp 10]⟩
theorem r_impl_wayAsked : resFun Try.prog f_impl_wayAsked = some c_impl_wayAsked := by kernel_rfl

/- loop.example/g00940/impl.arrivals -/
abbrev f_impl_arrivals : Nat := 57
def c_impl_arrivals : MFun := ⟨96, .seq (.ops [ o_e 4 (.box 26 (.tmp 0)), o_p 8 (.mv (.const (.slice none 0 0)))])
(.seq (.ops [ o_p 19 (.fieldAddr 0 (.tmp 4)), o_l 20 19, o_p 21 (.len (.tmp 20)), o_e 22 (.mk 3 1 8 [(.int .i64 (0))] (.tmp 21) (.tmp 21)), o_m 9 22])
(.seq (.seq (.ops [ o_m 23 9, o_p 24 (.len (.tmp 23)), o_p 25 (.mv (.const (.int .i64 (0))))])
(.block 0 (.loop (.seq (.ops [ o_p 26 (.bin .lss (.tmp 25) (.tmp 24))])
(.seq (.cond (.tmp 26)
(.skip)
(.exit 0))
(.seq (.block 1 (.seq (.ops [ o_m 27 25, o_m 10 27])
(.ops [ o_m 28 9, o_m 29 10, o_p 30 (.idx 1 (.tmp 28) (.tmp 29)),
.op ⟨none, (.eff (.store 1 (.tmp 30) (.const (.int .i64 (-1))))), none⟩])))
(.ops [ o_p 31 (.bin .add (.tmp 25) (.const (.int .i64 (1)))), o_m 25 31])))))))
(.seq (.ops [ o_m 32 9, o_m 33 2, o_m 34 3, o_p 35 (.idx 1 (.tmp 32) (.tmp 33)),
.op ⟨none, (.eff (.store 1 (.tmp 35) (.tmp 34))), none⟩])
(.seq (.seq (.ops [ o_p 11 (.mv (.const (.bool true)))])
(.block 2 (.loop (.seq (.seq (.ops [ o_m 36 11])
(.cond (.tmp 36)
(.skip)
(.exit 2)))
(.block 3 (.seq (.ops [ o_p 11 (.mv (.const (.bool false)))])
(.seq (.ops [ o_p 37 (.fieldAddr 1 (.tmp 4)), o_l 38 37, o_p 39 (.len (.tmp 38)), o_p 40 (.mv (.const (.int .i64 (0))))])
(.block 4 (.loop (.seq (.ops [ o_p 41 (.bin .lss (.tmp 40) (.tmp 39))])
(.seq (.cond (.tmp 41)
(.skip)
(.exit 4))
(.seq (.block 5 (.seq (.ops [ o_m 42 40, o_p 43 (.idx 3 (.tmp 38) (.tmp 40)),
.op ⟨(some 44), (.load (some 3) (.tmp 43)), none⟩, o_e 13 (.new 45 [(.int .i64 (0)), (.int .i64 (0)), (.int .i64 (0))]), o_m 12 42,
.op ⟨none, (.eff (.store 3 (.tmp 13) (.tmp 44))), none⟩])
(.seq (.ops [ o_p 45 (.fieldAddr 0 (.tmp 13)), o_l 46 45, o_p 47 (.fieldAddr 1 (.tmp 13)), o_l 48 47, o_p 49 (.build [(.int .i64 (0)), (.int .i64 (0))] [(0, 1, (.tmp 46)), (1, 1, (.tmp 48))]), o_p 50 (.fieldAddr 1 (.tmp 13)), o_l 51 50, o_p 52 (.fieldAddr 0 (.tmp 13)), o_l 53 52, o_p 54 (.build [(.int .i64 (0)), (.int .i64 (0))] [(0, 1, (.tmp 51)), (1, 1, (.tmp 53))]), o_p 55 (.build [(.int .i64 (0)), (.int .i64 (0)), (.int .i64 (0)), (.int .i64 (0))] [(0, 2, (.tmp 49)), (2, 2, (.tmp 54))]), o_p 56 (.mv (.const (.int .i64 (0))))])
(.block 6 (.loop (.seq (.ops [ o_p 57 (.bin .lss (.tmp 56) (.const (.int .i64 (2))))])
(.seq (.cond (.tmp 57)
(.skip)
(.exit 6))
(.seq (.block 7 (.seq (.ops [ o_p 58 (.arr 2 2 (some 2) (.tmp 55) (.tmp 56)), o_e 15 (.new 100 [(.int .i64 (0)), (.int .i64 (0))]),
.op ⟨none, (.eff (.store 2 (.tmp 15) (.tmp 58))), none⟩])
(.seq (.ops [ o_p 59 (.idxA 2 1 (.tmp 15) (.const (.int .i64 (0)))), o_p 61 (.idxA 2 1 (.tmp 15) (.const (.int .i64 (1)))), o_l 60 59, o_m 16 60, o_l 62 61, o_m 17 62])
(.seq (.seq (.ops [ o_m 63 9, o_m 64 16, o_p 65 (.idx 1 (.tmp 63) (.tmp 64)), o_l 66 65, o_p 67 (.bin .lss (.tmp 66) (.const (.int .i64 (0))))])
(.cond (.tmp 67)
(.exit 7)
(.skip)))
(.seq (.draw false
(.take (t_m 69 1)
(.take (t_m 70 12)
(.take (t_m 71 9)
(.take (t_m 72 16)
(.take (t_p 73 (.idx 1 (.tmp 71) (.tmp 72)))
(.only false ⟨(some 68), (.load (some 2) (.tmp 4)), none⟩
(.only false (t_l 74 73)
(.only true (t_e 75 (.call 41 [(.tmp 68), (.tmp 69), (.tmp 70), (.tmp 74)]))
(.take (t_m 18 75)
(.done)))))))))))
(.seq (.ops [ o_m 76 9, o_m 77 17, o_p 78 (.idx 1 (.tmp 76) (.tmp 77)), o_l 79 78, o_p 80 (.bin .lss (.tmp 79) (.const (.int .i64 (0)))), o_m 81 80,
.split 81,
.op ⟨(some 82), (.pure (.mv (.tmp 18))), (some (81, false))⟩,
.op ⟨(some 83), (.pure (.mv (.tmp 9))), (some (81, false))⟩,
.op ⟨(some 84), (.pure (.mv (.tmp 17))), (some (81, false))⟩,
.op ⟨(some 85), (.pure (.idx 1 (.tmp 83) (.tmp 84))), (some (81, false))⟩,
.op ⟨(some 86), (.load none (.tmp 85)), (some (81, false))⟩,
.op ⟨(some 87), (.pure (.bin .lss (.tmp 82) (.tmp 86))), (some (81, false))⟩, o_p 88 (.pick (.tmp 81) (.const (.bool true)) (.tmp 87))])
(.cond (.tmp 88)
(.ops [ o_m 89 9, o_m 90 17, o_m 91 18, o_p 92 (.idx 1 (.tmp 89) (.tmp 90)),
.op ⟨none, (.eff (.store 1 (.tmp 92) (.tmp 91))), none⟩, o_p 11 (.mv (.const (.bool true)))])
(.skip))))))))
(.ops [ o_p 93 (.bin .add (.tmp 56) (.const (.int .i64 (1)))), o_m 56 93])))))))))
(.ops [ o_p 94 (.bin .add (.tmp 40) (.const (.int .i64 (1)))), o_m 40 94])))))))))))))
(.seq (.ops [ o_m 95 9, o_m 8 95])
(.ret)))))),
[.tmp 8]⟩
theorem r_impl_arrivals : resFun Try.prog f_impl_arrivals = some c_impl_arrivals := by kernel_rfl
end Go.Proofs.Ytgbaonaopkdlpaa

