/- The code of this seat's functions, resolved, written by a program of mine; each is held against the given program by the kernel. Condition: none. -/
import Derived.Test.YtloicopmcagikaaProg
import Derived.Test.YtloicopmcagikaaBase9
import Derived.KernelRfl
namespace Go.Proofs.Ytloicopmcagikaa
open Go.Vc

/- (*loop.example/g00940/spec.l1Cur).second -/
abbrev f_spec_l1Cur_second : Nat := 40
def c_spec_l1Cur_second : MFun := ⟨15, .seq (.ops [ o_p 2 (.mv (.const (.int .i64 (0))))])
(.seq (.ops [ o_m 3 0, o_m 4 0, o_e 5 (.call 76 [(.tmp 4), (.const (.int .i64 (100)))]), o_m 6 0, o_e 7 (.call 76 [(.tmp 6), (.const (.int .i64 (100)))]), o_m 8 0, o_e 9 (.call 76 [(.tmp 8), (.const (.int .i64 (200)))]), o_m 10 0, o_e 11 (.row 3 3 [(.int .i64 (0)), (.int .i64 (0)), (.int .i64 (0))] [(0, 1, (.const (.int .i64 (10000)))), (1, 1, (.const (.int .i64 (10001)))), (2, 1, (.const (.int .i64 (-1))))]), o_e 12 (.call 41 [(.tmp 10), (.tmp 11)]), o_e 13 (.row 3 6 [(.int .i64 (0)), (.int .i64 (0)), (.int .i64 (0)), (.int .i64 (0)), (.int .i64 (0)), (.int .i64 (0))] [(0, 1, (.const (.int .i64 (0)))), (1, 1, (.const (.int .i64 (12)))), (2, 1, (.tmp 5)), (3, 1, (.tmp 7)), (4, 1, (.tmp 9)), (5, 1, (.tmp 12))]), o_e 14 (.call 41 [(.tmp 3), (.tmp 13)]), o_m 2 14])
(.ret)),
[.tmp 2]⟩
theorem r_spec_l1Cur_second : resFun Try.prog f_spec_l1Cur_second = some c_spec_l1Cur_second := by kernel_rfl

/- (*loop.example/g00940/spec.l1Cur).among -/
abbrev f_spec_l1Cur_among : Nat := 41
def c_spec_l1Cur_among : MFun := ⟨12, .seq (.ops [ o_p 4 (.mv (.const (.int .i64 (0))))])
(.seq (.ops [ o_m 5 1, o_m 6 0, o_m 7 1, o_p 8 (.len (.tmp 7)), o_e 9 (.call 76 [(.tmp 6), (.tmp 8)]), o_p 10 (.idx 1 (.tmp 5) (.tmp 9)), o_l 11 10, o_m 4 11])
(.ret)),
[.tmp 4]⟩
theorem r_spec_l1Cur_among : resFun Try.prog f_spec_l1Cur_among = some c_spec_l1Cur_among := by kernel_rfl

/- loop.example/g00940/impl.fogAsked -/
abbrev f_impl_fogAsked : Nat := 42
def c_impl_fogAsked : MFun := ⟨32, .seq (.ops [ o_e 5 (.box 27 (.tmp 0)), o_p 10 (.mv (.const (.bool false)))])
(.seq (.ops [
.op ⟨(some 11), (.load (some 2) (.tmp 5)), none⟩, o_m 12 2, o_e 13 (.call 77 [(.tmp 11), (.tmp 12)]), o_m 14 13,
.split 14,
.op ⟨(some 15), (.load (some 2) (.tmp 5)), (some (14, true))⟩,
.op ⟨(some 16), (.pure (.mv (.tmp 1))), (some (14, true))⟩,
.op ⟨(some 17), (.eff (.call 50 [(.tmp 15), (.tmp 16)])), (some (14, true))⟩, o_p 18 (.pick (.tmp 14) (.tmp 17) (.const (.bool false))), o_m 19 18,
.split 19,
.op ⟨(some 20), (.pure (.mv (.tmp 3))), (some (19, true))⟩,
.op ⟨(some 21), (.pure (.bin .geq (.tmp 20) (.const (.int .i64 (0))))), (some (19, true))⟩, o_p 22 (.pick (.tmp 19) (.tmp 21) (.const (.bool false))), o_m 23 22,
.split 23,
.op ⟨(some 24), (.pure (.mv (.tmp 3))), (some (23, true))⟩,
.op ⟨(some 25), (.pure (.mv (.tmp 4))), (some (23, true))⟩,
.op ⟨(some 26), (.pure (.bin .leq (.tmp 24) (.tmp 25))), (some (23, true))⟩, o_p 27 (.pick (.tmp 23) (.tmp 26) (.const (.bool false))), o_m 28 27,
.split 28,
.op ⟨(some 29), (.pure (.mv (.tmp 4))), (some (28, true))⟩,
.op ⟨(some 30), (.pure (.bin .leq (.tmp 29) (.const (.int .i64 (10000))))), (some (28, true))⟩, o_p 31 (.pick (.tmp 28) (.tmp 30) (.const (.bool false))), o_m 10 31])
(.ret)),
[.tmp 10]⟩
theorem r_impl_fogAsked : resFun Try.prog f_impl_fogAsked = some c_impl_fogAsked := by kernel_rfl

/- loop.example/g00940/impl.within -/
abbrev f_impl_within : Nat := 43
def c_impl_within : MFun := ⟨15, .seq (.ops [ o_p 6 (.mv (.const (.bool false)))])
(.seq (.ops [ o_m 7 0, o_m 8 1, o_p 9 (.bin .geq (.tmp 7) (.tmp 8)), o_m 10 9,
.split 10,
.op ⟨(some 11), (.pure (.mv (.tmp 0))), (some (10, true))⟩,
.op ⟨(some 12), (.pure (.mv (.tmp 2))), (some (10, true))⟩,
.op ⟨(some 13), (.pure (.bin .leq (.tmp 11) (.tmp 12))), (some (10, true))⟩, o_p 14 (.pick (.tmp 10) (.tmp 13) (.const (.bool false))), o_m 6 14])
(.ret)),
[.tmp 6]⟩
theorem r_impl_within : resFun Try.prog f_impl_within = some c_impl_within := by kernel_rfl

/- loop.example/g00940/impl.startAfter -/
abbrev f_impl_startAfter : Nat := 44
def c_impl_startAfter : MFun := ⟨39, .seq (.ops [ o_p 8 (.mv (.const (.int .i64 (0))))])
(.seq (.seq (.ops [ o_m 11 0, o_p 12 (.len (.tmp 11)), o_p 13 (.mv (.const (.int .i64 (0))))])
(.block 0 (.loop (.seq (.ops [ o_p 14 (.bin .lss (.tmp 13) (.tmp 12))])
(.seq (.cond (.tmp 14)
(.skip)
(.exit 0))
(.seq (.block 1 (.seq (.ops [ o_p 15 (.idx 3 (.tmp 11) (.tmp 13)),
.op ⟨(some 16), (.load (some 3) (.tmp 15)), none⟩, o_e 10 (.new 57 [(.int .i64 (0)), (.int .i64 (0)), (.int .i64 (0))]),
.op ⟨none, (.eff (.store 3 (.tmp 10) (.tmp 16))), none⟩])
(.seq (.ops [ o_p 17 (.fieldAddr 0 (.tmp 10)), o_l 18 17, o_m 19 1, o_p 20 (.bin .eql (.tmp 18) (.tmp 19)), o_m 21 20,
.split 21,
.op ⟨(some 22), (.pure (.fieldAddr 2 (.tmp 10))), (some (21, true))⟩,
.op ⟨(some 23), (.load none (.tmp 22)), (some (21, true))⟩,
.op ⟨(some 24), (.pure (.mv (.tmp 2))), (some (21, true))⟩,
.op ⟨(some 25), (.pure (.bin .gtr (.tmp 23) (.tmp 24))), (some (21, true))⟩, o_p 26 (.pick (.tmp 21) (.tmp 25) (.const (.bool false))), o_m 27 26,
.split 27,
.op ⟨(some 28), (.pure (.fieldAddr 1 (.tmp 10))), (some (27, true))⟩,
.op ⟨(some 29), (.load none (.tmp 28)), (some (27, true))⟩,
.op ⟨(some 30), (.pure (.mv (.tmp 2))), (some (27, true))⟩,
.op ⟨(some 31), (.pure (.mv (.tmp 3))), (some (27, true))⟩,
.op ⟨(some 32), (.pure (.bin .add (.tmp 30) (.tmp 31))), (some (27, true))⟩,
.op ⟨(some 33), (.pure (.bin .lss (.tmp 29) (.tmp 32))), (some (27, true))⟩, o_p 34 (.pick (.tmp 27) (.tmp 33) (.const (.bool false)))])
(.cond (.tmp 34)
(.ops [ o_p 35 (.fieldAddr 2 (.tmp 10)), o_l 36 35, o_m 2 36])
(.skip)))))
(.ops [ o_p 37 (.bin .add (.tmp 13) (.const (.int .i64 (1)))), o_m 13 37])))))))
(.seq (.ops [ o_m 38 2, o_m 8 38])
(.ret))),
[.tmp 8]⟩
theorem r_impl_startAfter : resFun Try.prog f_impl_startAfter = some c_impl_startAfter := by kernel_rfl

/- loop.example/g00940/spec.fgHas -/
abbrev f_spec_fgHas : Nat := 45
def c_spec_fgHas : MFun := ⟨22, .seq (.ops [ o_e 3 (.box 27 (.tmp 0)), o_p 6 (.mv (.const (.bool false)))])
(.seq (.ops [
.op ⟨(some 7), (.load (some 2) (.tmp 3)), none⟩, o_e 8 (.call 52 [(.tmp 7)]), o_m 9 8,
.split 9,
.op ⟨(some 10), (.load (some 2) (.tmp 3)), (some (9, true))⟩,
.op ⟨(some 11), (.pure (.mv (.tmp 1))), (some (9, true))⟩,
.op ⟨(some 12), (.eff (.call 53 [(.tmp 10), (.tmp 11)])), (some (9, true))⟩, o_p 13 (.pick (.tmp 9) (.tmp 12) (.const (.bool false))), o_m 14 13,
.split 14,
.op ⟨(some 15), (.pure (.mv (.tmp 2))), (some (14, true))⟩,
.op ⟨(some 16), (.pure (.fieldAddr 1 (.tmp 3))), (some (14, true))⟩,
.op ⟨(some 17), (.load none (.tmp 16)), (some (14, true))⟩,
.op ⟨(some 18), (.pure (.len (.tmp 17))), (some (14, true))⟩,
.op ⟨(some 19), (.pure (.bin .sub (.tmp 18) (.const (.int .i64 (1))))), (some (14, true))⟩,
.op ⟨(some 20), (.eff (.call 47 [(.tmp 15), (.const (.int .i64 (0))), (.tmp 19)])), (some (14, true))⟩, o_p 21 (.pick (.tmp 14) (.tmp 20) (.const (.bool false))), o_m 6 21])
(.ret)),
[.tmp 6]⟩
theorem r_spec_fgHas : resFun Try.prog f_spec_fgHas = some c_spec_fgHas := by kernel_rfl

/- loop.example/g00940/spec.fgTime -/
abbrev f_spec_fgTime : Nat := 46
def c_spec_fgTime : MFun := ⟨5, .seq (.ops [ o_p 2 (.mv (.const (.bool false)))])
(.seq (.ops [ o_m 3 0, o_e 4 (.call 47 [(.tmp 3), (.const (.int .i64 (0))), (.const (.int .i64 (10000)))]), o_m 2 4])
(.ret)),
[.tmp 2]⟩
theorem r_spec_fgTime : resFun Try.prog f_spec_fgTime = some c_spec_fgTime := by kernel_rfl

/- loop.example/g00940/spec.l1In -/
abbrev f_spec_l1In : Nat := 47
def c_spec_l1In : MFun := ⟨15, .seq (.ops [ o_p 6 (.mv (.const (.bool false)))])
(.seq (.ops [ o_m 7 0, o_m 8 1, o_p 9 (.bin .geq (.tmp 7) (.tmp 8)), o_m 10 9,
.split 10,
.op ⟨(some 11), (.pure (.mv (.tmp 0))), (some (10, true))⟩,
.op ⟨(some 12), (.pure (.mv (.tmp 2))), (some (10, true))⟩,
.op ⟨(some 13), (.pure (.bin .leq (.tmp 11) (.tmp 12))), (some (10, true))⟩, o_p 14 (.pick (.tmp 10) (.tmp 13) (.const (.bool false))), o_m 6 14])
(.ret)),
[.tmp 6]⟩
theorem r_spec_l1In : resFun Try.prog f_spec_l1In = some c_spec_l1In := by kernel_rfl

/- loop.example/g00940/spec.fgStart -/
abbrev f_spec_fgStart : Nat := 48
def c_spec_fgStart : MFun := ⟨39, .seq (.ops [ o_p 8 (.mv (.const (.int .i64 (0))))])
(.seq (.seq (.ops [ o_m 11 0, o_p 12 (.len (.tmp 11)), o_p 13 (.mv (.const (.int .i64 (0))))])
(.block 0 (.loop (.seq (.ops [ o_p 14 (.bin .lss (.tmp 13) (.tmp 12))])
(.seq (.cond (.tmp 14)
(.skip)
(.exit 0))
(.seq (.block 1 (.seq (.ops [ o_p 15 (.idx 3 (.tmp 11) (.tmp 13)),
.op ⟨(some 16), (.load (some 3) (.tmp 15)), none⟩, o_e 10 (.new 57 [(.int .i64 (0)), (.int .i64 (0)), (.int .i64 (0))]),
.op ⟨none, (.eff (.store 3 (.tmp 10) (.tmp 16))), none⟩])
(.seq (.ops [ o_p 17 (.fieldAddr 0 (.tmp 10)), o_l 18 17, o_m 19 1, o_p 20 (.bin .eql (.tmp 18) (.tmp 19)), o_m 21 20,
.split 21,
.op ⟨(some 22), (.pure (.mv (.tmp 2))), (some (21, true))⟩,
.op ⟨(some 23), (.pure (.fieldAddr 2 (.tmp 10))), (some (21, true))⟩,
.op ⟨(some 24), (.load none (.tmp 23)), (some (21, true))⟩,
.op ⟨(some 25), (.pure (.bin .lss (.tmp 22) (.tmp 24))), (some (21, true))⟩, o_p 26 (.pick (.tmp 21) (.tmp 25) (.const (.bool false))), o_m 27 26,
.split 27,
.op ⟨(some 28), (.pure (.mv (.tmp 2))), (some (27, true))⟩,
.op ⟨(some 29), (.pure (.mv (.tmp 3))), (some (27, true))⟩,
.op ⟨(some 30), (.pure (.bin .add (.tmp 28) (.tmp 29))), (some (27, true))⟩,
.op ⟨(some 31), (.pure (.fieldAddr 1 (.tmp 10))), (some (27, true))⟩,
.op ⟨(some 32), (.load none (.tmp 31)), (some (27, true))⟩,
.op ⟨(some 33), (.pure (.bin .gtr (.tmp 30) (.tmp 32))), (some (27, true))⟩, o_p 34 (.pick (.tmp 27) (.tmp 33) (.const (.bool false)))])
(.cond (.tmp 34)
(.ops [ o_p 35 (.fieldAddr 2 (.tmp 10)), o_l 36 35, o_m 2 36])
(.skip)))))
(.ops [ o_p 37 (.bin .add (.tmp 13) (.const (.int .i64 (1)))), o_m 13 37])))))))
(.seq (.ops [ o_m 38 2, o_m 8 38])
(.ret))),
[.tmp 8]⟩
theorem r_spec_fgStart : resFun Try.prog f_spec_fgStart = some c_spec_fgStart := by kernel_rfl

/- loop.example/g00940/impl.IsNet -/
abbrev f_impl_IsNet : Nat := 49
def c_impl_IsNet : MFun := ⟨90, .seq (.ops [ o_e 1 (.box 27 (.tmp 0)), o_p 2 (.mv (.const (.bool false)))])
(.seq (.seq (.ops [ o_p 7 (.fieldAddr 0 (.tmp 1)), o_l 8 7, o_p 9 (.len (.tmp 8)), o_e 10 (.call 43 [(.tmp 9), (.const (.int .i64 (1))), (.const (.int .i64 (16)))]), o_p 11 (.bnot (.tmp 10)), o_m 12 11,
.split 12,
.op ⟨(some 13), (.pure (.fieldAddr 1 (.tmp 1))), (some (12, false))⟩,
.op ⟨(some 14), (.load none (.tmp 13)), (some (12, false))⟩,
.op ⟨(some 15), (.pure (.len (.tmp 14))), (some (12, false))⟩,
.op ⟨(some 16), (.pure (.bin .gtr (.tmp 15) (.const (.int .i64 (40))))), (some (12, false))⟩, o_p 17 (.pick (.tmp 12) (.const (.bool true)) (.tmp 16))])
(.cond (.tmp 17)
(.seq (.ops [ o_p 2 (.mv (.const (.bool false)))])
(.ret))
(.skip)))
(.seq (.seq (.ops [ o_p 18 (.fieldAddr 0 (.tmp 1)), o_l 19 18, o_p 20 (.len (.tmp 19)), o_p 21 (.mv (.const (.int .i64 (0))))])
(.block 0 (.loop (.seq (.ops [ o_p 22 (.bin .lss (.tmp 21) (.tmp 20))])
(.seq (.cond (.tmp 22)
(.skip)
(.exit 0))
(.seq (.block 1 (.seq (.ops [ o_p 23 (.idx 3 (.tmp 19) (.tmp 21)),
.op ⟨(some 24), (.load (some 3) (.tmp 23)), none⟩, o_e 4 (.new 95 [(.int .i64 (0)), (.int .i64 (0)), (.int .i64 (0))]),
.op ⟨none, (.eff (.store 3 (.tmp 4) (.tmp 24))), none⟩])
(.seq (.ops [ o_p 25 (.fieldAddr 0 (.tmp 4)), o_l 26 25, o_e 27 (.call 43 [(.tmp 26), (.const (.int .i64 (0))), (.const (.int .i64 (999)))]), o_p 28 (.bnot (.tmp 27)), o_m 29 28,
.split 29,
.op ⟨(some 30), (.pure (.fieldAddr 1 (.tmp 4))), (some (29, false))⟩,
.op ⟨(some 31), (.load none (.tmp 30)), (some (29, false))⟩,
.op ⟨(some 32), (.eff (.call 43 [(.tmp 31), (.const (.int .i64 (0))), (.const (.int .i64 (999)))])), (some (29, false))⟩,
.op ⟨(some 33), (.pure (.bnot (.tmp 32))), (some (29, false))⟩, o_p 34 (.pick (.tmp 29) (.const (.bool true)) (.tmp 33)), o_m 35 34,
.split 35,
.op ⟨(some 36), (.pure (.fieldAddr 2 (.tmp 4))), (some (35, false))⟩,
.op ⟨(some 37), (.load none (.tmp 36)), (some (35, false))⟩,
.op ⟨(some 38), (.eff (.call 43 [(.tmp 37), (.const (.int .i64 (0))), (.const (.int .i64 (500)))])), (some (35, false))⟩,
.op ⟨(some 39), (.pure (.bnot (.tmp 38))), (some (35, false))⟩, o_p 40 (.pick (.tmp 35) (.const (.bool true)) (.tmp 39))])
(.cond (.tmp 40)
(.seq (.ops [ o_p 2 (.mv (.const (.bool false)))])
(.ret))
(.skip)))))
(.ops [ o_p 41 (.bin .add (.tmp 21) (.const (.int .i64 (1)))), o_m 21 41])))))))
(.seq (.seq (.ops [ o_p 42 (.fieldAddr 1 (.tmp 1)), o_l 43 42, o_p 44 (.len (.tmp 43)), o_p 45 (.mv (.const (.int .i64 (0))))])
(.block 2 (.loop (.seq (.ops [ o_p 46 (.bin .lss (.tmp 45) (.tmp 44))])
(.seq (.cond (.tmp 46)
(.skip)
(.exit 2))
(.seq (.block 3 (.seq (.ops [ o_m 47 45, o_p 48 (.idx 3 (.tmp 43) (.tmp 45)),
.op ⟨(some 49), (.load (some 3) (.tmp 48)), none⟩, o_e 6 (.new 81 [(.int .i64 (0)), (.int .i64 (0)), (.int .i64 (0))]), o_m 5 47,
.op ⟨none, (.eff (.store 3 (.tmp 6) (.tmp 49))), none⟩])
(.seq (.draw true
(.take (t_p 50 (.fieldAddr 0 (.tmp 6)))
(.only false (t_l 51 50)
(.take (t_p 52 (.bin .lss (.tmp 51) (.const (.int .i64 (0)))))
(.take (t_m 53 52)
(.split 53
(.take ⟨(some 54), (.pure (.fieldAddr 0 (.tmp 6))), (some (53, false))⟩
(.take ⟨(some 56), (.pure (.fieldAddr 1 (.tmp 6))), (some (53, false))⟩
(.only false ⟨(some 55), (.load none (.tmp 54)), (some (53, false))⟩
(.only false ⟨(some 57), (.load none (.tmp 56)), (some (53, false))⟩
(.take ⟨(some 58), (.pure (.bin .geq (.tmp 55) (.tmp 57))), (some (53, false))⟩
(.take (t_p 59 (.pick (.tmp 53) (.const (.bool true)) (.tmp 58)))
(.take (t_m 60 59)
(.split 60
(.take ⟨(some 61), (.pure (.fieldAddr 1 (.tmp 6))), (some (60, false))⟩
(.take ⟨(some 63), (.pure (.fieldAddr 0 (.tmp 1))), (some (60, false))⟩
(.only false ⟨(some 62), (.load none (.tmp 61)), (some (60, false))⟩
(.only false ⟨(some 64), (.load none (.tmp 63)), (some (60, false))⟩
(.take ⟨(some 65), (.pure (.len (.tmp 64))), (some (60, false))⟩
(.take ⟨(some 66), (.pure (.bin .geq (.tmp 62) (.tmp 65))), (some (60, false))⟩
(.take (t_p 67 (.pick (.tmp 60) (.const (.bool true)) (.tmp 66)))
(.take (t_m 68 67)
(.split 68
(.take ⟨(some 69), (.pure (.fieldAddr 2 (.tmp 6))), (some (68, false))⟩
(.only false ⟨(some 70), (.load none (.tmp 69)), (some (68, false))⟩
(.only false ⟨(some 71), (.eff (.call 43 [(.tmp 70), (.const (.int .i64 (1))), (.const (.int .i64 (60)))])), (some (68, false))⟩
(.take ⟨(some 72), (.pure (.bnot (.tmp 71))), (some (68, false))⟩
(.take (t_p 73 (.pick (.tmp 68) (.const (.bool true)) (.tmp 72)))
(.take (t_m 74 73)
(.split 74
(.take ⟨(some 75), (.pure (.mv (.tmp 5))), (some (74, false))⟩
(.take ⟨(some 76), (.pure (.bin .gtr (.tmp 75) (.const (.int .i64 (0))))), (some (74, false))⟩
(.take ⟨(some 77), (.pure (.mv (.tmp 76))), (some (74, false))⟩
(.split 77
(.take ⟨(some 78), (.pure (.fieldAddr 1 (.tmp 1))), (some (77, true))⟩
(.take ⟨(some 80), (.pure (.mv (.tmp 5))), (some (77, true))⟩
(.take ⟨(some 81), (.pure (.bin .sub (.tmp 80) (.const (.int .i64 (1))))), (some (77, true))⟩
(.take ⟨(some 79), (.load none (.tmp 78)), (some (77, true))⟩
(.take ⟨(some 82), (.pure (.idx 3 (.tmp 79) (.tmp 81))), (some (77, true))⟩
(.take ⟨(some 83), (.load (some 3) (.tmp 82)), (some (77, true))⟩
(.only false ⟨(some 84), (.load (some 3) (.tmp 6)), (some (77, true))⟩
(.only true ⟨(some 85), (.eff (.call 78 [(.tmp 83), (.tmp 84)])), (some (77, true))⟩
(.take ⟨(some 86), (.pure (.bin .geq (.tmp 85) (.const (.int .i64 (0))))), (some (77, true))⟩
(.take ⟨(some 87), (.pure (.pick (.tmp 77) (.tmp 86) (.const (.bool false)))), (some (74, false))⟩
(.take (t_p 88 (.pick (.tmp 74) (.const (.bool true)) (.tmp 87)))
(.done))))))))))))))))))))))))))))))))))))))))))))))
(.cond (.tmp 88)
(.seq (.ops [ o_p 2 (.mv (.const (.bool false)))])
(.ret))
(.skip)))))
(.ops [ o_p 89 (.bin .add (.tmp 45) (.const (.int .i64 (1)))), o_m 45 89])))))))
(.seq (.ops [ o_p 2 (.mv (.const (.bool true)))])
(.ret))))),
[.tmp 2]⟩
theorem r_impl_IsNet : resFun Try.prog f_impl_IsNet = some c_impl_IsNet := by kernel_rfl

/- loop.example/g00940/impl.areFogs -/
abbrev f_impl_areFogs : Nat := 50
def c_impl_areFogs : MFun := ⟨58, .seq (.ops [ o_e 2 (.box 27 (.tmp 0)), o_p 4 (.mv (.const (.bool false)))])
(.seq (.seq (.ops [ o_m 7 1, o_p 8 (.len (.tmp 7)), o_p 9 (.bin .gtr (.tmp 8) (.const (.int .i64 (60))))])
(.cond (.tmp 9)
(.seq (.ops [ o_p 4 (.mv (.const (.bool false)))])
(.ret))
(.skip)))
(.seq (.seq (.ops [ o_m 10 1, o_p 11 (.len (.tmp 10)), o_p 12 (.mv (.const (.int .i64 (0))))])
(.block 0 (.loop (.seq (.ops [ o_p 13 (.bin .lss (.tmp 12) (.tmp 11))])
(.seq (.cond (.tmp 13)
(.skip)
(.exit 0))
(.seq (.block 1 (.seq (.ops [ o_m 14 12, o_p 15 (.idx 3 (.tmp 10) (.tmp 12)),
.op ⟨(some 16), (.load (some 3) (.tmp 15)), none⟩, o_e 6 (.new 57 [(.int .i64 (0)), (.int .i64 (0)), (.int .i64 (0))]), o_m 5 14,
.op ⟨none, (.eff (.store 3 (.tmp 6) (.tmp 16))), none⟩])
(.seq (.draw true
(.only false ⟨(some 17), (.load (some 2) (.tmp 2)), none⟩
(.only false ⟨(some 18), (.load (some 3) (.tmp 6)), none⟩
(.only false (t_e 19 (.call 67 [(.tmp 17), (.tmp 18)]))
(.take (t_p 20 (.bnot (.tmp 19)))
(.take (t_m 21 20)
(.split 21
(.take ⟨(some 22), (.pure (.mv (.tmp 5))), (some (21, false))⟩
(.take ⟨(some 23), (.pure (.bin .gtr (.tmp 22) (.const (.int .i64 (0))))), (some (21, false))⟩
(.take ⟨(some 24), (.pure (.mv (.tmp 23))), (some (21, false))⟩
(.split 24
(.take ⟨(some 25), (.pure (.mv (.tmp 1))), (some (24, true))⟩
(.take ⟨(some 26), (.pure (.mv (.tmp 5))), (some (24, true))⟩
(.take ⟨(some 27), (.pure (.bin .sub (.tmp 26) (.const (.int .i64 (1))))), (some (24, true))⟩
(.take ⟨(some 28), (.pure (.idx 3 (.tmp 25) (.tmp 27))), (some (24, true))⟩
(.take ⟨(some 29), (.load (some 3) (.tmp 28)), (some (24, true))⟩
(.only false ⟨(some 30), (.load (some 3) (.tmp 6)), (some (24, true))⟩
(.only false ⟨(some 31), (.eff (.call 69 [(.tmp 29), (.tmp 30)])), (some (24, true))⟩
(.take ⟨(some 32), (.pure (.bin .geq (.tmp 31) (.const (.int .i64 (0))))), (some (24, true))⟩
(.take ⟨(some 33), (.pure (.mv (.tmp 32))), (some (24, true))⟩
(.split 33
(.take ⟨(some 34), (.pure (.mv (.tmp 1))), (some (33, false))⟩
(.take ⟨(some 35), (.pure (.mv (.tmp 5))), (some (33, false))⟩
(.take ⟨(some 36), (.pure (.bin .sub (.tmp 35) (.const (.int .i64 (1))))), (some (33, false))⟩
(.take ⟨(some 37), (.pure (.idx 3 (.tmp 34) (.tmp 36))), (some (33, false))⟩
(.take ⟨(some 38), (.pure (.fieldAddr 0 (.tmp 37))), (some (33, false))⟩
(.take ⟨(some 40), (.pure (.fieldAddr 0 (.tmp 6))), (some (33, false))⟩
(.take ⟨(some 39), (.load none (.tmp 38)), (some (33, false))⟩
(.only false ⟨(some 41), (.load none (.tmp 40)), (some (33, false))⟩
(.take ⟨(some 42), (.pure (.bin .eql (.tmp 39) (.tmp 41))), (some (33, false))⟩
(.take ⟨(some 43), (.pure (.mv (.tmp 42))), (some (33, false))⟩
(.split 43
(.take ⟨(some 44), (.pure (.mv (.tmp 1))), (some (43, true))⟩
(.take ⟨(some 45), (.pure (.mv (.tmp 5))), (some (43, true))⟩
(.take ⟨(some 46), (.pure (.bin .sub (.tmp 45) (.const (.int .i64 (1))))), (some (43, true))⟩
(.take ⟨(some 47), (.pure (.idx 3 (.tmp 44) (.tmp 46))), (some (43, true))⟩
(.take ⟨(some 48), (.pure (.fieldAddr 2 (.tmp 47))), (some (43, true))⟩
(.take ⟨(some 50), (.pure (.fieldAddr 1 (.tmp 6))), (some (43, true))⟩
(.take ⟨(some 49), (.load none (.tmp 48)), (some (43, true))⟩
(.only false ⟨(some 51), (.load none (.tmp 50)), (some (43, true))⟩
(.take ⟨(some 52), (.pure (.bin .geq (.tmp 49) (.tmp 51))), (some (43, true))⟩
(.take ⟨(some 53), (.pure (.pick (.tmp 43) (.tmp 52) (.const (.bool false)))), (some (33, false))⟩
(.take ⟨(some 54), (.pure (.pick (.tmp 33) (.const (.bool true)) (.tmp 53))), (some (24, true))⟩
(.take ⟨(some 55), (.pure (.pick (.tmp 24) (.tmp 54) (.const (.bool false)))), (some (21, false))⟩
(.take (t_p 56 (.pick (.tmp 21) (.const (.bool true)) (.tmp 55)))
(.done))))))))))))))))))))))))))))))))))))))))))))))
(.cond (.tmp 56)
(.seq (.ops [ o_p 4 (.mv (.const (.bool false)))])
(.ret))
(.skip)))))
(.ops [ o_p 57 (.bin .add (.tmp 12) (.const (.int .i64 (1)))), o_m 12 57])))))))
(.seq (.ops [ o_p 4 (.mv (.const (.bool true)))])
(.ret)))),
[.tmp 4]⟩
theorem r_impl_areFogs : resFun Try.prog f_impl_areFogs = some c_impl_areFogs := by kernel_rfl

/- loop.example/g00940/impl.isClear -/
abbrev f_impl_isClear : Nat := 51
def c_impl_isClear : MFun := ⟨11, .seq (.ops [ o_e 4 (.box 3 (.tmp 1)), o_e 5 (.box 3 (.tmp 2)), o_p 6 (.mv (.const (.bool false)))])
(.seq (.ops [ o_m 7 0, o_p 8 (.mkfn (.func 80) [] [(.tmp 4), (.tmp 5)]), o_e 9 (.call 79 [(.tmp 7), (.tmp 8)]), o_p 10 (.bnot (.tmp 9)), o_m 6 10])
(.ret)),
[.tmp 6]⟩
theorem r_impl_isClear : resFun Try.prog f_impl_isClear = some c_impl_isClear := by kernel_rfl

/- loop.example/g00940/spec.neGood -/
abbrev f_spec_neGood : Nat := 52
def c_spec_neGood : MFun := ⟨88, .seq (.ops [ o_e 1 (.box 27 (.tmp 0)), o_p 2 (.mv (.const (.bool false)))])
(.seq (.seq (.ops [ o_p 7 (.fieldAddr 0 (.tmp 1)), o_l 8 7, o_p 9 (.len (.tmp 8)), o_p 10 (.mv (.const (.int .i64 (0))))])
(.block 0 (.loop (.seq (.ops [ o_p 11 (.bin .lss (.tmp 10) (.tmp 9))])
(.seq (.cond (.tmp 11)
(.skip)
(.exit 0))
(.seq (.block 1 (.seq (.ops [ o_p 12 (.idx 3 (.tmp 8) (.tmp 10)),
.op ⟨(some 13), (.load (some 3) (.tmp 12)), none⟩, o_e 4 (.new 95 [(.int .i64 (0)), (.int .i64 (0)), (.int .i64 (0))]),
.op ⟨none, (.eff (.store 3 (.tmp 4) (.tmp 13))), none⟩])
(.seq (.ops [ o_p 14 (.fieldAddr 0 (.tmp 4)), o_l 15 14, o_e 16 (.call 47 [(.tmp 15), (.const (.int .i64 (0))), (.const (.int .i64 (999)))]), o_p 17 (.bnot (.tmp 16)), o_m 18 17,
.split 18,
.op ⟨(some 19), (.pure (.fieldAddr 1 (.tmp 4))), (some (18, false))⟩,
.op ⟨(some 20), (.load none (.tmp 19)), (some (18, false))⟩,
.op ⟨(some 21), (.eff (.call 47 [(.tmp 20), (.const (.int .i64 (0))), (.const (.int .i64 (999)))])), (some (18, false))⟩,
.op ⟨(some 22), (.pure (.bnot (.tmp 21))), (some (18, false))⟩, o_p 23 (.pick (.tmp 18) (.const (.bool true)) (.tmp 22)), o_m 24 23,
.split 24,
.op ⟨(some 25), (.pure (.fieldAddr 2 (.tmp 4))), (some (24, false))⟩,
.op ⟨(some 26), (.load none (.tmp 25)), (some (24, false))⟩,
.op ⟨(some 27), (.eff (.call 47 [(.tmp 26), (.const (.int .i64 (0))), (.const (.int .i64 (500)))])), (some (24, false))⟩,
.op ⟨(some 28), (.pure (.bnot (.tmp 27))), (some (24, false))⟩, o_p 29 (.pick (.tmp 24) (.const (.bool true)) (.tmp 28))])
(.cond (.tmp 29)
(.seq (.ops [ o_p 2 (.mv (.const (.bool false)))])
(.ret))
(.skip)))))
(.ops [ o_p 30 (.bin .add (.tmp 10) (.const (.int .i64 (1)))), o_m 10 30])))))))
(.seq (.seq (.ops [ o_p 31 (.fieldAddr 1 (.tmp 1)), o_l 32 31, o_p 33 (.len (.tmp 32)), o_p 34 (.mv (.const (.int .i64 (0))))])
(.block 2 (.loop (.seq (.ops [ o_p 35 (.bin .lss (.tmp 34) (.tmp 33))])
(.seq (.cond (.tmp 35)
(.skip)
(.exit 2))
(.seq (.block 3 (.seq (.ops [ o_m 36 34, o_p 37 (.idx 3 (.tmp 32) (.tmp 34)),
.op ⟨(some 38), (.load (some 3) (.tmp 37)), none⟩, o_e 6 (.new 81 [(.int .i64 (0)), (.int .i64 (0)), (.int .i64 (0))]), o_m 5 36,
.op ⟨none, (.eff (.store 3 (.tmp 6) (.tmp 38))), none⟩])
(.seq (.draw true
(.take (t_p 39 (.fieldAddr 0 (.tmp 6)))
(.take (t_p 41 (.fieldAddr 1 (.tmp 6)))
(.only false (t_l 40 39)
(.only false (t_l 42 41)
(.take (t_p 43 (.bin .sub (.tmp 42) (.const (.int .i64 (1)))))
(.only false (t_e 44 (.call 47 [(.tmp 40), (.const (.int .i64 (0))), (.tmp 43)]))
(.take (t_p 45 (.bnot (.tmp 44)))
(.take (t_m 46 45)
(.split 46
(.take ⟨(some 47), (.pure (.fieldAddr 1 (.tmp 6))), (some (46, false))⟩
(.take ⟨(some 49), (.pure (.fieldAddr 0 (.tmp 1))), (some (46, false))⟩
(.take ⟨(some 48), (.load none (.tmp 47)), (some (46, false))⟩
(.only false ⟨(some 50), (.load none (.tmp 49)), (some (46, false))⟩
(.take ⟨(some 51), (.pure (.len (.tmp 50))), (some (46, false))⟩
(.take ⟨(some 52), (.pure (.bin .sub (.tmp 51) (.const (.int .i64 (1))))), (some (46, false))⟩
(.only false ⟨(some 53), (.eff (.call 47 [(.tmp 48), (.const (.int .i64 (0))), (.tmp 52)])), (some (46, false))⟩
(.take ⟨(some 54), (.pure (.bnot (.tmp 53))), (some (46, false))⟩
(.take (t_p 55 (.pick (.tmp 46) (.const (.bool true)) (.tmp 54)))
(.take (t_m 56 55)
(.split 56
(.take ⟨(some 57), (.pure (.fieldAddr 2 (.tmp 6))), (some (56, false))⟩
(.only false ⟨(some 58), (.load none (.tmp 57)), (some (56, false))⟩
(.only false ⟨(some 59), (.eff (.call 47 [(.tmp 58), (.const (.int .i64 (1))), (.const (.int .i64 (60)))])), (some (56, false))⟩
(.take ⟨(some 60), (.pure (.bnot (.tmp 59))), (some (56, false))⟩
(.take (t_p 61 (.pick (.tmp 56) (.const (.bool true)) (.tmp 60)))
(.take (t_m 62 61)
(.split 62
(.take ⟨(some 63), (.pure (.mv (.tmp 5))), (some (62, false))⟩
(.take ⟨(some 64), (.pure (.bin .gtr (.tmp 63) (.const (.int .i64 (0))))), (some (62, false))⟩
(.take ⟨(some 65), (.pure (.mv (.tmp 64))), (some (62, false))⟩
(.split 65
(.take ⟨(some 66), (.pure (.fieldAddr 1 (.tmp 1))), (some (65, true))⟩
(.take ⟨(some 68), (.pure (.mv (.tmp 5))), (some (65, true))⟩
(.take ⟨(some 69), (.pure (.bin .sub (.tmp 68) (.const (.int .i64 (1))))), (some (65, true))⟩
(.take ⟨(some 67), (.load none (.tmp 66)), (some (65, true))⟩
(.take ⟨(some 70), (.pure (.idx 3 (.tmp 67) (.tmp 69))), (some (65, true))⟩
(.take ⟨(some 71), (.load (some 3) (.tmp 70)), (some (65, true))⟩
(.only false ⟨(some 72), (.load (some 3) (.tmp 6)), (some (65, true))⟩
(.only true ⟨(some 73), (.eff (.call 81 [(.tmp 71), (.tmp 72)])), (some (65, true))⟩
(.take ⟨(some 74), (.pure (.bnot (.tmp 73))), (some (65, true))⟩
(.take ⟨(some 75), (.pure (.pick (.tmp 65) (.tmp 74) (.const (.bool false)))), (some (62, false))⟩
(.take (t_p 76 (.pick (.tmp 62) (.const (.bool true)) (.tmp 75)))
(.done))))))))))))))))))))))))))))))))))))))))))))
(.cond (.tmp 76)
(.seq (.ops [ o_p 2 (.mv (.const (.bool false)))])
(.ret))
(.skip)))))
(.ops [ o_p 77 (.bin .add (.tmp 34) (.const (.int .i64 (1)))), o_m 34 77])))))))
(.seq (.ops [ o_p 78 (.fieldAddr 0 (.tmp 1)), o_l 79 78, o_p 80 (.len (.tmp 79)), o_e 81 (.call 47 [(.tmp 80), (.const (.int .i64 (1))), (.const (.int .i64 (16)))]), o_m 82 81,
.split 82,
.op ⟨(some 83), (.pure (.fieldAddr 1 (.tmp 1))), (some (82, true))⟩,
.op ⟨(some 84), (.load none (.tmp 83)), (some (82, true))⟩,
.op ⟨(some 85), (.pure (.len (.tmp 84))), (some (82, true))⟩,
.op ⟨(some 86), (.pure (.bin .leq (.tmp 85) (.const (.int .i64 (40))))), (some (82, true))⟩, o_p 87 (.pick (.tmp 82) (.tmp 86) (.const (.bool false))), o_m 2 87])
(.ret)))),
[.tmp 2]⟩
theorem r_spec_neGood : resFun Try.prog f_spec_neGood = some c_spec_neGood := by kernel_rfl

/- loop.example/g00940/spec.fgGood -/
abbrev f_spec_fgGood : Nat := 53
def c_spec_fgGood : MFun := ⟨57, .seq (.ops [ o_e 2 (.box 27 (.tmp 0)), o_p 4 (.mv (.const (.bool false)))])
(.seq (.seq (.ops [ o_m 7 1, o_p 8 (.len (.tmp 7)), o_p 9 (.mv (.const (.int .i64 (0))))])
(.block 0 (.loop (.seq (.ops [ o_p 10 (.bin .lss (.tmp 9) (.tmp 8))])
(.seq (.cond (.tmp 10)
(.skip)
(.exit 0))
(.seq (.block 1 (.seq (.ops [ o_m 11 9, o_p 12 (.idx 3 (.tmp 7) (.tmp 9)),
.op ⟨(some 13), (.load (some 3) (.tmp 12)), none⟩, o_e 6 (.new 57 [(.int .i64 (0)), (.int .i64 (0)), (.int .i64 (0))]), o_m 5 11,
.op ⟨none, (.eff (.store 3 (.tmp 6) (.tmp 13))), none⟩])
(.seq (.seq (.ops [
.op ⟨(some 14), (.load (some 2) (.tmp 2)), none⟩,
.op ⟨(some 15), (.load (some 3) (.tmp 6)), none⟩, o_e 16 (.call 70 [(.tmp 14), (.tmp 15)]), o_p 17 (.bnot (.tmp 16))])
(.cond (.tmp 17)
(.seq (.ops [ o_p 4 (.mv (.const (.bool false)))])
(.ret))
(.skip)))
(.seq (.ops [ o_m 18 5, o_p 19 (.bin .gtr (.tmp 18) (.const (.int .i64 (0)))), o_m 20 19,
.split 20,
.op ⟨(some 21), (.pure (.mv (.tmp 1))), (some (20, true))⟩,
.op ⟨(some 22), (.pure (.mv (.tmp 5))), (some (20, true))⟩,
.op ⟨(some 23), (.pure (.bin .sub (.tmp 22) (.const (.int .i64 (1))))), (some (20, true))⟩,
.op ⟨(some 24), (.pure (.idx 3 (.tmp 21) (.tmp 23))), (some (20, true))⟩,
.op ⟨(some 25), (.pure (.fieldAddr 0 (.tmp 24))), (some (20, true))⟩,
.op ⟨(some 27), (.pure (.fieldAddr 0 (.tmp 6))), (some (20, true))⟩,
.op ⟨(some 26), (.load none (.tmp 25)), (some (20, true))⟩,
.op ⟨(some 28), (.load none (.tmp 27)), (some (20, true))⟩,
.op ⟨(some 29), (.pure (.bin .gtr (.tmp 26) (.tmp 28))), (some (20, true))⟩,
.op ⟨(some 30), (.pure (.mv (.tmp 29))), (some (20, true))⟩,
.split 30,
.op ⟨(some 31), (.pure (.mv (.tmp 1))), (some (30, false))⟩,
.op ⟨(some 32), (.pure (.mv (.tmp 5))), (some (30, false))⟩,
.op ⟨(some 33), (.pure (.bin .sub (.tmp 32) (.const (.int .i64 (1))))), (some (30, false))⟩,
.op ⟨(some 34), (.pure (.idx 3 (.tmp 31) (.tmp 33))), (some (30, false))⟩,
.op ⟨(some 35), (.pure (.fieldAddr 0 (.tmp 34))), (some (30, false))⟩,
.op ⟨(some 37), (.pure (.fieldAddr 0 (.tmp 6))), (some (30, false))⟩,
.op ⟨(some 36), (.load none (.tmp 35)), (some (30, false))⟩,
.op ⟨(some 38), (.load none (.tmp 37)), (some (30, false))⟩,
.op ⟨(some 39), (.pure (.bin .eql (.tmp 36) (.tmp 38))), (some (30, false))⟩,
.op ⟨(some 40), (.pure (.mv (.tmp 39))), (some (30, false))⟩,
.split 40,
.op ⟨(some 41), (.pure (.mv (.tmp 1))), (some (40, true))⟩,
.op ⟨(some 42), (.pure (.mv (.tmp 5))), (some (40, true))⟩,
.op ⟨(some 43), (.pure (.bin .sub (.tmp 42) (.const (.int .i64 (1))))), (some (40, true))⟩,
.op ⟨(some 44), (.pure (.idx 3 (.tmp 41) (.tmp 43))), (some (40, true))⟩,
.op ⟨(some 45), (.pure (.fieldAddr 2 (.tmp 44))), (some (40, true))⟩,
.op ⟨(some 47), (.pure (.fieldAddr 1 (.tmp 6))), (some (40, true))⟩,
.op ⟨(some 46), (.load none (.tmp 45)), (some (40, true))⟩,
.op ⟨(some 48), (.load none (.tmp 47)), (some (40, true))⟩,
.op ⟨(some 49), (.pure (.bin .geq (.tmp 46) (.tmp 48))), (some (40, true))⟩,
.op ⟨(some 50), (.pure (.pick (.tmp 40) (.tmp 49) (.const (.bool false)))), (some (30, false))⟩,
.op ⟨(some 51), (.pure (.pick (.tmp 30) (.const (.bool true)) (.tmp 50))), (some (20, true))⟩, o_p 52 (.pick (.tmp 20) (.tmp 51) (.const (.bool false)))])
(.cond (.tmp 52)
(.seq (.ops [ o_p 4 (.mv (.const (.bool false)))])
(.ret))
(.skip))))))
(.ops [ o_p 53 (.bin .add (.tmp 9) (.const (.int .i64 (1)))), o_m 9 53])))))))
(.seq (.ops [ o_m 54 1, o_p 55 (.len (.tmp 54)), o_p 56 (.bin .leq (.tmp 55) (.const (.int .i64 (60)))), o_m 4 56])
(.ret))),
[.tmp 4]⟩
theorem r_spec_fgGood : resFun Try.prog f_spec_fgGood = some c_spec_fgGood := by kernel_rfl

/- loop.example/g00940/spec.fgClear -/
abbrev f_spec_fgClear : Nat := 54
def c_spec_fgClear : MFun := ⟨29, .seq (.ops [ o_p 6 (.mv (.const (.bool false)))])
(.seq (.seq (.ops [ o_m 9 0, o_p 10 (.len (.tmp 9)), o_p 11 (.mv (.const (.int .i64 (0))))])
(.block 0 (.loop (.seq (.ops [ o_p 12 (.bin .lss (.tmp 11) (.tmp 10))])
(.seq (.cond (.tmp 12)
(.skip)
(.exit 0))
(.seq (.block 1 (.seq (.ops [ o_p 13 (.idx 3 (.tmp 9) (.tmp 11)),
.op ⟨(some 14), (.load (some 3) (.tmp 13)), none⟩, o_e 8 (.new 57 [(.int .i64 (0)), (.int .i64 (0)), (.int .i64 (0))]),
.op ⟨none, (.eff (.store 3 (.tmp 8) (.tmp 14))), none⟩])
(.seq (.ops [ o_p 15 (.fieldAddr 0 (.tmp 8)), o_l 16 15, o_m 17 1, o_p 18 (.bin .eql (.tmp 16) (.tmp 17)), o_m 19 18,
.split 19,
.op ⟨(some 20), (.pure (.mv (.tmp 2))), (some (19, true))⟩,
.op ⟨(some 21), (.pure (.fieldAddr 1 (.tmp 8))), (some (19, true))⟩,
.op ⟨(some 22), (.load none (.tmp 21)), (some (19, true))⟩,
.op ⟨(some 23), (.pure (.fieldAddr 2 (.tmp 8))), (some (19, true))⟩,
.op ⟨(some 24), (.load none (.tmp 23)), (some (19, true))⟩,
.op ⟨(some 25), (.pure (.bin .sub (.tmp 24) (.const (.int .i64 (1))))), (some (19, true))⟩,
.op ⟨(some 26), (.eff (.call 47 [(.tmp 20), (.tmp 22), (.tmp 25)])), (some (19, true))⟩, o_p 27 (.pick (.tmp 19) (.tmp 26) (.const (.bool false)))])
(.cond (.tmp 27)
(.seq (.ops [ o_p 6 (.mv (.const (.bool false)))])
(.ret))
(.skip)))))
(.ops [ o_p 28 (.bin .add (.tmp 11) (.const (.int .i64 (1)))), o_m 11 28])))))))
(.seq (.ops [ o_p 6 (.mv (.const (.bool true)))])
(.ret))),
[.tmp 6]⟩
theorem r_spec_fgClear : resFun Try.prog f_spec_fgClear = some c_spec_fgClear := by kernel_rfl

/- loop.example/g00940/impl.reachBy -/
abbrev f_impl_reachBy : Nat := 55
def c_impl_reachBy : MFun := ⟨69, .seq (.ops [ o_e 3 (.box 27 (.tmp 0)), o_p 6 (.mv (.const (.slice none 0 0)))])
(.seq (.ops [ o_p 14 (.fieldAddr 0 (.tmp 3)), o_l 15 14, o_p 16 (.len (.tmp 15)), o_e 17 (.mk 4 1 1 [(.bool false)] (.tmp 16) (.tmp 16)), o_m 7 17])
(.seq (.ops [ o_m 18 7, o_m 19 1, o_p 20 (.idx 1 (.tmp 18) (.tmp 19)),
.op ⟨none, (.eff (.store 1 (.tmp 20) (.const (.bool true)))), none⟩])
(.seq (.seq (.ops [ o_p 8 (.mv (.const (.bool true)))])
(.block 0 (.loop (.seq (.seq (.ops [ o_m 21 8])
(.cond (.tmp 21)
(.skip)
(.exit 0)))
(.block 1 (.seq (.ops [ o_p 8 (.mv (.const (.bool false)))])
(.seq (.ops [ o_p 22 (.fieldAddr 1 (.tmp 3)), o_l 23 22, o_p 24 (.len (.tmp 23)), o_p 25 (.mv (.const (.int .i64 (0))))])
(.block 2 (.loop (.seq (.ops [ o_p 26 (.bin .lss (.tmp 25) (.tmp 24))])
(.seq (.cond (.tmp 26)
(.skip)
(.exit 2))
(.seq (.block 3 (.seq (.ops [ o_m 27 25, o_p 28 (.idx 3 (.tmp 23) (.tmp 25)),
.op ⟨(some 29), (.load (some 3) (.tmp 28)), none⟩, o_e 10 (.new 81 [(.int .i64 (0)), (.int .i64 (0)), (.int .i64 (0))]), o_m 9 27,
.op ⟨none, (.eff (.store 3 (.tmp 10) (.tmp 29))), none⟩])
(.seq (.draw false
(.take (t_m 30 7)
(.take (t_p 31 (.fieldAddr 0 (.tmp 10)))
(.take (t_m 35 7)
(.take (t_p 36 (.fieldAddr 1 (.tmp 10)))
(.only false (t_l 32 31)
(.take (t_p 33 (.idx 1 (.tmp 30) (.tmp 32)))
(.only false (t_l 34 33)
(.only false (t_l 37 36)
(.take (t_p 38 (.idx 1 (.tmp 35) (.tmp 37)))
(.only false (t_l 39 38)
(.take (t_p 40 (.eqb true (.tmp 34) (.tmp 39)))
(.take (t_m 41 40)
(.split 41
(.take ⟨(some 42), (.pure (.mv (.tmp 2))), (some (41, true))⟩
(.take ⟨(some 43), (.pure (.mv (.tmp 9))), (some (41, true))⟩
(.only true ⟨(some 44), (.eff (.callv (.tmp 42) [(.tmp 43)])), (some (41, true))⟩
(.take (t_p 45 (.pick (.tmp 41) (.tmp 44) (.const (.bool false))))
(.done)))))))))))))))))))
(.cond (.tmp 45)
(.draw true
(.take (t_m 46 7)
(.take (t_p 47 (.fieldAddr 0 (.tmp 10)))
(.take (t_m 49 7)
(.take (t_p 50 (.fieldAddr 1 (.tmp 10)))
(.only false (t_l 48 47)
(.take (t_p 52 (.idx 1 (.tmp 46) (.tmp 48)))
(.take (t_l 51 50)
(.only false ⟨none, (.eff (.store 1 (.tmp 52) (.const (.bool true)))), none⟩
(.take (t_p 53 (.idx 1 (.tmp 49) (.tmp 51)))
(.only true ⟨none, (.eff (.store 1 (.tmp 53) (.const (.bool true)))), none⟩
(.take (t_p 8 (.mv (.const (.bool true))))
(.done)))))))))))))
(.skip)))))
(.ops [ o_p 54 (.bin .add (.tmp 25) (.const (.int .i64 (1)))), o_m 25 54])))))))))))))
(.seq (.ops [ o_p 11 (.mv (.const (.slice none 0 0)))])
(.seq (.seq (.ops [ o_m 55 7, o_p 56 (.len (.tmp 55)), o_p 57 (.mv (.const (.int .i64 (0))))])
(.block 4 (.loop (.seq (.ops [ o_p 58 (.bin .lss (.tmp 57) (.tmp 56))])
(.seq (.cond (.tmp 58)
(.skip)
(.exit 4))
(.seq (.block 5 (.seq (.ops [ o_m 59 57, o_p 60 (.idx 1 (.tmp 55) (.tmp 57)), o_l 61 60, o_m 12 59, o_m 13 61])
(.seq (.ops [ o_m 62 13])
(.cond (.tmp 62)
(.ops [ o_m 63 11, o_m 64 12, o_e 65 (.row 3 1 [(.int .i64 (0))] [(0, 1, (.tmp 64))]), o_e 66 (.app 3 1 8 (.tmp 63) (.tmp 65)), o_m 11 66])
(.skip)))))
(.ops [ o_p 67 (.bin .add (.tmp 57) (.const (.int .i64 (1)))), o_m 57 67])))))))
(.seq (.ops [ o_m 68 11, o_m 6 68])
(.ret))))))),
[.tmp 6]⟩
theorem r_impl_reachBy : resFun Try.prog f_impl_reachBy = some c_impl_reachBy := by kernel_rfl

/- loop.example/g00940/impl.JoinedAt$1 -/
abbrev f_impl_JoinedAt_1 : Nat := 56
def c_impl_JoinedAt_1 : MFun := ⟨9, .seq (.ops [ o_p 4 (.mv (.const (.bool false)))])
(.seq (.ops [ o_l 5 1, o_m 6 0, o_l 7 2, o_e 8 (.call 51 [(.tmp 5), (.tmp 6), (.tmp 7)]), o_m 4 8])
(.ret)),
[.tmp 4]⟩
theorem r_impl_JoinedAt_1 : resFun Try.prog f_impl_JoinedAt_1 = some c_impl_JoinedAt_1 := by kernel_rfl

/- loop.example/g00940/spec.neReach -/
abbrev f_spec_neReach : Nat := 57
def c_spec_neReach : MFun := ⟨51, .seq (.ops [ o_e 2 (.box 27 (.tmp 0)), o_p 4 (.mv (.const (.slice none 0 0)))])
(.seq (.ops [ o_m 12 1, o_e 13 (.row 3 1 [(.int .i64 (0))] [(0, 1, (.tmp 12))]), o_m 5 13])
(.seq (.seq (.ops [ o_p 6 (.mv (.const (.int .i64 (0))))])
(.block 0 (.loop (.seq (.seq (.ops [ o_m 14 6, o_m 15 5, o_p 16 (.len (.tmp 15)), o_p 17 (.bin .lss (.tmp 14) (.tmp 16))])
(.cond (.tmp 17)
(.skip)
(.exit 0)))
(.seq (.block 1 (.seq (.draw false
(.take (t_m 21 5)
(.take (t_m 22 6)
(.take (t_p 23 (.idx 1 (.tmp 21) (.tmp 22)))
(.take (t_p 27 (.mv (.const (.int .i64 (0)))))
(.only false ⟨(some 20), (.load (some 2) (.tmp 2)), none⟩
(.only false (t_l 24 23)
(.only true (t_e 25 (.call 82 [(.tmp 20), (.tmp 24)]))
(.take (t_p 26 (.len (.tmp 25)))
(.done))))))))))
(.block 2 (.loop (.seq (.ops [ o_p 28 (.bin .lss (.tmp 27) (.tmp 26))])
(.seq (.cond (.tmp 28)
(.skip)
(.exit 2))
(.seq (.block 3 (.seq (.ops [ o_p 29 (.idx 1 (.tmp 25) (.tmp 27)), o_l 30 29, o_m 8 30])
(.seq (.ops [ o_m 31 5, o_m 32 8, o_e 33 (.call 83 [(.tmp 31), (.tmp 32)]), o_p 34 (.bnot (.tmp 33))])
(.cond (.tmp 34)
(.ops [ o_m 35 5, o_m 36 8, o_e 37 (.row 3 1 [(.int .i64 (0))] [(0, 1, (.tmp 36))]), o_e 38 (.app 3 1 8 (.tmp 35) (.tmp 37)), o_m 5 38])
(.skip)))))
(.ops [ o_p 39 (.bin .add (.tmp 27) (.const (.int .i64 (1)))), o_m 27 39]))))))))
(.ops [ o_m 18 6, o_p 19 (.bin .add (.tmp 18) (.const (.int .i64 (1)))), o_m 6 19]))))))
(.seq (.ops [ o_p 9 (.mv (.const (.slice none 0 0)))])
(.seq (.seq (.ops [ o_m 40 5, o_p 41 (.len (.tmp 40)), o_p 42 (.mv (.const (.int .i64 (0))))])
(.block 4 (.loop (.seq (.ops [ o_p 43 (.bin .lss (.tmp 42) (.tmp 41))])
(.seq (.cond (.tmp 43)
(.skip)
(.exit 4))
(.seq (.block 5 (.seq (.ops [ o_p 44 (.idx 1 (.tmp 40) (.tmp 42)), o_l 45 44, o_m 11 45])
(.ops [ o_m 46 9, o_m 47 11, o_e 48 (.call 84 [(.tmp 46), (.tmp 47)]), o_m 9 48])))
(.ops [ o_p 49 (.bin .add (.tmp 42) (.const (.int .i64 (1)))), o_m 42 49])))))))
(.seq (.ops [ o_m 50 9, o_m 4 50])
(.ret)))))),
[.tmp 4]⟩
theorem r_spec_neReach : resFun Try.prog f_spec_neReach = some c_spec_neReach := by kernel_rfl

/- loop.example/g00940/impl.IsJoined$1 -/
abbrev f_impl_IsJoined_1 : Nat := 58
def c_impl_IsJoined_1 : MFun := ⟨3, .seq (.ops [ o_p 2 (.mv (.const (.bool false)))])
(.seq (.ops [ o_p 2 (.mv (.const (.bool true)))])
(.ret)),
[.tmp 2]⟩
theorem r_impl_IsJoined_1 : resFun Try.prog f_impl_IsJoined_1 = some c_impl_IsJoined_1 := by kernel_rfl

/- slices.Max[[]int,int] -/
abbrev f_slices_Max_Lint_int : Nat := 59
def c_slices_Max_Lint_int : MFun := ⟨25, .seq (.ops [ o_p 2 (.mv (.const (.int .i64 (0))))])
(.seq (.seq (.ops [ o_m 5 0, o_p 6 (.len (.tmp 5)), o_p 7 (.bin .lss (.tmp 6) (.const (.int .i64 (1))))])
(.cond (.tmp 7)
(.ops [ o_e 8 (.fail),
.op ⟨none, (.eff (.fail)), none⟩])
(.skip)))
(.seq (.ops [ o_m 9 0, o_p 10 (.idx 1 (.tmp 9) (.const (.int .i64 (0)))), o_l 11 10, o_m 3 11])
(.seq (.seq (.ops [ o_p 4 (.mv (.const (.int .i64 (1))))])
(.block 0 (.loop (.seq (.seq (.ops [ o_m 12 4, o_m 13 0, o_p 14 (.len (.tmp 13)), o_p 15 (.bin .lss (.tmp 12) (.tmp 14))])
(.cond (.tmp 15)
(.skip)
(.exit 0)))
(.seq (.block 1 (.ops [ o_m 18 3, o_m 19 0, o_m 20 4, o_p 21 (.idx 1 (.tmp 19) (.tmp 20)), o_l 22 21, o_p 23 (.max2 (.tmp 18) (.tmp 22)), o_m 3 23]))
(.ops [ o_m 16 4, o_p 17 (.bin .add (.tmp 16) (.const (.int .i64 (1)))), o_m 4 17]))))))
(.seq (.ops [ o_m 24 3, o_m 2 24])
(.ret))))),
[.tmp 2]⟩
theorem r_slices_Max_Lint_int : resFun Try.prog f_slices_Max_Lint_int = some c_slices_Max_Lint_int := by kernel_rfl

/- slices.Index[[]int,int] -/
abbrev f_slices_Index_Lint_int : Nat := 60
def c_slices_Index_Lint_int : MFun := ⟨19, .seq (.ops [ o_p 4 (.mv (.const (.int .i64 (0))))])
(.seq (.seq (.ops [ o_m 6 0, o_p 7 (.len (.tmp 6)), o_p 8 (.mv (.const (.int .i64 (0))))])
(.block 0 (.loop (.seq (.ops [ o_p 9 (.bin .lss (.tmp 8) (.tmp 7))])
(.seq (.cond (.tmp 9)
(.skip)
(.exit 0))
(.seq (.block 1 (.seq (.ops [ o_m 10 8, o_m 5 10])
(.seq (.ops [ o_m 11 1, o_m 12 0, o_m 13 5, o_p 14 (.idx 1 (.tmp 12) (.tmp 13)), o_l 15 14, o_p 16 (.bin .eql (.tmp 11) (.tmp 15))])
(.cond (.tmp 16)
(.seq (.ops [ o_m 17 5, o_m 4 17])
(.ret))
(.skip)))))
(.ops [ o_p 18 (.bin .add (.tmp 8) (.const (.int .i64 (1)))), o_m 8 18])))))))
(.seq (.ops [ o_p 4 (.mv (.const (.int .i64 (-1))))])
(.ret))),
[.tmp 4]⟩
theorem r_slices_Index_Lint_int : resFun Try.prog f_slices_Index_Lint_int = some c_slices_Index_Lint_int := by kernel_rfl

/- loop.example/g00940/spec.fgSeconds -/
abbrev f_spec_fgSeconds : Nat := 61
def c_spec_fgSeconds : MFun := ⟨36, .seq (.ops [ o_p 8 (.mv (.const (.int .i64 (0))))])
(.seq (.ops [ o_p 9 (.mv (.const (.int .i64 (0))))])
(.seq (.seq (.ops [ o_m 12 0, o_p 13 (.len (.tmp 12)), o_p 14 (.mv (.const (.int .i64 (0))))])
(.block 0 (.loop (.seq (.ops [ o_p 15 (.bin .lss (.tmp 14) (.tmp 13))])
(.seq (.cond (.tmp 15)
(.skip)
(.exit 0))
(.seq (.block 1 (.seq (.ops [ o_p 16 (.idx 3 (.tmp 12) (.tmp 14)),
.op ⟨(some 17), (.load (some 3) (.tmp 16)), none⟩, o_e 11 (.new 57 [(.int .i64 (0)), (.int .i64 (0)), (.int .i64 (0))]),
.op ⟨none, (.eff (.store 3 (.tmp 11) (.tmp 17))), none⟩])
(.seq (.ops [ o_p 18 (.fieldAddr 0 (.tmp 11)), o_l 19 18, o_m 20 1, o_p 21 (.bin .eql (.tmp 19) (.tmp 20))])
(.cond (.tmp 21)
(.draw true
(.take (t_m 22 9)
(.take (t_p 23 (.fieldAddr 2 (.tmp 11)))
(.take (t_m 25 3)
(.take (t_p 27 (.fieldAddr 1 (.tmp 11)))
(.take (t_m 29 2)
(.only false (t_l 24 23)
(.take (t_l 28 27)
(.only false (t_e 26 (.call 64 [(.tmp 24), (.tmp 25)]))
(.only true (t_e 30 (.call 85 [(.tmp 28), (.tmp 29)]))
(.take (t_p 31 (.bin .sub (.tmp 26) (.tmp 30)))
(.only true (t_e 32 (.call 85 [(.const (.int .i64 (0))), (.tmp 31)]))
(.take (t_p 33 (.bin .add (.tmp 22) (.tmp 32)))
(.take (t_m 9 33)
(.done)))))))))))))))
(.skip)))))
(.ops [ o_p 34 (.bin .add (.tmp 14) (.const (.int .i64 (1)))), o_m 14 34])))))))
(.seq (.ops [ o_m 35 9, o_m 8 35])
(.ret)))),
[.tmp 8]⟩
theorem r_spec_fgSeconds : resFun Try.prog f_spec_fgSeconds = some c_spec_fgSeconds := by kernel_rfl

/- loop.example/g00940/spec.DrawFogSeconds -/
/- loop.example/g00940/spec.fgSpan -/
/- loop.example/g00940/spec.l1Least -/
abbrev f_spec_l1Least : Nat := 64
def c_spec_l1Least : MFun := ⟨10, .seq (.ops [ o_p 4 (.mv (.const (.int .i64 (0))))])
(.seq (.seq (.ops [ o_m 5 0, o_m 6 1, o_p 7 (.bin .lss (.tmp 5) (.tmp 6))])
(.cond (.tmp 7)
(.seq (.ops [ o_m 8 0, o_m 4 8])
(.ret))
(.skip)))
(.seq (.ops [ o_m 9 1, o_m 4 9])
(.ret))),
[.tmp 4]⟩
theorem r_spec_l1Least : resFun Try.prog f_spec_l1Least = some c_spec_l1Least := by kernel_rfl

/- loop.example/g00940/spec.DrawIsClear -/
/- loop.example/g00940/spec.fgNext -/
/- loop.example/g00940/impl.isFog -/
abbrev f_impl_isFog : Nat := 67
def c_impl_isFog : MFun := ⟨29, .seq (.ops [ o_e 2 (.box 27 (.tmp 0)), o_e 3 (.box 57 (.tmp 1)), o_p 4 (.mv (.const (.bool false)))])
(.seq (.ops [ o_p 5 (.fieldAddr 0 (.tmp 3)), o_l 6 5, o_p 7 (.fieldAddr 1 (.tmp 2)), o_l 8 7, o_p 9 (.len (.tmp 8)), o_p 10 (.bin .sub (.tmp 9) (.const (.int .i64 (1)))), o_e 11 (.call 43 [(.tmp 6), (.const (.int .i64 (0))), (.tmp 10)]), o_m 12 11,
.split 12,
.op ⟨(some 13), (.pure (.fieldAddr 1 (.tmp 3))), (some (12, true))⟩,
.op ⟨(some 14), (.load none (.tmp 13)), (some (12, true))⟩,
.op ⟨(some 15), (.pure (.bin .geq (.tmp 14) (.const (.int .i64 (0))))), (some (12, true))⟩, o_p 16 (.pick (.tmp 12) (.tmp 15) (.const (.bool false))), o_m 17 16,
.split 17,
.op ⟨(some 18), (.pure (.fieldAddr 1 (.tmp 3))), (some (17, true))⟩,
.op ⟨(some 19), (.load none (.tmp 18)), (some (17, true))⟩,
.op ⟨(some 20), (.pure (.fieldAddr 2 (.tmp 3))), (some (17, true))⟩,
.op ⟨(some 21), (.load none (.tmp 20)), (some (17, true))⟩,
.op ⟨(some 22), (.pure (.bin .lss (.tmp 19) (.tmp 21))), (some (17, true))⟩, o_p 23 (.pick (.tmp 17) (.tmp 22) (.const (.bool false))), o_m 24 23,
.split 24,
.op ⟨(some 25), (.pure (.fieldAddr 2 (.tmp 3))), (some (24, true))⟩,
.op ⟨(some 26), (.load none (.tmp 25)), (some (24, true))⟩,
.op ⟨(some 27), (.pure (.bin .leq (.tmp 26) (.const (.int .i64 (10000))))), (some (24, true))⟩, o_p 28 (.pick (.tmp 24) (.tmp 27) (.const (.bool false))), o_m 4 28])
(.ret)),
[.tmp 4]⟩
theorem r_impl_isFog : resFun Try.prog f_impl_isFog = some c_impl_isFog := by kernel_rfl
end Go.Proofs.Ytloicopmcagikaa

