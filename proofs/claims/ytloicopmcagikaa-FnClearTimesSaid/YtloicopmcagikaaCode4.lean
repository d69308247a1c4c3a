/- The code of this seat's functions, resolved, written by a program of mine; each is held against the given program by the kernel. Condition: none. -/
import Derived.Test.YtloicopmcagikaaProg
import Derived.Test.YtloicopmcagikaaBase9
import Derived.KernelRfl
namespace Go.Proofs.Ytloicopmcagikaa
open Go.Vc

/- loop.example/g00940/spec.l1Most -/
abbrev f_spec_l1Most : Nat := 85
def c_spec_l1Most : MFun := ⟨10, .seq (.ops [ o_p 4 (.mv (.const (.int .i64 (0))))])
(.seq (.seq (.ops [ o_m 5 0, o_m 6 1, o_p 7 (.bin .gtr (.tmp 5) (.tmp 6))])
(.cond (.tmp 7)
(.seq (.ops [ o_m 8 0, o_m 4 8])
(.ret))
(.skip)))
(.seq (.ops [ o_m 9 1, o_m 4 9])
(.ret))),
[.tmp 4]⟩
theorem r_spec_l1Most : resFun Try.prog f_spec_l1Most = some c_spec_l1Most := by kernel_rfl

/- slices.pdqsortCmpFunc[loop.example/g00940/impl.Fog] -/
/- math/bits.Len -/
/- cmp.Or[int] -/
abbrev f_cmp_Or_int : Nat := 88
def c_cmp_Or_int : MFun := ⟨18, .seq (.ops [ o_p 2 (.mv (.const (.int .i64 (0))))])
(.seq (.ops [ o_p 3 (.mv (.const (.int .i64 (0))))])
(.seq (.seq (.ops [ o_m 6 0, o_p 7 (.len (.tmp 6)), o_p 8 (.mv (.const (.int .i64 (0))))])
(.block 0 (.loop (.seq (.ops [ o_p 9 (.bin .lss (.tmp 8) (.tmp 7))])
(.seq (.cond (.tmp 9)
(.skip)
(.exit 0))
(.seq (.block 1 (.seq (.ops [ o_p 10 (.idx 1 (.tmp 6) (.tmp 8)), o_l 11 10, o_m 5 11])
(.seq (.ops [ o_m 12 5, o_m 13 3, o_p 14 (.bin .neq (.tmp 12) (.tmp 13))])
(.cond (.tmp 14)
(.seq (.ops [ o_m 15 5, o_m 2 15])
(.ret))
(.skip)))))
(.ops [ o_p 16 (.bin .add (.tmp 8) (.const (.int .i64 (1)))), o_m 8 16])))))))
(.seq (.ops [ o_m 17 3, o_m 2 17])
(.ret)))),
[.tmp 2]⟩
theorem r_cmp_Or_int : resFun Try.prog f_cmp_Or_int = some c_cmp_Or_int := by kernel_rfl

/- cmp.Compare[int] -/
abbrev f_cmp_Compare_int : Nat := 89
def c_cmp_Compare_int : MFun := ⟨20, .seq (.ops [ o_p 4 (.mv (.const (.int .i64 (0))))])
(.seq (.ops [ o_m 7 0, o_e 8 (.call 103 [(.tmp 7)]), o_m 5 8])
(.seq (.ops [ o_m 9 1, o_e 10 (.call 103 [(.tmp 9)]), o_m 6 10])
(.seq (.seq (.ops [ o_m 11 5])
(.cond (.tmp 11)
(.seq (.seq (.ops [ o_m 12 6])
(.cond (.tmp 12)
(.seq (.ops [ o_p 4 (.mv (.const (.int .i64 (0))))])
(.ret))
(.skip)))
(.seq (.ops [ o_p 4 (.mv (.const (.int .i64 (-1))))])
(.ret)))
(.skip)))
(.seq (.seq (.ops [ o_m 13 6])
(.cond (.tmp 13)
(.seq (.ops [ o_p 4 (.mv (.const (.int .i64 (1))))])
(.ret))
(.skip)))
(.seq (.seq (.ops [ o_m 14 0, o_m 15 1, o_p 16 (.bin .lss (.tmp 14) (.tmp 15))])
(.cond (.tmp 16)
(.seq (.ops [ o_p 4 (.mv (.const (.int .i64 (-1))))])
(.ret))
(.skip)))
(.seq (.seq (.ops [ o_m 17 0, o_m 18 1, o_p 19 (.bin .gtr (.tmp 17) (.tmp 18))])
(.cond (.tmp 19)
(.seq (.ops [ o_p 4 (.mv (.const (.int .i64 (1))))])
(.ret))
(.skip)))
(.seq (.ops [ o_p 4 (.mv (.const (.int .i64 (0))))])
(.ret)))))))),
[.tmp 4]⟩
theorem r_cmp_Compare_int : resFun Try.prog f_cmp_Compare_int = some c_cmp_Compare_int := by kernel_rfl

/- (*loop.example/g00940/spec.l1Cur).next -/
abbrev f_spec_l1Cur_next : Nat := 90
def c_spec_l1Cur_next : MFun := ⟨62, .seq (.ops [ o_p 2 (.mv (.const (.int .i64 (0))))])
(.seq (.ops [ o_p 3 (.mv (.const (.int .i64 (0))))])
(.seq (.seq (.ops [ o_m 4 0, o_p 5 (.nilc (.tmp 4)), o_p 6 (.fieldAddr 1 (.tmp 5)), o_m 8 0, o_p 9 (.nilc (.tmp 8)), o_p 10 (.fieldAddr 0 (.tmp 9)), o_l 7 6, o_l 11 10, o_p 12 (.len (.tmp 11)), o_p 13 (.bin .lss (.tmp 7) (.tmp 12))])
(.cond (.tmp 13)
(.ops [ o_m 14 0, o_p 15 (.nilc (.tmp 14)), o_p 16 (.fieldAddr 0 (.tmp 15)), o_m 18 0, o_p 19 (.nilc (.tmp 18)), o_p 20 (.fieldAddr 1 (.tmp 19)), o_l 17 16, o_l 21 20, o_p 22 (.idx 1 (.tmp 17) (.tmp 21)), o_l 23 22, o_p 24 (.conv .i64 (.tmp 23)), o_m 3 24])
(.skip)))
(.seq (.ops [ o_m 25 0, o_p 26 (.nilc (.tmp 25)), o_p 27 (.fieldAddr 1 (.tmp 26)), o_l 28 27, o_p 29 (.bin .add (.tmp 28) (.const (.int .i64 (1)))), o_p 30 (.nilc (.tmp 25)), o_p 31 (.fieldAddr 1 (.tmp 30)),
.op ⟨none, (.eff (.store 1 (.tmp 31) (.tmp 29))), none⟩])
(.seq (.ops [ o_m 32 0, o_m 33 0, o_p 34 (.nilc (.tmp 33)), o_p 35 (.fieldAddr 2 (.tmp 34)), o_l 36 35, o_p 37 (.bin .mul (.tmp 36) (.const (.int .u64 (6364136223846793005)))), o_m 38 3, o_p 39 (.conv .u64 (.tmp 38)), o_p 40 (.bin .add (.tmp 37) (.tmp 39)), o_p 41 (.bin .add (.tmp 40) (.const (.int .u64 (1442695040888963407)))), o_p 42 (.nilc (.tmp 32)), o_p 43 (.fieldAddr 2 (.tmp 42)),
.op ⟨none, (.eff (.store 1 (.tmp 43) (.tmp 41))), none⟩])
(.seq (.seq (.ops [ o_m 44 0, o_p 45 (.nilc (.tmp 44)), o_p 46 (.fieldAddr 1 (.tmp 45)), o_m 48 0, o_p 49 (.nilc (.tmp 48)), o_p 50 (.fieldAddr 0 (.tmp 49)), o_l 47 46, o_l 51 50, o_p 52 (.len (.tmp 51)), o_p 53 (.bin .leq (.tmp 47) (.tmp 52))])
(.cond (.tmp 53)
(.seq (.ops [ o_m 54 3, o_m 2 54])
(.ret))
(.skip)))
(.seq (.ops [ o_m 55 0, o_p 56 (.nilc (.tmp 55)), o_p 57 (.fieldAddr 2 (.tmp 56)), o_l 58 57, o_p 59 (.bin .shr (.tmp 58) (.const (.int .u64 (40)))), o_p 60 (.bin .and (.tmp 59) (.const (.int .u64 (255)))), o_p 61 (.conv .i64 (.tmp 60)), o_m 2 61])
(.ret))))))),
[.tmp 2]⟩
theorem r_spec_l1Cur_next : resFun Try.prog f_spec_l1Cur_next = some c_spec_l1Cur_next := by kernel_rfl

/- slices.IndexFunc[[]loop.example/g00940/impl.Fog,loop.example/g00940/impl.Fog] -/
abbrev f_slices_IndexFunc_Limpl_Fog_impl_Fog : Nat := 91
def c_slices_IndexFunc_Limpl_Fog_impl_Fog : MFun := ⟨19, .seq (.ops [ o_p 4 (.mv (.const (.int .i64 (0))))])
(.seq (.seq (.ops [ o_m 6 0, o_p 7 (.len (.tmp 6)), o_p 8 (.mv (.const (.int .i64 (0))))])
(.block 0 (.loop (.seq (.ops [ o_p 9 (.bin .lss (.tmp 8) (.tmp 7))])
(.seq (.cond (.tmp 9)
(.skip)
(.exit 0))
(.seq (.block 1 (.seq (.ops [ o_m 10 8, o_m 5 10])
(.seq (.ops [ o_m 11 1, o_m 12 0, o_m 13 5, o_p 14 (.idx 3 (.tmp 12) (.tmp 13)),
.op ⟨(some 15), (.load (some 3) (.tmp 14)), none⟩, o_e 16 (.callv (.tmp 11) [(.tmp 15)])])
(.cond (.tmp 16)
(.seq (.ops [ o_m 17 5, o_m 4 17])
(.ret))
(.skip)))))
(.ops [ o_p 18 (.bin .add (.tmp 8) (.const (.int .i64 (1)))), o_m 8 18])))))))
(.seq (.ops [ o_p 4 (.mv (.const (.int .i64 (-1))))])
(.ret))),
[.tmp 4]⟩
theorem r_slices_IndexFunc_Limpl_Fog_impl_Fog : resFun Try.prog f_slices_IndexFunc_Limpl_Fog_impl_Fog = some c_slices_IndexFunc_Limpl_Fog_impl_Fog := by kernel_rfl

/- loop.example/g00940/spec.neLink -/
abbrev f_spec_neLink : Nat := 92
def c_spec_neLink : MFun := ⟨41, .seq (.ops [ o_e 3 (.box 27 (.tmp 0)), o_p 6 (.mv (.const (.int .i64 (0))))])
(.seq (.seq (.ops [ o_p 9 (.fieldAddr 1 (.tmp 3)), o_l 10 9, o_p 11 (.len (.tmp 10)), o_p 12 (.mv (.const (.int .i64 (0))))])
(.block 0 (.loop (.seq (.ops [ o_p 13 (.bin .lss (.tmp 12) (.tmp 11))])
(.seq (.cond (.tmp 13)
(.skip)
(.exit 0))
(.seq (.block 1 (.seq (.ops [ o_m 14 12, o_p 15 (.idx 3 (.tmp 10) (.tmp 12)),
.op ⟨(some 16), (.load (some 3) (.tmp 15)), none⟩, o_e 8 (.new 81 [(.int .i64 (0)), (.int .i64 (0)), (.int .i64 (0))]), o_m 7 14,
.op ⟨none, (.eff (.store 3 (.tmp 8) (.tmp 16))), none⟩])
(.seq (.ops [ o_p 17 (.fieldAddr 0 (.tmp 8)), o_l 18 17, o_m 19 1, o_p 20 (.bin .eql (.tmp 18) (.tmp 19)), o_m 21 20,
.split 21,
.op ⟨(some 22), (.pure (.fieldAddr 1 (.tmp 8))), (some (21, true))⟩,
.op ⟨(some 23), (.load none (.tmp 22)), (some (21, true))⟩,
.op ⟨(some 24), (.pure (.mv (.tmp 2))), (some (21, true))⟩,
.op ⟨(some 25), (.pure (.bin .eql (.tmp 23) (.tmp 24))), (some (21, true))⟩, o_p 26 (.pick (.tmp 21) (.tmp 25) (.const (.bool false))), o_m 27 26,
.split 27,
.op ⟨(some 28), (.pure (.fieldAddr 0 (.tmp 8))), (some (27, false))⟩,
.op ⟨(some 29), (.load none (.tmp 28)), (some (27, false))⟩,
.op ⟨(some 30), (.pure (.mv (.tmp 2))), (some (27, false))⟩,
.op ⟨(some 31), (.pure (.bin .eql (.tmp 29) (.tmp 30))), (some (27, false))⟩,
.op ⟨(some 32), (.pure (.mv (.tmp 31))), (some (27, false))⟩,
.split 32,
.op ⟨(some 33), (.pure (.fieldAddr 1 (.tmp 8))), (some (32, true))⟩,
.op ⟨(some 34), (.load none (.tmp 33)), (some (32, true))⟩,
.op ⟨(some 35), (.pure (.mv (.tmp 1))), (some (32, true))⟩,
.op ⟨(some 36), (.pure (.bin .eql (.tmp 34) (.tmp 35))), (some (32, true))⟩,
.op ⟨(some 37), (.pure (.pick (.tmp 32) (.tmp 36) (.const (.bool false)))), (some (27, false))⟩, o_p 38 (.pick (.tmp 27) (.const (.bool true)) (.tmp 37))])
(.cond (.tmp 38)
(.seq (.ops [ o_m 39 7, o_m 6 39])
(.ret))
(.skip)))))
(.ops [ o_p 40 (.bin .add (.tmp 12) (.const (.int .i64 (1)))), o_m 12 40])))))))
(.seq (.ops [ o_p 6 (.mv (.const (.int .i64 (-1))))])
(.ret))),
[.tmp 6]⟩
theorem r_spec_neLink : resFun Try.prog f_spec_neLink = some c_spec_neLink := by kernel_rfl

/- slices.insertionSortCmpFunc[loop.example/g00940/impl.Fog] -/
/- slices.heapSortCmpFunc[loop.example/g00940/impl.Fog] -/
/- slices.breakPatternsCmpFunc[loop.example/g00940/impl.Fog] -/
/- slices.choosePivotCmpFunc[loop.example/g00940/impl.Fog] -/
/- slices.reverseRangeCmpFunc[loop.example/g00940/impl.Fog] -/
/- slices.partialInsertionSortCmpFunc[loop.example/g00940/impl.Fog] -/
/- slices.partitionEqualCmpFunc[loop.example/g00940/impl.Fog] -/
/- slices.partitionCmpFunc[loop.example/g00940/impl.Fog] -/
end Go.Proofs.Ytloicopmcagikaa

