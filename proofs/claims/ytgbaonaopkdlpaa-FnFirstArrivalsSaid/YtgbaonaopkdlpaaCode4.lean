/- The code of this seat's functions, resolved, written by a program of mine; each is held against the given program by the kernel. Condition: none. -/
import Derived.Test.YtgbaonaopkdlpaaProg
import Derived.Test.YtgbaonaopkdlpaaBase9
import Derived.KernelRfl
namespace Go.Proofs.Ytgbaonaopkdlpaa
open Go.Vc

/- (*loop.example/g00940/spec.l1Cur).next -/
abbrev f_spec_l1Cur_next : Nat := 87
def c_spec_l1Cur_next : MFun := ⟨62, .seq (.ops [ o_p 2 (.mv (.const (.int .i64 (0))))])
(.seq (.ops [ o_p 3 (.mv (.const (.int .i64 (0))))])
(.seq (.seq (.ops [ o_m 4 0, o_p 5 (.nilc (.tmp 4)), o_p 6 (.fieldAddr 1 (.tmp 5)), o_m 8 0, o_p 9 (.nilc (.tmp 8)), o_p 10 (.fieldAddr 0 (.tmp 9)), o_l 7 6, o_l 11 10, o_p 12 (.len (.tmp 11)), o_p 13 (.bin .lss (.tmp 7) (.tmp 12))])
(.cond (.tmp 13)
(.ops [ o_m 14 0, o_p 15 (.nilc (.tmp 14)), o_p 16 (.fieldAddr 0 (.tmp 15)), o_m 18 0, o_p 19 (.nilc (.tmp 18)), o_p 20 (.fieldAddr 1 (.tmp 19)), o_l 17 16, o_l 21 20, o_p 22 (.idx 1 (.tmp 17) (.tmp 21)), o_l 23 22, o_p 24 (.conv .i64 (.tmp 23)), o_m 3 24])
(.skip)))
(.seq (.ops [ o_m 25 0, o_p 26 (.nilc (.tmp 25)), o_p 27 (.fieldAddr 1 (.tmp 26)), o_l 28 27, o_p 29 (.bin .add (.tmp 28) (.const (.int .i64 (1)))), o_p 30 (.nilc (.tmp 25)), o_p 31 (.fieldAddr 1 (.tmp 30)),
.op ⟨none, (.eff (.store 1 (.tmp 31) (.tmp 29))), none⟩])
(.seq (.ops [ o_m 32 0, o_m 33 0, o_p 34 (.nilc (.tmp 33)), o_p 35 (.fieldAddr 2 (.tmp 34)), o_l 36 35, o_p 37 (.bin .mul (.tmp 36) (.const (.int .u64 (6364136223846793005)))), o_m 38 3, o_p 39 (.conv .u64 (.tmp 38)), o_p 40 (.bin .add (.tmp 37) (.tmp 39)), o_p 41 (.bin .add (.tmp 40) (.const (.int .u64 (1442695040888963407)))), o_p 42 (.nilc (.tmp 32)), o_p 43 (.fieldAddr 2 (.tmp 42)),
.op ⟨none, (.eff (.store 1 (.tmp 43) (.tmp 41))), none⟩])
(.seq (.seq (.ops [ o_m 44 0, o_p 45 (.nilc (.tmp 44)), o_p 46 (.fieldAddr 1 (.tmp 45)), o_m 48 0, o_p 49 (.nilc (.tmp 48)), o_p 50 (.fieldAddr 0 (.tmp 49)), o_l 47 46, o_l 51 50, o_p 52 (.len (.tmp 51)), o_p 53 (.bin .leq (.tmp 47) (.tmp 52))])
(.cond (.tmp 53)
(.seq (.ops [ o_m 54 3, o_m 2 54])
(.ret))
(.skip)))
(.seq (.ops [ o_m 55 0, o_p 56 (.nilc (.tmp 55)), o_p 57 (.fieldAddr 2 (.tmp 56)), o_l 58 57, o_p 59 (.bin .shr (.tmp 58) (.const (.int .u64 (40)))), o_p 60 (.bin .and (.tmp 59) (.const (.int .u64 (255)))), o_p 61 (.conv .i64 (.tmp 60)), o_m 2 61])
(.ret))))))),
[.tmp 2]⟩
theorem r_spec_l1Cur_next : resFun Try.prog f_spec_l1Cur_next = some c_spec_l1Cur_next := by kernel_rfl

/- (*loop.example/g00940/spec.l1Cur).fog -/
abbrev f_spec_l1Cur_fog : Nat := 88
def c_spec_l1Cur_fog : MFun := ⟨128, .seq (.ops [ o_e 3 (.box 26 (.tmp 1)), o_p 4 (.mv (.const (.slice none 0 0)))])
(.seq (.ops [ o_p 5 (.mv (.const (.slice none 0 0)))])
(.seq (.ops [ o_m 13 0, o_e 14 (.call 65 [(.tmp 13), (.const (.int .i64 (4)))]), o_m 6 14])
(.seq (.seq (.ops [ o_p 15 (.fieldAddr 1 (.tmp 3)), o_l 16 15, o_p 17 (.len (.tmp 16)), o_p 18 (.mv (.const (.int .i64 (0))))])
(.block 0 (.loop (.seq (.ops [ o_p 19 (.bin .lss (.tmp 18) (.tmp 17))])
(.seq (.cond (.tmp 19)
(.skip)
(.exit 0))
(.seq (.block 1 (.seq (.ops [ o_m 20 18, o_m 7 20])
(.seq (.ops [ o_m 21 0, o_e 22 (.call 65 [(.tmp 21), (.const (.int .i64 (40)))]), o_m 8 22])
(.seq (.ops [ o_m 23 0, o_m 24 6, o_p 25 (.bin .add (.tmp 24) (.const (.int .i64 (1)))), o_e 26 (.call 65 [(.tmp 23), (.tmp 25)]), o_m 9 26])
(.block 2 (.loop (.seq (.seq (.ops [ o_m 27 9, o_p 28 (.bin .gtr (.tmp 27) (.const (.int .i64 (0))))])
(.cond (.tmp 28)
(.skip)
(.exit 2)))
(.seq (.block 3 (.seq (.ops [ o_m 31 7, o_m 32 8, o_m 33 8, o_p 34 (.bin .add (.tmp 33) (.const (.int .i64 (1)))), o_m 35 0, o_e 36 (.call 65 [(.tmp 35), (.const (.int .i64 (30)))]), o_p 37 (.bin .add (.tmp 34) (.tmp 36)), o_p 38 (.build [(.int .i64 (0)), (.int .i64 (0)), (.int .i64 (0))] [(0, 1, (.tmp 31)), (1, 1, (.tmp 32)), (2, 1, (.tmp 37))]), o_e 10 (.new 87 [(.int .i64 (0)), (.int .i64 (0)), (.int .i64 (0))]),
.op ⟨none, (.eff (.store 3 (.tmp 10) (.tmp 38))), none⟩])
(.seq (.ops [ o_m 39 5,
.op ⟨(some 40), (.load (some 3) (.tmp 10)), none⟩, o_e 41 (.row 87 1 [(.int .i64 (0)), (.int .i64 (0)), (.int .i64 (0))] [(0, 3, (.tmp 40))]), o_e 42 (.app 87 3 24 (.tmp 39) (.tmp 41)), o_m 5 42])
(.draw true
(.take (t_p 43 (.fieldAddr 2 (.tmp 10)))
(.take (t_m 46 0)
(.take (t_l 44 43)
(.take (t_p 45 (.bin .add (.tmp 44) (.const (.int .i64 (1)))))
(.only false (t_e 47 (.call 65 [(.tmp 46), (.const (.int .i64 (30)))]))
(.take (t_p 48 (.bin .add (.tmp 45) (.tmp 47)))
(.take (t_m 8 48)
(.done))))))))))))
(.ops [ o_m 29 9, o_p 30 (.bin .sub (.tmp 29) (.const (.int .i64 (1)))), o_m 9 30])))))))))
(.ops [ o_p 49 (.bin .add (.tmp 18) (.const (.int .i64 (1)))), o_m 18 49])))))))
(.seq (.seq (.ops [ o_m 50 5, o_p 51 (.len (.tmp 50)), o_p 52 (.bin .gtr (.tmp 51) (.const (.int .i64 (60))))])
(.cond (.tmp 52)
(.ops [ o_m 53 5, o_p 54 (.slc 3 (.tmp 53) none (some (.const (.int .i64 (60)))) none), o_m 5 54])
(.skip)))
(.seq (.seq (.ops [ o_p 55 (.fieldAddr 1 (.tmp 3)), o_l 56 55, o_p 57 (.len (.tmp 56)), o_p 58 (.bin .gtr (.tmp 57) (.const (.int .i64 (0)))), o_m 59 58,
.split 59,
.op ⟨(some 60), (.pure (.mv (.tmp 0))), (some (59, true))⟩,
.op ⟨(some 61), (.eff (.call 64 [(.tmp 60), (.const (.int .i64 (24)))])), (some (59, true))⟩, o_p 62 (.pick (.tmp 59) (.tmp 61) (.const (.bool false)))])
(.cond (.tmp 62)
(.seq (.ops [ o_p 5 (.mv (.const (.slice none 0 0)))])
(.seq (.ops [ o_m 63 0, o_e 64 (.call 65 [(.tmp 63), (.const (.int .i64 (2)))]), o_p 65 (.bin .add (.const (.int .i64 (60))) (.tmp 64)), o_m 11 65])
(.block 4 (.loop (.seq (.seq (.ops [ o_m 66 5, o_p 67 (.len (.tmp 66)), o_m 68 11, o_p 69 (.bin .lss (.tmp 67) (.tmp 68))])
(.cond (.tmp 69)
(.skip)
(.exit 4)))
(.block 5 (.ops [ o_m 70 5, o_m 71 5, o_p 72 (.len (.tmp 71)), o_p 73 (.bin .mul (.const (.int .i64 (4))) (.tmp 72)), o_m 74 5, o_p 75 (.len (.tmp 74)), o_p 76 (.bin .mul (.const (.int .i64 (4))) (.tmp 75)), o_p 77 (.bin .add (.tmp 76) (.const (.int .i64 (2)))), o_p 78 (.build [(.int .i64 (0)), (.int .i64 (0)), (.int .i64 (0))] [(0, 1, (.const (.int .i64 (0)))), (1, 1, (.tmp 73)), (2, 1, (.tmp 77))]), o_e 79 (.row 87 1 [(.int .i64 (0)), (.int .i64 (0)), (.int .i64 (0))] [(0, 3, (.tmp 78))]), o_e 80 (.app 87 3 24 (.tmp 70) (.tmp 79)), o_m 5 80])))))))
(.skip)))
(.seq (.seq (.ops [ o_m 81 5, o_p 82 (.len (.tmp 81)), o_p 83 (.bin .gtr (.tmp 82) (.const (.int .i64 (0))))])
(.cond (.tmp 83)
(.seq (.ops [ o_m 84 5, o_m 85 0, o_m 86 5, o_p 87 (.len (.tmp 86)), o_e 88 (.call 65 [(.tmp 85), (.tmp 87)]), o_p 89 (.idx 3 (.tmp 84) (.tmp 88)), o_m 12 89])
(.seq (.ops [ o_m 90 0, o_e 91 (.call 65 [(.tmp 90), (.const (.int .i64 (30)))])])
(.block 6 (.seq (.ops [ o_p 93 (.bin .eql (.tmp 91) (.const (.int .i64 (0)))), o_m 92 93])
(.cond (.tmp 92)
(.ops [ o_m 94 12, o_m 95 0, o_p 96 (.fieldAddr 1 (.tmp 3)), o_l 97 96, o_p 98 (.len (.tmp 97)), o_e 99 (.row 3 2 [(.int .i64 (0)), (.int .i64 (0))] [(0, 1, (.const (.int .i64 (-1)))), (1, 1, (.tmp 98))]), o_e 100 (.call 72 [(.tmp 95), (.tmp 99)]), o_p 101 (.nilc (.tmp 94)), o_p 102 (.fieldAddr 0 (.tmp 101)),
.op ⟨none, (.eff (.store 1 (.tmp 102) (.tmp 100))), none⟩])
(.seq (.ops [ o_p 104 (.bin .eql (.tmp 91) (.const (.int .i64 (1)))), o_m 103 104])
(.cond (.tmp 103)
(.ops [ o_m 105 12, o_m 106 0, o_m 107 12, o_p 108 (.nilc (.tmp 107)), o_p 109 (.fieldAddr 2 (.tmp 108)), o_l 110 109, o_e 111 (.row 3 2 [(.int .i64 (0)), (.int .i64 (0))] [(0, 1, (.const (.int .i64 (-1)))), (1, 1, (.tmp 110))]), o_e 112 (.call 72 [(.tmp 106), (.tmp 111)]), o_p 113 (.nilc (.tmp 105)), o_p 114 (.fieldAddr 1 (.tmp 113)),
.op ⟨none, (.eff (.store 1 (.tmp 114) (.tmp 112))), none⟩])
(.seq (.ops [ o_p 116 (.bin .eql (.tmp 91) (.const (.int .i64 (2)))), o_m 115 116])
(.cond (.tmp 115)
(.ops [ o_m 117 12, o_m 118 0, o_m 119 12, o_p 120 (.nilc (.tmp 119)), o_p 121 (.fieldAddr 1 (.tmp 120)), o_l 122 121, o_e 123 (.row 3 3 [(.int .i64 (0)), (.int .i64 (0)), (.int .i64 (0))] [(0, 1, (.tmp 122)), (1, 1, (.const (.int .i64 (10000)))), (2, 1, (.const (.int .i64 (10001))))]), o_e 124 (.call 72 [(.tmp 118), (.tmp 123)]), o_p 125 (.nilc (.tmp 117)), o_p 126 (.fieldAddr 2 (.tmp 125)),
.op ⟨none, (.eff (.store 1 (.tmp 126) (.tmp 124))), none⟩])
(.skip))))))))))
(.skip)))
(.seq (.ops [ o_m 127 5, o_m 4 127])
(.ret)))))))),
[.tmp 4]⟩
theorem r_spec_l1Cur_fog : resFun Try.prog f_spec_l1Cur_fog = some c_spec_l1Cur_fog := by kernel_rfl

/- loop.example/g00940/spec.fgGood -/
abbrev f_spec_fgGood : Nat := 89
def c_spec_fgGood : MFun := ⟨57, .seq (.ops [ o_e 2 (.box 26 (.tmp 0)), o_p 4 (.mv (.const (.bool false)))])
(.seq (.seq (.ops [ o_m 7 1, o_p 8 (.len (.tmp 7)), o_p 9 (.mv (.const (.int .i64 (0))))])
(.block 0 (.loop (.seq (.ops [ o_p 10 (.bin .lss (.tmp 9) (.tmp 8))])
(.seq (.cond (.tmp 10)
(.skip)
(.exit 0))
(.seq (.block 1 (.seq (.ops [ o_m 11 9, o_p 12 (.idx 3 (.tmp 7) (.tmp 9)),
.op ⟨(some 13), (.load (some 3) (.tmp 12)), none⟩, o_e 6 (.new 87 [(.int .i64 (0)), (.int .i64 (0)), (.int .i64 (0))]), o_m 5 11,
.op ⟨none, (.eff (.store 3 (.tmp 6) (.tmp 13))), none⟩])
(.seq (.seq (.ops [
.op ⟨(some 14), (.load (some 2) (.tmp 2)), none⟩,
.op ⟨(some 15), (.load (some 3) (.tmp 6)), none⟩, o_e 16 (.call 96 [(.tmp 14), (.tmp 15)]), o_p 17 (.bnot (.tmp 16))])
(.cond (.tmp 17)
(.seq (.ops [ o_p 4 (.mv (.const (.bool false)))])
(.ret))
(.skip)))
(.seq (.ops [ o_m 18 5, o_p 19 (.bin .gtr (.tmp 18) (.const (.int .i64 (0)))), o_m 20 19,
.split 20,
.op ⟨(some 21), (.pure (.mv (.tmp 1))), (some (20, true))⟩,
.op ⟨(some 22), (.pure (.mv (.tmp 5))), (some (20, true))⟩,
.op ⟨(some 23), (.pure (.bin .sub (.tmp 22) (.const (.int .i64 (1))))), (some (20, true))⟩,
.op ⟨(some 24), (.pure (.idx 3 (.tmp 21) (.tmp 23))), (some (20, true))⟩,
.op ⟨(some 25), (.pure (.fieldAddr 0 (.tmp 24))), (some (20, true))⟩,
.op ⟨(some 27), (.pure (.fieldAddr 0 (.tmp 6))), (some (20, true))⟩,
.op ⟨(some 26), (.load none (.tmp 25)), (some (20, true))⟩,
.op ⟨(some 28), (.load none (.tmp 27)), (some (20, true))⟩,
.op ⟨(some 29), (.pure (.bin .gtr (.tmp 26) (.tmp 28))), (some (20, true))⟩,
.op ⟨(some 30), (.pure (.mv (.tmp 29))), (some (20, true))⟩,
.split 30,
.op ⟨(some 31), (.pure (.mv (.tmp 1))), (some (30, false))⟩,
.op ⟨(some 32), (.pure (.mv (.tmp 5))), (some (30, false))⟩,
.op ⟨(some 33), (.pure (.bin .sub (.tmp 32) (.const (.int .i64 (1))))), (some (30, false))⟩,
.op ⟨(some 34), (.pure (.idx 3 (.tmp 31) (.tmp 33))), (some (30, false))⟩,
.op ⟨(some 35), (.pure (.fieldAddr 0 (.tmp 34))), (some (30, false))⟩,
.op ⟨(some 37), (.pure (.fieldAddr 0 (.tmp 6))), (some (30, false))⟩,
.op ⟨(some 36), (.load none (.tmp 35)), (some (30, false))⟩,
.op ⟨(some 38), (.load none (.tmp 37)), (some (30, false))⟩,
.op ⟨(some 39), (.pure (.bin .eql (.tmp 36) (.tmp 38))), (some (30, false))⟩,
.op ⟨(some 40), (.pure (.mv (.tmp 39))), (some (30, false))⟩,
.split 40,
.op ⟨(some 41), (.pure (.mv (.tmp 1))), (some (40, true))⟩,
.op ⟨(some 42), (.pure (.mv (.tmp 5))), (some (40, true))⟩,
.op ⟨(some 43), (.pure (.bin .sub (.tmp 42) (.const (.int .i64 (1))))), (some (40, true))⟩,
.op ⟨(some 44), (.pure (.idx 3 (.tmp 41) (.tmp 43))), (some (40, true))⟩,
.op ⟨(some 45), (.pure (.fieldAddr 2 (.tmp 44))), (some (40, true))⟩,
.op ⟨(some 47), (.pure (.fieldAddr 1 (.tmp 6))), (some (40, true))⟩,
.op ⟨(some 46), (.load none (.tmp 45)), (some (40, true))⟩,
.op ⟨(some 48), (.load none (.tmp 47)), (some (40, true))⟩,
.op ⟨(some 49), (.pure (.bin .geq (.tmp 46) (.tmp 48))), (some (40, true))⟩,
.op ⟨(some 50), (.pure (.pick (.tmp 40) (.tmp 49) (.const (.bool false)))), (some (30, false))⟩,
.op ⟨(some 51), (.pure (.pick (.tmp 30) (.const (.bool true)) (.tmp 50))), (some (20, true))⟩, o_p 52 (.pick (.tmp 20) (.tmp 51) (.const (.bool false)))])
(.cond (.tmp 52)
(.seq (.ops [ o_p 4 (.mv (.const (.bool false)))])
(.ret))
(.skip))))))
(.ops [ o_p 53 (.bin .add (.tmp 9) (.const (.int .i64 (1)))), o_m 9 53])))))))
(.seq (.ops [ o_m 54 1, o_p 55 (.len (.tmp 54)), o_p 56 (.bin .leq (.tmp 55) (.const (.int .i64 (60)))), o_m 4 56])
(.ret))),
[.tmp 4]⟩
theorem r_spec_fgGood : resFun Try.prog f_spec_fgGood = some c_spec_fgGood := by kernel_rfl

/- loop.example/g00940/spec.fgTime -/
abbrev f_spec_fgTime : Nat := 90
def c_spec_fgTime : MFun := ⟨5, .seq (.ops [ o_p 2 (.mv (.const (.bool false)))])
(.seq (.ops [ o_m 3 0, o_e 4 (.call 53 [(.tmp 3), (.const (.int .i64 (0))), (.const (.int .i64 (10000)))]), o_m 2 4])
(.ret)),
[.tmp 2]⟩
theorem r_spec_fgTime : resFun Try.prog f_spec_fgTime = some c_spec_fgTime := by kernel_rfl

/- cmp.Or[int] -/
abbrev f_cmp_Or_int : Nat := 91
def c_cmp_Or_int : MFun := ⟨18, .seq (.ops [ o_p 2 (.mv (.const (.int .i64 (0))))])
(.seq (.ops [ o_p 3 (.mv (.const (.int .i64 (0))))])
(.seq (.seq (.ops [ o_m 6 0, o_p 7 (.len (.tmp 6)), o_p 8 (.mv (.const (.int .i64 (0))))])
(.block 0 (.loop (.seq (.ops [ o_p 9 (.bin .lss (.tmp 8) (.tmp 7))])
(.seq (.cond (.tmp 9)
(.skip)
(.exit 0))
(.seq (.block 1 (.seq (.ops [ o_p 10 (.idx 1 (.tmp 6) (.tmp 8)), o_l 11 10, o_m 5 11])
(.seq (.ops [ o_m 12 5, o_m 13 3, o_p 14 (.bin .neq (.tmp 12) (.tmp 13))])
(.cond (.tmp 14)
(.seq (.ops [ o_m 15 5, o_m 2 15])
(.ret))
(.skip)))))
(.ops [ o_p 16 (.bin .add (.tmp 8) (.const (.int .i64 (1)))), o_m 8 16])))))))
(.seq (.ops [ o_m 17 3, o_m 2 17])
(.ret)))),
[.tmp 2]⟩
theorem r_cmp_Or_int : resFun Try.prog f_cmp_Or_int = some c_cmp_Or_int := by kernel_rfl

/- cmp.Compare[int] -/
abbrev f_cmp_Compare_int : Nat := 92
def c_cmp_Compare_int : MFun := ⟨20, .seq (.ops [ o_p 4 (.mv (.const (.int .i64 (0))))])
(.seq (.ops [ o_m 7 0, o_e 8 (.call 97 [(.tmp 7)]), o_m 5 8])
(.seq (.ops [ o_m 9 1, o_e 10 (.call 97 [(.tmp 9)]), o_m 6 10])
(.seq (.seq (.ops [ o_m 11 5])
(.cond (.tmp 11)
(.seq (.seq (.ops [ o_m 12 6])
(.cond (.tmp 12)
(.seq (.ops [ o_p 4 (.mv (.const (.int .i64 (0))))])
(.ret))
(.skip)))
(.seq (.ops [ o_p 4 (.mv (.const (.int .i64 (-1))))])
(.ret)))
(.skip)))
(.seq (.seq (.ops [ o_m 13 6])
(.cond (.tmp 13)
(.seq (.ops [ o_p 4 (.mv (.const (.int .i64 (1))))])
(.ret))
(.skip)))
(.seq (.seq (.ops [ o_m 14 0, o_m 15 1, o_p 16 (.bin .lss (.tmp 14) (.tmp 15))])
(.cond (.tmp 16)
(.seq (.ops [ o_p 4 (.mv (.const (.int .i64 (-1))))])
(.ret))
(.skip)))
(.seq (.seq (.ops [ o_m 17 0, o_m 18 1, o_p 19 (.bin .gtr (.tmp 17) (.tmp 18))])
(.cond (.tmp 19)
(.seq (.ops [ o_p 4 (.mv (.const (.int .i64 (1))))])
(.ret))
(.skip)))
(.seq (.ops [ o_p 4 (.mv (.const (.int .i64 (0))))])
(.ret)))))))),
[.tmp 4]⟩
theorem r_cmp_Compare_int : resFun Try.prog f_cmp_Compare_int = some c_cmp_Compare_int := by kernel_rfl

/- slices.Index[[]int,int] -/
abbrev f_slices_Index_Lint_int : Nat := 93
def c_slices_Index_Lint_int : MFun := ⟨19, .seq (.ops [ o_p 4 (.mv (.const (.int .i64 (0))))])
(.seq (.seq (.ops [ o_m 6 0, o_p 7 (.len (.tmp 6)), o_p 8 (.mv (.const (.int .i64 (0))))])
(.block 0 (.loop (.seq (.ops [ o_p 9 (.bin .lss (.tmp 8) (.tmp 7))])
(.seq (.cond (.tmp 9)
(.skip)
(.exit 0))
(.seq (.block 1 (.seq (.ops [ o_m 10 8, o_m 5 10])
(.seq (.ops [ o_m 11 1, o_m 12 0, o_m 13 5, o_p 14 (.idx 1 (.tmp 12) (.tmp 13)), o_l 15 14, o_p 16 (.bin .eql (.tmp 11) (.tmp 15))])
(.cond (.tmp 16)
(.seq (.ops [ o_m 17 5, o_m 4 17])
(.ret))
(.skip)))))
(.ops [ o_p 18 (.bin .add (.tmp 8) (.const (.int .i64 (1)))), o_m 8 18])))))))
(.seq (.ops [ o_p 4 (.mv (.const (.int .i64 (-1))))])
(.ret))),
[.tmp 4]⟩
theorem r_slices_Index_Lint_int : resFun Try.prog f_slices_Index_Lint_int = some c_slices_Index_Lint_int := by kernel_rfl

/- loop.example/g00940/spec.l1All -/
abbrev f_spec_l1All : Nat := 94
def c_spec_l1All : MFun := ⟨21, .seq (.ops [ o_p 6 (.mv (.const (.bool false)))])
(.seq (.seq (.ops [ o_m 9 0, o_p 10 (.len (.tmp 9)), o_p 11 (.mv (.const (.int .i64 (0))))])
(.block 0 (.loop (.seq (.ops [ o_p 12 (.bin .lss (.tmp 11) (.tmp 10))])
(.seq (.cond (.tmp 12)
(.skip)
(.exit 0))
(.seq (.block 1 (.seq (.ops [ o_p 13 (.idx 1 (.tmp 9) (.tmp 11)), o_l 14 13, o_m 8 14])
(.seq (.ops [ o_m 15 8, o_m 16 1, o_m 17 2, o_e 18 (.call 53 [(.tmp 15), (.tmp 16), (.tmp 17)]), o_p 19 (.bnot (.tmp 18))])
(.cond (.tmp 19)
(.seq (.ops [ o_p 6 (.mv (.const (.bool false)))])
(.ret))
(.skip)))))
(.ops [ o_p 20 (.bin .add (.tmp 11) (.const (.int .i64 (1)))), o_m 11 20])))))))
(.seq (.ops [ o_p 6 (.mv (.const (.bool true)))])
(.ret))),
[.tmp 6]⟩
theorem r_spec_l1All : resFun Try.prog f_spec_l1All = some c_spec_l1All := by kernel_rfl

/- loop.example/g00940/spec.fgStart -/
abbrev f_spec_fgStart : Nat := 95
def c_spec_fgStart : MFun := ⟨39, .seq (.ops [ o_p 8 (.mv (.const (.int .i64 (0))))])
(.seq (.seq (.ops [ o_m 11 0, o_p 12 (.len (.tmp 11)), o_p 13 (.mv (.const (.int .i64 (0))))])
(.block 0 (.loop (.seq (.ops [ o_p 14 (.bin .lss (.tmp 13) (.tmp 12))])
(.seq (.cond (.tmp 14)
(.skip)
(.exit 0))
(.seq (.block 1 (.seq (.ops [ o_p 15 (.idx 3 (.tmp 11) (.tmp 13)),
.op ⟨(some 16), (.load (some 3) (.tmp 15)), none⟩, o_e 10 (.new 87 [(.int .i64 (0)), (.int .i64 (0)), (.int .i64 (0))]),
.op ⟨none, (.eff (.store 3 (.tmp 10) (.tmp 16))), none⟩])
(.seq (.ops [ o_p 17 (.fieldAddr 0 (.tmp 10)), o_l 18 17, o_m 19 1, o_p 20 (.bin .eql (.tmp 18) (.tmp 19)), o_m 21 20,
.split 21,
.op ⟨(some 22), (.pure (.mv (.tmp 2))), (some (21, true))⟩,
.op ⟨(some 23), (.pure (.fieldAddr 2 (.tmp 10))), (some (21, true))⟩,
.op ⟨(some 24), (.load none (.tmp 23)), (some (21, true))⟩,
.op ⟨(some 25), (.pure (.bin .lss (.tmp 22) (.tmp 24))), (some (21, true))⟩, o_p 26 (.pick (.tmp 21) (.tmp 25) (.const (.bool false))), o_m 27 26,
.split 27,
.op ⟨(some 28), (.pure (.mv (.tmp 2))), (some (27, true))⟩,
.op ⟨(some 29), (.pure (.mv (.tmp 3))), (some (27, true))⟩,
.op ⟨(some 30), (.pure (.bin .add (.tmp 28) (.tmp 29))), (some (27, true))⟩,
.op ⟨(some 31), (.pure (.fieldAddr 1 (.tmp 10))), (some (27, true))⟩,
.op ⟨(some 32), (.load none (.tmp 31)), (some (27, true))⟩,
.op ⟨(some 33), (.pure (.bin .gtr (.tmp 30) (.tmp 32))), (some (27, true))⟩, o_p 34 (.pick (.tmp 27) (.tmp 33) (.const (.bool false)))])
(.cond (.tmp 34)
(.ops [ o_p 35 (.fieldAddr 2 (.tmp 10)), o_l 36 35, o_m 2 36])
(.skip)))))
(.ops [ o_p 37 (.bin .add (.tmp 13) (.const (.int .i64 (1)))), o_m 13 37])))))))
(.seq (.ops [ o_m 38 2, o_m 8 38])
(.ret))),
[.tmp 8]⟩
theorem r_spec_fgStart : resFun Try.prog f_spec_fgStart = some c_spec_fgStart := by kernel_rfl

/- loop.example/g00940/spec.fgFog -/
abbrev f_spec_fgFog : Nat := 96
def c_spec_fgFog : MFun := ⟨25, .seq (.ops [ o_e 2 (.box 26 (.tmp 0)), o_e 3 (.box 87 (.tmp 1)), o_p 4 (.mv (.const (.bool false)))])
(.seq (.ops [ o_p 5 (.fieldAddr 0 (.tmp 3)), o_l 6 5, o_p 7 (.fieldAddr 1 (.tmp 2)), o_l 8 7, o_p 9 (.len (.tmp 8)), o_p 10 (.bin .sub (.tmp 9) (.const (.int .i64 (1)))), o_e 11 (.call 53 [(.tmp 6), (.const (.int .i64 (0))), (.tmp 10)]), o_m 12 11,
.split 12,
.op ⟨(some 13), (.pure (.fieldAddr 1 (.tmp 3))), (some (12, true))⟩,
.op ⟨(some 14), (.load none (.tmp 13)), (some (12, true))⟩,
.op ⟨(some 15), (.eff (.call 53 [(.tmp 14), (.const (.int .i64 (0))), (.const (.int .i64 (9999)))])), (some (12, true))⟩, o_p 16 (.pick (.tmp 12) (.tmp 15) (.const (.bool false))), o_m 17 16,
.split 17,
.op ⟨(some 18), (.pure (.fieldAddr 2 (.tmp 3))), (some (17, true))⟩,
.op ⟨(some 19), (.load none (.tmp 18)), (some (17, true))⟩,
.op ⟨(some 20), (.pure (.fieldAddr 1 (.tmp 3))), (some (17, true))⟩,
.op ⟨(some 21), (.load none (.tmp 20)), (some (17, true))⟩,
.op ⟨(some 22), (.pure (.bin .add (.tmp 21) (.const (.int .i64 (1))))), (some (17, true))⟩,
.op ⟨(some 23), (.eff (.call 53 [(.tmp 19), (.tmp 22), (.const (.int .i64 (10000)))])), (some (17, true))⟩, o_p 24 (.pick (.tmp 17) (.tmp 23) (.const (.bool false))), o_m 4 24])
(.ret)),
[.tmp 4]⟩
theorem r_spec_fgFog : resFun Try.prog f_spec_fgFog = some c_spec_fgFog := by kernel_rfl

/- cmp.isNaN[int] -/
abbrev f_cmp_isNaN_int : Nat := 97
def c_cmp_isNaN_int : MFun := ⟨6, .seq (.ops [ o_p 2 (.mv (.const (.bool false)))])
(.seq (.ops [ o_m 3 0, o_m 4 0, o_p 5 (.bin .neq (.tmp 3) (.tmp 4)), o_m 2 5])
(.ret)),
[.tmp 2]⟩
theorem r_cmp_isNaN_int : resFun Try.prog f_cmp_isNaN_int = some c_cmp_isNaN_int := by kernel_rfl
end Go.Proofs.Ytgbaonaopkdlpaa

