/- The code of this seat's functions, resolved, written by a program of mine; each is held against the given program by the kernel. Condition: none. -/
import Derived.Test.YtgbaonaopkdlpaaProg
import Derived.Test.YtgbaonaopkdlpaaBase9
import Derived.KernelRfl
namespace Go.Proofs.Ytgbaonaopkdlpaa
open Go.Vc

/- loop.example/g00940/spec.DrawFirstArrival -/
abbrev f_spec_DrawFirstArrival : Nat := 58
def c_spec_DrawFirstArrival : MFun := ⟨28, .seq (.ops [ o_e 2 (.new 26 [(.slice none 0 0), (.slice none 0 0)]), o_p 3 (.mv (.const (.slice none 0 0))), o_p 4 (.mv (.const (.int .i64 (0)))), o_p 5 (.mv (.const (.int .i64 (0)))), o_p 6 (.mv (.const (.int .i64 (0))))])
(.seq (.ops [ o_m 10 0, o_p 11 (.build [(.slice none 0 0), (.int .i64 (0)), (.int .u64 (0))] [(0, 1, (.tmp 10))]), o_e 12 (.box 68 (.tmp 11)), o_m 7 12])
(.seq (.ops [ o_m 14 7, o_e 15 (.call 66 [(.tmp 14)]), o_m 13 15, o_p 16 (.ext 0 (.tmp 13)), o_p 17 (.ext 1 (.tmp 13)), o_e 8 (.new 26 [(.slice none 0 0), (.slice none 0 0)]),
.op ⟨none, (.eff (.store 2 (.tmp 8) (.tmp 16))), none⟩, o_m 9 17])
(.seq (.draw true
(.take (t_m 19 9)
(.take (t_m 20 7)
(.take (t_m 23 7)
(.take (t_m 26 7)
(.only false ⟨(some 21), (.load (some 2) (.tmp 8)), none⟩
(.take ⟨(some 18), (.load (some 2) (.tmp 8)), none⟩
(.take ⟨(some 24), (.load (some 2) (.tmp 8)), none⟩
(.only false (t_e 22 (.call 50 [(.tmp 20), (.tmp 21)]))
(.only false (t_e 25 (.call 50 [(.tmp 23), (.tmp 24)]))
(.only false (t_e 27 (.call 67 [(.tmp 26)]))
(.only true ⟨none, (.eff (.store 2 (.tmp 2) (.tmp 18))), none⟩
(.take (t_m 3 19)
(.take (t_m 4 22)
(.take (t_m 5 25)
(.take (t_m 6 27)
(.done)))))))))))))))))
(.ret)))),
[.cell 2 (some 2), .tmp 3, .tmp 4, .tmp 5, .tmp 6]⟩
theorem r_spec_DrawFirstArrival : resFun Try.prog f_spec_DrawFirstArrival = some c_spec_DrawFirstArrival := by kernel_rfl

/- slices.Reverse[[]int,int] -/
abbrev f_slices_Reverse_Lint_int : Nat := 59
def c_slices_Reverse_Lint_int : MFun := ⟨28, .seq (.ops [ o_m 4 0, o_p 5 (.len (.tmp 4)), o_p 6 (.bin .sub (.tmp 5) (.const (.int .i64 (1)))), o_p 2 (.mv (.const (.int .i64 (0)))), o_m 3 6])
(.block 0 (.loop (.seq (.seq (.ops [ o_m 7 2, o_m 8 3, o_p 9 (.bin .lss (.tmp 7) (.tmp 8))])
(.cond (.tmp 9)
(.skip)
(.exit 0)))
(.seq (.block 1 (.draw false
(.take (t_m 14 0)
(.take (t_m 15 2)
(.take (t_m 16 0)
(.take (t_m 17 3)
(.take (t_m 18 0)
(.take (t_m 19 3)
(.take (t_p 20 (.idx 1 (.tmp 18) (.tmp 19)))
(.take (t_m 22 0)
(.take (t_m 23 2)
(.take (t_p 24 (.idx 1 (.tmp 22) (.tmp 23)))
(.only false (t_l 21 20)
(.only false (t_l 25 24)
(.take (t_p 26 (.idx 1 (.tmp 14) (.tmp 15)))
(.only true ⟨none, (.eff (.store 1 (.tmp 26) (.tmp 21))), none⟩
(.take (t_p 27 (.idx 1 (.tmp 16) (.tmp 17)))
(.only true ⟨none, (.eff (.store 1 (.tmp 27) (.tmp 25))), none⟩
(.done)))))))))))))))))))
(.ops [ o_m 10 2, o_p 11 (.bin .add (.tmp 10) (.const (.int .i64 (1)))), o_m 12 3, o_p 13 (.bin .sub (.tmp 12) (.const (.int .i64 (1)))), o_m 2 11, o_m 3 13]))))),
[]⟩
theorem r_slices_Reverse_Lint_int : resFun Try.prog f_slices_Reverse_Lint_int = some c_slices_Reverse_Lint_int := by kernel_rfl

/- loop.example/g00940/spec.roAsked -/
abbrev f_spec_roAsked : Nat := 60
def c_spec_roAsked : MFun := ⟨25, .seq (.ops [ o_e 5 (.box 26 (.tmp 0)), o_p 10 (.mv (.const (.bool false)))])
(.seq (.ops [
.op ⟨(some 11), (.load (some 2) (.tmp 5)), none⟩, o_m 12 1, o_m 13 4, o_e 14 (.call 68 [(.tmp 11), (.tmp 12), (.tmp 13)]), o_m 15 14,
.split 15,
.op ⟨(some 16), (.load (some 2) (.tmp 5)), (some (15, true))⟩,
.op ⟨(some 17), (.pure (.mv (.tmp 2))), (some (15, true))⟩,
.op ⟨(some 18), (.eff (.call 69 [(.tmp 16), (.tmp 17)])), (some (15, true))⟩, o_p 19 (.pick (.tmp 15) (.tmp 18) (.const (.bool false))), o_m 20 19,
.split 20,
.op ⟨(some 21), (.load (some 2) (.tmp 5)), (some (20, true))⟩,
.op ⟨(some 22), (.pure (.mv (.tmp 3))), (some (20, true))⟩,
.op ⟨(some 23), (.eff (.call 69 [(.tmp 21), (.tmp 22)])), (some (20, true))⟩, o_p 24 (.pick (.tmp 20) (.tmp 23) (.const (.bool false))), o_m 10 24])
(.ret)),
[.tmp 10]⟩
theorem r_spec_roAsked : resFun Try.prog f_spec_roAsked = some c_spec_roAsked := by kernel_rfl

/- loop.example/g00940/spec.roFirst -/
abbrev f_spec_roFirst : Nat := 61
def c_spec_roFirst : MFun := ⟨110, .seq (.ops [ o_e 4 (.box 26 (.tmp 0)), o_p 8 (.mv (.const (.slice none 0 0)))])
(.seq (.ops [ o_p 9 (.mv (.const (.slice none 0 0)))])
(.seq (.seq (.ops [ o_p 18 (.fieldAddr 0 (.tmp 4)), o_l 19 18, o_p 20 (.len (.tmp 19)), o_p 21 (.mv (.const (.int .i64 (0))))])
(.block 0 (.loop (.seq (.ops [ o_p 22 (.bin .lss (.tmp 21) (.tmp 20))])
(.seq (.cond (.tmp 22)
(.skip)
(.exit 0))
(.seq (.block 1 (.ops [ o_m 23 9, o_e 24 (.row 3 1 [(.int .i64 (0))] [(0, 1, (.const (.int .i64 (-1))))]), o_e 25 (.app 3 1 8 (.tmp 23) (.tmp 24)), o_m 9 25]))
(.ops [ o_p 26 (.bin .add (.tmp 21) (.const (.int .i64 (1)))), o_m 21 26])))))))
(.seq (.ops [ o_m 27 9, o_m 28 2, o_m 29 3, o_p 30 (.idx 1 (.tmp 27) (.tmp 28)),
.op ⟨none, (.eff (.store 1 (.tmp 30) (.tmp 29))), none⟩])
(.seq (.ops [ o_p 31 (.fieldAddr 0 (.tmp 4)), o_l 32 31, o_p 33 (.len (.tmp 32)), o_e 34 (.mk 4 1 1 [(.bool false)] (.tmp 33) (.tmp 33)), o_m 10 34])
(.block 2 (.loop (.block 3 (.seq (.ops [ o_p 11 (.mv (.const (.int .i64 (-1))))])
(.seq (.seq (.ops [ o_m 35 9, o_p 36 (.len (.tmp 35)), o_p 37 (.mv (.const (.int .i64 (0))))])
(.block 4 (.loop (.seq (.ops [ o_p 38 (.bin .lss (.tmp 37) (.tmp 36))])
(.seq (.cond (.tmp 38)
(.skip)
(.exit 4))
(.seq (.block 5 (.seq (.ops [ o_m 39 37, o_p 40 (.idx 1 (.tmp 35) (.tmp 37)), o_l 41 40, o_m 12 39, o_m 13 41])
(.seq (.ops [ o_m 42 10, o_m 43 12, o_p 44 (.idx 1 (.tmp 42) (.tmp 43)), o_l 45 44, o_p 46 (.bnot (.tmp 45)), o_m 47 46,
.split 47,
.op ⟨(some 48), (.pure (.mv (.tmp 13))), (some (47, true))⟩,
.op ⟨(some 49), (.pure (.bin .geq (.tmp 48) (.const (.int .i64 (0))))), (some (47, true))⟩, o_p 50 (.pick (.tmp 47) (.tmp 49) (.const (.bool false))), o_m 51 50,
.split 51,
.op ⟨(some 52), (.pure (.mv (.tmp 11))), (some (51, true))⟩,
.op ⟨(some 53), (.pure (.bin .lss (.tmp 52) (.const (.int .i64 (0))))), (some (51, true))⟩,
.op ⟨(some 54), (.pure (.mv (.tmp 53))), (some (51, true))⟩,
.split 54,
.op ⟨(some 55), (.pure (.mv (.tmp 13))), (some (54, false))⟩,
.op ⟨(some 56), (.pure (.mv (.tmp 9))), (some (54, false))⟩,
.op ⟨(some 57), (.pure (.mv (.tmp 11))), (some (54, false))⟩,
.op ⟨(some 58), (.pure (.idx 1 (.tmp 56) (.tmp 57))), (some (54, false))⟩,
.op ⟨(some 59), (.load none (.tmp 58)), (some (54, false))⟩,
.op ⟨(some 60), (.pure (.bin .lss (.tmp 55) (.tmp 59))), (some (54, false))⟩,
.op ⟨(some 61), (.pure (.pick (.tmp 54) (.const (.bool true)) (.tmp 60))), (some (51, true))⟩, o_p 62 (.pick (.tmp 51) (.tmp 61) (.const (.bool false)))])
(.cond (.tmp 62)
(.ops [ o_m 63 12, o_m 11 63])
(.skip)))))
(.ops [ o_p 64 (.bin .add (.tmp 37) (.const (.int .i64 (1)))), o_m 37 64])))))))
(.seq (.seq (.ops [ o_m 65 11, o_p 66 (.bin .lss (.tmp 65) (.const (.int .i64 (0))))])
(.cond (.tmp 66)
(.seq (.ops [ o_m 67 9, o_m 8 67])
(.ret))
(.skip)))
(.seq (.ops [ o_m 68 10, o_m 69 11, o_p 70 (.idx 1 (.tmp 68) (.tmp 69)),
.op ⟨none, (.eff (.store 1 (.tmp 70) (.const (.bool true)))), none⟩])
(.seq (.ops [ o_p 71 (.fieldAddr 1 (.tmp 4)), o_l 72 71, o_p 73 (.len (.tmp 72)), o_p 74 (.mv (.const (.int .i64 (0))))])
(.block 6 (.loop (.seq (.ops [ o_p 75 (.bin .lss (.tmp 74) (.tmp 73))])
(.seq (.cond (.tmp 75)
(.skip)
(.exit 6))
(.seq (.block 7 (.seq (.ops [ o_m 76 74, o_p 77 (.idx 3 (.tmp 72) (.tmp 74)),
.op ⟨(some 78), (.load (some 3) (.tmp 77)), none⟩, o_e 15 (.new 45 [(.int .i64 (0)), (.int .i64 (0)), (.int .i64 (0))]), o_m 14 76,
.op ⟨none, (.eff (.store 3 (.tmp 15) (.tmp 78))), none⟩])
(.seq (.ops [
.op ⟨(some 79), (.load (some 3) (.tmp 15)), none⟩, o_m 80 11, o_e 81 (.call 70 [(.tmp 79), (.tmp 80)]), o_m 16 81])
(.seq (.seq (.ops [ o_m 82 16, o_p 83 (.bin .lss (.tmp 82) (.const (.int .i64 (0))))])
(.cond (.tmp 83)
(.exit 7)
(.skip)))
(.seq (.draw false
(.take (t_m 85 1)
(.take (t_m 86 14)
(.take (t_m 87 9)
(.take (t_m 88 11)
(.take (t_p 89 (.idx 1 (.tmp 87) (.tmp 88)))
(.only false ⟨(some 84), (.load (some 2) (.tmp 4)), none⟩
(.only false (t_l 90 89)
(.only true (t_e 91 (.call 82 [(.tmp 84), (.tmp 85), (.tmp 86), (.tmp 90)]))
(.take (t_m 17 91)
(.done)))))))))))
(.seq (.ops [ o_m 92 9, o_m 93 16, o_p 94 (.idx 1 (.tmp 92) (.tmp 93)), o_l 95 94, o_p 96 (.bin .lss (.tmp 95) (.const (.int .i64 (0)))), o_m 97 96,
.split 97,
.op ⟨(some 98), (.pure (.mv (.tmp 17))), (some (97, false))⟩,
.op ⟨(some 99), (.pure (.mv (.tmp 9))), (some (97, false))⟩,
.op ⟨(some 100), (.pure (.mv (.tmp 16))), (some (97, false))⟩,
.op ⟨(some 101), (.pure (.idx 1 (.tmp 99) (.tmp 100))), (some (97, false))⟩,
.op ⟨(some 102), (.load none (.tmp 101)), (some (97, false))⟩,
.op ⟨(some 103), (.pure (.bin .lss (.tmp 98) (.tmp 102))), (some (97, false))⟩, o_p 104 (.pick (.tmp 97) (.const (.bool true)) (.tmp 103))])
(.cond (.tmp 104)
(.ops [ o_m 105 9, o_m 106 16, o_m 107 17, o_p 108 (.idx 1 (.tmp 105) (.tmp 106)),
.op ⟨none, (.eff (.store 1 (.tmp 108) (.tmp 107))), none⟩])
(.skip))))))))
(.ops [ o_p 109 (.bin .add (.tmp 74) (.const (.int .i64 (1)))), o_m 74 109])))))))))))))))))),
[.tmp 8]⟩
theorem r_spec_roFirst : resFun Try.prog f_spec_roFirst = some c_spec_roFirst := by kernel_rfl

/- loop.example/g00940/spec.roBefore -/
abbrev f_spec_roBefore : Nat := 62
def c_spec_roBefore : MFun := ⟨60, .seq (.ops [ o_e 4 (.box 26 (.tmp 0)), o_p 8 (.mv (.const (.int .i64 (0))))])
(.seq (.ops [ o_p 9 (.mv (.const (.int .i64 (-1))))])
(.seq (.seq (.ops [ o_p 13 (.fieldAddr 1 (.tmp 4)), o_l 14 13, o_p 15 (.len (.tmp 14)), o_p 16 (.mv (.const (.int .i64 (0))))])
(.block 0 (.loop (.seq (.ops [ o_p 17 (.bin .lss (.tmp 16) (.tmp 15))])
(.seq (.cond (.tmp 17)
(.skip)
(.exit 0))
(.seq (.block 1 (.seq (.ops [ o_m 18 16, o_p 19 (.idx 3 (.tmp 14) (.tmp 16)),
.op ⟨(some 20), (.load (some 3) (.tmp 19)), none⟩, o_e 11 (.new 45 [(.int .i64 (0)), (.int .i64 (0)), (.int .i64 (0))]), o_m 10 18,
.op ⟨none, (.eff (.store 3 (.tmp 11) (.tmp 20))), none⟩])
(.seq (.ops [
.op ⟨(some 21), (.load (some 3) (.tmp 11)), none⟩, o_m 22 3, o_e 23 (.call 70 [(.tmp 21), (.tmp 22)]), o_m 12 23])
(.seq (.draw true
(.take (t_m 24 12)
(.take (t_p 25 (.bin .geq (.tmp 24) (.const (.int .i64 (0)))))
(.take (t_m 26 25)
(.split 26
(.take ⟨(some 27), (.pure (.mv (.tmp 2))), (some (26, true))⟩
(.take ⟨(some 28), (.pure (.mv (.tmp 12))), (some (26, true))⟩
(.take ⟨(some 29), (.pure (.idx 1 (.tmp 27) (.tmp 28))), (some (26, true))⟩
(.only false ⟨(some 30), (.load none (.tmp 29)), (some (26, true))⟩
(.take ⟨(some 31), (.pure (.bin .geq (.tmp 30) (.const (.int .i64 (0))))), (some (26, true))⟩
(.take (t_p 32 (.pick (.tmp 26) (.tmp 31) (.const (.bool false))))
(.take (t_m 33 32)
(.split 33
(.take ⟨(some 35), (.pure (.mv (.tmp 1))), (some (33, true))⟩
(.take ⟨(some 36), (.pure (.mv (.tmp 10))), (some (33, true))⟩
(.take ⟨(some 37), (.pure (.mv (.tmp 2))), (some (33, true))⟩
(.take ⟨(some 38), (.pure (.mv (.tmp 12))), (some (33, true))⟩
(.take ⟨(some 39), (.pure (.idx 1 (.tmp 37) (.tmp 38))), (some (33, true))⟩
(.take ⟨(some 42), (.pure (.mv (.tmp 2))), (some (33, true))⟩
(.take ⟨(some 43), (.pure (.mv (.tmp 3))), (some (33, true))⟩
(.take ⟨(some 44), (.pure (.idx 1 (.tmp 42) (.tmp 43))), (some (33, true))⟩
(.only false ⟨(some 34), (.load (some 2) (.tmp 4)), (some (33, true))⟩
(.only false ⟨(some 40), (.load none (.tmp 39)), (some (33, true))⟩
(.take ⟨(some 45), (.load none (.tmp 44)), (some (33, true))⟩
(.only false ⟨(some 41), (.eff (.call 82 [(.tmp 34), (.tmp 35), (.tmp 36), (.tmp 40)])), (some (33, true))⟩
(.take ⟨(some 46), (.pure (.bin .eql (.tmp 41) (.tmp 45))), (some (33, true))⟩
(.take (t_p 47 (.pick (.tmp 33) (.tmp 46) (.const (.bool false))))
(.take (t_m 48 47)
(.split 48
(.take ⟨(some 49), (.pure (.mv (.tmp 9))), (some (48, true))⟩
(.take ⟨(some 50), (.pure (.bin .lss (.tmp 49) (.const (.int .i64 (0))))), (some (48, true))⟩
(.take ⟨(some 51), (.pure (.mv (.tmp 50))), (some (48, true))⟩
(.split 51
(.take ⟨(some 52), (.pure (.mv (.tmp 12))), (some (51, false))⟩
(.take ⟨(some 53), (.pure (.mv (.tmp 9))), (some (51, false))⟩
(.take ⟨(some 54), (.pure (.bin .lss (.tmp 52) (.tmp 53))), (some (51, false))⟩
(.take ⟨(some 55), (.pure (.pick (.tmp 51) (.const (.bool true)) (.tmp 54))), (some (48, true))⟩
(.take (t_p 56 (.pick (.tmp 48) (.tmp 55) (.const (.bool false))))
(.done)))))))))))))))))))))))))))))))))))))))
(.cond (.tmp 56)
(.ops [ o_m 57 12, o_m 9 57])
(.skip))))))
(.ops [ o_p 58 (.bin .add (.tmp 16) (.const (.int .i64 (1)))), o_m 16 58])))))))
(.seq (.ops [ o_m 59 9, o_m 8 59])
(.ret)))),
[.tmp 8]⟩
theorem r_spec_roBefore : resFun Try.prog f_spec_roBefore = some c_spec_roBefore := by kernel_rfl

/- loop.example/g00940/spec.l1Most -/
abbrev f_spec_l1Most : Nat := 63
def c_spec_l1Most : MFun := ⟨10, .seq (.ops [ o_p 4 (.mv (.const (.int .i64 (0))))])
(.seq (.seq (.ops [ o_m 5 0, o_m 6 1, o_p 7 (.bin .gtr (.tmp 5) (.tmp 6))])
(.cond (.tmp 7)
(.seq (.ops [ o_m 8 0, o_m 4 8])
(.ret))
(.skip)))
(.seq (.ops [ o_m 9 1, o_m 4 9])
(.ret))),
[.tmp 4]⟩
theorem r_spec_l1Most : resFun Try.prog f_spec_l1Most = some c_spec_l1Most := by kernel_rfl

/- (*loop.example/g00940/spec.l1Cur).one -/
abbrev f_spec_l1Cur_one : Nat := 64
def c_spec_l1Cur_one : MFun := ⟨9, .seq (.ops [ o_p 4 (.mv (.const (.bool false)))])
(.seq (.ops [ o_m 5 0, o_m 6 1, o_e 7 (.call 65 [(.tmp 5), (.tmp 6)]), o_p 8 (.bin .eql (.tmp 7) (.const (.int .i64 (0)))), o_m 4 8])
(.ret)),
[.tmp 4]⟩
theorem r_spec_l1Cur_one : resFun Try.prog f_spec_l1Cur_one = some c_spec_l1Cur_one := by kernel_rfl

/- (*loop.example/g00940/spec.l1Cur).pick -/
abbrev f_spec_l1Cur_pick : Nat := 65
def c_spec_l1Cur_pick : MFun := ⟨20, .seq (.ops [ o_p 4 (.mv (.const (.int .i64 (0))))])
(.seq (.seq (.ops [ o_m 6 1, o_p 7 (.bin .leq (.tmp 6) (.const (.int .i64 (1))))])
(.cond (.tmp 7)
(.seq (.ops [ o_p 4 (.mv (.const (.int .i64 (0))))])
(.ret))
(.skip)))
(.seq (.ops [ o_m 8 0, o_e 9 (.call 87 [(.tmp 8)]), o_m 5 9])
(.seq (.seq (.ops [ o_m 10 1, o_p 11 (.bin .gtr (.tmp 10) (.const (.int .i64 (200))))])
(.cond (.tmp 11)
(.ops [ o_m 12 5, o_p 13 (.bin .mul (.tmp 12) (.const (.int .i64 (256)))), o_m 14 0, o_e 15 (.call 87 [(.tmp 14)]), o_p 16 (.bin .add (.tmp 13) (.tmp 15)), o_m 5 16])
(.skip)))
(.seq (.ops [ o_m 17 5, o_m 18 1, o_p 19 (.bin .rem (.tmp 17) (.tmp 18)), o_m 4 19])
(.ret))))),
[.tmp 4]⟩
theorem r_spec_l1Cur_pick : resFun Try.prog f_spec_l1Cur_pick = some c_spec_l1Cur_pick := by kernel_rfl

/- (*loop.example/g00940/spec.l1Cur).foggy -/
abbrev f_spec_l1Cur_foggy : Nat := 66
def c_spec_l1Cur_foggy : MFun := ⟨15, .seq (.ops [ o_e 2 (.new 26 [(.slice none 0 0), (.slice none 0 0)]), o_p 3 (.mv (.const (.slice none 0 0)))])
(.seq (.ops [ o_m 5 0, o_e 6 (.call 85 [(.tmp 5)]), o_e 4 (.new 26 [(.slice none 0 0), (.slice none 0 0)]),
.op ⟨none, (.eff (.store 2 (.tmp 4) (.tmp 6))), none⟩])
(.seq (.seq (.ops [ o_m 7 0, o_e 8 (.call 64 [(.tmp 7), (.const (.int .i64 (20)))])])
(.cond (.tmp 8)
(.ops [ o_m 9 0, o_e 10 (.call 48 [(.tmp 9)]),
.op ⟨none, (.eff (.store 2 (.tmp 4) (.tmp 10))), none⟩])
(.skip)))
(.seq (.draw true
(.take (t_m 12 0)
(.only false ⟨(some 13), (.load (some 2) (.tmp 4)), none⟩
(.take ⟨(some 11), (.load (some 2) (.tmp 4)), none⟩
(.only false (t_e 14 (.call 88 [(.tmp 12), (.tmp 13)]))
(.only true ⟨none, (.eff (.store 2 (.tmp 2) (.tmp 11))), none⟩
(.take (t_m 3 14)
(.done))))))))
(.ret)))),
[.cell 2 (some 2), .tmp 3]⟩
theorem r_spec_l1Cur_foggy : resFun Try.prog f_spec_l1Cur_foggy = some c_spec_l1Cur_foggy := by kernel_rfl

/- (*loop.example/g00940/spec.l1Cur).second -/
abbrev f_spec_l1Cur_second : Nat := 67
def c_spec_l1Cur_second : MFun := ⟨15, .seq (.ops [ o_p 2 (.mv (.const (.int .i64 (0))))])
(.seq (.ops [ o_m 3 0, o_m 4 0, o_e 5 (.call 65 [(.tmp 4), (.const (.int .i64 (100)))]), o_m 6 0, o_e 7 (.call 65 [(.tmp 6), (.const (.int .i64 (100)))]), o_m 8 0, o_e 9 (.call 65 [(.tmp 8), (.const (.int .i64 (200)))]), o_m 10 0, o_e 11 (.row 3 3 [(.int .i64 (0)), (.int .i64 (0)), (.int .i64 (0))] [(0, 1, (.const (.int .i64 (10000)))), (1, 1, (.const (.int .i64 (10001)))), (2, 1, (.const (.int .i64 (-1))))]), o_e 12 (.call 72 [(.tmp 10), (.tmp 11)]), o_e 13 (.row 3 6 [(.int .i64 (0)), (.int .i64 (0)), (.int .i64 (0)), (.int .i64 (0)), (.int .i64 (0)), (.int .i64 (0))] [(0, 1, (.const (.int .i64 (0)))), (1, 1, (.const (.int .i64 (12)))), (2, 1, (.tmp 5)), (3, 1, (.tmp 7)), (4, 1, (.tmp 9)), (5, 1, (.tmp 12))]), o_e 14 (.call 72 [(.tmp 3), (.tmp 13)]), o_m 2 14])
(.ret)),
[.tmp 2]⟩
theorem r_spec_l1Cur_second : resFun Try.prog f_spec_l1Cur_second = some c_spec_l1Cur_second := by kernel_rfl

/- loop.example/g00940/spec.roGood -/
abbrev f_spec_roGood : Nat := 68
def c_spec_roGood : MFun := ⟨18, .seq (.ops [ o_e 3 (.box 26 (.tmp 0)), o_p 6 (.mv (.const (.bool false)))])
(.seq (.ops [
.op ⟨(some 7), (.load (some 2) (.tmp 3)), none⟩, o_e 8 (.call 52 [(.tmp 7)]), o_m 9 8,
.split 9,
.op ⟨(some 10), (.load (some 2) (.tmp 3)), (some (9, true))⟩,
.op ⟨(some 11), (.pure (.mv (.tmp 1))), (some (9, true))⟩,
.op ⟨(some 12), (.eff (.call 89 [(.tmp 10), (.tmp 11)])), (some (9, true))⟩, o_p 13 (.pick (.tmp 9) (.tmp 12) (.const (.bool false))), o_m 14 13,
.split 14,
.op ⟨(some 15), (.pure (.mv (.tmp 2))), (some (14, true))⟩,
.op ⟨(some 16), (.eff (.call 90 [(.tmp 15)])), (some (14, true))⟩, o_p 17 (.pick (.tmp 14) (.tmp 16) (.const (.bool false))), o_m 6 17])
(.ret)),
[.tmp 6]⟩
theorem r_spec_roGood : resFun Try.prog f_spec_roGood = some c_spec_roGood := by kernel_rfl

/- loop.example/g00940/spec.roTower -/
abbrev f_spec_roTower : Nat := 69
def c_spec_roTower : MFun := ⟨11, .seq (.ops [ o_e 2 (.box 26 (.tmp 0)), o_p 4 (.mv (.const (.bool false)))])
(.seq (.ops [ o_m 5 1, o_p 6 (.fieldAddr 0 (.tmp 2)), o_l 7 6, o_p 8 (.len (.tmp 7)), o_p 9 (.bin .sub (.tmp 8) (.const (.int .i64 (1)))), o_e 10 (.call 53 [(.tmp 5), (.const (.int .i64 (0))), (.tmp 9)]), o_m 4 10])
(.ret)),
[.tmp 4]⟩
theorem r_spec_roTower : resFun Try.prog f_spec_roTower = some c_spec_roTower := by kernel_rfl

/- loop.example/g00940/spec.roOther -/
abbrev f_spec_roOther : Nat := 70
def c_spec_roOther : MFun := ⟨18, .seq (.ops [ o_e 2 (.box 45 (.tmp 0)), o_p 4 (.mv (.const (.int .i64 (0))))])
(.seq (.seq (.ops [ o_m 5 1])
(.block 0 (.seq (.ops [ o_p 7 (.fieldAddr 0 (.tmp 2)), o_l 8 7, o_p 9 (.bin .eql (.tmp 5) (.tmp 8)), o_m 6 9])
(.cond (.tmp 6)
(.seq (.ops [ o_p 10 (.fieldAddr 1 (.tmp 2)), o_l 11 10, o_m 4 11])
(.ret))
(.seq (.ops [ o_p 13 (.fieldAddr 1 (.tmp 2)), o_l 14 13, o_p 15 (.bin .eql (.tmp 5) (.tmp 14)), o_m 12 15])
(.cond (.tmp 12)
(.seq (.ops [ o_p 16 (.fieldAddr 0 (.tmp 2)), o_l 17 16, o_m 4 17])
(.ret))
(.skip)))))))
(.seq (.ops [ o_p 4 (.mv (.const (.int .i64 (-1))))])
(.ret))),
[.tmp 4]⟩
theorem r_spec_roOther : resFun Try.prog f_spec_roOther = some c_spec_roOther := by kernel_rfl

/- loop.example/g00940/spec.l1Has -/
abbrev f_spec_l1Has : Nat := 71
def c_spec_l1Has : MFun := ⟨17, .seq (.ops [ o_p 4 (.mv (.const (.bool false)))])
(.seq (.seq (.ops [ o_m 7 0, o_p 8 (.len (.tmp 7)), o_p 9 (.mv (.const (.int .i64 (0))))])
(.block 0 (.loop (.seq (.ops [ o_p 10 (.bin .lss (.tmp 9) (.tmp 8))])
(.seq (.cond (.tmp 10)
(.skip)
(.exit 0))
(.seq (.block 1 (.seq (.ops [ o_p 11 (.idx 1 (.tmp 7) (.tmp 9)), o_l 12 11, o_m 6 12])
(.seq (.ops [ o_m 13 6, o_m 14 1, o_p 15 (.bin .eql (.tmp 13) (.tmp 14))])
(.cond (.tmp 15)
(.seq (.ops [ o_p 4 (.mv (.const (.bool true)))])
(.ret))
(.skip)))))
(.ops [ o_p 16 (.bin .add (.tmp 9) (.const (.int .i64 (1)))), o_m 9 16])))))))
(.seq (.ops [ o_p 4 (.mv (.const (.bool false)))])
(.ret))),
[.tmp 4]⟩
theorem r_spec_l1Has : resFun Try.prog f_spec_l1Has = some c_spec_l1Has := by kernel_rfl

/- (*loop.example/g00940/spec.l1Cur).among -/
abbrev f_spec_l1Cur_among : Nat := 72
def c_spec_l1Cur_among : MFun := ⟨12, .seq (.ops [ o_p 4 (.mv (.const (.int .i64 (0))))])
(.seq (.ops [ o_m 5 1, o_m 6 0, o_m 7 1, o_p 8 (.len (.tmp 7)), o_e 9 (.call 65 [(.tmp 6), (.tmp 8)]), o_p 10 (.idx 1 (.tmp 5) (.tmp 9)), o_l 11 10, o_m 4 11])
(.ret)),
[.tmp 4]⟩
theorem r_spec_l1Cur_among : resFun Try.prog f_spec_l1Cur_among = some c_spec_l1Cur_among := by kernel_rfl

/- loop.example/g00940/impl.compareLinks -/
abbrev f_impl_compareLinks : Nat := 73
def c_impl_compareLinks : MFun := ⟨17, .seq (.ops [ o_e 2 (.box 45 (.tmp 0)), o_e 3 (.box 45 (.tmp 1)), o_p 4 (.mv (.const (.int .i64 (0))))])
(.seq (.draw true
(.take (t_p 5 (.fieldAddr 0 (.tmp 2)))
(.take (t_p 7 (.fieldAddr 0 (.tmp 3)))
(.take (t_p 10 (.fieldAddr 1 (.tmp 2)))
(.take (t_p 12 (.fieldAddr 1 (.tmp 3)))
(.only false (t_l 6 5)
(.only false (t_l 8 7)
(.take (t_l 11 10)
(.take (t_l 13 12)
(.only false (t_e 9 (.call 92 [(.tmp 6), (.tmp 8)]))
(.only true (t_e 14 (.call 92 [(.tmp 11), (.tmp 13)]))
(.only true (t_e 15 (.row 3 2 [(.int .i64 (0)), (.int .i64 (0))] [(0, 1, (.tmp 9)), (1, 1, (.tmp 14))]))
(.only true (t_e 16 (.call 91 [(.tmp 15)]))
(.take (t_m 4 16)
(.done)))))))))))))))
(.ret)),
[.tmp 4]⟩
theorem r_impl_compareLinks : resFun Try.prog f_impl_compareLinks = some c_impl_compareLinks := by kernel_rfl

/- loop.example/g00940/impl.isFog -/
abbrev f_impl_isFog : Nat := 74
def c_impl_isFog : MFun := ⟨29, .seq (.ops [ o_e 2 (.box 26 (.tmp 0)), o_e 3 (.box 87 (.tmp 1)), o_p 4 (.mv (.const (.bool false)))])
(.seq (.ops [ o_p 5 (.fieldAddr 0 (.tmp 3)), o_l 6 5, o_p 7 (.fieldAddr 1 (.tmp 2)), o_l 8 7, o_p 9 (.len (.tmp 8)), o_p 10 (.bin .sub (.tmp 9) (.const (.int .i64 (1)))), o_e 11 (.call 38 [(.tmp 6), (.const (.int .i64 (0))), (.tmp 10)]), o_m 12 11,
.split 12,
.op ⟨(some 13), (.pure (.fieldAddr 1 (.tmp 3))), (some (12, true))⟩,
.op ⟨(some 14), (.load none (.tmp 13)), (some (12, true))⟩,
.op ⟨(some 15), (.pure (.bin .geq (.tmp 14) (.const (.int .i64 (0))))), (some (12, true))⟩, o_p 16 (.pick (.tmp 12) (.tmp 15) (.const (.bool false))), o_m 17 16,
.split 17,
.op ⟨(some 18), (.pure (.fieldAddr 1 (.tmp 3))), (some (17, true))⟩,
.op ⟨(some 19), (.load none (.tmp 18)), (some (17, true))⟩,
.op ⟨(some 20), (.pure (.fieldAddr 2 (.tmp 3))), (some (17, true))⟩,
.op ⟨(some 21), (.load none (.tmp 20)), (some (17, true))⟩,
.op ⟨(some 22), (.pure (.bin .lss (.tmp 19) (.tmp 21))), (some (17, true))⟩, o_p 23 (.pick (.tmp 17) (.tmp 22) (.const (.bool false))), o_m 24 23,
.split 24,
.op ⟨(some 25), (.pure (.fieldAddr 2 (.tmp 3))), (some (24, true))⟩,
.op ⟨(some 26), (.load none (.tmp 25)), (some (24, true))⟩,
.op ⟨(some 27), (.pure (.bin .leq (.tmp 26) (.const (.int .i64 (10000))))), (some (24, true))⟩, o_p 28 (.pick (.tmp 24) (.tmp 27) (.const (.bool false))), o_m 4 28])
(.ret)),
[.tmp 4]⟩
theorem r_impl_isFog : resFun Try.prog f_impl_isFog = some c_impl_isFog := by kernel_rfl

/- loop.example/g00940/impl.compareFogs -/
abbrev f_impl_compareFogs : Nat := 75
def c_impl_compareFogs : MFun := ⟨17, .seq (.ops [ o_e 2 (.box 87 (.tmp 0)), o_e 3 (.box 87 (.tmp 1)), o_p 4 (.mv (.const (.int .i64 (0))))])
(.seq (.draw true
(.take (t_p 5 (.fieldAddr 0 (.tmp 2)))
(.take (t_p 7 (.fieldAddr 0 (.tmp 3)))
(.take (t_p 10 (.fieldAddr 1 (.tmp 2)))
(.take (t_p 12 (.fieldAddr 1 (.tmp 3)))
(.only false (t_l 6 5)
(.only false (t_l 8 7)
(.take (t_l 11 10)
(.take (t_l 13 12)
(.only false (t_e 9 (.call 92 [(.tmp 6), (.tmp 8)]))
(.only true (t_e 14 (.call 92 [(.tmp 11), (.tmp 13)]))
(.only true (t_e 15 (.row 3 2 [(.int .i64 (0)), (.int .i64 (0))] [(0, 1, (.tmp 9)), (1, 1, (.tmp 14))]))
(.only true (t_e 16 (.call 91 [(.tmp 15)]))
(.take (t_m 4 16)
(.done)))))))))))))))
(.ret)),
[.tmp 4]⟩
theorem r_impl_compareFogs : resFun Try.prog f_impl_compareFogs = some c_impl_compareFogs := by kernel_rfl

/- loop.example/g00940/impl.allWithin -/
abbrev f_impl_allWithin : Nat := 76
def c_impl_allWithin : MFun := ⟨21, .seq (.ops [ o_p 6 (.mv (.const (.bool false)))])
(.seq (.seq (.ops [ o_m 9 0, o_p 10 (.len (.tmp 9)), o_p 11 (.mv (.const (.int .i64 (0))))])
(.block 0 (.loop (.seq (.ops [ o_p 12 (.bin .lss (.tmp 11) (.tmp 10))])
(.seq (.cond (.tmp 12)
(.skip)
(.exit 0))
(.seq (.block 1 (.seq (.ops [ o_p 13 (.idx 1 (.tmp 9) (.tmp 11)), o_l 14 13, o_m 8 14])
(.seq (.ops [ o_m 15 8, o_m 16 1, o_m 17 2, o_e 18 (.call 38 [(.tmp 15), (.tmp 16), (.tmp 17)]), o_p 19 (.bnot (.tmp 18))])
(.cond (.tmp 19)
(.seq (.ops [ o_p 6 (.mv (.const (.bool false)))])
(.ret))
(.skip)))))
(.ops [ o_p 20 (.bin .add (.tmp 11) (.const (.int .i64 (1)))), o_m 11 20])))))))
(.seq (.ops [ o_p 6 (.mv (.const (.bool true)))])
(.ret))),
[.tmp 6]⟩
theorem r_impl_allWithin : resFun Try.prog f_impl_allWithin = some c_impl_allWithin := by kernel_rfl

/- slices.Contains[[]int,int] -/
abbrev f_slices_Contains_Lint_int : Nat := 77
def c_slices_Contains_Lint_int : MFun := ⟨9, .seq (.ops [ o_p 4 (.mv (.const (.bool false)))])
(.seq (.ops [ o_m 5 0, o_m 6 1, o_e 7 (.call 93 [(.tmp 5), (.tmp 6)]), o_p 8 (.bin .geq (.tmp 7) (.const (.int .i64 (0)))), o_m 4 8])
(.ret)),
[.tmp 4]⟩
theorem r_slices_Contains_Lint_int : resFun Try.prog f_slices_Contains_Lint_int = some c_slices_Contains_Lint_int := by kernel_rfl

/- slices.IndexFunc[[]loop.example/g00940/impl.Link,loop.example/g00940/impl.Link] -/
abbrev f_slices_IndexFunc_Limpl_Link_impl_Link : Nat := 78
def c_slices_IndexFunc_Limpl_Link_impl_Link : MFun := ⟨19, .seq (.ops [ o_p 4 (.mv (.const (.int .i64 (0))))])
(.seq (.seq (.ops [ o_m 6 0, o_p 7 (.len (.tmp 6)), o_p 8 (.mv (.const (.int .i64 (0))))])
(.block 0 (.loop (.seq (.ops [ o_p 9 (.bin .lss (.tmp 8) (.tmp 7))])
(.seq (.cond (.tmp 9)
(.skip)
(.exit 0))
(.seq (.block 1 (.seq (.ops [ o_m 10 8, o_m 5 10])
(.seq (.ops [ o_m 11 1, o_m 12 0, o_m 13 5, o_p 14 (.idx 3 (.tmp 12) (.tmp 13)),
.op ⟨(some 15), (.load (some 3) (.tmp 14)), none⟩, o_e 16 (.callv (.tmp 11) [(.tmp 15)])])
(.cond (.tmp 16)
(.seq (.ops [ o_m 17 5, o_m 4 17])
(.ret))
(.skip)))))
(.ops [ o_p 18 (.bin .add (.tmp 8) (.const (.int .i64 (1)))), o_m 8 18])))))))
(.seq (.ops [ o_p 4 (.mv (.const (.int .i64 (-1))))])
(.ret))),
[.tmp 4]⟩
theorem r_slices_IndexFunc_Limpl_Link_impl_Link : resFun Try.prog f_slices_IndexFunc_Limpl_Link_impl_Link = some c_slices_IndexFunc_Limpl_Link_impl_Link := by kernel_rfl

/- loop.example/g00940/impl.linkIndex$1 -/
abbrev f_impl_linkIndex_1 : Nat := 79
def c_impl_linkIndex_1 : MFun := ⟨19, .seq (.ops [ o_e 3 (.box 45 (.tmp 0)), o_p 4 (.mv (.const (.bool false)))])
(.seq (.ops [ o_p 5 (.fieldAddr 0 (.tmp 3)), o_l 6 5, o_l 7 1, o_l 8 2, o_p 9 (.min2 (.tmp 7) (.tmp 8)), o_p 10 (.bin .eql (.tmp 6) (.tmp 9)), o_m 11 10,
.split 11,
.op ⟨(some 12), (.pure (.fieldAddr 1 (.tmp 3))), (some (11, true))⟩,
.op ⟨(some 13), (.load none (.tmp 12)), (some (11, true))⟩,
.op ⟨(some 14), (.load none (.tmp 1)), (some (11, true))⟩,
.op ⟨(some 15), (.load none (.tmp 2)), (some (11, true))⟩,
.op ⟨(some 16), (.pure (.max2 (.tmp 14) (.tmp 15))), (some (11, true))⟩,
.op ⟨(some 17), (.pure (.bin .eql (.tmp 13) (.tmp 16))), (some (11, true))⟩, o_p 18 (.pick (.tmp 11) (.tmp 17) (.const (.bool false))), o_m 4 18])
(.ret)),
[.tmp 4]⟩
theorem r_impl_linkIndex_1 : resFun Try.prog f_impl_linkIndex_1 = some c_impl_linkIndex_1 := by kernel_rfl

/- loop.example/g00940/impl.startAfter -/
abbrev f_impl_startAfter : Nat := 80
def c_impl_startAfter : MFun := ⟨39, .seq (.ops [ o_p 8 (.mv (.const (.int .i64 (0))))])
(.seq (.seq (.ops [ o_m 11 0, o_p 12 (.len (.tmp 11)), o_p 13 (.mv (.const (.int .i64 (0))))])
(.block 0 (.loop (.seq (.ops [ o_p 14 (.bin .lss (.tmp 13) (.tmp 12))])
(.seq (.cond (.tmp 14)
(.skip)
(.exit 0))
(.seq (.block 1 (.seq (.ops [ o_p 15 (.idx 3 (.tmp 11) (.tmp 13)),
.op ⟨(some 16), (.load (some 3) (.tmp 15)), none⟩, o_e 10 (.new 87 [(.int .i64 (0)), (.int .i64 (0)), (.int .i64 (0))]),
.op ⟨none, (.eff (.store 3 (.tmp 10) (.tmp 16))), none⟩])
(.seq (.ops [ o_p 17 (.fieldAddr 0 (.tmp 10)), o_l 18 17, o_m 19 1, o_p 20 (.bin .eql (.tmp 18) (.tmp 19)), o_m 21 20,
.split 21,
.op ⟨(some 22), (.pure (.fieldAddr 2 (.tmp 10))), (some (21, true))⟩,
.op ⟨(some 23), (.load none (.tmp 22)), (some (21, true))⟩,
.op ⟨(some 24), (.pure (.mv (.tmp 2))), (some (21, true))⟩,
.op ⟨(some 25), (.pure (.bin .gtr (.tmp 23) (.tmp 24))), (some (21, true))⟩, o_p 26 (.pick (.tmp 21) (.tmp 25) (.const (.bool false))), o_m 27 26,
.split 27,
.op ⟨(some 28), (.pure (.fieldAddr 1 (.tmp 10))), (some (27, true))⟩,
.op ⟨(some 29), (.load none (.tmp 28)), (some (27, true))⟩,
.op ⟨(some 30), (.pure (.mv (.tmp 2))), (some (27, true))⟩,
.op ⟨(some 31), (.pure (.mv (.tmp 3))), (some (27, true))⟩,
.op ⟨(some 32), (.pure (.bin .add (.tmp 30) (.tmp 31))), (some (27, true))⟩,
.op ⟨(some 33), (.pure (.bin .lss (.tmp 29) (.tmp 32))), (some (27, true))⟩, o_p 34 (.pick (.tmp 27) (.tmp 33) (.const (.bool false)))])
(.cond (.tmp 34)
(.ops [ o_p 35 (.fieldAddr 2 (.tmp 10)), o_l 36 35, o_m 2 36])
(.skip)))))
(.ops [ o_p 37 (.bin .add (.tmp 13) (.const (.int .i64 (1)))), o_m 13 37])))))))
(.seq (.ops [ o_m 38 2, o_m 8 38])
(.ret))),
[.tmp 8]⟩
theorem r_impl_startAfter : resFun Try.prog f_impl_startAfter = some c_impl_startAfter := by kernel_rfl

/- loop.example/g00940/spec.roLinks -/
abbrev f_spec_roLinks : Nat := 81
def c_spec_roLinks : MFun := ⟨56, .seq (.ops [ o_e 2 (.box 26 (.tmp 0)), o_p 4 (.mv (.const (.slice none 0 0))), o_p 5 (.mv (.const (.bool false)))])
(.seq (.seq (.ops [ o_m 9 1, o_p 10 (.len (.tmp 9)), o_e 11 (.call 53 [(.tmp 10), (.const (.int .i64 (1))), (.const (.int .i64 (16)))]), o_p 12 (.bnot (.tmp 11)), o_m 13 12,
.split 13,
.op ⟨(some 14), (.pure (.mv (.tmp 1))), (some (13, false))⟩,
.op ⟨(some 15), (.pure (.fieldAddr 0 (.tmp 2))), (some (13, false))⟩,
.op ⟨(some 16), (.load none (.tmp 15)), (some (13, false))⟩,
.op ⟨(some 17), (.pure (.len (.tmp 16))), (some (13, false))⟩,
.op ⟨(some 18), (.pure (.bin .sub (.tmp 17) (.const (.int .i64 (1))))), (some (13, false))⟩,
.op ⟨(some 19), (.eff (.call 94 [(.tmp 14), (.const (.int .i64 (0))), (.tmp 18)])), (some (13, false))⟩,
.op ⟨(some 20), (.pure (.bnot (.tmp 19))), (some (13, false))⟩, o_p 21 (.pick (.tmp 13) (.const (.bool true)) (.tmp 20))])
(.cond (.tmp 21)
(.seq (.ops [ o_p 4 (.mv (.const (.slice none 0 0))), o_p 5 (.mv (.const (.bool false)))])
(.ret))
(.skip)))
(.seq (.ops [ o_p 6 (.mv (.const (.slice none 0 0)))])
(.seq (.seq (.ops [ o_p 7 (.mv (.const (.int .i64 (1))))])
(.block 0 (.loop (.seq (.seq (.ops [ o_m 22 7, o_m 23 1, o_p 24 (.len (.tmp 23)), o_p 25 (.bin .lss (.tmp 22) (.tmp 24))])
(.cond (.tmp 25)
(.skip)
(.exit 0)))
(.seq (.block 1 (.seq (.draw false
(.take (t_m 29 1)
(.take (t_m 30 7)
(.take (t_p 31 (.bin .sub (.tmp 30) (.const (.int .i64 (1)))))
(.take (t_p 32 (.idx 1 (.tmp 29) (.tmp 31)))
(.take (t_m 34 1)
(.take (t_m 35 7)
(.take (t_p 36 (.idx 1 (.tmp 34) (.tmp 35)))
(.only false ⟨(some 28), (.load (some 2) (.tmp 2)), none⟩
(.only false (t_l 33 32)
(.only false (t_l 37 36)
(.only true (t_e 38 (.call 55 [(.tmp 28), (.tmp 33), (.tmp 37)]))
(.take (t_m 8 38)
(.done))))))))))))))
(.seq (.seq (.draw false
(.take (t_m 39 8)
(.take (t_p 40 (.bin .lss (.tmp 39) (.const (.int .i64 (0)))))
(.take (t_m 41 40)
(.split 41
(.take ⟨(some 42), (.pure (.mv (.tmp 1))), (some (41, false))⟩
(.take ⟨(some 43), (.pure (.mv (.tmp 7))), (some (41, false))⟩
(.take ⟨(some 44), (.pure (.slc 1 (.tmp 42) none (some (.tmp 43)) none)), (some (41, false))⟩
(.take ⟨(some 45), (.pure (.mv (.tmp 1))), (some (41, false))⟩
(.take ⟨(some 46), (.pure (.mv (.tmp 7))), (some (41, false))⟩
(.take ⟨(some 47), (.pure (.idx 1 (.tmp 45) (.tmp 46))), (some (41, false))⟩
(.only false ⟨(some 48), (.load none (.tmp 47)), (some (41, false))⟩
(.only true ⟨(some 49), (.eff (.call 71 [(.tmp 44), (.tmp 48)])), (some (41, false))⟩
(.take (t_p 50 (.pick (.tmp 41) (.const (.bool true)) (.tmp 49)))
(.done)))))))))))))))
(.cond (.tmp 50)
(.seq (.ops [ o_p 4 (.mv (.const (.slice none 0 0))), o_p 5 (.mv (.const (.bool false)))])
(.ret))
(.skip)))
(.ops [ o_m 51 6, o_m 52 8, o_e 53 (.row 3 1 [(.int .i64 (0))] [(0, 1, (.tmp 52))]), o_e 54 (.app 3 1 8 (.tmp 51) (.tmp 53)), o_m 6 54]))))
(.ops [ o_m 26 7, o_p 27 (.bin .add (.tmp 26) (.const (.int .i64 (1)))), o_m 7 27]))))))
(.seq (.ops [ o_m 55 6, o_m 4 55, o_p 5 (.mv (.const (.bool true)))])
(.ret))))),
[.tmp 4, .tmp 5]⟩
theorem r_spec_roLinks : resFun Try.prog f_spec_roLinks = some c_spec_roLinks := by kernel_rfl

/- loop.example/g00940/spec.roOver -/
abbrev f_spec_roOver : Nat := 82
def c_spec_roOver : MFun := ⟨23, .seq (.ops [ o_e 4 (.box 26 (.tmp 0)), o_p 8 (.mv (.const (.int .i64 (0))))])
(.seq (.ops [ o_p 10 (.fieldAddr 1 (.tmp 4)), o_l 11 10, o_m 12 2, o_p 13 (.idx 3 (.tmp 11) (.tmp 12)), o_p 14 (.fieldAddr 2 (.tmp 13)), o_l 15 14, o_m 9 15])
(.seq (.ops [ o_m 16 1, o_m 17 2, o_m 18 3, o_m 19 9, o_e 20 (.call 95 [(.tmp 16), (.tmp 17), (.tmp 18), (.tmp 19)]), o_m 21 9, o_p 22 (.bin .add (.tmp 20) (.tmp 21)), o_m 8 22])
(.ret))),
[.tmp 8]⟩
theorem r_spec_roOver : resFun Try.prog f_spec_roOver = some c_spec_roOver := by kernel_rfl

/- slices.Delete[[]loop.example/g00940/impl.Link,loop.example/g00940/impl.Link] -/
/- slices.Clone[[]loop.example/g00940/impl.Link,loop.example/g00940/impl.Link] -/
/- (*loop.example/g00940/spec.l1Cur).net -/
abbrev f_spec_l1Cur_net : Nat := 85
def c_spec_l1Cur_net : MFun := ⟨88, .seq (.ops [ o_e 2 (.new 26 [(.slice none 0 0), (.slice none 0 0)])])
(.seq (.ops [ o_p 8 (.build [(.slice none 0 0), (.slice none 0 0)] []), o_e 3 (.new 26 [(.slice none 0 0), (.slice none 0 0)]),
.op ⟨none, (.eff (.store 2 (.tmp 3) (.tmp 8))), none⟩])
(.seq (.ops [ o_m 9 0, o_e 10 (.call 65 [(.tmp 9), (.const (.int .i64 (6)))]), o_p 11 (.bin .add (.const (.int .i64 (1))) (.tmp 10)), o_m 4 11])
(.seq (.seq (.ops [ o_m 12 0, o_e 13 (.call 64 [(.tmp 12), (.const (.int .i64 (24)))])])
(.cond (.tmp 13)
(.ops [ o_p 4 (.mv (.const (.int .i64 (16))))])
(.skip)))
(.seq (.block 0 (.loop (.seq (.seq (.ops [ o_p 14 (.fieldAddr 0 (.tmp 3)), o_l 15 14, o_p 16 (.len (.tmp 15)), o_m 17 4, o_p 18 (.bin .lss (.tmp 16) (.tmp 17))])
(.cond (.tmp 18)
(.skip)
(.exit 0)))
(.block 1 (.draw true
(.take (t_p 19 (.fieldAddr 0 (.tmp 3)))
(.take (t_m 21 0)
(.take (t_m 22 0)
(.take (t_m 26 0)
(.take (t_m 27 0)
(.take (t_m 31 0)
(.take (t_l 20 19)
(.fork
(.only false (t_e 23 (.call 65 [(.tmp 22), (.const (.int .i64 (400)))]))
(.fork
(.only false (t_e 24 (.row 3 5 [(.int .i64 (0)), (.int .i64 (0)), (.int .i64 (0)), (.int .i64 (0)), (.int .i64 (0))] [(0, 1, (.const (.int .i64 (0)))), (1, 1, (.const (.int .i64 (30)))), (2, 1, (.const (.int .i64 (100)))), (3, 1, (.const (.int .i64 (999)))), (4, 1, (.tmp 23))]))
(.fork
(.only false (t_e 25 (.call 72 [(.tmp 21), (.tmp 24)]))
(.fork
(.only false (t_e 28 (.call 65 [(.tmp 27), (.const (.int .i64 (400)))]))
(.fork
(.only false (t_e 29 (.row 3 4 [(.int .i64 (0)), (.int .i64 (0)), (.int .i64 (0)), (.int .i64 (0))] [(0, 1, (.const (.int .i64 (0)))), (1, 1, (.const (.int .i64 (40)))), (2, 1, (.const (.int .i64 (999)))), (3, 1, (.tmp 28))]))
(.fork
(.only false (t_e 30 (.call 72 [(.tmp 26), (.tmp 29)]))
(.only false (t_e 32 (.row 3 4 [(.int .i64 (0)), (.int .i64 (0)), (.int .i64 (0)), (.int .i64 (0))] [(0, 1, (.const (.int .i64 (0)))), (1, 1, (.const (.int .i64 (20)))), (2, 1, (.const (.int .i64 (120)))), (3, 1, (.const (.int .i64 (500))))]))
(.only false (t_e 33 (.call 72 [(.tmp 31), (.tmp 32)]))
(.take (t_p 34 (.build [(.int .i64 (0)), (.int .i64 (0)), (.int .i64 (0))] [(0, 1, (.tmp 25)), (1, 1, (.tmp 30)), (2, 1, (.tmp 33))]))
(.only false (t_e 35 (.row 84 1 [(.int .i64 (0)), (.int .i64 (0)), (.int .i64 (0))] [(0, 3, (.tmp 34))]))
(.only true (t_e 36 (.app 84 3 24 (.tmp 20) (.tmp 35)))
(.take (t_p 37 (.fieldAddr 0 (.tmp 3)))
(.only true ⟨none, (.eff (.store 1 (.tmp 37) (.tmp 36))), none⟩
(.done)))))))))
(.only false (t_e 32 (.row 3 4 [(.int .i64 (0)), (.int .i64 (0)), (.int .i64 (0)), (.int .i64 (0))] [(0, 1, (.const (.int .i64 (0)))), (1, 1, (.const (.int .i64 (20)))), (2, 1, (.const (.int .i64 (120)))), (3, 1, (.const (.int .i64 (500))))]))
(.only false (t_e 30 (.call 72 [(.tmp 26), (.tmp 29)]))
(.only false (t_e 33 (.call 72 [(.tmp 31), (.tmp 32)]))
(.take (t_p 34 (.build [(.int .i64 (0)), (.int .i64 (0)), (.int .i64 (0))] [(0, 1, (.tmp 25)), (1, 1, (.tmp 30)), (2, 1, (.tmp 33))]))
(.only false (t_e 35 (.row 84 1 [(.int .i64 (0)), (.int .i64 (0)), (.int .i64 (0))] [(0, 3, (.tmp 34))]))
(.only true (t_e 36 (.app 84 3 24 (.tmp 20) (.tmp 35)))
(.take (t_p 37 (.fieldAddr 0 (.tmp 3)))
(.only true ⟨none, (.eff (.store 1 (.tmp 37) (.tmp 36))), none⟩
(.done)))))))))))
(.only false (t_e 32 (.row 3 4 [(.int .i64 (0)), (.int .i64 (0)), (.int .i64 (0)), (.int .i64 (0))] [(0, 1, (.const (.int .i64 (0)))), (1, 1, (.const (.int .i64 (20)))), (2, 1, (.const (.int .i64 (120)))), (3, 1, (.const (.int .i64 (500))))]))
(.only false (t_e 29 (.row 3 4 [(.int .i64 (0)), (.int .i64 (0)), (.int .i64 (0)), (.int .i64 (0))] [(0, 1, (.const (.int .i64 (0)))), (1, 1, (.const (.int .i64 (40)))), (2, 1, (.const (.int .i64 (999)))), (3, 1, (.tmp 28))]))
(.only false (t_e 30 (.call 72 [(.tmp 26), (.tmp 29)]))
(.only false (t_e 33 (.call 72 [(.tmp 31), (.tmp 32)]))
(.take (t_p 34 (.build [(.int .i64 (0)), (.int .i64 (0)), (.int .i64 (0))] [(0, 1, (.tmp 25)), (1, 1, (.tmp 30)), (2, 1, (.tmp 33))]))
(.only false (t_e 35 (.row 84 1 [(.int .i64 (0)), (.int .i64 (0)), (.int .i64 (0))] [(0, 3, (.tmp 34))]))
(.only true (t_e 36 (.app 84 3 24 (.tmp 20) (.tmp 35)))
(.take (t_p 37 (.fieldAddr 0 (.tmp 3)))
(.only true ⟨none, (.eff (.store 1 (.tmp 37) (.tmp 36))), none⟩
(.done))))))))))))
(.only false (t_e 32 (.row 3 4 [(.int .i64 (0)), (.int .i64 (0)), (.int .i64 (0)), (.int .i64 (0))] [(0, 1, (.const (.int .i64 (0)))), (1, 1, (.const (.int .i64 (20)))), (2, 1, (.const (.int .i64 (120)))), (3, 1, (.const (.int .i64 (500))))]))
(.only false (t_e 28 (.call 65 [(.tmp 27), (.const (.int .i64 (400)))]))
(.only false (t_e 29 (.row 3 4 [(.int .i64 (0)), (.int .i64 (0)), (.int .i64 (0)), (.int .i64 (0))] [(0, 1, (.const (.int .i64 (0)))), (1, 1, (.const (.int .i64 (40)))), (2, 1, (.const (.int .i64 (999)))), (3, 1, (.tmp 28))]))
(.only false (t_e 30 (.call 72 [(.tmp 26), (.tmp 29)]))
(.only false (t_e 33 (.call 72 [(.tmp 31), (.tmp 32)]))
(.take (t_p 34 (.build [(.int .i64 (0)), (.int .i64 (0)), (.int .i64 (0))] [(0, 1, (.tmp 25)), (1, 1, (.tmp 30)), (2, 1, (.tmp 33))]))
(.only false (t_e 35 (.row 84 1 [(.int .i64 (0)), (.int .i64 (0)), (.int .i64 (0))] [(0, 3, (.tmp 34))]))
(.only true (t_e 36 (.app 84 3 24 (.tmp 20) (.tmp 35)))
(.take (t_p 37 (.fieldAddr 0 (.tmp 3)))
(.only true ⟨none, (.eff (.store 1 (.tmp 37) (.tmp 36))), none⟩
(.done)))))))))))))
(.only false (t_e 32 (.row 3 4 [(.int .i64 (0)), (.int .i64 (0)), (.int .i64 (0)), (.int .i64 (0))] [(0, 1, (.const (.int .i64 (0)))), (1, 1, (.const (.int .i64 (20)))), (2, 1, (.const (.int .i64 (120)))), (3, 1, (.const (.int .i64 (500))))]))
(.only false (t_e 25 (.call 72 [(.tmp 21), (.tmp 24)]))
(.only false (t_e 28 (.call 65 [(.tmp 27), (.const (.int .i64 (400)))]))
(.only false (t_e 29 (.row 3 4 [(.int .i64 (0)), (.int .i64 (0)), (.int .i64 (0)), (.int .i64 (0))] [(0, 1, (.const (.int .i64 (0)))), (1, 1, (.const (.int .i64 (40)))), (2, 1, (.const (.int .i64 (999)))), (3, 1, (.tmp 28))]))
(.only false (t_e 30 (.call 72 [(.tmp 26), (.tmp 29)]))
(.only false (t_e 33 (.call 72 [(.tmp 31), (.tmp 32)]))
(.take (t_p 34 (.build [(.int .i64 (0)), (.int .i64 (0)), (.int .i64 (0))] [(0, 1, (.tmp 25)), (1, 1, (.tmp 30)), (2, 1, (.tmp 33))]))
(.only false (t_e 35 (.row 84 1 [(.int .i64 (0)), (.int .i64 (0)), (.int .i64 (0))] [(0, 3, (.tmp 34))]))
(.only true (t_e 36 (.app 84 3 24 (.tmp 20) (.tmp 35)))
(.take (t_p 37 (.fieldAddr 0 (.tmp 3)))
(.only true ⟨none, (.eff (.store 1 (.tmp 37) (.tmp 36))), none⟩
(.done))))))))))))))
(.only false (t_e 32 (.row 3 4 [(.int .i64 (0)), (.int .i64 (0)), (.int .i64 (0)), (.int .i64 (0))] [(0, 1, (.const (.int .i64 (0)))), (1, 1, (.const (.int .i64 (20)))), (2, 1, (.const (.int .i64 (120)))), (3, 1, (.const (.int .i64 (500))))]))
(.only false (t_e 24 (.row 3 5 [(.int .i64 (0)), (.int .i64 (0)), (.int .i64 (0)), (.int .i64 (0)), (.int .i64 (0))] [(0, 1, (.const (.int .i64 (0)))), (1, 1, (.const (.int .i64 (30)))), (2, 1, (.const (.int .i64 (100)))), (3, 1, (.const (.int .i64 (999)))), (4, 1, (.tmp 23))]))
(.only false (t_e 25 (.call 72 [(.tmp 21), (.tmp 24)]))
(.only false (t_e 28 (.call 65 [(.tmp 27), (.const (.int .i64 (400)))]))
(.only false (t_e 29 (.row 3 4 [(.int .i64 (0)), (.int .i64 (0)), (.int .i64 (0)), (.int .i64 (0))] [(0, 1, (.const (.int .i64 (0)))), (1, 1, (.const (.int .i64 (40)))), (2, 1, (.const (.int .i64 (999)))), (3, 1, (.tmp 28))]))
(.only false (t_e 30 (.call 72 [(.tmp 26), (.tmp 29)]))
(.only false (t_e 33 (.call 72 [(.tmp 31), (.tmp 32)]))
(.take (t_p 34 (.build [(.int .i64 (0)), (.int .i64 (0)), (.int .i64 (0))] [(0, 1, (.tmp 25)), (1, 1, (.tmp 30)), (2, 1, (.tmp 33))]))
(.only false (t_e 35 (.row 84 1 [(.int .i64 (0)), (.int .i64 (0)), (.int .i64 (0))] [(0, 3, (.tmp 34))]))
(.only true (t_e 36 (.app 84 3 24 (.tmp 20) (.tmp 35)))
(.take (t_p 37 (.fieldAddr 0 (.tmp 3)))
(.only true ⟨none, (.eff (.store 1 (.tmp 37) (.tmp 36))), none⟩
(.done)))))))))))))))
(.only false (t_e 32 (.row 3 4 [(.int .i64 (0)), (.int .i64 (0)), (.int .i64 (0)), (.int .i64 (0))] [(0, 1, (.const (.int .i64 (0)))), (1, 1, (.const (.int .i64 (20)))), (2, 1, (.const (.int .i64 (120)))), (3, 1, (.const (.int .i64 (500))))]))
(.only false (t_e 23 (.call 65 [(.tmp 22), (.const (.int .i64 (400)))]))
(.only false (t_e 24 (.row 3 5 [(.int .i64 (0)), (.int .i64 (0)), (.int .i64 (0)), (.int .i64 (0)), (.int .i64 (0))] [(0, 1, (.const (.int .i64 (0)))), (1, 1, (.const (.int .i64 (30)))), (2, 1, (.const (.int .i64 (100)))), (3, 1, (.const (.int .i64 (999)))), (4, 1, (.tmp 23))]))
(.only false (t_e 25 (.call 72 [(.tmp 21), (.tmp 24)]))
(.only false (t_e 28 (.call 65 [(.tmp 27), (.const (.int .i64 (400)))]))
(.only false (t_e 29 (.row 3 4 [(.int .i64 (0)), (.int .i64 (0)), (.int .i64 (0)), (.int .i64 (0))] [(0, 1, (.const (.int .i64 (0)))), (1, 1, (.const (.int .i64 (40)))), (2, 1, (.const (.int .i64 (999)))), (3, 1, (.tmp 28))]))
(.only false (t_e 30 (.call 72 [(.tmp 26), (.tmp 29)]))
(.only false (t_e 33 (.call 72 [(.tmp 31), (.tmp 32)]))
(.take (t_p 34 (.build [(.int .i64 (0)), (.int .i64 (0)), (.int .i64 (0))] [(0, 1, (.tmp 25)), (1, 1, (.tmp 30)), (2, 1, (.tmp 33))]))
(.only false (t_e 35 (.row 84 1 [(.int .i64 (0)), (.int .i64 (0)), (.int .i64 (0))] [(0, 3, (.tmp 34))]))
(.only true (t_e 36 (.app 84 3 24 (.tmp 20) (.tmp 35)))
(.take (t_p 37 (.fieldAddr 0 (.tmp 3)))
(.only true ⟨none, (.eff (.store 1 (.tmp 37) (.tmp 36))), none⟩
(.done)))))))))))))))))))))))))))
(.seq (.ops [ o_m 38 0, o_e 39 (.row 3 3 [(.int .i64 (0)), (.int .i64 (0)), (.int .i64 (0))] [(0, 1, (.const (.int .i64 (2)))), (1, 1, (.const (.int .i64 (2)))), (2, 1, (.const (.int .i64 (3))))]), o_e 40 (.call 72 [(.tmp 38), (.tmp 39)]), o_m 5 40])
(.seq (.seq (.ops [ o_p 6 (.mv (.const (.int .i64 (0))))])
(.block 2 (.loop (.seq (.seq (.ops [ o_m 41 6, o_m 42 4, o_p 43 (.bin .lss (.tmp 41) (.tmp 42))])
(.cond (.tmp 43)
(.skip)
(.exit 2)))
(.seq (.block 3 (.seq (.ops [ o_m 46 6, o_p 47 (.bin .add (.tmp 46) (.const (.int .i64 (1)))), o_m 7 47])
(.block 4 (.loop (.seq (.seq (.ops [ o_m 48 7, o_m 49 4, o_p 50 (.bin .lss (.tmp 48) (.tmp 49)), o_m 51 50,
.split 51,
.op ⟨(some 52), (.pure (.fieldAddr 1 (.tmp 3))), (some (51, true))⟩,
.op ⟨(some 53), (.load none (.tmp 52)), (some (51, true))⟩,
.op ⟨(some 54), (.pure (.len (.tmp 53))), (some (51, true))⟩,
.op ⟨(some 55), (.pure (.bin .lss (.tmp 54) (.const (.int .i64 (40))))), (some (51, true))⟩, o_p 56 (.pick (.tmp 51) (.tmp 55) (.const (.bool false)))])
(.cond (.tmp 56)
(.skip)
(.exit 4)))
(.seq (.block 5 (.seq (.ops [ o_m 59 0, o_m 60 5, o_e 61 (.call 64 [(.tmp 59), (.tmp 60)]), o_m 62 61,
.split 62,
.op ⟨(some 63), (.pure (.mv (.tmp 7))), (some (62, false))⟩,
.op ⟨(some 64), (.pure (.mv (.tmp 6))), (some (62, false))⟩,
.op ⟨(some 65), (.pure (.bin .add (.tmp 64) (.const (.int .i64 (1))))), (some (62, false))⟩,
.op ⟨(some 66), (.pure (.bin .eql (.tmp 63) (.tmp 65))), (some (62, false))⟩,
.op ⟨(some 67), (.pure (.mv (.tmp 66))), (some (62, false))⟩,
.split 67,
.op ⟨(some 68), (.pure (.mv (.tmp 0))), (some (67, true))⟩,
.op ⟨(some 69), (.eff (.call 64 [(.tmp 68), (.const (.int .i64 (8)))])), (some (67, true))⟩,
.op ⟨(some 70), (.pure (.bnot (.tmp 69))), (some (67, true))⟩,
.op ⟨(some 71), (.pure (.pick (.tmp 67) (.tmp 70) (.const (.bool false)))), (some (62, false))⟩, o_p 72 (.pick (.tmp 62) (.const (.bool true)) (.tmp 71))])
(.cond (.tmp 72)
(.draw true
(.take (t_p 73 (.fieldAddr 1 (.tmp 3)))
(.take (t_m 75 6)
(.take (t_m 76 7)
(.take (t_m 77 0)
(.take (t_m 78 0)
(.take (t_l 74 73)
(.only false (t_e 79 (.call 65 [(.tmp 78), (.const (.int .i64 (30)))]))
(.take (t_p 80 (.bin .add (.const (.int .i64 (1))) (.tmp 79)))
(.only false (t_e 81 (.row 3 6 [(.int .i64 (0)), (.int .i64 (0)), (.int .i64 (0)), (.int .i64 (0)), (.int .i64 (0)), (.int .i64 (0))] [(0, 1, (.const (.int .i64 (1)))), (1, 1, (.const (.int .i64 (5)))), (2, 1, (.const (.int .i64 (10)))), (3, 1, (.const (.int .i64 (10)))), (4, 1, (.const (.int .i64 (60)))), (5, 1, (.tmp 80))]))
(.only false (t_e 82 (.call 72 [(.tmp 77), (.tmp 81)]))
(.take (t_p 83 (.build [(.int .i64 (0)), (.int .i64 (0)), (.int .i64 (0))] [(0, 1, (.tmp 75)), (1, 1, (.tmp 76)), (2, 1, (.tmp 82))]))
(.only false (t_e 84 (.row 45 1 [(.int .i64 (0)), (.int .i64 (0)), (.int .i64 (0))] [(0, 3, (.tmp 83))]))
(.only true (t_e 85 (.app 45 3 24 (.tmp 74) (.tmp 84)))
(.take (t_p 86 (.fieldAddr 1 (.tmp 3)))
(.only true ⟨none, (.eff (.store 1 (.tmp 86) (.tmp 85))), none⟩
(.done)))))))))))))))))
(.skip))))
(.ops [ o_m 57 7, o_p 58 (.bin .add (.tmp 57) (.const (.int .i64 (1)))), o_m 7 58])))))))
(.ops [ o_m 44 6, o_p 45 (.bin .add (.tmp 44) (.const (.int .i64 (1)))), o_m 6 45]))))))
(.seq (.ops [
.op ⟨(some 87), (.load (some 2) (.tmp 3)), none⟩,
.op ⟨none, (.eff (.store 2 (.tmp 2) (.tmp 87))), none⟩])
(.ret)))))))),
[.cell 2 (some 2)]⟩
theorem r_spec_l1Cur_net : resFun Try.prog f_spec_l1Cur_net = some c_spec_l1Cur_net := by kernel_rfl

/- loop.example/g00940/spec.neBefore -/
abbrev f_spec_neBefore : Nat := 86
def c_spec_neBefore : MFun := ⟨24, .seq (.ops [ o_e 2 (.box 45 (.tmp 0)), o_e 3 (.box 45 (.tmp 1)), o_p 4 (.mv (.const (.bool false)))])
(.seq (.ops [ o_p 5 (.fieldAddr 0 (.tmp 2)), o_l 6 5, o_p 7 (.fieldAddr 0 (.tmp 3)), o_l 8 7, o_p 9 (.bin .lss (.tmp 6) (.tmp 8)), o_m 10 9,
.split 10,
.op ⟨(some 11), (.pure (.fieldAddr 0 (.tmp 2))), (some (10, false))⟩,
.op ⟨(some 12), (.load none (.tmp 11)), (some (10, false))⟩,
.op ⟨(some 13), (.pure (.fieldAddr 0 (.tmp 3))), (some (10, false))⟩,
.op ⟨(some 14), (.load none (.tmp 13)), (some (10, false))⟩,
.op ⟨(some 15), (.pure (.bin .eql (.tmp 12) (.tmp 14))), (some (10, false))⟩,
.op ⟨(some 16), (.pure (.mv (.tmp 15))), (some (10, false))⟩,
.split 16,
.op ⟨(some 17), (.pure (.fieldAddr 1 (.tmp 2))), (some (16, true))⟩,
.op ⟨(some 18), (.load none (.tmp 17)), (some (16, true))⟩,
.op ⟨(some 19), (.pure (.fieldAddr 1 (.tmp 3))), (some (16, true))⟩,
.op ⟨(some 20), (.load none (.tmp 19)), (some (16, true))⟩,
.op ⟨(some 21), (.pure (.bin .lss (.tmp 18) (.tmp 20))), (some (16, true))⟩,
.op ⟨(some 22), (.pure (.pick (.tmp 16) (.tmp 21) (.const (.bool false)))), (some (10, false))⟩, o_p 23 (.pick (.tmp 10) (.const (.bool true)) (.tmp 22)), o_m 4 23])
(.ret)),
[.tmp 4]⟩
theorem r_spec_neBefore : resFun Try.prog f_spec_neBefore = some c_spec_neBefore := by kernel_rfl
end Go.Proofs.Ytgbaonaopkdlpaa

