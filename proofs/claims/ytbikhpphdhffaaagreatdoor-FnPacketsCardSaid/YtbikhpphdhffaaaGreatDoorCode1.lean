/- The code of this seat's functions, resolved, written by a program of mine; each is held against the given program by the kernel. Condition: none. -/
import Derived.Test.YtbikhpphdhffaaaGreatDoorProg
import Derived.Test.YtbikhpphdhffaaaGreatDoorBase9
import Derived.KernelRfl
namespace Go.Proofs.YtbikhpphdhffaaaGreatDoor
open Go.Vc

/- slices.Clone[[]int,int] -/
abbrev f_slices_Clone_Lint_int : Nat := 29
def c_slices_Clone_Lint_int : MFun := ⟨8, .seq (.ops [ o_p 2 (.mv (.const (.slice none 0 0)))])
(.seq (.seq (.ops [ o_m 3 0, o_p 4 (.isnil false (.tmp 3))])
(.cond (.tmp 4)
(.seq (.ops [ o_p 2 (.mv (.const (.slice none 0 0)))])
(.ret))
(.skip)))
(.seq (.ops [ o_e 5 (.row 3 0 [] []), o_m 6 0, o_e 7 (.app 3 1 8 (.tmp 5) (.tmp 6)), o_m 2 7])
(.ret))),
[.tmp 2]⟩
theorem r_slices_Clone_Lint_int : resFun Tryz.prog f_slices_Clone_Lint_int = some c_slices_Clone_Lint_int := by kernel_rfl

/- loop.example/g00940/spec.pkMessage -/
abbrev f_spec_pkMessage : Nat := 30
def c_spec_pkMessage : MFun := ⟨5, .seq (.ops [ o_p 2 (.mv (.const (.bool false)))])
(.seq (.ops [ o_m 3 0, o_e 4 (.call 31 [(.tmp 3), (.const (.int .i64 (1))), (.const (.int .i64 (999)))]), o_m 2 4])
(.ret)),
[.tmp 2]⟩
theorem r_spec_pkMessage : resFun Tryz.prog f_spec_pkMessage = some c_spec_pkMessage := by kernel_rfl

/- loop.example/g00940/spec.l1In -/
abbrev f_spec_l1In : Nat := 31
def c_spec_l1In : MFun := ⟨15, .seq (.ops [ o_p 6 (.mv (.const (.bool false)))])
(.seq (.ops [ o_m 7 0, o_m 8 1, o_p 9 (.bin .geq (.tmp 7) (.tmp 8)), o_m 10 9,
.split 10,
.op ⟨(some 11), (.pure (.mv (.tmp 0))), (some (10, true))⟩,
.op ⟨(some 12), (.pure (.mv (.tmp 2))), (some (10, true))⟩,
.op ⟨(some 13), (.pure (.bin .leq (.tmp 11) (.tmp 12))), (some (10, true))⟩, o_p 14 (.pick (.tmp 10) (.tmp 13) (.const (.bool false))), o_m 6 14])
(.ret)),
[.tmp 6]⟩
theorem r_spec_l1In : resFun Tryz.prog f_spec_l1In = some c_spec_l1In := by kernel_rfl

/- loop.example/g00940/spec.l1All -/
abbrev f_spec_l1All : Nat := 32
def c_spec_l1All : MFun := ⟨21, .seq (.ops [ o_p 6 (.mv (.const (.bool false)))])
(.seq (.seq (.ops [ o_m 9 0, o_p 10 (.len (.tmp 9)), o_p 11 (.mv (.const (.int .i64 (0))))])
(.block 0 (.loop (.seq (.ops [ o_p 12 (.bin .lss (.tmp 11) (.tmp 10))])
(.seq (.cond (.tmp 12)
(.skip)
(.exit 0))
(.seq (.block 1 (.seq (.ops [ o_p 13 (.idx 1 (.tmp 9) (.tmp 11)), o_l 14 13, o_m 8 14])
(.seq (.ops [ o_m 15 8, o_m 16 1, o_m 17 2, o_e 18 (.call 31 [(.tmp 15), (.tmp 16), (.tmp 17)]), o_p 19 (.bnot (.tmp 18))])
(.cond (.tmp 19)
(.seq (.ops [ o_p 6 (.mv (.const (.bool false)))])
(.ret))
(.skip)))))
(.ops [ o_p 20 (.bin .add (.tmp 11) (.const (.int .i64 (1)))), o_m 11 20])))))))
(.seq (.ops [ o_p 6 (.mv (.const (.bool true)))])
(.ret))),
[.tmp 6]⟩
theorem r_spec_l1All : resFun Tryz.prog f_spec_l1All = some c_spec_l1All := by kernel_rfl

/- loop.example/g00940/spec.pkSplit -/
abbrev f_spec_pkSplit : Nat := 33
def c_spec_pkSplit : MFun := ⟨45, .seq (.ops [ o_p 6 (.mv (.const (.slice none 0 0)))])
(.seq (.ops [ o_m 11 1, o_p 12 (.len (.tmp 11)), o_m 13 2, o_p 14 (.bin .add (.tmp 12) (.tmp 13)), o_p 15 (.bin .sub (.tmp 14) (.const (.int .i64 (1)))), o_m 16 2, o_p 17 (.bin .quo (.tmp 15) (.tmp 16)), o_m 7 17])
(.seq (.ops [ o_p 8 (.mv (.const (.slice none 0 0)))])
(.seq (.seq (.ops [ o_p 9 (.mv (.const (.int .i64 (0))))])
(.block 0 (.loop (.seq (.seq (.ops [ o_m 18 9, o_m 19 7, o_p 20 (.bin .lss (.tmp 18) (.tmp 19))])
(.cond (.tmp 20)
(.skip)
(.exit 0)))
(.seq (.block 1 (.seq (.ops [ o_m 23 1, o_p 24 (.len (.tmp 23)), o_m 25 9, o_p 26 (.bin .add (.tmp 25) (.const (.int .i64 (1)))), o_m 27 2, o_p 28 (.bin .mul (.tmp 26) (.tmp 27)), o_e 29 (.call 56 [(.tmp 24), (.tmp 28)]), o_m 10 29])
(.ops [ o_m 30 8, o_m 31 0, o_m 32 9, o_m 33 7, o_m 34 1, o_m 35 9, o_m 36 2, o_p 37 (.bin .mul (.tmp 35) (.tmp 36)), o_m 38 10, o_p 39 (.slc 1 (.tmp 34) (some (.tmp 37)) (some (.tmp 38)) none), o_e 40 (.call 57 [(.tmp 39)]), o_p 41 (.build [(.int .i64 (0)), (.int .i64 (0)), (.int .i64 (0)), (.slice none 0 0)] [(0, 1, (.tmp 31)), (1, 1, (.tmp 32)), (2, 1, (.tmp 33)), (3, 1, (.tmp 40))]), o_e 42 (.row 32 1 [(.int .i64 (0)), (.int .i64 (0)), (.int .i64 (0)), (.slice none 0 0)] [(0, 4, (.tmp 41))]), o_e 43 (.app 32 4 48 (.tmp 30) (.tmp 42)), o_m 8 43])))
(.ops [ o_m 21 9, o_p 22 (.bin .add (.tmp 21) (.const (.int .i64 (1)))), o_m 9 22]))))))
(.seq (.ops [ o_m 44 8, o_m 6 44])
(.ret))))),
[.tmp 6]⟩
theorem r_spec_pkSplit : resFun Tryz.prog f_spec_pkSplit = some c_spec_pkSplit := by kernel_rfl

/- loop.example/g00940/impl.joinNumbers -/
abbrev f_impl_joinNumbers : Nat := 34
def c_impl_joinNumbers : MFun := ⟨27, .seq (.ops [
.op ⟨(some 4), (.pure (.mv (.const (.string ⟨#[]⟩)))), none⟩])
(.seq (.ops [ o_m 8 0, o_p 9 (.len (.tmp 8)),
.op ⟨(some 10), (.eff (.mk 9 1 16 [(.string ⟨#[]⟩)] (.tmp 9) (.tmp 9))), none⟩, o_m 5 10])
(.seq (.seq (.ops [ o_m 11 0, o_p 12 (.len (.tmp 11)), o_p 13 (.mv (.const (.int .i64 (0))))])
(.block 0 (.loop (.seq (.ops [ o_p 14 (.bin .lss (.tmp 13) (.tmp 12))])
(.seq (.cond (.tmp 14)
(.skip)
(.exit 0))
(.seq (.block 1 (.seq (.ops [ o_m 15 13, o_p 16 (.idx 1 (.tmp 11) (.tmp 13)), o_l 17 16, o_m 6 15, o_m 7 17])
(.ops [ o_m 18 5, o_m 19 6, o_m 20 7, o_e 21 (.call 58 [(.tmp 20)]), o_p 22 (.idx 1 (.tmp 18) (.tmp 19)),
.op ⟨none, (.eff (.store 1 (.tmp 22) (.tmp 21))), none⟩])))
(.ops [ o_p 23 (.bin .add (.tmp 13) (.const (.int .i64 (1)))), o_m 13 23])))))))
(.seq (.ops [ o_m 24 5, o_m 25 1, o_e 26 (.call 59 [(.tmp 24), (.tmp 25)]), o_m 4 26])
(.ret)))),
[.tmp 4]⟩
theorem r_impl_joinNumbers : resFun Tryz.prog f_impl_joinNumbers = some c_impl_joinNumbers := by kernel_rfl

/- strings.Cut -/
abbrev f_strings_Cut : Nat := 35
def c_strings_Cut : MFun := ⟨13, .seq (.ops [
.op ⟨(some 4), (.pure (.mv (.const (.string ⟨#[]⟩)))), none⟩,
.op ⟨(some 5), (.pure (.mv (.const (.string ⟨#[]⟩)))), none⟩, o_p 6 (.mv (.const (.bool false)))])
(.seq (.ops [ o_m 7 0, o_m 8 1, o_e 9 (.call 60 [(.tmp 7), (.tmp 8)]), o_p 10 (.ext 0 (.tmp 9)), o_p 11 (.ext 1 (.tmp 9)), o_p 12 (.ext 2 (.tmp 9)), o_m 4 10, o_m 5 11, o_m 6 12])
(.ret)),
[.tmp 4, .tmp 5, .tmp 6]⟩
theorem r_strings_Cut : resFun Tryz.prog f_strings_Cut = some c_strings_Cut := by kernel_rfl

/- loop.example/g00940/impl.splitNumbers -/
abbrev f_impl_splitNumbers : Nat := 36
def c_impl_splitNumbers : MFun := ⟨32, .seq (.ops [ o_p 4 (.mv (.const (.slice none 0 0))), o_p 5 (.mv (.const (.bool false)))])
(.seq (.ops [ o_p 6 (.mv (.const (.slice none 0 0)))])
(.seq (.seq (.ops [ o_m 11 0, o_m 12 1, o_e 13 (.call 61 [(.tmp 11), (.tmp 12)]), o_p 14 (.len (.tmp 13)), o_p 15 (.mv (.const (.int .i64 (0))))])
(.block 0 (.loop (.seq (.ops [ o_p 16 (.bin .lss (.tmp 15) (.tmp 14))])
(.seq (.cond (.tmp 16)
(.skip)
(.exit 0))
(.seq (.block 1 (.seq (.ops [ o_p 17 (.idx 1 (.tmp 13) (.tmp 15)), o_l 18 17, o_m 8 18])
(.seq (.ops [ o_m 20 8, o_e 21 (.call 62 [(.tmp 20)]), o_m 19 21, o_p 22 (.ext 0 (.tmp 19)), o_p 23 (.ext 1 (.tmp 19)), o_m 9 22, o_m 10 23])
(.seq (.seq (.ops [ o_m 24 10, o_p 25 (.bnot (.tmp 24))])
(.cond (.tmp 25)
(.seq (.ops [ o_p 4 (.mv (.const (.slice none 0 0))), o_p 5 (.mv (.const (.bool false)))])
(.ret))
(.skip)))
(.ops [ o_m 26 6, o_m 27 9, o_e 28 (.row 3 1 [(.int .i64 (0))] [(0, 1, (.tmp 27))]), o_e 29 (.app 3 1 8 (.tmp 26) (.tmp 28)), o_m 6 29])))))
(.ops [ o_p 30 (.bin .add (.tmp 15) (.const (.int .i64 (1)))), o_m 15 30])))))))
(.seq (.ops [ o_m 31 6, o_m 4 31, o_p 5 (.mv (.const (.bool true)))])
(.ret)))),
[.tmp 4, .tmp 5]⟩
theorem r_impl_splitNumbers : resFun Tryz.prog f_impl_splitNumbers = some c_impl_splitNumbers := by kernel_rfl

/- loop.example/g00940/impl.packetsOf -/
abbrev f_impl_packetsOf : Nat := 37
def c_impl_packetsOf : MFun := ⟨39, .seq (.ops [ o_p 4 (.mv (.const (.slice none 0 0))), o_p 5 (.mv (.const (.bool false)))])
(.seq (.seq (.ops [ o_m 9 0, o_e 10 (.call 63 [(.tmp 9)]), o_p 11 (.bnot (.tmp 10)), o_m 12 11,
.split 12,
.op ⟨(some 13), (.pure (.mv (.tmp 1))), (some (12, false))⟩,
.op ⟨(some 14), (.eff (.call 27 [(.tmp 13), (.const (.int .i64 (1))), (.const (.int .i64 (999)))])), (some (12, false))⟩,
.op ⟨(some 15), (.pure (.bnot (.tmp 14))), (some (12, false))⟩, o_p 16 (.pick (.tmp 12) (.const (.bool true)) (.tmp 15))])
(.cond (.tmp 16)
(.seq (.ops [ o_p 4 (.mv (.const (.slice none 0 0))), o_p 5 (.mv (.const (.bool false)))])
(.ret))
(.skip)))
(.seq (.ops [ o_p 6 (.mv (.const (.slice none 0 0)))])
(.seq (.seq (.ops [ o_m 17 0, o_p 18 (.len (.tmp 17)), o_p 19 (.mv (.const (.int .i64 (0))))])
(.block 0 (.loop (.seq (.ops [ o_p 20 (.bin .lss (.tmp 19) (.tmp 18))])
(.seq (.cond (.tmp 20)
(.skip)
(.exit 0))
(.seq (.block 1 (.seq (.ops [ o_p 21 (.idx 4 (.tmp 17) (.tmp 19)),
.op ⟨(some 22), (.load (some 4) (.tmp 21)), none⟩, o_e 8 (.new 32 [(.int .i64 (0)), (.int .i64 (0)), (.int .i64 (0)), (.slice none 0 0)]),
.op ⟨none, (.eff (.store 4 (.tmp 8) (.tmp 22))), none⟩])
(.seq (.seq (.ops [ o_p 23 (.fieldAddr 0 (.tmp 8)), o_l 24 23, o_m 25 1, o_p 26 (.bin .neq (.tmp 24) (.tmp 25))])
(.cond (.tmp 26)
(.exit 1)
(.skip)))
(.seq (.seq (.ops [ o_m 27 6, o_p 28 (.mkfn (.func 65) [] [(.tmp 8)]), o_e 29 (.call 64 [(.tmp 27), (.tmp 28)])])
(.cond (.tmp 29)
(.seq (.ops [ o_p 4 (.mv (.const (.slice none 0 0))), o_p 5 (.mv (.const (.bool false)))])
(.ret))
(.skip)))
(.ops [ o_m 30 6,
.op ⟨(some 31), (.load (some 4) (.tmp 8)), none⟩, o_e 32 (.row 32 1 [(.int .i64 (0)), (.int .i64 (0)), (.int .i64 (0)), (.slice none 0 0)] [(0, 4, (.tmp 31))]), o_e 33 (.app 32 4 48 (.tmp 30) (.tmp 32)), o_m 6 33])))))
(.ops [ o_p 34 (.bin .add (.tmp 19) (.const (.int .i64 (1)))), o_m 19 34])))))))
(.seq (.ops [ o_m 35 6, o_m 36 6, o_p 37 (.len (.tmp 36)), o_p 38 (.bin .gtr (.tmp 37) (.const (.int .i64 (0)))), o_m 4 35, o_m 5 38])
(.ret))))),
[.tmp 4, .tmp 5]⟩
theorem r_impl_packetsOf : resFun Tryz.prog f_impl_packetsOf = some c_impl_packetsOf := by kernel_rfl

/- loop.example/g00940/impl.missingParts -/
abbrev f_impl_missingParts : Nat := 38
def c_impl_missingParts : MFun := ⟨22, .seq (.ops [ o_p 2 (.mv (.const (.slice none 0 0)))])
(.seq (.ops [ o_p 3 (.mv (.const (.slice none 0 0)))])
(.seq (.seq (.ops [ o_m 5 0, o_p 6 (.idx 4 (.tmp 5) (.const (.int .i64 (0)))), o_p 7 (.fieldAddr 2 (.tmp 6)), o_l 8 7, o_p 9 (.mv (.const (.int .i64 (0))))])
(.block 0 (.loop (.seq (.ops [ o_p 10 (.bin .lss (.tmp 9) (.tmp 8))])
(.seq (.cond (.tmp 10)
(.skip)
(.exit 0))
(.seq (.block 1 (.seq (.ops [ o_m 11 9, o_e 4 (.new 3 [(.int .i64 (0))]),
.op ⟨none, (.eff (.store 1 (.tmp 4) (.tmp 11))), none⟩])
(.seq (.ops [ o_m 12 0, o_p 13 (.mkfn (.func 67) [] [(.tmp 4)]), o_e 14 (.call 64 [(.tmp 12), (.tmp 13)]), o_p 15 (.bnot (.tmp 14))])
(.cond (.tmp 15)
(.ops [ o_m 16 3, o_l 17 4, o_e 18 (.row 3 1 [(.int .i64 (0))] [(0, 1, (.tmp 17))]), o_e 19 (.app 3 1 8 (.tmp 16) (.tmp 18)), o_m 3 19])
(.skip)))))
(.ops [ o_p 20 (.bin .add (.tmp 9) (.const (.int .i64 (1)))), o_m 9 20])))))))
(.seq (.ops [ o_m 21 3, o_m 2 21])
(.ret)))),
[.tmp 2]⟩
theorem r_impl_missingParts : resFun Tryz.prog f_impl_missingParts = some c_impl_missingParts := by kernel_rfl

/- slices.IndexFunc[[]loop.example/g00940/impl.Packet,loop.example/g00940/impl.Packet] -/
abbrev f_slices_IndexFunc_Limpl_Packet_impl_Packet : Nat := 39
def c_slices_IndexFunc_Limpl_Packet_impl_Packet : MFun := ⟨19, .seq (.ops [ o_p 4 (.mv (.const (.int .i64 (0))))])
(.seq (.seq (.ops [ o_m 6 0, o_p 7 (.len (.tmp 6)), o_p 8 (.mv (.const (.int .i64 (0))))])
(.block 0 (.loop (.seq (.ops [ o_p 9 (.bin .lss (.tmp 8) (.tmp 7))])
(.seq (.cond (.tmp 9)
(.skip)
(.exit 0))
(.seq (.block 1 (.seq (.ops [ o_m 10 8, o_m 5 10])
(.seq (.ops [ o_m 11 1, o_m 12 0, o_m 13 5, o_p 14 (.idx 4 (.tmp 12) (.tmp 13)),
.op ⟨(some 15), (.load (some 4) (.tmp 14)), none⟩, o_e 16 (.callv (.tmp 11) [(.tmp 15)])])
(.cond (.tmp 16)
(.seq (.ops [ o_m 17 5, o_m 4 17])
(.ret))
(.skip)))))
(.ops [ o_p 18 (.bin .add (.tmp 8) (.const (.int .i64 (1)))), o_m 8 18])))))))
(.seq (.ops [ o_p 4 (.mv (.const (.int .i64 (-1))))])
(.ret))),
[.tmp 4]⟩
theorem r_slices_IndexFunc_Limpl_Packet_impl_Packet : resFun Tryz.prog f_slices_IndexFunc_Limpl_Packet_impl_Packet = some c_slices_IndexFunc_Limpl_Packet_impl_Packet := by kernel_rfl

/- loop.example/g00940/impl.JoinMessage$1 -/
abbrev f_impl_JoinMessage_1 : Nat := 40
def c_impl_JoinMessage_1 : MFun := ⟨8, .seq (.ops [ o_e 2 (.box 32 (.tmp 0)), o_p 3 (.mv (.const (.bool false)))])
(.seq (.ops [ o_p 4 (.fieldAddr 1 (.tmp 2)), o_l 5 4, o_l 6 1, o_p 7 (.bin .eql (.tmp 5) (.tmp 6)), o_m 3 7])
(.ret)),
[.tmp 3]⟩
theorem r_impl_JoinMessage_1 : resFun Tryz.prog f_impl_JoinMessage_1 = some c_impl_JoinMessage_1 := by kernel_rfl

/- (*loop.example/g00940/spec.l1Cur).packets -/
abbrev f_spec_l1Cur_packets : Nat := 41
def c_spec_l1Cur_packets : MFun := ⟨112, .seq (.ops [ o_p 2 (.mv (.const (.slice none 0 0)))])
(.seq (.ops [ o_p 3 (.mv (.const (.slice none 0 0)))])
(.seq (.seq (.ops [ o_m 11 0, o_e 12 (.call 54 [(.tmp 11), (.const (.int .i64 (3)))]), o_m 4 12])
(.block 0 (.loop (.seq (.seq (.ops [ o_m 13 4, o_p 14 (.bin .geq (.tmp 13) (.const (.int .i64 (0))))])
(.cond (.tmp 14)
(.skip)
(.exit 0)))
(.seq (.block 1 (.seq (.ops [ o_m 17 0, o_e 18 (.row 3 3 [(.int .i64 (0)), (.int .i64 (0)), (.int .i64 (0))] [(0, 1, (.const (.int .i64 (1)))), (1, 1, (.const (.int .i64 (7)))), (2, 1, (.const (.int .i64 (12))))]), o_e 19 (.call 23 [(.tmp 17), (.tmp 18)]), o_m 20 0, o_m 21 0, o_e 22 (.call 54 [(.tmp 21), (.const (.int .i64 (6)))]), o_p 23 (.bin .add (.const (.int .i64 (1))) (.tmp 22)), o_e 24 (.call 24 [(.tmp 20), (.tmp 23)]), o_m 25 0, o_e 26 (.call 54 [(.tmp 25), (.const (.int .i64 (3)))]), o_p 27 (.bin .add (.const (.int .i64 (1))) (.tmp 26)), o_e 28 (.call 33 [(.tmp 19), (.tmp 24), (.tmp 27)]), o_m 5 28])
(.seq (.ops [ o_m 29 5, o_p 30 (.len (.tmp 29)), o_p 31 (.mv (.const (.int .i64 (0))))])
(.block 2 (.loop (.seq (.ops [ o_p 32 (.bin .lss (.tmp 31) (.tmp 30))])
(.seq (.cond (.tmp 32)
(.skip)
(.exit 2))
(.seq (.block 3 (.seq (.ops [ o_p 33 (.idx 4 (.tmp 29) (.tmp 31)),
.op ⟨(some 34), (.load (some 4) (.tmp 33)), none⟩, o_e 7 (.new 32 [(.int .i64 (0)), (.int .i64 (0)), (.int .i64 (0)), (.slice none 0 0)]),
.op ⟨none, (.eff (.store 4 (.tmp 7) (.tmp 34))), none⟩])
(.seq (.seq (.ops [ o_m 35 0, o_e 36 (.call 26 [(.tmp 35), (.const (.int .i64 (8)))])])
(.cond (.tmp 36)
(.exit 3)
(.skip)))
(.seq (.ops [ o_m 37 0, o_m 38 3, o_p 39 (.len (.tmp 38)), o_p 40 (.bin .add (.tmp 39) (.const (.int .i64 (1)))), o_e 41 (.call 54 [(.tmp 37), (.tmp 40)]), o_m 8 41])
(.seq (.draw true
(.take (t_m 43 3)
(.take (t_m 44 8)
(.take (t_p 45 (.slc 4 (.tmp 43) none (some (.tmp 44)) none))
(.take (t_m 50 3)
(.take (t_m 51 8)
(.take (t_p 52 (.slc 4 (.tmp 50) (some (.tmp 51)) none none))
(.take ⟨(some 47), (.load (some 4) (.tmp 7)), none⟩
(.fork
(.only false (t_e 42 (.row 32 0 [] []))
(.fork
(.only false (t_e 46 (.app 32 4 48 (.tmp 42) (.tmp 45)))
(.only false (t_e 48 (.row 32 1 [(.int .i64 (0)), (.int .i64 (0)), (.int .i64 (0)), (.slice none 0 0)] [(0, 4, (.tmp 47))]))
(.only false (t_e 49 (.app 32 4 48 (.tmp 46) (.tmp 48)))
(.only false (t_e 53 (.app 32 4 48 (.tmp 49) (.tmp 52)))
(.take (t_m 3 53)
(.done))))))
(.only false (t_e 48 (.row 32 1 [(.int .i64 (0)), (.int .i64 (0)), (.int .i64 (0)), (.slice none 0 0)] [(0, 4, (.tmp 47))]))
(.only false (t_e 46 (.app 32 4 48 (.tmp 42) (.tmp 45)))
(.only false (t_e 49 (.app 32 4 48 (.tmp 46) (.tmp 48)))
(.only false (t_e 53 (.app 32 4 48 (.tmp 49) (.tmp 52)))
(.take (t_m 3 53)
(.done))))))))
(.only false (t_e 48 (.row 32 1 [(.int .i64 (0)), (.int .i64 (0)), (.int .i64 (0)), (.slice none 0 0)] [(0, 4, (.tmp 47))]))
(.only false (t_e 42 (.row 32 0 [] []))
(.only false (t_e 46 (.app 32 4 48 (.tmp 42) (.tmp 45)))
(.only false (t_e 49 (.app 32 4 48 (.tmp 46) (.tmp 48)))
(.only false (t_e 53 (.app 32 4 48 (.tmp 49) (.tmp 52)))
(.take (t_m 3 53)
(.done))))))))))))))))
(.seq (.ops [ o_m 54 0, o_e 55 (.call 26 [(.tmp 54), (.const (.int .i64 (6)))])])
(.cond (.tmp 55)
(.ops [ o_m 56 3,
.op ⟨(some 57), (.load (some 4) (.tmp 7)), none⟩, o_e 58 (.call 68 [(.tmp 57)]), o_e 59 (.row 32 1 [(.int .i64 (0)), (.int .i64 (0)), (.int .i64 (0)), (.slice none 0 0)] [(0, 4, (.tmp 58))]), o_e 60 (.app 32 4 48 (.tmp 56) (.tmp 59)), o_m 3 60])
(.skip))))))))
(.ops [ o_p 61 (.bin .add (.tmp 31) (.const (.int .i64 (1)))), o_m 31 61])))))))))
(.ops [ o_m 15 4, o_p 16 (.bin .sub (.tmp 15) (.const (.int .i64 (1)))), o_m 4 16]))))))
(.seq (.seq (.ops [ o_m 62 0, o_e 63 (.call 54 [(.tmp 62), (.const (.int .i64 (12)))])])
(.block 4 (.seq (.ops [ o_p 65 (.bin .eql (.tmp 63) (.const (.int .i64 (0)))), o_m 64 65])
(.cond (.tmp 64)
(.ops [ o_m 66 3, o_m 67 0, o_e 68 (.call 50 [(.tmp 67)]), o_e 69 (.row 32 1 [(.int .i64 (0)), (.int .i64 (0)), (.int .i64 (0)), (.slice none 0 0)] [(0, 4, (.tmp 68))]), o_e 70 (.app 32 4 48 (.tmp 66) (.tmp 69)), o_m 3 70])
(.seq (.ops [ o_p 72 (.bin .eql (.tmp 63) (.const (.int .i64 (1)))), o_m 71 72])
(.cond (.tmp 71)
(.seq (.ops [ o_m 73 3, o_p 74 (.len (.tmp 73)), o_p 75 (.bin .gtr (.tmp 74) (.const (.int .i64 (0))))])
(.cond (.tmp 75)
(.seq (.ops [ o_m 76 3, o_m 77 0, o_m 78 3, o_p 79 (.len (.tmp 78)), o_e 80 (.call 54 [(.tmp 77), (.tmp 79)]), o_p 81 (.idx 4 (.tmp 76) (.tmp 80)), o_m 9 81])
(.ops [ o_m 82 9, o_m 83 9, o_p 84 (.nilc (.tmp 83)), o_p 85 (.fieldAddr 3 (.tmp 84)), o_l 86 85, o_e 87 (.call 57 [(.tmp 86)]), o_e 88 (.row 3 1 [(.int .i64 (0))] [(0, 1, (.const (.int .i64 (3))))]), o_e 89 (.app 3 1 8 (.tmp 87) (.tmp 88)), o_p 90 (.nilc (.tmp 82)), o_p 91 (.fieldAddr 3 (.tmp 90)),
.op ⟨none, (.eff (.store 1 (.tmp 91) (.tmp 89))), none⟩]))
(.skip)))
(.seq (.ops [ o_p 93 (.bin .eql (.tmp 63) (.const (.int .i64 (2)))), o_m 92 93])
(.cond (.tmp 92)
(.seq (.ops [ o_m 94 0, o_e 95 (.call 26 [(.tmp 94), (.const (.int .i64 (3)))])])
(.cond (.tmp 95)
(.seq (.ops [ o_m 96 0, o_e 97 (.call 54 [(.tmp 96), (.const (.int .i64 (2)))]), o_p 98 (.bin .add (.const (.int .i64 (40))) (.tmp 97)), o_m 10 98])
(.block 5 (.loop (.seq (.seq (.ops [ o_m 99 3, o_p 100 (.len (.tmp 99)), o_m 101 10, o_p 102 (.bin .lss (.tmp 100) (.tmp 101))])
(.cond (.tmp 102)
(.skip)
(.exit 5)))
(.block 6 (.ops [ o_m 103 3, o_m 104 3, o_p 105 (.len (.tmp 104)), o_p 106 (.bin .add (.const (.int .i64 (1))) (.tmp 105)), o_e 107 (.row 3 1 [(.int .i64 (0))] [(0, 1, (.const (.int .i64 (5))))]), o_p 108 (.build [(.int .i64 (0)), (.int .i64 (0)), (.int .i64 (0)), (.slice none 0 0)] [(0, 1, (.tmp 106)), (2, 1, (.const (.int .i64 (1)))), (3, 1, (.tmp 107))]), o_e 109 (.row 32 1 [(.int .i64 (0)), (.int .i64 (0)), (.int .i64 (0)), (.slice none 0 0)] [(0, 4, (.tmp 108))]), o_e 110 (.app 32 4 48 (.tmp 103) (.tmp 109)), o_m 3 110]))))))
(.skip)))
(.skip)))))))))
(.seq (.ops [ o_m 111 3, o_m 2 111])
(.ret))))),
[.tmp 2]⟩
theorem r_spec_l1Cur_packets : resFun Tryz.prog f_spec_l1Cur_packets = some c_spec_l1Cur_packets := by kernel_rfl

/- (*loop.example/g00940/spec.l1Cur).message -/
abbrev f_spec_l1Cur_message : Nat := 42
def c_spec_l1Cur_message : MFun := ⟨24, .seq (.ops [ o_p 4 (.mv (.const (.int .i64 (0))))])
(.seq (.seq (.ops [ o_m 5 1, o_p 6 (.len (.tmp 5)), o_p 7 (.bin .gtr (.tmp 6) (.const (.int .i64 (0)))), o_m 8 7,
.split 8,
.op ⟨(some 9), (.pure (.mv (.tmp 0))), (some (8, true))⟩,
.op ⟨(some 10), (.eff (.call 26 [(.tmp 9), (.const (.int .i64 (6)))])), (some (8, true))⟩,
.op ⟨(some 11), (.pure (.bnot (.tmp 10))), (some (8, true))⟩, o_p 12 (.pick (.tmp 8) (.tmp 11) (.const (.bool false)))])
(.cond (.tmp 12)
(.seq (.ops [ o_m 13 1, o_m 14 0, o_m 15 1, o_p 16 (.len (.tmp 15)), o_e 17 (.call 54 [(.tmp 14), (.tmp 16)]), o_p 18 (.idx 4 (.tmp 13) (.tmp 17)), o_p 19 (.fieldAddr 0 (.tmp 18)), o_l 20 19, o_m 4 20])
(.ret))
(.skip)))
(.seq (.ops [ o_m 21 0, o_e 22 (.row 3 5 [(.int .i64 (0)), (.int .i64 (0)), (.int .i64 (0)), (.int .i64 (0)), (.int .i64 (0))] [(0, 1, (.const (.int .i64 (1)))), (1, 1, (.const (.int .i64 (7)))), (2, 1, (.const (.int .i64 (999)))), (3, 1, (.const (.int .i64 (0)))), (4, 1, (.const (.int .i64 (1000))))]), o_e 23 (.call 23 [(.tmp 21), (.tmp 22)]), o_m 4 23])
(.ret))),
[.tmp 4]⟩
theorem r_spec_l1Cur_message : resFun Tryz.prog f_spec_l1Cur_message = some c_spec_l1Cur_message := by kernel_rfl

/- loop.example/g00940/spec.pkAll -/
abbrev f_spec_pkAll : Nat := 43
def c_spec_pkAll : MFun := ⟨18, .seq (.ops [ o_p 2 (.mv (.const (.bool false)))])
(.seq (.seq (.ops [ o_m 5 0, o_p 6 (.len (.tmp 5)), o_p 7 (.mv (.const (.int .i64 (0))))])
(.block 0 (.loop (.seq (.ops [ o_p 8 (.bin .lss (.tmp 7) (.tmp 6))])
(.seq (.cond (.tmp 8)
(.skip)
(.exit 0))
(.seq (.block 1 (.seq (.ops [ o_p 9 (.idx 4 (.tmp 5) (.tmp 7)),
.op ⟨(some 10), (.load (some 4) (.tmp 9)), none⟩, o_e 4 (.new 32 [(.int .i64 (0)), (.int .i64 (0)), (.int .i64 (0)), (.slice none 0 0)]),
.op ⟨none, (.eff (.store 4 (.tmp 4) (.tmp 10))), none⟩])
(.seq (.ops [
.op ⟨(some 11), (.load (some 4) (.tmp 4)), none⟩, o_e 12 (.call 48 [(.tmp 11)]), o_p 13 (.bnot (.tmp 12))])
(.cond (.tmp 13)
(.seq (.ops [ o_p 2 (.mv (.const (.bool false)))])
(.ret))
(.skip)))))
(.ops [ o_p 14 (.bin .add (.tmp 7) (.const (.int .i64 (1)))), o_m 7 14])))))))
(.seq (.ops [ o_m 15 0, o_p 16 (.len (.tmp 15)), o_p 17 (.bin .leq (.tmp 16) (.const (.int .i64 (40)))), o_m 2 17])
(.ret))),
[.tmp 2]⟩
theorem r_spec_pkAll : resFun Tryz.prog f_spec_pkAll = some c_spec_pkAll := by kernel_rfl

/- loop.example/g00940/spec.pkJoin -/
abbrev f_spec_pkJoin : Nat := 44
def c_spec_pkJoin : MFun := ⟨47, .seq (.ops [ o_p 4 (.mv (.const (.slice none 0 0))), o_p 5 (.mv (.const (.bool false)))])
(.seq (.ops [ o_m 11 0, o_m 12 1, o_e 13 (.call 45 [(.tmp 11), (.tmp 12)]), o_m 10 13, o_p 14 (.ext 0 (.tmp 10)), o_p 15 (.ext 1 (.tmp 10)), o_m 6 14, o_m 7 15])
(.seq (.seq (.ops [ o_m 16 7, o_p 17 (.bnot (.tmp 16)), o_m 18 17,
.split 18,
.op ⟨(some 19), (.pure (.mv (.tmp 6))), (some (18, false))⟩,
.op ⟨(some 20), (.pure (.len (.tmp 19))), (some (18, false))⟩,
.op ⟨(some 21), (.pure (.bin .eql (.tmp 20) (.const (.int .i64 (0))))), (some (18, false))⟩, o_p 22 (.pick (.tmp 18) (.const (.bool true)) (.tmp 21)), o_m 23 22,
.split 23,
.op ⟨(some 24), (.pure (.mv (.tmp 6))), (some (23, false))⟩,
.op ⟨(some 25), (.eff (.call 46 [(.tmp 24)])), (some (23, false))⟩,
.op ⟨(some 26), (.pure (.len (.tmp 25))), (some (23, false))⟩,
.op ⟨(some 27), (.pure (.bin .gtr (.tmp 26) (.const (.int .i64 (0))))), (some (23, false))⟩, o_p 28 (.pick (.tmp 23) (.const (.bool true)) (.tmp 27))])
(.cond (.tmp 28)
(.seq (.ops [ o_p 4 (.mv (.const (.slice none 0 0))), o_p 5 (.mv (.const (.bool false)))])
(.ret))
(.skip)))
(.seq (.ops [ o_p 8 (.mv (.const (.slice none 0 0)))])
(.seq (.seq (.ops [ o_p 9 (.mv (.const (.int .i64 (0))))])
(.block 0 (.loop (.seq (.seq (.ops [ o_m 29 9, o_m 30 6, o_p 31 (.idx 4 (.tmp 30) (.const (.int .i64 (0)))), o_p 32 (.fieldAddr 2 (.tmp 31)), o_l 33 32, o_p 34 (.bin .lss (.tmp 29) (.tmp 33))])
(.cond (.tmp 34)
(.skip)
(.exit 0)))
(.seq (.block 1 (.ops [ o_m 37 8, o_m 38 6, o_m 39 6, o_m 40 9, o_e 41 (.call 69 [(.tmp 39), (.tmp 40)]), o_p 42 (.idx 4 (.tmp 38) (.tmp 41)), o_p 43 (.fieldAddr 3 (.tmp 42)), o_l 44 43, o_e 45 (.app 3 1 8 (.tmp 37) (.tmp 44)), o_m 8 45]))
(.ops [ o_m 35 9, o_p 36 (.bin .add (.tmp 35) (.const (.int .i64 (1)))), o_m 9 36]))))))
(.seq (.ops [ o_m 46 8, o_m 4 46, o_p 5 (.mv (.const (.bool true)))])
(.ret)))))),
[.tmp 4, .tmp 5]⟩
theorem r_spec_pkJoin : resFun Tryz.prog f_spec_pkJoin = some c_spec_pkJoin := by kernel_rfl

/- loop.example/g00940/spec.pkOf -/
abbrev f_spec_pkOf : Nat := 45
def c_spec_pkOf : MFun := ⟨37, .seq (.ops [ o_p 4 (.mv (.const (.slice none 0 0))), o_p 5 (.mv (.const (.bool false)))])
(.seq (.ops [ o_p 6 (.mv (.const (.slice none 0 0)))])
(.seq (.seq (.ops [ o_m 11 0, o_p 12 (.len (.tmp 11)), o_p 13 (.mv (.const (.int .i64 (0))))])
(.block 0 (.loop (.seq (.ops [ o_p 14 (.bin .lss (.tmp 13) (.tmp 12))])
(.seq (.cond (.tmp 14)
(.skip)
(.exit 0))
(.seq (.block 1 (.seq (.ops [ o_p 15 (.idx 4 (.tmp 11) (.tmp 13)),
.op ⟨(some 16), (.load (some 4) (.tmp 15)), none⟩, o_e 8 (.new 32 [(.int .i64 (0)), (.int .i64 (0)), (.int .i64 (0)), (.slice none 0 0)]),
.op ⟨none, (.eff (.store 4 (.tmp 8) (.tmp 16))), none⟩])
(.seq (.seq (.ops [ o_p 17 (.fieldAddr 0 (.tmp 8)), o_l 18 17, o_m 19 1, o_p 20 (.bin .neq (.tmp 18) (.tmp 19))])
(.cond (.tmp 20)
(.exit 1)
(.skip)))
(.seq (.seq (.ops [ o_m 21 6, o_p 22 (.len (.tmp 21)), o_p 23 (.mv (.const (.int .i64 (0))))])
(.block 2 (.loop (.seq (.ops [ o_p 24 (.bin .lss (.tmp 23) (.tmp 22))])
(.seq (.cond (.tmp 24)
(.skip)
(.exit 2))
(.seq (.block 3 (.seq (.ops [ o_p 25 (.idx 4 (.tmp 21) (.tmp 23)),
.op ⟨(some 26), (.load (some 4) (.tmp 25)), none⟩, o_e 10 (.new 32 [(.int .i64 (0)), (.int .i64 (0)), (.int .i64 (0)), (.slice none 0 0)]),
.op ⟨none, (.eff (.store 4 (.tmp 10) (.tmp 26))), none⟩])
(.seq (.ops [
.op ⟨(some 27), (.load (some 4) (.tmp 8)), none⟩,
.op ⟨(some 28), (.load (some 4) (.tmp 10)), none⟩, o_e 29 (.call 70 [(.tmp 27), (.tmp 28)])])
(.cond (.tmp 29)
(.seq (.ops [ o_p 4 (.mv (.const (.slice none 0 0))), o_p 5 (.mv (.const (.bool false)))])
(.ret))
(.skip)))))
(.ops [ o_p 30 (.bin .add (.tmp 23) (.const (.int .i64 (1)))), o_m 23 30])))))))
(.ops [ o_m 31 6,
.op ⟨(some 32), (.load (some 4) (.tmp 8)), none⟩, o_e 33 (.row 32 1 [(.int .i64 (0)), (.int .i64 (0)), (.int .i64 (0)), (.slice none 0 0)] [(0, 4, (.tmp 32))]), o_e 34 (.app 32 4 48 (.tmp 31) (.tmp 33)), o_m 6 34])))))
(.ops [ o_p 35 (.bin .add (.tmp 13) (.const (.int .i64 (1)))), o_m 13 35])))))))
(.seq (.ops [ o_m 36 6, o_m 4 36, o_p 5 (.mv (.const (.bool true)))])
(.ret)))),
[.tmp 4, .tmp 5]⟩
theorem r_spec_pkOf : resFun Tryz.prog f_spec_pkOf = some c_spec_pkOf := by kernel_rfl

/- loop.example/g00940/spec.pkMissing -/
abbrev f_spec_pkMissing : Nat := 46
def c_spec_pkMissing : MFun := ⟨22, .seq (.ops [ o_p 2 (.mv (.const (.slice none 0 0)))])
(.seq (.ops [ o_p 3 (.mv (.const (.slice none 0 0)))])
(.seq (.seq (.ops [ o_p 4 (.mv (.const (.int .i64 (0))))])
(.block 0 (.loop (.seq (.seq (.ops [ o_m 5 4, o_m 6 0, o_p 7 (.idx 4 (.tmp 6) (.const (.int .i64 (0)))), o_p 8 (.fieldAddr 2 (.tmp 7)), o_l 9 8, o_p 10 (.bin .lss (.tmp 5) (.tmp 9))])
(.cond (.tmp 10)
(.skip)
(.exit 0)))
(.seq (.block 1 (.seq (.ops [ o_m 13 0, o_m 14 4, o_e 15 (.call 69 [(.tmp 13), (.tmp 14)]), o_p 16 (.bin .lss (.tmp 15) (.const (.int .i64 (0))))])
(.cond (.tmp 16)
(.ops [ o_m 17 3, o_m 18 4, o_e 19 (.row 3 1 [(.int .i64 (0))] [(0, 1, (.tmp 18))]), o_e 20 (.app 3 1 8 (.tmp 17) (.tmp 19)), o_m 3 20])
(.skip))))
(.ops [ o_m 11 4, o_p 12 (.bin .add (.tmp 11) (.const (.int .i64 (1)))), o_m 4 12]))))))
(.seq (.ops [ o_m 21 3, o_m 2 21])
(.ret)))),
[.tmp 2]⟩
theorem r_spec_pkMissing : resFun Tryz.prog f_spec_pkMissing = some c_spec_pkMissing := by kernel_rfl

/- loop.example/g00940/spec.DrawIsPacket -/
abbrev f_spec_DrawIsPacket : Nat := 47
def c_spec_DrawIsPacket : MFun := ⟨9, .seq (.ops [ o_e 2 (.new 32 [(.int .i64 (0)), (.int .i64 (0)), (.int .i64 (0)), (.slice none 0 0)])])
(.seq (.ops [ o_m 4 0, o_p 5 (.build [(.slice none 0 0), (.int .i64 (0)), (.int .u64 (0))] [(0, 1, (.tmp 4))]), o_e 6 (.box 49 (.tmp 5)), o_m 3 6])
(.seq (.ops [ o_m 7 3, o_e 8 (.call 50 [(.tmp 7)]),
.op ⟨none, (.eff (.store 4 (.tmp 2) (.tmp 8))), none⟩])
(.ret))),
[.cell 2 (some 4)]⟩
theorem r_spec_DrawIsPacket : resFun Tryz.prog f_spec_DrawIsPacket = some c_spec_DrawIsPacket := by kernel_rfl

/- loop.example/g00940/spec.pkGood -/
abbrev f_spec_pkGood : Nat := 48
def c_spec_pkGood : MFun := ⟨30, .seq (.ops [ o_e 1 (.box 32 (.tmp 0)), o_p 2 (.mv (.const (.bool false)))])
(.seq (.ops [ o_p 3 (.fieldAddr 0 (.tmp 1)), o_l 4 3, o_e 5 (.call 31 [(.tmp 4), (.const (.int .i64 (1))), (.const (.int .i64 (999)))]), o_m 6 5,
.split 6,
.op ⟨(some 7), (.pure (.fieldAddr 2 (.tmp 1))), (some (6, true))⟩,
.op ⟨(some 8), (.load none (.tmp 7)), (some (6, true))⟩,
.op ⟨(some 9), (.eff (.call 31 [(.tmp 8), (.const (.int .i64 (1))), (.const (.int .i64 (9)))])), (some (6, true))⟩, o_p 10 (.pick (.tmp 6) (.tmp 9) (.const (.bool false))), o_m 11 10,
.split 11,
.op ⟨(some 12), (.pure (.fieldAddr 1 (.tmp 1))), (some (11, true))⟩,
.op ⟨(some 13), (.load none (.tmp 12)), (some (11, true))⟩,
.op ⟨(some 14), (.pure (.fieldAddr 2 (.tmp 1))), (some (11, true))⟩,
.op ⟨(some 15), (.load none (.tmp 14)), (some (11, true))⟩,
.op ⟨(some 16), (.pure (.bin .sub (.tmp 15) (.const (.int .i64 (1))))), (some (11, true))⟩,
.op ⟨(some 17), (.eff (.call 31 [(.tmp 13), (.const (.int .i64 (0))), (.tmp 16)])), (some (11, true))⟩, o_p 18 (.pick (.tmp 11) (.tmp 17) (.const (.bool false))), o_m 19 18,
.split 19,
.op ⟨(some 20), (.pure (.fieldAddr 3 (.tmp 1))), (some (19, true))⟩,
.op ⟨(some 21), (.load none (.tmp 20)), (some (19, true))⟩,
.op ⟨(some 22), (.pure (.len (.tmp 21))), (some (19, true))⟩,
.op ⟨(some 23), (.eff (.call 31 [(.tmp 22), (.const (.int .i64 (1))), (.const (.int .i64 (8)))])), (some (19, true))⟩, o_p 24 (.pick (.tmp 19) (.tmp 23) (.const (.bool false))), o_m 25 24,
.split 25,
.op ⟨(some 26), (.pure (.fieldAddr 3 (.tmp 1))), (some (25, true))⟩,
.op ⟨(some 27), (.load none (.tmp 26)), (some (25, true))⟩,
.op ⟨(some 28), (.eff (.call 32 [(.tmp 27), (.const (.int .i64 (1))), (.const (.int .i64 (60)))])), (some (25, true))⟩, o_p 29 (.pick (.tmp 25) (.tmp 28) (.const (.bool false))), o_m 2 29])
(.ret)),
[.tmp 2]⟩
theorem r_spec_pkGood : resFun Tryz.prog f_spec_pkGood = some c_spec_pkGood := by kernel_rfl

/- loop.example/g00940/spec.pkText -/
abbrev f_spec_pkText : Nat := 49
def c_spec_pkText : MFun := ⟨21, .seq (.ops [ o_e 1 (.box 32 (.tmp 0)),
.op ⟨(some 2), (.pure (.mv (.const (.string ⟨#[]⟩)))), none⟩])
(.seq (.draw true
(.take (t_p 3 (.fieldAddr 0 (.tmp 1)))
(.take (t_p 7 (.fieldAddr 1 (.tmp 1)))
(.take (t_p 12 (.fieldAddr 2 (.tmp 1)))
(.take (t_p 17 (.fieldAddr 3 (.tmp 1)))
(.only false (t_l 4 3)
(.take (t_l 8 7)
(.take (t_l 13 12)
(.take (t_l 18 17)
(.only false (t_e 5 (.call 71 [(.tmp 4)]))
(.take ⟨(some 6), (.pure (.bin .add (.tmp 5) (.const (.string ⟨#[47]⟩)))), none⟩
(.only false (t_e 9 (.call 71 [(.tmp 8)]))
(.take (t_p 10 (.bin .add (.tmp 6) (.tmp 9)))
(.take ⟨(some 11), (.pure (.bin .add (.tmp 10) (.const (.string ⟨#[47]⟩)))), none⟩
(.only false (t_e 14 (.call 71 [(.tmp 13)]))
(.take (t_p 15 (.bin .add (.tmp 11) (.tmp 14)))
(.take ⟨(some 16), (.pure (.bin .add (.tmp 15) (.const (.string ⟨#[58]⟩)))), none⟩
(.only true (t_e 19 (.call 72 [(.tmp 18)]))
(.take (t_p 20 (.bin .add (.tmp 16) (.tmp 19)))
(.take (t_m 2 20)
(.done)))))))))))))))))))))
(.ret)),
[.tmp 2]⟩
theorem r_spec_pkText : resFun Tryz.prog f_spec_pkText = some c_spec_pkText := by kernel_rfl

/- (*loop.example/g00940/spec.l1Cur).packet -/
abbrev f_spec_l1Cur_packet : Nat := 50
def c_spec_l1Cur_packet : MFun := ⟨66, .seq (.ops [ o_e 2 (.new 32 [(.int .i64 (0)), (.int .i64 (0)), (.int .i64 (0)), (.slice none 0 0)])])
(.seq (.ops [ o_m 5 0, o_e 6 (.row 3 4 [(.int .i64 (0)), (.int .i64 (0)), (.int .i64 (0)), (.int .i64 (0))] [(0, 1, (.const (.int .i64 (1)))), (1, 1, (.const (.int .i64 (7)))), (2, 1, (.const (.int .i64 (12)))), (3, 1, (.const (.int .i64 (999))))]), o_e 7 (.call 23 [(.tmp 5), (.tmp 6)]), o_m 8 0, o_e 9 (.call 54 [(.tmp 8), (.const (.int .i64 (3)))]), o_p 10 (.bin .add (.const (.int .i64 (1))) (.tmp 9)), o_p 11 (.build [(.int .i64 (0)), (.int .i64 (0)), (.int .i64 (0)), (.slice none 0 0)] [(0, 1, (.tmp 7)), (2, 1, (.tmp 10))]), o_e 3 (.new 32 [(.int .i64 (0)), (.int .i64 (0)), (.int .i64 (0)), (.slice none 0 0)]),
.op ⟨none, (.eff (.store 4 (.tmp 3) (.tmp 11))), none⟩])
(.seq (.seq (.ops [ o_m 12 0, o_e 13 (.call 26 [(.tmp 12), (.const (.int .i64 (16)))])])
(.cond (.tmp 13)
(.ops [ o_p 14 (.fieldAddr 2 (.tmp 3)),
.op ⟨none, (.eff (.store 1 (.tmp 14) (.const (.int .i64 (9))))), none⟩])
(.skip)))
(.seq (.ops [ o_m 15 0, o_p 16 (.fieldAddr 2 (.tmp 3)), o_l 17 16, o_e 18 (.call 54 [(.tmp 15), (.tmp 17)]), o_p 19 (.fieldAddr 1 (.tmp 3)),
.op ⟨none, (.eff (.store 1 (.tmp 19) (.tmp 18))), none⟩])
(.seq (.ops [ o_m 20 0, o_e 21 (.call 54 [(.tmp 20), (.const (.int .i64 (3)))]), o_p 22 (.bin .add (.const (.int .i64 (1))) (.tmp 21)), o_m 4 22])
(.seq (.seq (.ops [ o_m 23 0, o_e 24 (.call 26 [(.tmp 23), (.const (.int .i64 (16)))])])
(.cond (.tmp 24)
(.ops [ o_m 25 0, o_e 26 (.call 54 [(.tmp 25), (.const (.int .i64 (2)))]), o_p 27 (.bin .add (.const (.int .i64 (8))) (.tmp 26)), o_m 4 27])
(.skip)))
(.seq (.ops [ o_m 28 0, o_m 29 4, o_e 30 (.call 24 [(.tmp 28), (.tmp 29)]), o_p 31 (.fieldAddr 3 (.tmp 3)),
.op ⟨none, (.eff (.store 1 (.tmp 31) (.tmp 30))), none⟩])
(.seq (.seq (.ops [ o_m 32 0, o_e 33 (.call 54 [(.tmp 32), (.const (.int .i64 (40)))])])
(.block 0 (.seq (.ops [ o_p 35 (.bin .eql (.tmp 33) (.const (.int .i64 (0)))), o_m 34 35])
(.cond (.tmp 34)
(.ops [ o_m 36 0, o_e 37 (.row 3 2 [(.int .i64 (0)), (.int .i64 (0))] [(0, 1, (.const (.int .i64 (0)))), (1, 1, (.const (.int .i64 (1000))))]), o_e 38 (.call 23 [(.tmp 36), (.tmp 37)]), o_p 39 (.fieldAddr 0 (.tmp 3)),
.op ⟨none, (.eff (.store 1 (.tmp 39) (.tmp 38))), none⟩])
(.seq (.ops [ o_p 41 (.bin .eql (.tmp 33) (.const (.int .i64 (1)))), o_m 40 41])
(.cond (.tmp 40)
(.ops [ o_m 42 0, o_p 43 (.fieldAddr 2 (.tmp 3)), o_l 44 43, o_e 45 (.row 3 2 [(.int .i64 (0)), (.int .i64 (0))] [(0, 1, (.const (.int .i64 (-1)))), (1, 1, (.tmp 44))]), o_e 46 (.call 23 [(.tmp 42), (.tmp 45)]), o_p 47 (.fieldAddr 1 (.tmp 3)),
.op ⟨none, (.eff (.store 1 (.tmp 47) (.tmp 46))), none⟩])
(.seq (.ops [ o_p 49 (.bin .eql (.tmp 33) (.const (.int .i64 (2)))), o_m 48 49])
(.cond (.tmp 48)
(.ops [ o_m 50 0, o_e 51 (.row 3 3 [(.int .i64 (0)), (.int .i64 (0)), (.int .i64 (0))] [(0, 1, (.const (.int .i64 (0)))), (1, 1, (.const (.int .i64 (9)))), (2, 1, (.const (.int .i64 (10))))]), o_e 52 (.call 23 [(.tmp 50), (.tmp 51)]), o_p 53 (.fieldAddr 2 (.tmp 3)),
.op ⟨none, (.eff (.store 1 (.tmp 53) (.tmp 52))), none⟩])
(.seq (.ops [ o_p 55 (.bin .eql (.tmp 33) (.const (.int .i64 (3)))), o_m 54 55])
(.cond (.tmp 54)
(.draw true
(.take (t_p 56 (.fieldAddr 3 (.tmp 3)))
(.take (t_m 58 0)
(.take (t_l 57 56)
(.only false (t_e 59 (.row 3 3 [(.int .i64 (0)), (.int .i64 (0)), (.int .i64 (0))] [(0, 1, (.const (.int .i64 (0)))), (1, 1, (.const (.int .i64 (60)))), (2, 1, (.const (.int .i64 (61))))]))
(.only false (t_e 60 (.call 23 [(.tmp 58), (.tmp 59)]))
(.take (t_p 61 (.idx 1 (.tmp 57) (.const (.int .i64 (0)))))
(.only true ⟨none, (.eff (.store 1 (.tmp 61) (.tmp 60))), none⟩
(.done)))))))))
(.seq (.ops [ o_p 63 (.bin .eql (.tmp 33) (.const (.int .i64 (4)))), o_m 62 63])
(.cond (.tmp 62)
(.ops [ o_p 64 (.fieldAddr 3 (.tmp 3)),
.op ⟨none, (.eff (.store 1 (.tmp 64) (.const (.slice none 0 0)))), none⟩])
(.skip)))))))))))))
(.seq (.ops [
.op ⟨(some 65), (.load (some 4) (.tmp 3)), none⟩,
.op ⟨none, (.eff (.store 4 (.tmp 2) (.tmp 65))), none⟩])
(.ret))))))))),
[.cell 2 (some 4)]⟩
theorem r_spec_l1Cur_packet : resFun Tryz.prog f_spec_l1Cur_packet = some c_spec_l1Cur_packet := by kernel_rfl

/- (*loop.example/g00940/spec.l1Cur).of -/
abbrev f_spec_l1Cur_of : Nat := 51
def c_spec_l1Cur_of : MFun := ⟨12, .seq (.ops [
.op ⟨(some 4), (.pure (.mv (.const (.string ⟨#[]⟩)))), none⟩])
(.seq (.ops [ o_m 5 1, o_m 6 0, o_m 7 1, o_p 8 (.len (.tmp 7)), o_e 9 (.call 54 [(.tmp 6), (.tmp 8)]), o_p 10 (.idx 1 (.tmp 5) (.tmp 9)), o_l 11 10, o_m 4 11])
(.ret)),
[.tmp 4]⟩
theorem r_spec_l1Cur_of : resFun Tryz.prog f_spec_l1Cur_of = some c_spec_l1Cur_of := by kernel_rfl

/- (*loop.example/g00940/spec.l1Cur).spoilt -/
abbrev f_spec_l1Cur_spoilt : Nat := 52
def c_spec_l1Cur_spoilt : MFun := ⟨68, .seq (.ops [
.op ⟨(some 6), (.pure (.mv (.const (.string ⟨#[]⟩)))), none⟩])
(.seq (.seq (.ops [ o_m 10 0, o_e 11 (.call 54 [(.tmp 10), (.const (.int .i64 (2)))]), o_p 12 (.bin .add (.const (.int .i64 (1))) (.tmp 11)), o_m 7 12])
(.block 0 (.loop (.seq (.seq (.ops [ o_m 13 7, o_p 14 (.bin .gtr (.tmp 13) (.const (.int .i64 (0)))), o_m 15 14,
.split 15,
.op ⟨(some 16), (.pure (.mv (.tmp 1))), (some (15, true))⟩,
.op ⟨(some 17), (.pure (.slen (.tmp 16))), (some (15, true))⟩,
.op ⟨(some 18), (.pure (.bin .gtr (.tmp 17) (.const (.int .i64 (0))))), (some (15, true))⟩, o_p 19 (.pick (.tmp 15) (.tmp 18) (.const (.bool false)))])
(.cond (.tmp 19)
(.skip)
(.exit 0)))
(.seq (.block 1 (.seq (.ops [ o_m 22 0, o_m 23 1, o_p 24 (.slen (.tmp 23)), o_e 25 (.call 54 [(.tmp 22), (.tmp 24)]), o_m 8 25])
(.seq (.ops [ o_m 26 2, o_m 27 0, o_m 28 2, o_p 29 (.slen (.tmp 28)), o_e 30 (.call 54 [(.tmp 27), (.tmp 29)]), o_p 31 (.sidx (.tmp 26) (.tmp 30)), o_e 32 (.row 5 1 [(.int .u8 (0))] [(0, 1, (.tmp 31))]), o_e 33 (.bstr (.tmp 32)), o_m 9 33])
(.seq (.ops [ o_m 34 0, o_e 35 (.call 54 [(.tmp 34), (.const (.int .i64 (3)))])])
(.block 2 (.seq (.ops [ o_p 45 (.bin .eql (.tmp 35) (.const (.int .i64 (0)))), o_m 44 45])
(.cond (.tmp 44)
(.ops [ o_m 46 1, o_m 47 8, o_p 48 (.sslc (.tmp 46) none (some (.tmp 47))), o_m 49 9, o_p 50 (.bin .add (.tmp 48) (.tmp 49)), o_m 51 1, o_m 52 8, o_p 53 (.sslc (.tmp 51) (some (.tmp 52)) none), o_p 54 (.bin .add (.tmp 50) (.tmp 53)), o_m 1 54])
(.seq (.ops [ o_p 56 (.bin .eql (.tmp 35) (.const (.int .i64 (1)))), o_m 55 56])
(.cond (.tmp 55)
(.ops [ o_m 57 1, o_m 58 8, o_p 59 (.sslc (.tmp 57) none (some (.tmp 58))), o_m 60 9, o_p 61 (.bin .add (.tmp 59) (.tmp 60)), o_m 62 1, o_m 63 8, o_p 64 (.bin .add (.tmp 63) (.const (.int .i64 (1)))), o_p 65 (.sslc (.tmp 62) (some (.tmp 64)) none), o_p 66 (.bin .add (.tmp 61) (.tmp 65)), o_m 1 66])
(.ops [ o_m 36 1, o_m 37 8, o_p 38 (.sslc (.tmp 36) none (some (.tmp 37))), o_m 39 1, o_m 40 8, o_p 41 (.bin .add (.tmp 40) (.const (.int .i64 (1)))), o_p 42 (.sslc (.tmp 39) (some (.tmp 41)) none), o_p 43 (.bin .add (.tmp 38) (.tmp 42)), o_m 1 43]))))))))))
(.ops [ o_m 20 7, o_p 21 (.bin .sub (.tmp 20) (.const (.int .i64 (1)))), o_m 7 21]))))))
(.seq (.ops [ o_m 67 1, o_m 6 67])
(.ret))),
[.tmp 6]⟩
theorem r_spec_l1Cur_spoilt : resFun Tryz.prog f_spec_l1Cur_spoilt = some c_spec_l1Cur_spoilt := by kernel_rfl

/- loop.example/g00940/spec.pkParse -/
abbrev f_spec_pkParse : Nat := 53
def c_spec_pkParse : MFun := ⟨59, .seq (.ops [ o_e 2 (.new 32 [(.int .i64 (0)), (.int .i64 (0)), (.int .i64 (0)), (.slice none 0 0)]), o_p 3 (.mv (.const (.bool false)))])
(.seq (.ops [ o_m 9 0, o_e 10 (.call 73 [(.tmp 9), (.const (.int .u8 (58)))]), o_m 4 10])
(.seq (.seq (.ops [ o_m 11 4, o_p 12 (.len (.tmp 11)), o_p 13 (.bin .neq (.tmp 12) (.const (.int .i64 (2))))])
(.cond (.tmp 13)
(.seq (.ops [ o_p 14 (.build [(.int .i64 (0)), (.int .i64 (0)), (.int .i64 (0)), (.slice none 0 0)] []),
.op ⟨none, (.eff (.store 4 (.tmp 2) (.tmp 14))), none⟩, o_p 3 (.mv (.const (.bool false)))])
(.ret))
(.skip)))
(.seq (.ops [ o_m 15 4, o_p 16 (.idx 1 (.tmp 15) (.const (.int .i64 (0)))), o_l 17 16, o_e 18 (.call 73 [(.tmp 17), (.const (.int .u8 (47)))]), o_m 5 18])
(.seq (.ops [ o_m 20 4, o_p 21 (.idx 1 (.tmp 20) (.const (.int .i64 (1)))), o_l 22 21, o_e 23 (.call 74 [(.tmp 22)]), o_m 19 23, o_p 24 (.ext 0 (.tmp 19)), o_p 25 (.ext 1 (.tmp 19)), o_m 6 24, o_m 7 25])
(.seq (.seq (.ops [ o_m 26 5, o_p 27 (.len (.tmp 26)), o_p 28 (.bin .neq (.tmp 27) (.const (.int .i64 (3)))), o_m 29 28,
.split 29,
.op ⟨(some 30), (.pure (.mv (.tmp 7))), (some (29, false))⟩,
.op ⟨(some 31), (.pure (.bnot (.tmp 30))), (some (29, false))⟩, o_p 32 (.pick (.tmp 29) (.const (.bool true)) (.tmp 31))])
(.cond (.tmp 32)
(.seq (.ops [ o_p 33 (.build [(.int .i64 (0)), (.int .i64 (0)), (.int .i64 (0)), (.slice none 0 0)] []),
.op ⟨none, (.eff (.store 4 (.tmp 2) (.tmp 33))), none⟩, o_p 3 (.mv (.const (.bool false)))])
(.ret))
(.skip)))
(.seq (.draw true
(.take (t_m 34 5)
(.take (t_p 35 (.idx 1 (.tmp 34) (.const (.int .i64 (0)))))
(.take (t_m 38 5)
(.take (t_p 39 (.idx 1 (.tmp 38) (.const (.int .i64 (1)))))
(.take (t_m 42 5)
(.take (t_p 43 (.idx 1 (.tmp 42) (.const (.int .i64 (2)))))
(.take (t_m 46 6)
(.take (t_l 36 35)
(.take (t_l 40 39)
(.take (t_l 44 43)
(.fork
(.only false (t_e 37 (.call 75 [(.tmp 36)]))
(.fork
(.only false (t_e 41 (.call 75 [(.tmp 40)]))
(.fork
(.only false (t_e 45 (.call 75 [(.tmp 44)]))
(.take (t_p 47 (.build [(.int .i64 (0)), (.int .i64 (0)), (.int .i64 (0)), (.slice none 0 0)] [(0, 1, (.tmp 37)), (1, 1, (.tmp 41)), (2, 1, (.tmp 45)), (3, 1, (.tmp 46))]))
(.only false (t_e 8 (.new 32 [(.int .i64 (0)), (.int .i64 (0)), (.int .i64 (0)), (.slice none 0 0)]))
(.only false ⟨none, (.eff (.store 4 (.tmp 8) (.tmp 47))), none⟩
(.done)))))
(.only false (t_e 8 (.new 32 [(.int .i64 (0)), (.int .i64 (0)), (.int .i64 (0)), (.slice none 0 0)]))
(.only false (t_e 45 (.call 75 [(.tmp 44)]))
(.take (t_p 47 (.build [(.int .i64 (0)), (.int .i64 (0)), (.int .i64 (0)), (.slice none 0 0)] [(0, 1, (.tmp 37)), (1, 1, (.tmp 41)), (2, 1, (.tmp 45)), (3, 1, (.tmp 46))]))
(.only false ⟨none, (.eff (.store 4 (.tmp 8) (.tmp 47))), none⟩
(.done)))))))
(.only false (t_e 8 (.new 32 [(.int .i64 (0)), (.int .i64 (0)), (.int .i64 (0)), (.slice none 0 0)]))
(.only false (t_e 41 (.call 75 [(.tmp 40)]))
(.only false (t_e 45 (.call 75 [(.tmp 44)]))
(.take (t_p 47 (.build [(.int .i64 (0)), (.int .i64 (0)), (.int .i64 (0)), (.slice none 0 0)] [(0, 1, (.tmp 37)), (1, 1, (.tmp 41)), (2, 1, (.tmp 45)), (3, 1, (.tmp 46))]))
(.only false ⟨none, (.eff (.store 4 (.tmp 8) (.tmp 47))), none⟩
(.done))))))))
(.only false (t_e 8 (.new 32 [(.int .i64 (0)), (.int .i64 (0)), (.int .i64 (0)), (.slice none 0 0)]))
(.only false (t_e 37 (.call 75 [(.tmp 36)]))
(.only false (t_e 41 (.call 75 [(.tmp 40)]))
(.only false (t_e 45 (.call 75 [(.tmp 44)]))
(.take (t_p 47 (.build [(.int .i64 (0)), (.int .i64 (0)), (.int .i64 (0)), (.slice none 0 0)] [(0, 1, (.tmp 37)), (1, 1, (.tmp 41)), (2, 1, (.tmp 45)), (3, 1, (.tmp 46))]))
(.only false ⟨none, (.eff (.store 4 (.tmp 8) (.tmp 47))), none⟩
(.done)))))))))))))))))))
(.seq (.seq (.ops [
.op ⟨(some 48), (.load (some 4) (.tmp 8)), none⟩, o_e 49 (.call 48 [(.tmp 48)]), o_p 50 (.bnot (.tmp 49)), o_m 51 50,
.split 51,
.op ⟨(some 52), (.load (some 4) (.tmp 8)), (some (51, false))⟩,
.op ⟨(some 53), (.eff (.call 49 [(.tmp 52)])), (some (51, false))⟩,
.op ⟨(some 54), (.pure (.mv (.tmp 0))), (some (51, false))⟩,
.op ⟨(some 55), (.pure (.bin .neq (.tmp 53) (.tmp 54))), (some (51, false))⟩, o_p 56 (.pick (.tmp 51) (.const (.bool true)) (.tmp 55))])
(.cond (.tmp 56)
(.seq (.ops [ o_p 57 (.build [(.int .i64 (0)), (.int .i64 (0)), (.int .i64 (0)), (.slice none 0 0)] []),
.op ⟨none, (.eff (.store 4 (.tmp 2) (.tmp 57))), none⟩, o_p 3 (.mv (.const (.bool false)))])
(.ret))
(.skip)))
(.seq (.ops [
.op ⟨(some 58), (.load (some 4) (.tmp 8)), none⟩,
.op ⟨none, (.eff (.store 4 (.tmp 2) (.tmp 58))), none⟩, o_p 3 (.mv (.const (.bool true)))])
(.ret))))))))),
[.cell 2 (some 4), .tmp 3]⟩
theorem r_spec_pkParse : resFun Tryz.prog f_spec_pkParse = some c_spec_pkParse := by kernel_rfl

/- (*loop.example/g00940/spec.l1Cur).pick -/
abbrev f_spec_l1Cur_pick : Nat := 54
def c_spec_l1Cur_pick : MFun := ⟨20, .seq (.ops [ o_p 4 (.mv (.const (.int .i64 (0))))])
(.seq (.seq (.ops [ o_m 6 1, o_p 7 (.bin .leq (.tmp 6) (.const (.int .i64 (1))))])
(.cond (.tmp 7)
(.seq (.ops [ o_p 4 (.mv (.const (.int .i64 (0))))])
(.ret))
(.skip)))
(.seq (.ops [ o_m 8 0, o_e 9 (.call 76 [(.tmp 8)]), o_m 5 9])
(.seq (.seq (.ops [ o_m 10 1, o_p 11 (.bin .gtr (.tmp 10) (.const (.int .i64 (200))))])
(.cond (.tmp 11)
(.ops [ o_m 12 5, o_p 13 (.bin .mul (.tmp 12) (.const (.int .i64 (256)))), o_m 14 0, o_e 15 (.call 76 [(.tmp 14)]), o_p 16 (.bin .add (.tmp 13) (.tmp 15)), o_m 5 16])
(.skip)))
(.seq (.ops [ o_m 17 5, o_m 18 1, o_p 19 (.bin .rem (.tmp 17) (.tmp 18)), o_m 4 19])
(.ret))))),
[.tmp 4]⟩
theorem r_spec_l1Cur_pick : resFun Tryz.prog f_spec_l1Cur_pick = some c_spec_l1Cur_pick := by kernel_rfl

/- (*loop.example/g00940/spec.l1Cur).content -/
abbrev f_spec_l1Cur_content : Nat := 55
def c_spec_l1Cur_content : MFun := ⟨6, .seq (.ops [ o_p 2 (.mv (.const (.int .i64 (0))))])
(.seq (.ops [ o_m 3 0, o_e 4 (.call 54 [(.tmp 3), (.const (.int .i64 (60)))]), o_p 5 (.bin .add (.const (.int .i64 (1))) (.tmp 4)), o_m 2 5])
(.ret)),
[.tmp 2]⟩
theorem r_spec_l1Cur_content : resFun Tryz.prog f_spec_l1Cur_content = some c_spec_l1Cur_content := by kernel_rfl

/- loop.example/g00940/spec.l1Least -/
abbrev f_spec_l1Least : Nat := 56
def c_spec_l1Least : MFun := ⟨10, .seq (.ops [ o_p 4 (.mv (.const (.int .i64 (0))))])
(.seq (.seq (.ops [ o_m 5 0, o_m 6 1, o_p 7 (.bin .lss (.tmp 5) (.tmp 6))])
(.cond (.tmp 7)
(.seq (.ops [ o_m 8 0, o_m 4 8])
(.ret))
(.skip)))
(.seq (.ops [ o_m 9 1, o_m 4 9])
(.ret))),
[.tmp 4]⟩
theorem r_spec_l1Least : resFun Tryz.prog f_spec_l1Least = some c_spec_l1Least := by kernel_rfl

/- loop.example/g00940/spec.l1Own -/
abbrev f_spec_l1Own : Nat := 57
def c_spec_l1Own : MFun := ⟨6, .seq (.ops [ o_p 2 (.mv (.const (.slice none 0 0)))])
(.seq (.ops [ o_e 3 (.row 3 0 [] []), o_m 4 0, o_e 5 (.app 3 1 8 (.tmp 3) (.tmp 4)), o_m 2 5])
(.ret)),
[.tmp 2]⟩
theorem r_spec_l1Own : resFun Tryz.prog f_spec_l1Own = some c_spec_l1Own := by kernel_rfl

/- strconv.Itoa -/
abbrev f_strconv_Itoa : Nat := 58
def c_strconv_Itoa : MFun := ⟨5, .seq (.ops [
.op ⟨(some 2), (.pure (.mv (.const (.string ⟨#[]⟩)))), none⟩])
(.seq (.ops [ o_m 3 0, o_e 4 (.call 77 [(.tmp 3)]), o_m 2 4])
(.ret)),
[.tmp 2]⟩
theorem r_strconv_Itoa : resFun Tryz.prog f_strconv_Itoa = some c_strconv_Itoa := by kernel_rfl
end Go.Proofs.YtbikhpphdhffaaaGreatDoor
