/- The code of this seat's functions, resolved, written by a program of mine; each is held against the given program by the kernel. Condition: none. -/
import Derived.Test.YtbikhpphdhffaaaGreatDoorProg
import Derived.Test.YtbikhpphdhffaaaGreatDoorBase9
import Derived.KernelRfl
namespace Go.Proofs.YtbikhpphdhffaaaGreatDoor
open Go.Vc

/- strings.Join -/
abbrev f_strings_Join : Nat := 59
def c_strings_Join : MFun := ⟨75, .seq (.ops [
.op ⟨(some 4), (.pure (.mv (.const (.string ⟨#[]⟩)))), none⟩])
(.seq (.seq (.ops [ o_m 11 0, o_p 12 (.len (.tmp 11))])
(.block 0 (.seq (.ops [ o_p 14 (.bin .eql (.tmp 12) (.const (.int .i64 (0)))), o_m 13 14])
(.cond (.tmp 13)
(.seq (.ops [
.op ⟨(some 4), (.pure (.mv (.const (.string ⟨#[]⟩)))), none⟩])
(.ret))
(.seq (.ops [ o_p 16 (.bin .eql (.tmp 12) (.const (.int .i64 (1)))), o_m 15 16])
(.cond (.tmp 15)
(.seq (.ops [ o_m 17 0, o_p 18 (.idx 1 (.tmp 17) (.const (.int .i64 (0)))), o_l 19 18, o_m 4 19])
(.ret))
(.skip)))))))
(.seq (.ops [ o_p 5 (.mv (.const (.int .i64 (0))))])
(.seq (.seq (.ops [ o_m 20 1, o_p 21 (.slen (.tmp 20)), o_p 22 (.bin .gtr (.tmp 21) (.const (.int .i64 (0))))])
(.cond (.tmp 22)
(.seq (.seq (.ops [ o_m 23 1, o_p 24 (.slen (.tmp 23)), o_m 25 0, o_p 26 (.len (.tmp 25)), o_p 27 (.bin .sub (.tmp 26) (.const (.int .i64 (1)))), o_p 28 (.bin .quo (.const (.int .i64 (9223372036854775807))) (.tmp 27)), o_p 29 (.bin .geq (.tmp 24) (.tmp 28))])
(.cond (.tmp 29)
(.ops [ o_e 30 (.fail),
.op ⟨none, (.eff (.fail)), none⟩])
(.skip)))
(.ops [ o_m 31 5, o_m 32 1, o_p 33 (.slen (.tmp 32)), o_m 34 0, o_p 35 (.len (.tmp 34)), o_p 36 (.bin .sub (.tmp 35) (.const (.int .i64 (1)))), o_p 37 (.bin .mul (.tmp 33) (.tmp 36)), o_p 38 (.bin .add (.tmp 31) (.tmp 37)), o_m 5 38]))
(.skip)))
(.seq (.seq (.ops [ o_m 39 0, o_p 40 (.len (.tmp 39)), o_p 41 (.mv (.const (.int .i64 (0))))])
(.block 1 (.loop (.seq (.ops [ o_p 42 (.bin .lss (.tmp 41) (.tmp 40))])
(.seq (.cond (.tmp 42)
(.skip)
(.exit 1))
(.seq (.block 2 (.seq (.ops [ o_p 43 (.idx 1 (.tmp 39) (.tmp 41)), o_l 44 43, o_m 7 44])
(.seq (.seq (.ops [ o_m 45 7, o_p 46 (.slen (.tmp 45)), o_m 47 5, o_p 48 (.bin .sub (.const (.int .i64 (9223372036854775807))) (.tmp 47)), o_p 49 (.bin .gtr (.tmp 46) (.tmp 48))])
(.cond (.tmp 49)
(.ops [ o_e 50 (.fail),
.op ⟨none, (.eff (.fail)), none⟩])
(.skip)))
(.ops [ o_m 51 5, o_m 52 7, o_p 53 (.slen (.tmp 52)), o_p 54 (.bin .add (.tmp 51) (.tmp 53)), o_m 5 54]))))
(.ops [ o_p 55 (.bin .add (.tmp 41) (.const (.int .i64 (1)))), o_m 41 55])))))))
(.seq (.ops [ o_e 8 (.new 90 [(.pointer none), (.slice none 0 0)])])
(.seq (.ops [ o_m 56 5, o_e 57 (.call 78 [(.tmp 8), (.tmp 56)])])
(.seq (.ops [ o_m 58 0, o_p 59 (.idx 1 (.tmp 58) (.const (.int .i64 (0)))), o_l 60 59, o_e 61 (.call 79 [(.tmp 8), (.tmp 60)])])
(.seq (.seq (.ops [ o_m 62 0, o_p 63 (.slc 1 (.tmp 62) (some (.const (.int .i64 (1)))) none none), o_p 64 (.len (.tmp 63)), o_p 65 (.mv (.const (.int .i64 (0))))])
(.block 3 (.loop (.seq (.ops [ o_p 66 (.bin .lss (.tmp 65) (.tmp 64))])
(.seq (.cond (.tmp 66)
(.skip)
(.exit 3))
(.seq (.block 4 (.seq (.ops [ o_p 67 (.idx 1 (.tmp 63) (.tmp 65)), o_l 68 67, o_m 10 68])
(.seq (.ops [ o_m 69 1, o_e 70 (.call 79 [(.tmp 8), (.tmp 69)])])
(.ops [ o_m 71 10, o_e 72 (.call 79 [(.tmp 8), (.tmp 71)])]))))
(.ops [ o_p 73 (.bin .add (.tmp 65) (.const (.int .i64 (1)))), o_m 65 73])))))))
(.seq (.ops [ o_e 74 (.call 80 [(.tmp 8)]), o_m 4 74])
(.ret)))))))))),
[.tmp 4]⟩
theorem r_strings_Join : resFun Tryz.prog f_strings_Join = some c_strings_Join := by kernel_rfl

/- internal/stringslite.Cut -/
abbrev f_internal_stringslite_Cut : Nat := 60
def c_internal_stringslite_Cut : MFun := ⟨23, .seq (.ops [
.op ⟨(some 4), (.pure (.mv (.const (.string ⟨#[]⟩)))), none⟩,
.op ⟨(some 5), (.pure (.mv (.const (.string ⟨#[]⟩)))), none⟩, o_p 6 (.mv (.const (.bool false)))])
(.seq (.seq (.ops [ o_m 8 0, o_m 9 1, o_e 10 (.call 81 [(.tmp 8), (.tmp 9)]), o_m 7 10])
(.seq (.ops [ o_m 11 7, o_p 12 (.bin .geq (.tmp 11) (.const (.int .i64 (0))))])
(.cond (.tmp 12)
(.seq (.ops [ o_m 13 0, o_m 14 7, o_p 15 (.sslc (.tmp 13) none (some (.tmp 14))), o_m 16 0, o_m 17 7, o_m 18 1, o_p 19 (.slen (.tmp 18)), o_p 20 (.bin .add (.tmp 17) (.tmp 19)), o_p 21 (.sslc (.tmp 16) (some (.tmp 20)) none), o_m 4 15, o_m 5 21, o_p 6 (.mv (.const (.bool true)))])
(.ret))
(.skip))))
(.seq (.ops [ o_m 22 0, o_m 4 22,
.op ⟨(some 5), (.pure (.mv (.const (.string ⟨#[]⟩)))), none⟩, o_p 6 (.mv (.const (.bool false)))])
(.ret))),
[.tmp 4, .tmp 5, .tmp 6]⟩
theorem r_internal_stringslite_Cut : resFun Tryz.prog f_internal_stringslite_Cut = some c_internal_stringslite_Cut := by kernel_rfl

/- strings.Split -/
abbrev f_strings_Split : Nat := 61
def c_strings_Split : MFun := ⟨8, .seq (.ops [ o_p 4 (.mv (.const (.slice none 0 0)))])
(.seq (.ops [ o_m 5 0, o_m 6 1, o_e 7 (.call 82 [(.tmp 5), (.tmp 6), (.const (.int .i64 (0))), (.const (.int .i64 (-1)))]), o_m 4 7])
(.ret)),
[.tmp 4]⟩
theorem r_strings_Split : resFun Tryz.prog f_strings_Split = some c_strings_Split := by kernel_rfl

/- loop.example/g00940/impl.readNumber -/
abbrev f_impl_readNumber : Nat := 62
def c_impl_readNumber : MFun := ⟨24, .seq (.ops [ o_p 2 (.mv (.const (.int .i64 (0)))), o_p 3 (.mv (.const (.bool false)))])
(.seq (.ops [ o_m 7 0, o_e 8 (.call 83 [(.tmp 7)]), o_m 6 8, o_p 9 (.ext 0 (.tmp 6)), o_p 10 (.ext 1 (.tmp 6)), o_m 4 9, o_m 5 10])
(.seq (.seq (.ops [ o_m 11 5, o_p 12 (.ifnil true (.tmp 11)), o_m 13 12,
.split 13,
.op ⟨(some 14), (.pure (.mv (.tmp 4))), (some (13, false))⟩,
.op ⟨(some 15), (.pure (.bin .lss (.tmp 14) (.const (.int .i64 (0))))), (some (13, false))⟩, o_p 16 (.pick (.tmp 13) (.const (.bool true)) (.tmp 15)), o_m 17 16,
.split 17,
.op ⟨(some 18), (.pure (.mv (.tmp 4))), (some (17, false))⟩,
.op ⟨(some 19), (.eff (.call 58 [(.tmp 18)])), (some (17, false))⟩,
.op ⟨(some 20), (.pure (.mv (.tmp 0))), (some (17, false))⟩,
.op ⟨(some 21), (.pure (.bin .neq (.tmp 19) (.tmp 20))), (some (17, false))⟩, o_p 22 (.pick (.tmp 17) (.const (.bool true)) (.tmp 21))])
(.cond (.tmp 22)
(.seq (.ops [ o_p 2 (.mv (.const (.int .i64 (0)))), o_p 3 (.mv (.const (.bool false)))])
(.ret))
(.skip)))
(.seq (.ops [ o_m 23 4, o_m 2 23, o_p 3 (.mv (.const (.bool true)))])
(.ret)))),
[.tmp 2, .tmp 3]⟩
theorem r_impl_readNumber : resFun Tryz.prog f_impl_readNumber = some c_impl_readNumber := by kernel_rfl

/- loop.example/g00940/impl.ArePackets -/
abbrev f_impl_ArePackets : Nat := 63
def c_impl_ArePackets : MFun := ⟨11, .seq (.ops [ o_p 2 (.mv (.const (.bool false)))])
(.seq (.ops [ o_m 3 0, o_p 4 (.len (.tmp 3)), o_p 5 (.bin .leq (.tmp 4) (.const (.int .i64 (40)))), o_m 6 5,
.split 6,
.op ⟨(some 7), (.pure (.mv (.tmp 0))), (some (6, true))⟩,
.op ⟨(some 8), (.eff (.call 64 [(.tmp 7), (.func 84)])), (some (6, true))⟩,
.op ⟨(some 9), (.pure (.bnot (.tmp 8))), (some (6, true))⟩, o_p 10 (.pick (.tmp 6) (.tmp 9) (.const (.bool false))), o_m 2 10])
(.ret)),
[.tmp 2]⟩
theorem r_impl_ArePackets : resFun Tryz.prog f_impl_ArePackets = some c_impl_ArePackets := by kernel_rfl

/- slices.ContainsFunc[[]loop.example/g00940/impl.Packet,loop.example/g00940/impl.Packet] -/
abbrev f_slices_ContainsFunc_Limpl_Packet_impl_Packet : Nat := 64
def c_slices_ContainsFunc_Limpl_Packet_impl_Packet : MFun := ⟨9, .seq (.ops [ o_p 4 (.mv (.const (.bool false)))])
(.seq (.ops [ o_m 5 0, o_m 6 1, o_e 7 (.call 39 [(.tmp 5), (.tmp 6)]), o_p 8 (.bin .geq (.tmp 7) (.const (.int .i64 (0)))), o_m 4 8])
(.ret)),
[.tmp 4]⟩
theorem r_slices_ContainsFunc_Limpl_Packet_impl_Packet : resFun Tryz.prog f_slices_ContainsFunc_Limpl_Packet_impl_Packet = some c_slices_ContainsFunc_Limpl_Packet_impl_Packet := by kernel_rfl

/- loop.example/g00940/impl.packetsOf$1 -/
abbrev f_impl_packetsOf_1 : Nat := 65
def c_impl_packetsOf_1 : MFun := ⟨7, .seq (.ops [ o_e 2 (.box 32 (.tmp 0)), o_p 3 (.mv (.const (.bool false)))])
(.seq (.ops [
.op ⟨(some 4), (.load (some 4) (.tmp 1)), none⟩,
.op ⟨(some 5), (.load (some 4) (.tmp 2)), none⟩, o_e 6 (.call 66 [(.tmp 4), (.tmp 5)]), o_m 3 6])
(.ret)),
[.tmp 3]⟩
theorem r_impl_packetsOf_1 : resFun Tryz.prog f_impl_packetsOf_1 = some c_impl_packetsOf_1 := by kernel_rfl

/- loop.example/g00940/impl.inConflict -/
abbrev f_impl_inConflict : Nat := 66
def c_impl_inConflict : MFun := ⟨32, .seq (.ops [ o_e 2 (.box 32 (.tmp 0)), o_e 3 (.box 32 (.tmp 1)), o_p 4 (.mv (.const (.bool false)))])
(.seq (.ops [ o_p 5 (.fieldAddr 0 (.tmp 2)), o_l 6 5, o_p 7 (.fieldAddr 0 (.tmp 3)), o_l 8 7, o_p 9 (.bin .eql (.tmp 6) (.tmp 8)), o_m 10 9,
.split 10,
.op ⟨(some 11), (.pure (.fieldAddr 2 (.tmp 2))), (some (10, true))⟩,
.op ⟨(some 12), (.load none (.tmp 11)), (some (10, true))⟩,
.op ⟨(some 13), (.pure (.fieldAddr 2 (.tmp 3))), (some (10, true))⟩,
.op ⟨(some 14), (.load none (.tmp 13)), (some (10, true))⟩,
.op ⟨(some 15), (.pure (.bin .neq (.tmp 12) (.tmp 14))), (some (10, true))⟩,
.op ⟨(some 16), (.pure (.mv (.tmp 15))), (some (10, true))⟩,
.split 16,
.op ⟨(some 17), (.pure (.fieldAddr 1 (.tmp 2))), (some (16, false))⟩,
.op ⟨(some 18), (.load none (.tmp 17)), (some (16, false))⟩,
.op ⟨(some 19), (.pure (.fieldAddr 1 (.tmp 3))), (some (16, false))⟩,
.op ⟨(some 20), (.load none (.tmp 19)), (some (16, false))⟩,
.op ⟨(some 21), (.pure (.bin .eql (.tmp 18) (.tmp 20))), (some (16, false))⟩,
.op ⟨(some 22), (.pure (.mv (.tmp 21))), (some (16, false))⟩,
.split 22,
.op ⟨(some 23), (.pure (.fieldAddr 3 (.tmp 2))), (some (22, true))⟩,
.op ⟨(some 24), (.load none (.tmp 23)), (some (22, true))⟩,
.op ⟨(some 25), (.pure (.fieldAddr 3 (.tmp 3))), (some (22, true))⟩,
.op ⟨(some 26), (.load none (.tmp 25)), (some (22, true))⟩,
.op ⟨(some 27), (.eff (.call 85 [(.tmp 24), (.tmp 26)])), (some (22, true))⟩,
.op ⟨(some 28), (.pure (.bnot (.tmp 27))), (some (22, true))⟩,
.op ⟨(some 29), (.pure (.pick (.tmp 22) (.tmp 28) (.const (.bool false)))), (some (16, false))⟩,
.op ⟨(some 30), (.pure (.pick (.tmp 16) (.const (.bool true)) (.tmp 29))), (some (10, true))⟩, o_p 31 (.pick (.tmp 10) (.tmp 30) (.const (.bool false))), o_m 4 31])
(.ret)),
[.tmp 4]⟩
theorem r_impl_inConflict : resFun Tryz.prog f_impl_inConflict = some c_impl_inConflict := by kernel_rfl

/- loop.example/g00940/impl.missingParts$1 -/
abbrev f_impl_missingParts_1 : Nat := 67
def c_impl_missingParts_1 : MFun := ⟨8, .seq (.ops [ o_e 2 (.box 32 (.tmp 0)), o_p 3 (.mv (.const (.bool false)))])
(.seq (.ops [ o_p 4 (.fieldAddr 1 (.tmp 2)), o_l 5 4, o_l 6 1, o_p 7 (.bin .eql (.tmp 5) (.tmp 6)), o_m 3 7])
(.ret)),
[.tmp 3]⟩
theorem r_impl_missingParts_1 : resFun Tryz.prog f_impl_missingParts_1 = some c_impl_missingParts_1 := by kernel_rfl

/- loop.example/g00940/spec.pkOwn -/
abbrev f_spec_pkOwn : Nat := 68
def c_spec_pkOwn : MFun := ⟨8, .seq (.ops [ o_e 1 (.box 32 (.tmp 0)), o_e 2 (.new 32 [(.int .i64 (0)), (.int .i64 (0)), (.int .i64 (0)), (.slice none 0 0)])])
(.seq (.ops [ o_p 3 (.fieldAddr 3 (.tmp 1)), o_l 4 3, o_e 5 (.call 57 [(.tmp 4)]), o_p 6 (.fieldAddr 3 (.tmp 1)),
.op ⟨none, (.eff (.store 1 (.tmp 6) (.tmp 5))), none⟩])
(.seq (.ops [
.op ⟨(some 7), (.load (some 4) (.tmp 1)), none⟩,
.op ⟨none, (.eff (.store 4 (.tmp 2) (.tmp 7))), none⟩])
(.ret))),
[.cell 2 (some 4)]⟩
theorem r_spec_pkOwn : resFun Tryz.prog f_spec_pkOwn = some c_spec_pkOwn := by kernel_rfl

/- loop.example/g00940/spec.pkPart -/
abbrev f_spec_pkPart : Nat := 69
def c_spec_pkPart : MFun := ⟨20, .seq (.ops [ o_p 4 (.mv (.const (.int .i64 (0))))])
(.seq (.seq (.ops [ o_m 7 0, o_p 8 (.len (.tmp 7)), o_p 9 (.mv (.const (.int .i64 (0))))])
(.block 0 (.loop (.seq (.ops [ o_p 10 (.bin .lss (.tmp 9) (.tmp 8))])
(.seq (.cond (.tmp 10)
(.skip)
(.exit 0))
(.seq (.block 1 (.seq (.ops [ o_m 11 9, o_p 12 (.idx 4 (.tmp 7) (.tmp 9)),
.op ⟨(some 13), (.load (some 4) (.tmp 12)), none⟩, o_e 6 (.new 32 [(.int .i64 (0)), (.int .i64 (0)), (.int .i64 (0)), (.slice none 0 0)]), o_m 5 11,
.op ⟨none, (.eff (.store 4 (.tmp 6) (.tmp 13))), none⟩])
(.seq (.ops [ o_p 14 (.fieldAddr 1 (.tmp 6)), o_l 15 14, o_m 16 1, o_p 17 (.bin .eql (.tmp 15) (.tmp 16))])
(.cond (.tmp 17)
(.seq (.ops [ o_m 18 5, o_m 4 18])
(.ret))
(.skip)))))
(.ops [ o_p 19 (.bin .add (.tmp 9) (.const (.int .i64 (1)))), o_m 9 19])))))))
(.seq (.ops [ o_p 4 (.mv (.const (.int .i64 (-1))))])
(.ret))),
[.tmp 4]⟩
theorem r_spec_pkPart : resFun Tryz.prog f_spec_pkPart = some c_spec_pkPart := by kernel_rfl

/- loop.example/g00940/spec.pkClash -/
abbrev f_spec_pkClash : Nat := 70
def c_spec_pkClash : MFun := ⟨32, .seq (.ops [ o_e 2 (.box 32 (.tmp 0)), o_e 3 (.box 32 (.tmp 1)), o_p 4 (.mv (.const (.bool false)))])
(.seq (.ops [ o_p 5 (.fieldAddr 0 (.tmp 2)), o_l 6 5, o_p 7 (.fieldAddr 0 (.tmp 3)), o_l 8 7, o_p 9 (.bin .eql (.tmp 6) (.tmp 8)), o_m 10 9,
.split 10,
.op ⟨(some 11), (.pure (.fieldAddr 2 (.tmp 2))), (some (10, true))⟩,
.op ⟨(some 12), (.load none (.tmp 11)), (some (10, true))⟩,
.op ⟨(some 13), (.pure (.fieldAddr 2 (.tmp 3))), (some (10, true))⟩,
.op ⟨(some 14), (.load none (.tmp 13)), (some (10, true))⟩,
.op ⟨(some 15), (.pure (.bin .neq (.tmp 12) (.tmp 14))), (some (10, true))⟩,
.op ⟨(some 16), (.pure (.mv (.tmp 15))), (some (10, true))⟩,
.split 16,
.op ⟨(some 17), (.pure (.fieldAddr 1 (.tmp 2))), (some (16, false))⟩,
.op ⟨(some 18), (.load none (.tmp 17)), (some (16, false))⟩,
.op ⟨(some 19), (.pure (.fieldAddr 1 (.tmp 3))), (some (16, false))⟩,
.op ⟨(some 20), (.load none (.tmp 19)), (some (16, false))⟩,
.op ⟨(some 21), (.pure (.bin .eql (.tmp 18) (.tmp 20))), (some (16, false))⟩,
.op ⟨(some 22), (.pure (.mv (.tmp 21))), (some (16, false))⟩,
.split 22,
.op ⟨(some 23), (.pure (.fieldAddr 3 (.tmp 2))), (some (22, true))⟩,
.op ⟨(some 24), (.load none (.tmp 23)), (some (22, true))⟩,
.op ⟨(some 25), (.pure (.fieldAddr 3 (.tmp 3))), (some (22, true))⟩,
.op ⟨(some 26), (.load none (.tmp 25)), (some (22, true))⟩,
.op ⟨(some 27), (.eff (.call 86 [(.tmp 24), (.tmp 26)])), (some (22, true))⟩,
.op ⟨(some 28), (.pure (.bnot (.tmp 27))), (some (22, true))⟩,
.op ⟨(some 29), (.pure (.pick (.tmp 22) (.tmp 28) (.const (.bool false)))), (some (16, false))⟩,
.op ⟨(some 30), (.pure (.pick (.tmp 16) (.const (.bool true)) (.tmp 29))), (some (10, true))⟩, o_p 31 (.pick (.tmp 10) (.tmp 30) (.const (.bool false))), o_m 4 31])
(.ret)),
[.tmp 4]⟩
theorem r_spec_pkClash : resFun Tryz.prog f_spec_pkClash = some c_spec_pkClash := by kernel_rfl

/- loop.example/g00940/spec.l1Num -/
abbrev f_spec_l1Num : Nat := 71
def c_spec_l1Num : MFun := ⟨20, .seq (.ops [
.op ⟨(some 2), (.pure (.mv (.const (.string ⟨#[]⟩)))), none⟩])
(.seq (.seq (.ops [ o_m 3 0, o_p 4 (.bin .lss (.tmp 3) (.const (.int .i64 (10))))])
(.cond (.tmp 4)
(.seq (.ops [ o_m 5 0, o_p 6 (.bin .add (.const (.int .i64 (48))) (.tmp 5)), o_p 7 (.conv .u8 (.tmp 6)), o_e 8 (.row 5 1 [(.int .u8 (0))] [(0, 1, (.tmp 7))]), o_e 9 (.bstr (.tmp 8)), o_m 2 9])
(.ret))
(.skip)))
(.seq (.draw true
(.take (t_m 10 0)
(.take (t_p 11 (.bin .quo (.tmp 10) (.const (.int .i64 (10)))))
(.take (t_m 13 0)
(.take (t_p 14 (.bin .rem (.tmp 13) (.const (.int .i64 (10)))))
(.take (t_p 15 (.bin .add (.const (.int .i64 (48))) (.tmp 14)))
(.take (t_p 16 (.conv .u8 (.tmp 15)))
(.fork
(.only true (t_e 12 (.call 71 [(.tmp 11)]))
(.only true (t_e 17 (.row 5 1 [(.int .u8 (0))] [(0, 1, (.tmp 16))]))
(.only true (t_e 18 (.bstr (.tmp 17)))
(.take (t_p 19 (.bin .add (.tmp 12) (.tmp 18)))
(.take (t_m 2 19)
(.done))))))
(.only true (t_e 17 (.row 5 1 [(.int .u8 (0))] [(0, 1, (.tmp 16))]))
(.fork
(.only true (t_e 12 (.call 71 [(.tmp 11)]))
(.only true (t_e 18 (.bstr (.tmp 17)))
(.take (t_p 19 (.bin .add (.tmp 12) (.tmp 18)))
(.take (t_m 2 19)
(.done)))))
(.only true (t_e 18 (.bstr (.tmp 17)))
(.only true (t_e 12 (.call 71 [(.tmp 11)]))
(.take (t_p 19 (.bin .add (.tmp 12) (.tmp 18)))
(.take (t_m 2 19)
(.done)))))))))))))))
(.ret))),
[.tmp 2]⟩
theorem r_spec_l1Num : resFun Tryz.prog f_spec_l1Num = some c_spec_l1Num := by kernel_rfl

/- loop.example/g00940/spec.sgLine -/
abbrev f_spec_sgLine : Nat := 72
def c_spec_sgLine : MFun := ⟨23, .seq (.ops [
.op ⟨(some 2), (.pure (.mv (.const (.string ⟨#[]⟩)))), none⟩])
(.seq (.ops [
.op ⟨(some 3), (.pure (.mv (.const (.string ⟨#[]⟩)))), none⟩])
(.seq (.seq (.ops [ o_m 6 0, o_p 7 (.len (.tmp 6)), o_p 8 (.mv (.const (.int .i64 (0))))])
(.block 0 (.loop (.seq (.ops [ o_p 9 (.bin .lss (.tmp 8) (.tmp 7))])
(.seq (.cond (.tmp 9)
(.skip)
(.exit 0))
(.seq (.block 1 (.seq (.ops [ o_m 10 8, o_p 11 (.idx 1 (.tmp 6) (.tmp 8)), o_l 12 11, o_m 4 10, o_m 5 12])
(.seq (.seq (.ops [ o_m 13 4, o_p 14 (.bin .gtr (.tmp 13) (.const (.int .i64 (0))))])
(.cond (.tmp 14)
(.ops [ o_m 15 3,
.op ⟨(some 16), (.pure (.bin .add (.tmp 15) (.const (.string ⟨#[32]⟩)))), none⟩, o_m 3 16])
(.skip)))
(.ops [ o_m 17 3, o_m 18 5, o_e 19 (.call 71 [(.tmp 18)]), o_p 20 (.bin .add (.tmp 17) (.tmp 19)), o_m 3 20]))))
(.ops [ o_p 21 (.bin .add (.tmp 8) (.const (.int .i64 (1)))), o_m 8 21])))))))
(.seq (.ops [ o_m 22 3, o_m 2 22])
(.ret)))),
[.tmp 2]⟩
theorem r_spec_sgLine : resFun Tryz.prog f_spec_sgLine = some c_spec_sgLine := by kernel_rfl

/- loop.example/g00940/spec.l1Split -/
abbrev f_spec_l1Split : Nat := 73
def c_spec_l1Split : MFun := ⟨34, .seq (.ops [ o_p 4 (.mv (.const (.slice none 0 0)))])
(.seq (.ops [ o_p 5 (.mv (.const (.slice none 0 0)))])
(.seq (.ops [ o_p 6 (.mv (.const (.int .i64 (0))))])
(.seq (.seq (.ops [ o_p 7 (.mv (.const (.int .i64 (0))))])
(.block 0 (.loop (.seq (.seq (.ops [ o_m 8 7, o_m 9 0, o_p 10 (.slen (.tmp 9)), o_p 11 (.bin .lss (.tmp 8) (.tmp 10))])
(.cond (.tmp 11)
(.skip)
(.exit 0)))
(.seq (.block 1 (.seq (.ops [ o_m 14 0, o_m 15 7, o_p 16 (.sidx (.tmp 14) (.tmp 15)), o_m 17 1, o_p 18 (.bin .eql (.tmp 16) (.tmp 17))])
(.cond (.tmp 18)
(.seq (.ops [ o_m 19 5, o_m 20 0, o_m 21 6, o_m 22 7, o_p 23 (.sslc (.tmp 20) (some (.tmp 21)) (some (.tmp 22))),
.op ⟨(some 24), (.eff (.row 9 1 [(.string ⟨#[]⟩)] [(0, 1, (.tmp 23))])), none⟩, o_e 25 (.app 9 1 16 (.tmp 19) (.tmp 24)), o_m 5 25])
(.ops [ o_m 26 7, o_p 27 (.bin .add (.tmp 26) (.const (.int .i64 (1)))), o_m 6 27]))
(.skip))))
(.ops [ o_m 12 7, o_p 13 (.bin .add (.tmp 12) (.const (.int .i64 (1)))), o_m 7 13]))))))
(.seq (.ops [ o_m 28 5, o_m 29 0, o_m 30 6, o_p 31 (.sslc (.tmp 29) (some (.tmp 30)) none),
.op ⟨(some 32), (.eff (.row 9 1 [(.string ⟨#[]⟩)] [(0, 1, (.tmp 31))])), none⟩, o_e 33 (.app 9 1 16 (.tmp 28) (.tmp 32)), o_m 4 33])
(.ret))))),
[.tmp 4]⟩
theorem r_spec_l1Split : resFun Tryz.prog f_spec_l1Split = some c_spec_l1Split := by kernel_rfl

/- loop.example/g00940/spec.sgParse -/
abbrev f_spec_sgParse : Nat := 74
def c_spec_sgParse : MFun := ⟨32, .seq (.ops [ o_p 2 (.mv (.const (.slice none 0 0))), o_p 3 (.mv (.const (.bool false)))])
(.seq (.seq (.ops [ o_m 7 0,
.op ⟨(some 8), (.pure (.bin .eql (.tmp 7) (.const (.string ⟨#[]⟩)))), none⟩])
(.cond (.tmp 8)
(.seq (.ops [ o_p 2 (.mv (.const (.slice none 0 0))), o_p 3 (.mv (.const (.bool true)))])
(.ret))
(.skip)))
(.seq (.ops [ o_p 4 (.mv (.const (.slice none 0 0)))])
(.seq (.seq (.ops [ o_m 9 0, o_e 10 (.call 73 [(.tmp 9), (.const (.int .u8 (32)))]), o_p 11 (.len (.tmp 10)), o_p 12 (.mv (.const (.int .i64 (0))))])
(.block 0 (.loop (.seq (.ops [ o_p 13 (.bin .lss (.tmp 12) (.tmp 11))])
(.seq (.cond (.tmp 13)
(.skip)
(.exit 0))
(.seq (.block 1 (.seq (.ops [ o_p 14 (.idx 1 (.tmp 10) (.tmp 12)), o_l 15 14, o_m 6 15])
(.ops [ o_m 16 4, o_m 17 6, o_e 18 (.call 75 [(.tmp 17)]), o_e 19 (.row 3 1 [(.int .i64 (0))] [(0, 1, (.tmp 18))]), o_e 20 (.app 3 1 8 (.tmp 16) (.tmp 19)), o_m 4 20])))
(.ops [ o_p 21 (.bin .add (.tmp 12) (.const (.int .i64 (1)))), o_m 12 21])))))))
(.seq (.seq (.ops [ o_m 22 4, o_e 23 (.call 87 [(.tmp 22)]), o_p 24 (.bnot (.tmp 23)), o_m 25 24,
.split 25,
.op ⟨(some 26), (.pure (.mv (.tmp 4))), (some (25, false))⟩,
.op ⟨(some 27), (.eff (.call 72 [(.tmp 26)])), (some (25, false))⟩,
.op ⟨(some 28), (.pure (.mv (.tmp 0))), (some (25, false))⟩,
.op ⟨(some 29), (.pure (.bin .neq (.tmp 27) (.tmp 28))), (some (25, false))⟩, o_p 30 (.pick (.tmp 25) (.const (.bool true)) (.tmp 29))])
(.cond (.tmp 30)
(.seq (.ops [ o_p 2 (.mv (.const (.slice none 0 0))), o_p 3 (.mv (.const (.bool false)))])
(.ret))
(.skip)))
(.seq (.ops [ o_m 31 4, o_m 2 31, o_p 3 (.mv (.const (.bool true)))])
(.ret)))))),
[.tmp 2, .tmp 3]⟩
theorem r_spec_sgParse : resFun Tryz.prog f_spec_sgParse = some c_spec_sgParse := by kernel_rfl

/- loop.example/g00940/spec.l1Read -/
abbrev f_spec_l1Read : Nat := 75
def c_spec_l1Read : MFun := ⟨44, .seq (.ops [ o_p 2 (.mv (.const (.int .i64 (0))))])
(.seq (.seq (.ops [ o_m 5 0, o_p 6 (.slen (.tmp 5)), o_e 7 (.call 31 [(.tmp 6), (.const (.int .i64 (1))), (.const (.int .i64 (6)))]), o_p 8 (.bnot (.tmp 7)), o_m 9 8,
.split 9,
.op ⟨(some 10), (.pure (.mv (.tmp 0))), (some (9, false))⟩,
.op ⟨(some 11), (.pure (.sidx (.tmp 10) (.const (.int .i64 (0))))), (some (9, false))⟩,
.op ⟨(some 12), (.pure (.bin .eql (.tmp 11) (.const (.int .u8 (48))))), (some (9, false))⟩,
.op ⟨(some 13), (.pure (.mv (.tmp 12))), (some (9, false))⟩,
.split 13,
.op ⟨(some 14), (.pure (.mv (.tmp 0))), (some (13, true))⟩,
.op ⟨(some 15), (.pure (.slen (.tmp 14))), (some (13, true))⟩,
.op ⟨(some 16), (.pure (.bin .gtr (.tmp 15) (.const (.int .i64 (1))))), (some (13, true))⟩,
.op ⟨(some 17), (.pure (.pick (.tmp 13) (.tmp 16) (.const (.bool false)))), (some (9, false))⟩, o_p 18 (.pick (.tmp 9) (.const (.bool true)) (.tmp 17))])
(.cond (.tmp 18)
(.seq (.ops [ o_p 2 (.mv (.const (.int .i64 (-1))))])
(.ret))
(.skip)))
(.seq (.ops [ o_p 3 (.mv (.const (.int .i64 (0))))])
(.seq (.seq (.ops [ o_p 4 (.mv (.const (.int .i64 (0))))])
(.block 0 (.loop (.seq (.seq (.ops [ o_m 19 4, o_m 20 0, o_p 21 (.slen (.tmp 20)), o_p 22 (.bin .lss (.tmp 19) (.tmp 21))])
(.cond (.tmp 22)
(.skip)
(.exit 0)))
(.seq (.block 1 (.seq (.seq (.ops [ o_m 25 0, o_m 26 4, o_p 27 (.sidx (.tmp 25) (.tmp 26)), o_p 28 (.bin .lss (.tmp 27) (.const (.int .u8 (48)))), o_m 29 28,
.split 29,
.op ⟨(some 30), (.pure (.mv (.tmp 0))), (some (29, false))⟩,
.op ⟨(some 31), (.pure (.mv (.tmp 4))), (some (29, false))⟩,
.op ⟨(some 32), (.pure (.sidx (.tmp 30) (.tmp 31))), (some (29, false))⟩,
.op ⟨(some 33), (.pure (.bin .gtr (.tmp 32) (.const (.int .u8 (57))))), (some (29, false))⟩, o_p 34 (.pick (.tmp 29) (.const (.bool true)) (.tmp 33))])
(.cond (.tmp 34)
(.seq (.ops [ o_p 2 (.mv (.const (.int .i64 (-1))))])
(.ret))
(.skip)))
(.ops [ o_m 35 3, o_p 36 (.bin .mul (.const (.int .i64 (10))) (.tmp 35)), o_m 37 0, o_m 38 4, o_p 39 (.sidx (.tmp 37) (.tmp 38)), o_p 40 (.bin .sub (.tmp 39) (.const (.int .u8 (48)))), o_p 41 (.conv .i64 (.tmp 40)), o_p 42 (.bin .add (.tmp 36) (.tmp 41)), o_m 3 42])))
(.ops [ o_m 23 4, o_p 24 (.bin .add (.tmp 23) (.const (.int .i64 (1)))), o_m 4 24]))))))
(.seq (.ops [ o_m 43 3, o_m 2 43])
(.ret))))),
[.tmp 2]⟩
theorem r_spec_l1Read : resFun Tryz.prog f_spec_l1Read = some c_spec_l1Read := by kernel_rfl

/- (*loop.example/g00940/spec.l1Cur).next -/
abbrev f_spec_l1Cur_next : Nat := 76
def c_spec_l1Cur_next : MFun := ⟨62, .seq (.ops [ o_p 2 (.mv (.const (.int .i64 (0))))])
(.seq (.ops [ o_p 3 (.mv (.const (.int .i64 (0))))])
(.seq (.seq (.ops [ o_m 4 0, o_p 5 (.nilc (.tmp 4)), o_p 6 (.fieldAddr 1 (.tmp 5)), o_m 8 0, o_p 9 (.nilc (.tmp 8)), o_p 10 (.fieldAddr 0 (.tmp 9)), o_l 7 6, o_l 11 10, o_p 12 (.len (.tmp 11)), o_p 13 (.bin .lss (.tmp 7) (.tmp 12))])
(.cond (.tmp 13)
(.ops [ o_m 14 0, o_p 15 (.nilc (.tmp 14)), o_p 16 (.fieldAddr 0 (.tmp 15)), o_m 18 0, o_p 19 (.nilc (.tmp 18)), o_p 20 (.fieldAddr 1 (.tmp 19)), o_l 17 16, o_l 21 20, o_p 22 (.idx 1 (.tmp 17) (.tmp 21)), o_l 23 22, o_p 24 (.conv .i64 (.tmp 23)), o_m 3 24])
(.skip)))
(.seq (.ops [ o_m 25 0, o_p 26 (.nilc (.tmp 25)), o_p 27 (.fieldAddr 1 (.tmp 26)), o_l 28 27, o_p 29 (.bin .add (.tmp 28) (.const (.int .i64 (1)))), o_p 30 (.nilc (.tmp 25)), o_p 31 (.fieldAddr 1 (.tmp 30)),
.op ⟨none, (.eff (.store 1 (.tmp 31) (.tmp 29))), none⟩])
(.seq (.ops [ o_m 32 0, o_m 33 0, o_p 34 (.nilc (.tmp 33)), o_p 35 (.fieldAddr 2 (.tmp 34)), o_l 36 35, o_p 37 (.bin .mul (.tmp 36) (.const (.int .u64 (6364136223846793005)))), o_m 38 3, o_p 39 (.conv .u64 (.tmp 38)), o_p 40 (.bin .add (.tmp 37) (.tmp 39)), o_p 41 (.bin .add (.tmp 40) (.const (.int .u64 (1442695040888963407)))), o_p 42 (.nilc (.tmp 32)), o_p 43 (.fieldAddr 2 (.tmp 42)),
.op ⟨none, (.eff (.store 1 (.tmp 43) (.tmp 41))), none⟩])
(.seq (.seq (.ops [ o_m 44 0, o_p 45 (.nilc (.tmp 44)), o_p 46 (.fieldAddr 1 (.tmp 45)), o_m 48 0, o_p 49 (.nilc (.tmp 48)), o_p 50 (.fieldAddr 0 (.tmp 49)), o_l 47 46, o_l 51 50, o_p 52 (.len (.tmp 51)), o_p 53 (.bin .leq (.tmp 47) (.tmp 52))])
(.cond (.tmp 53)
(.seq (.ops [ o_m 54 3, o_m 2 54])
(.ret))
(.skip)))
(.seq (.ops [ o_m 55 0, o_p 56 (.nilc (.tmp 55)), o_p 57 (.fieldAddr 2 (.tmp 56)), o_l 58 57, o_p 59 (.bin .shr (.tmp 58) (.const (.int .u64 (40)))), o_p 60 (.bin .and (.tmp 59) (.const (.int .u64 (255)))), o_p 61 (.conv .i64 (.tmp 60)), o_m 2 61])
(.ret))))))),
[.tmp 2]⟩
theorem r_spec_l1Cur_next : resFun Tryz.prog f_spec_l1Cur_next = some c_spec_l1Cur_next := by kernel_rfl

/- internal/strconv.Itoa -/
abbrev f_internal_strconv_Itoa : Nat := 77
def c_internal_strconv_Itoa : MFun := ⟨5, .seq (.ops [
.op ⟨(some 2), (.pure (.mv (.const (.string ⟨#[]⟩)))), none⟩])
(.seq (.ops [ o_m 3 0, o_e 4 (.call 88 [(.tmp 3), (.const (.int .i64 (10)))]), o_m 2 4])
(.ret)),
[.tmp 2]⟩
theorem r_internal_strconv_Itoa : resFun Tryz.prog f_internal_strconv_Itoa = some c_internal_strconv_Itoa := by kernel_rfl

/- (*strings.Builder).Grow -/
abbrev f_strings_Builder_Grow : Nat := 78
def c_strings_Builder_Grow : MFun := ⟨25, .seq (.ops [ o_m 4 0, o_e 5 (.call 89 [(.tmp 4)])])
(.seq (.seq (.ops [ o_m 6 1, o_p 7 (.bin .lss (.tmp 6) (.const (.int .i64 (0))))])
(.cond (.tmp 7)
(.ops [ o_e 8 (.fail),
.op ⟨none, (.eff (.fail)), none⟩])
(.skip)))
(.seq (.draw true
(.take (t_m 9 0)
(.take (t_p 10 (.nilc (.tmp 9)))
(.take (t_p 11 (.fieldAddr 1 (.tmp 10)))
(.take (t_m 14 0)
(.take (t_p 15 (.nilc (.tmp 14)))
(.take (t_p 16 (.fieldAddr 1 (.tmp 15)))
(.take (t_m 20 1)
(.only false (t_l 12 11)
(.take (t_l 17 16)
(.take (t_p 18 (.len (.tmp 17)))
(.only false (t_e 13 (.fail))
(.take (t_p 19 (.bin .sub (.tmp 13) (.tmp 18)))
(.take (t_p 21 (.bin .lss (.tmp 19) (.tmp 20)))
(.done)))))))))))))))
(.cond (.tmp 21)
(.ops [ o_m 22 0, o_m 23 1, o_e 24 (.call 90 [(.tmp 22), (.tmp 23)])])
(.skip)))),
[]⟩
theorem r_strings_Builder_Grow : resFun Tryz.prog f_strings_Builder_Grow = some c_strings_Builder_Grow := by kernel_rfl

/- (*strings.Builder).WriteString -/
abbrev f_strings_Builder_WriteString : Nat := 79
def c_strings_Builder_WriteString : MFun := ⟨19, .seq (.ops [ o_p 4 (.mv (.const (.int .i64 (0)))), o_p 5 (.mv (.const .nilIface))])
(.seq (.ops [ o_m 6 0, o_e 7 (.call 89 [(.tmp 6)])])
(.seq (.ops [ o_m 8 0, o_m 9 0, o_p 10 (.nilc (.tmp 9)), o_p 11 (.fieldAddr 1 (.tmp 10)), o_l 12 11, o_m 13 1, o_e 14 (.fail), o_p 15 (.nilc (.tmp 8)), o_p 16 (.fieldAddr 1 (.tmp 15)),
.op ⟨none, (.eff (.store 1 (.tmp 16) (.tmp 14))), none⟩])
(.seq (.ops [ o_m 17 1, o_p 18 (.slen (.tmp 17)), o_m 4 18, o_p 5 (.mv (.const .nilIface))])
(.ret)))),
[.tmp 4, .tmp 5]⟩
theorem r_strings_Builder_WriteString : resFun Tryz.prog f_strings_Builder_WriteString = some c_strings_Builder_WriteString := by kernel_rfl

/- (*strings.Builder).String -/
abbrev f_strings_Builder_String : Nat := 80
def c_strings_Builder_String : MFun := ⟨14, .seq (.ops [
.op ⟨(some 2), (.pure (.mv (.const (.string ⟨#[]⟩)))), none⟩])
(.seq (.draw true
(.take (t_m 3 0)
(.take (t_p 4 (.nilc (.tmp 3)))
(.take (t_p 5 (.fieldAddr 1 (.tmp 4)))
(.take (t_m 8 0)
(.take (t_p 9 (.nilc (.tmp 8)))
(.take (t_p 10 (.fieldAddr 1 (.tmp 9)))
(.only false (t_l 6 5)
(.take (t_l 11 10)
(.take (t_p 12 (.len (.tmp 11)))
(.only false (t_e 7 (.fail))
(.only true (t_e 13 (.fail))
(.take (t_m 2 13)
(.done))))))))))))))
(.ret)),
[.tmp 2]⟩
theorem r_strings_Builder_String : resFun Tryz.prog f_strings_Builder_String = some c_strings_Builder_String := by kernel_rfl

/- internal/stringslite.Index -/
abbrev f_internal_stringslite_Index : Nat := 81
def c_internal_stringslite_Index : MFun := ⟨143, .seq (.ops [ o_p 4 (.mv (.const (.int .i64 (0))))])
(.seq (.ops [ o_m 14 1, o_p 15 (.slen (.tmp 14)), o_m 5 15])
(.seq (.block 0 (.seq (.ops [ o_m 17 5, o_p 18 (.bin .eql (.tmp 17) (.const (.int .i64 (0)))), o_m 19 18,
.split 19,
.op ⟨(some 20), (.pure (.mv (.tmp 1))), (some (19, false))⟩,
.op ⟨(some 21), (.pure (.mv (.tmp 0))), (some (19, false))⟩,
.op ⟨(some 22), (.pure (.bin .eql (.tmp 20) (.tmp 21))), (some (19, false))⟩, o_p 23 (.pick (.tmp 19) (.const (.bool true)) (.tmp 22)), o_m 16 23])
(.cond (.tmp 16)
(.seq (.ops [ o_p 4 (.mv (.const (.int .i64 (0))))])
(.ret))
(.seq (.ops [ o_m 25 5, o_p 26 (.bin .eql (.tmp 25) (.const (.int .i64 (1)))), o_m 24 26])
(.cond (.tmp 24)
(.seq (.ops [ o_m 27 0, o_m 28 1, o_p 29 (.sidx (.tmp 28) (.const (.int .i64 (0)))), o_e 30 (.call 91 [(.tmp 27), (.tmp 29)]), o_m 4 30])
(.ret))
(.seq (.ops [ o_m 32 5, o_m 33 0, o_p 34 (.slen (.tmp 33)), o_p 35 (.bin .geq (.tmp 32) (.tmp 34)), o_m 31 35])
(.cond (.tmp 31)
(.seq (.ops [ o_p 4 (.mv (.const (.int .i64 (-1))))])
(.ret))
(.seq (.ops [ o_m 37 5,
.op ⟨(some 38), (.load none (.global 0)), none⟩, o_p 39 (.bin .leq (.tmp 37) (.tmp 38)), o_m 40 39,
.split 40,
.op ⟨(some 41), (.pure (.mv (.tmp 0))), (some (40, true))⟩,
.op ⟨(some 42), (.pure (.slen (.tmp 41))), (some (40, true))⟩,
.op ⟨(some 43), (.pure (.bin .leq (.tmp 42) (.const (.int .i64 (64))))), (some (40, true))⟩, o_p 44 (.pick (.tmp 40) (.tmp 43) (.const (.bool false))), o_m 36 44])
(.cond (.tmp 36)
(.seq (.ops [ o_m 45 0, o_m 46 1, o_e 47 (.call 92 [(.tmp 45), (.tmp 46)]), o_m 4 47])
(.ret))
(.skip))))))))))
(.seq (.ops [ o_m 48 1, o_p 49 (.sidx (.tmp 48) (.const (.int .i64 (0)))), o_m 6 49])
(.seq (.ops [ o_m 50 1, o_p 51 (.sidx (.tmp 50) (.const (.int .i64 (1)))), o_m 7 51])
(.seq (.ops [ o_p 8 (.mv (.const (.int .i64 (0))))])
(.seq (.ops [ o_m 52 0, o_p 53 (.slen (.tmp 52)), o_m 54 5, o_p 55 (.bin .sub (.tmp 53) (.tmp 54)), o_p 56 (.bin .add (.tmp 55) (.const (.int .i64 (1)))), o_m 9 56])
(.seq (.ops [ o_p 10 (.mv (.const (.int .i64 (0))))])
(.seq (.block 1 (.loop (.seq (.seq (.ops [ o_m 57 8, o_m 58 9, o_p 59 (.bin .lss (.tmp 57) (.tmp 58))])
(.cond (.tmp 59)
(.skip)
(.exit 1)))
(.block 2 (.seq (.seq (.ops [ o_m 60 0, o_m 61 8, o_p 62 (.sidx (.tmp 60) (.tmp 61)), o_m 63 6, o_p 64 (.bin .neq (.tmp 62) (.tmp 63))])
(.cond (.tmp 64)
(.seq (.ops [ o_m 65 0, o_m 66 8, o_p 67 (.bin .add (.tmp 66) (.const (.int .i64 (1)))), o_m 68 9, o_p 69 (.sslc (.tmp 65) (some (.tmp 67)) (some (.tmp 68))), o_m 70 6, o_e 71 (.call 91 [(.tmp 69), (.tmp 70)]), o_m 11 71])
(.seq (.seq (.ops [ o_m 72 11, o_p 73 (.bin .lss (.tmp 72) (.const (.int .i64 (0))))])
(.cond (.tmp 73)
(.seq (.ops [ o_p 4 (.mv (.const (.int .i64 (-1))))])
(.ret))
(.skip)))
(.ops [ o_m 74 8, o_m 75 11, o_p 76 (.bin .add (.tmp 75) (.const (.int .i64 (1)))), o_p 77 (.bin .add (.tmp 74) (.tmp 76)), o_m 8 77])))
(.skip)))
(.seq (.seq (.ops [ o_m 78 0, o_m 79 8, o_p 80 (.bin .add (.tmp 79) (.const (.int .i64 (1)))), o_p 81 (.sidx (.tmp 78) (.tmp 80)), o_m 82 7, o_p 83 (.bin .eql (.tmp 81) (.tmp 82)), o_m 84 83,
.split 84,
.op ⟨(some 85), (.pure (.mv (.tmp 0))), (some (84, true))⟩,
.op ⟨(some 86), (.pure (.mv (.tmp 8))), (some (84, true))⟩,
.op ⟨(some 87), (.pure (.mv (.tmp 8))), (some (84, true))⟩,
.op ⟨(some 88), (.pure (.mv (.tmp 5))), (some (84, true))⟩,
.op ⟨(some 89), (.pure (.bin .add (.tmp 87) (.tmp 88))), (some (84, true))⟩,
.op ⟨(some 90), (.pure (.sslc (.tmp 85) (some (.tmp 86)) (some (.tmp 89)))), (some (84, true))⟩,
.op ⟨(some 91), (.pure (.mv (.tmp 1))), (some (84, true))⟩,
.op ⟨(some 92), (.pure (.bin .eql (.tmp 90) (.tmp 91))), (some (84, true))⟩, o_p 93 (.pick (.tmp 84) (.tmp 92) (.const (.bool false)))])
(.cond (.tmp 93)
(.seq (.ops [ o_m 94 8, o_m 4 94])
(.ret))
(.skip)))
(.seq (.ops [ o_m 95 8, o_p 96 (.bin .add (.tmp 95) (.const (.int .i64 (1)))), o_m 8 96])
(.seq (.ops [ o_m 97 10, o_p 98 (.bin .add (.tmp 97) (.const (.int .i64 (1)))), o_m 10 98])
(.seq (.ops [ o_m 99 5,
.op ⟨(some 100), (.load none (.global 0)), none⟩, o_p 101 (.bin .leq (.tmp 99) (.tmp 100)), o_m 102 101,
.split 102,
.op ⟨(some 103), (.pure (.mv (.tmp 10))), (some (102, true))⟩,
.op ⟨(some 104), (.pure (.mv (.tmp 8))), (some (102, true))⟩,
.op ⟨(some 105), (.eff (.call 93 [(.tmp 104)])), (some (102, true))⟩,
.op ⟨(some 106), (.pure (.bin .gtr (.tmp 103) (.tmp 105))), (some (102, true))⟩, o_p 107 (.pick (.tmp 102) (.tmp 106) (.const (.bool false)))])
(.cond (.tmp 107)
(.seq (.ops [ o_m 108 0, o_m 109 8, o_p 110 (.sslc (.tmp 108) (some (.tmp 109)) none), o_m 111 1, o_e 112 (.call 92 [(.tmp 110), (.tmp 111)]), o_m 12 112])
(.seq (.seq (.ops [ o_m 113 12, o_p 114 (.bin .geq (.tmp 113) (.const (.int .i64 (0))))])
(.cond (.tmp 114)
(.seq (.ops [ o_m 115 12, o_m 116 8, o_p 117 (.bin .add (.tmp 115) (.tmp 116)), o_m 4 117])
(.ret))
(.skip)))
(.seq (.ops [ o_p 4 (.mv (.const (.int .i64 (-1))))])
(.ret))))
(.seq (.ops [ o_m 118 5,
.op ⟨(some 119), (.load none (.global 0)), none⟩, o_p 120 (.bin .gtr (.tmp 118) (.tmp 119)), o_m 121 120,
.split 121,
.op ⟨(some 122), (.pure (.mv (.tmp 10))), (some (121, true))⟩,
.op ⟨(some 123), (.pure (.mv (.tmp 8))), (some (121, true))⟩,
.op ⟨(some 124), (.pure (.bin .shr (.tmp 123) (.const (.int .u64 (4))))), (some (121, true))⟩,
.op ⟨(some 125), (.pure (.bin .add (.const (.int .i64 (4))) (.tmp 124))), (some (121, true))⟩,
.op ⟨(some 126), (.pure (.bin .geq (.tmp 122) (.tmp 125))), (some (121, true))⟩, o_p 127 (.pick (.tmp 121) (.tmp 126) (.const (.bool false))), o_m 128 127,
.split 128,
.op ⟨(some 129), (.pure (.mv (.tmp 8))), (some (128, true))⟩,
.op ⟨(some 130), (.pure (.mv (.tmp 9))), (some (128, true))⟩,
.op ⟨(some 131), (.pure (.bin .lss (.tmp 129) (.tmp 130))), (some (128, true))⟩, o_p 132 (.pick (.tmp 128) (.tmp 131) (.const (.bool false)))])
(.cond (.tmp 132)
(.seq (.ops [ o_m 133 0, o_m 134 8, o_p 135 (.sslc (.tmp 133) (some (.tmp 134)) none), o_m 136 1, o_e 137 (.call 94 [(.tmp 135), (.tmp 136)]), o_m 13 137])
(.seq (.seq (.ops [ o_m 138 13, o_p 139 (.bin .lss (.tmp 138) (.const (.int .i64 (0))))])
(.cond (.tmp 139)
(.seq (.ops [ o_p 4 (.mv (.const (.int .i64 (-1))))])
(.ret))
(.skip)))
(.seq (.ops [ o_m 140 8, o_m 141 13, o_p 142 (.bin .add (.tmp 140) (.tmp 141)), o_m 4 142])
(.ret))))
(.skip)))))))))))))
(.seq (.ops [ o_p 4 (.mv (.const (.int .i64 (-1))))])
(.ret)))))))))),
[.tmp 4]⟩
theorem r_internal_stringslite_Index : resFun Tryz.prog f_internal_stringslite_Index = some c_internal_stringslite_Index := by kernel_rfl

/- strings.genSplit -/
abbrev f_strings_genSplit : Nat := 82
def c_strings_genSplit : MFun := ⟨66, .seq (.ops [ o_p 8 (.mv (.const (.slice none 0 0)))])
(.seq (.seq (.ops [ o_m 12 3, o_p 13 (.bin .eql (.tmp 12) (.const (.int .i64 (0))))])
(.cond (.tmp 13)
(.seq (.ops [ o_p 8 (.mv (.const (.slice none 0 0)))])
(.ret))
(.skip)))
(.seq (.seq (.ops [ o_m 14 1,
.op ⟨(some 15), (.pure (.bin .eql (.tmp 14) (.const (.string ⟨#[]⟩)))), none⟩])
(.cond (.tmp 15)
(.seq (.ops [ o_m 16 0, o_m 17 3, o_e 18 (.call 95 [(.tmp 16), (.tmp 17)]), o_m 8 18])
(.ret))
(.skip)))
(.seq (.seq (.ops [ o_m 19 3, o_p 20 (.bin .lss (.tmp 19) (.const (.int .i64 (0))))])
(.cond (.tmp 20)
(.ops [ o_m 21 0, o_m 22 1, o_e 23 (.call 96 [(.tmp 21), (.tmp 22)]), o_p 24 (.bin .add (.tmp 23) (.const (.int .i64 (1)))), o_m 3 24])
(.skip)))
(.seq (.ops [ o_m 25 3, o_m 26 0, o_p 27 (.slen (.tmp 26)), o_p 28 (.bin .add (.tmp 27) (.const (.int .i64 (1)))), o_p 29 (.min2 (.tmp 25) (.tmp 28)), o_m 3 29])
(.seq (.ops [ o_m 30 3,
.op ⟨(some 31), (.eff (.mk 9 1 16 [(.string ⟨#[]⟩)] (.tmp 30) (.tmp 30))), none⟩, o_m 9 31])
(.seq (.ops [ o_m 32 3, o_p 33 (.bin .sub (.tmp 32) (.const (.int .i64 (1)))), o_m 3 33])
(.seq (.ops [ o_p 10 (.mv (.const (.int .i64 (0))))])
(.seq (.block 0 (.loop (.seq (.seq (.ops [ o_m 34 10, o_m 35 3, o_p 36 (.bin .lss (.tmp 34) (.tmp 35))])
(.cond (.tmp 36)
(.skip)
(.exit 0)))
(.block 1 (.seq (.ops [ o_m 37 0, o_m 38 1, o_e 39 (.call 97 [(.tmp 37), (.tmp 38)]), o_m 11 39])
(.seq (.seq (.ops [ o_m 40 11, o_p 41 (.bin .lss (.tmp 40) (.const (.int .i64 (0))))])
(.cond (.tmp 41)
(.exit 0)
(.skip)))
(.seq (.ops [ o_m 42 9, o_m 43 10, o_m 44 0, o_m 45 11, o_m 46 2, o_p 47 (.bin .add (.tmp 45) (.tmp 46)), o_p 48 (.sslc (.tmp 44) none (some (.tmp 47))), o_p 49 (.idx 1 (.tmp 42) (.tmp 43)),
.op ⟨none, (.eff (.store 1 (.tmp 49) (.tmp 48))), none⟩])
(.seq (.ops [ o_m 50 0, o_m 51 11, o_m 52 1, o_p 53 (.slen (.tmp 52)), o_p 54 (.bin .add (.tmp 51) (.tmp 53)), o_p 55 (.sslc (.tmp 50) (some (.tmp 54)) none), o_m 0 55])
(.ops [ o_m 56 10, o_p 57 (.bin .add (.tmp 56) (.const (.int .i64 (1)))), o_m 10 57])))))))))
(.seq (.ops [ o_m 58 9, o_m 59 10, o_m 60 0, o_p 61 (.idx 1 (.tmp 58) (.tmp 59)),
.op ⟨none, (.eff (.store 1 (.tmp 61) (.tmp 60))), none⟩])
(.seq (.ops [ o_m 62 9, o_m 63 10, o_p 64 (.bin .add (.tmp 63) (.const (.int .i64 (1)))), o_p 65 (.slc 1 (.tmp 62) none (some (.tmp 64)) none), o_m 8 65])
(.ret))))))))))),
[.tmp 8]⟩
theorem r_strings_genSplit : resFun Tryz.prog f_strings_genSplit = some c_strings_genSplit := by kernel_rfl

/- strconv.Atoi -/
abbrev f_strconv_Atoi : Nat := 83
def c_strconv_Atoi : MFun := ⟨18, .seq (.ops [ o_p 2 (.mv (.const (.int .i64 (0)))), o_p 3 (.mv (.const .nilIface))])
(.seq (.ops [ o_m 7 0, o_e 8 (.call 98 [(.tmp 7)]), o_m 6 8, o_p 9 (.ext 0 (.tmp 6)), o_p 10 (.ext 1 (.tmp 6)), o_m 4 9, o_m 5 10])
(.seq (.seq (.ops [ o_m 11 5, o_p 12 (.ifnil true (.tmp 11))])
(.cond (.tmp 12)
(.seq (.ops [ o_m 13 4, o_m 14 0, o_m 15 5,
.op ⟨(some 16), (.eff (.call 99 [(.const (.string ⟨#[65, 116, 111, 105]⟩)), (.tmp 14), (.const (.int .i64 (0))), (.const (.int .i64 (0))), (.tmp 15)])), none⟩, o_m 2 13, o_m 3 16])
(.ret))
(.skip)))
(.seq (.ops [ o_m 17 4, o_m 2 17, o_p 3 (.mv (.const .nilIface))])
(.ret)))),
[.tmp 2, .tmp 3]⟩
theorem r_strconv_Atoi : resFun Tryz.prog f_strconv_Atoi = some c_strconv_Atoi := by kernel_rfl

/- loop.example/g00940/impl.ArePackets$1 -/
abbrev f_impl_ArePackets_1 : Nat := 84
def c_impl_ArePackets_1 : MFun := ⟨6, .seq (.ops [ o_e 1 (.box 32 (.tmp 0)), o_p 2 (.mv (.const (.bool false)))])
(.seq (.ops [
.op ⟨(some 3), (.load (some 4) (.tmp 1)), none⟩, o_e 4 (.call 12 [(.tmp 3)]), o_p 5 (.bnot (.tmp 4)), o_m 2 5])
(.ret)),
[.tmp 2]⟩
theorem r_impl_ArePackets_1 : resFun Tryz.prog f_impl_ArePackets_1 = some c_impl_ArePackets_1 := by kernel_rfl

/- slices.Equal[[]int,int] -/
abbrev f_slices_Equal_Lint_int : Nat := 85
def c_slices_Equal_Lint_int : MFun := ⟨26, .seq (.ops [ o_p 4 (.mv (.const (.bool false)))])
(.seq (.seq (.ops [ o_m 6 0, o_p 7 (.len (.tmp 6)), o_m 8 1, o_p 9 (.len (.tmp 8)), o_p 10 (.bin .neq (.tmp 7) (.tmp 9))])
(.cond (.tmp 10)
(.seq (.ops [ o_p 4 (.mv (.const (.bool false)))])
(.ret))
(.skip)))
(.seq (.seq (.ops [ o_m 11 0, o_p 12 (.len (.tmp 11)), o_p 13 (.mv (.const (.int .i64 (0))))])
(.block 0 (.loop (.seq (.ops [ o_p 14 (.bin .lss (.tmp 13) (.tmp 12))])
(.seq (.cond (.tmp 14)
(.skip)
(.exit 0))
(.seq (.block 1 (.seq (.ops [ o_m 15 13, o_m 5 15])
(.seq (.ops [ o_m 16 0, o_m 17 5, o_p 18 (.idx 1 (.tmp 16) (.tmp 17)), o_m 20 1, o_m 21 5, o_p 22 (.idx 1 (.tmp 20) (.tmp 21)), o_l 19 18, o_l 23 22, o_p 24 (.bin .neq (.tmp 19) (.tmp 23))])
(.cond (.tmp 24)
(.seq (.ops [ o_p 4 (.mv (.const (.bool false)))])
(.ret))
(.skip)))))
(.ops [ o_p 25 (.bin .add (.tmp 13) (.const (.int .i64 (1)))), o_m 13 25])))))))
(.seq (.ops [ o_p 4 (.mv (.const (.bool true)))])
(.ret)))),
[.tmp 4]⟩
theorem r_slices_Equal_Lint_int : resFun Tryz.prog f_slices_Equal_Lint_int = some c_slices_Equal_Lint_int := by kernel_rfl

/- loop.example/g00940/spec.l1Same -/
abbrev f_spec_l1Same : Nat := 86
def c_spec_l1Same : MFun := ⟨26, .seq (.ops [ o_p 4 (.mv (.const (.bool false)))])
(.seq (.seq (.ops [ o_m 6 0, o_p 7 (.len (.tmp 6)), o_m 8 1, o_p 9 (.len (.tmp 8)), o_p 10 (.bin .neq (.tmp 7) (.tmp 9))])
(.cond (.tmp 10)
(.seq (.ops [ o_p 4 (.mv (.const (.bool false)))])
(.ret))
(.skip)))
(.seq (.seq (.ops [ o_m 11 0, o_p 12 (.len (.tmp 11)), o_p 13 (.mv (.const (.int .i64 (0))))])
(.block 0 (.loop (.seq (.ops [ o_p 14 (.bin .lss (.tmp 13) (.tmp 12))])
(.seq (.cond (.tmp 14)
(.skip)
(.exit 0))
(.seq (.block 1 (.seq (.ops [ o_m 15 13, o_m 5 15])
(.seq (.ops [ o_m 16 0, o_m 17 5, o_p 18 (.idx 1 (.tmp 16) (.tmp 17)), o_m 20 1, o_m 21 5, o_p 22 (.idx 1 (.tmp 20) (.tmp 21)), o_l 19 18, o_l 23 22, o_p 24 (.bin .neq (.tmp 19) (.tmp 23))])
(.cond (.tmp 24)
(.seq (.ops [ o_p 4 (.mv (.const (.bool false)))])
(.ret))
(.skip)))))
(.ops [ o_p 25 (.bin .add (.tmp 13) (.const (.int .i64 (1)))), o_m 13 25])))))))
(.seq (.ops [ o_p 4 (.mv (.const (.bool true)))])
(.ret)))),
[.tmp 4]⟩
theorem r_spec_l1Same : resFun Tryz.prog f_spec_l1Same = some c_spec_l1Same := by kernel_rfl

/- loop.example/g00940/spec.sgList -/
abbrev f_spec_sgList : Nat := 87
def c_spec_sgList : MFun := ⟨10, .seq (.ops [ o_p 2 (.mv (.const (.bool false)))])
(.seq (.ops [ o_m 3 0, o_p 4 (.len (.tmp 3)), o_p 5 (.bin .leq (.tmp 4) (.const (.int .i64 (100)))), o_m 6 5,
.split 6,
.op ⟨(some 7), (.pure (.mv (.tmp 0))), (some (6, true))⟩,
.op ⟨(some 8), (.eff (.call 32 [(.tmp 7), (.const (.int .i64 (0))), (.const (.int .i64 (63)))])), (some (6, true))⟩, o_p 9 (.pick (.tmp 6) (.tmp 8) (.const (.bool false))), o_m 2 9])
(.ret)),
[.tmp 2]⟩
theorem r_spec_sgList : resFun Tryz.prog f_spec_sgList = some c_spec_sgList := by kernel_rfl

/- internal/strconv.FormatInt -/
abbrev f_internal_strconv_FormatInt : Nat := 88
def c_internal_strconv_FormatInt : MFun := ⟨54, .seq (.ops [
.op ⟨(some 4), (.pure (.mv (.const (.string ⟨#[]⟩)))), none⟩])
(.seq (.seq (.ops [ o_m 10 1, o_p 11 (.bin .eql (.tmp 10) (.const (.int .i64 (10))))])
(.cond (.tmp 11)
(.seq (.seq (.ops [ o_m 12 0, o_p 13 (.bin .leq (.const (.int .i64 (0))) (.tmp 12)), o_m 14 13,
.split 14,
.op ⟨(some 15), (.pure (.mv (.tmp 0))), (some (14, true))⟩,
.op ⟨(some 16), (.pure (.bin .lss (.tmp 15) (.const (.int .i64 (100))))), (some (14, true))⟩, o_p 17 (.pick (.tmp 14) (.tmp 16) (.const (.bool false)))])
(.cond (.tmp 17)
(.seq (.ops [ o_m 18 0, o_e 19 (.call 100 [(.tmp 18)]), o_m 4 19])
(.ret))
(.skip)))
(.seq (.ops [ o_e 5 (.new 106 [(.int .u8 (0)), (.int .u8 (0)), (.int .u8 (0)), (.int .u8 (0)), (.int .u8 (0)), (.int .u8 (0)), (.int .u8 (0)), (.int .u8 (0)), (.int .u8 (0)), (.int .u8 (0)), (.int .u8 (0)), (.int .u8 (0)), (.int .u8 (0)), (.int .u8 (0)), (.int .u8 (0)), (.int .u8 (0)), (.int .u8 (0)), (.int .u8 (0)), (.int .u8 (0)), (.int .u8 (0)), (.int .u8 (0)), (.int .u8 (0)), (.int .u8 (0)), (.int .u8 (0))])])
(.seq (.ops [ o_m 20 0, o_p 21 (.conv .u64 (.tmp 20)), o_m 6 21])
(.seq (.seq (.ops [ o_m 22 0, o_p 23 (.bin .lss (.tmp 22) (.const (.int .i64 (0))))])
(.cond (.tmp 23)
(.ops [ o_m 24 6, o_p 25 (.ineg (.tmp 24)), o_m 6 25])
(.skip)))
(.seq (.ops [ o_m 26 6, o_e 27 (.call 101 [(.tmp 26)]), o_m 7 27])
(.seq (.ops [ o_m 28 7, o_p 29 (.bin .add (.const (.int .i64 (1))) (.tmp 28)), o_e 30 (.fail), o_m 31 6, o_e 32 (.call 102 [(.tmp 30), (.tmp 31)])])
(.seq (.seq (.ops [ o_m 33 0, o_p 34 (.bin .lss (.tmp 33) (.const (.int .i64 (0))))])
(.cond (.tmp 34)
(.seq (.ops [ o_p 35 (.idxA 24 1 (.tmp 5) (.const (.int .i64 (0)))),
.op ⟨none, (.eff (.store 1 (.tmp 35) (.const (.int .u8 (45))))), none⟩])
(.seq (.ops [ o_m 36 7, o_p 37 (.bin .add (.const (.int .i64 (1))) (.tmp 36)), o_e 38 (.fail), o_e 39 (.bstr (.tmp 38)), o_m 4 39])
(.ret)))
(.skip)))
(.seq (.ops [ o_m 40 7, o_p 41 (.bin .add (.const (.int .i64 (1))) (.tmp 40)), o_e 42 (.fail), o_e 43 (.bstr (.tmp 42)), o_m 4 43])
(.ret)))))))))
(.skip)))
(.seq (.ops [ o_m 45 0, o_p 46 (.conv .u64 (.tmp 45)), o_m 47 1, o_m 48 0, o_p 49 (.bin .lss (.tmp 48) (.const (.int .i64 (0)))), o_e 50 (.call 103 [(.const (.slice none 0 0)), (.tmp 46), (.tmp 47), (.tmp 49), (.const (.bool false))]), o_m 44 50, o_p 51 (.ext 0 (.tmp 44)), o_p 52 (.ext 1 (.tmp 44)), o_m 8 51, o_m 9 52])
(.seq (.ops [ o_m 53 9, o_m 4 53])
(.ret)))),
[.tmp 4]⟩
theorem r_internal_strconv_FormatInt : resFun Tryz.prog f_internal_strconv_FormatInt = some c_internal_strconv_FormatInt := by kernel_rfl

/- (*strings.Builder).grow -/
abbrev f_strings_Builder_grow : Nat := 90
def c_strings_Builder_grow : MFun := ⟨30, .seq (.draw true
(.take (t_m 5 0)
(.take (t_p 6 (.nilc (.tmp 5)))
(.take (t_p 7 (.fieldAddr 1 (.tmp 6)))
(.take (t_m 11 1)
(.take (t_m 14 0)
(.take (t_p 15 (.nilc (.tmp 14)))
(.take (t_p 16 (.fieldAddr 1 (.tmp 15)))
(.only false (t_l 8 7)
(.take (t_l 17 16)
(.take (t_p 18 (.len (.tmp 17)))
(.only false (t_e 9 (.fail))
(.take (t_p 10 (.bin .mul (.const (.int .i64 (2))) (.tmp 9)))
(.take (t_p 12 (.bin .add (.tmp 10) (.tmp 11)))
(.only false (t_e 13 (.call 105 [(.tmp 12)]))
(.take (t_p 19 (.slc 1 (.tmp 13) none (some (.tmp 18)) none))
(.take (t_m 4 19)
(.done))))))))))))))))))
(.seq (.ops [ o_m 20 4, o_m 21 0, o_p 22 (.nilc (.tmp 21)), o_p 23 (.fieldAddr 1 (.tmp 22)), o_l 24 23, o_e 25 (.copy 1 (.tmp 20) (.tmp 24))])
(.ops [ o_m 26 0, o_m 27 4, o_p 28 (.nilc (.tmp 26)), o_p 29 (.fieldAddr 1 (.tmp 28)),
.op ⟨none, (.eff (.store 1 (.tmp 29) (.tmp 27))), none⟩])),
[]⟩
theorem r_strings_Builder_grow : resFun Tryz.prog f_strings_Builder_grow = some c_strings_Builder_grow := by kernel_rfl
end Go.Proofs.YtbikhpphdhffaaaGreatDoor
