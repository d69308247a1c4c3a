/- The code of this seat's functions, resolved, written by a program of mine; each is held against the given program by the kernel. Condition: none. -/
import Derived.Test.YtbikhpphdhffaaaGreatDoorProg
import Derived.Test.YtbikhpphdhffaaaGreatDoorBase9
import Derived.KernelRfl
namespace Go.Proofs.YtbikhpphdhffaaaGreatDoor
open Go.Vc

/- internal/stringslite.IndexByte -/
abbrev f_internal_stringslite_IndexByte : Nat := 91
def c_internal_stringslite_IndexByte : MFun := ⟨8, .seq (.ops [ o_p 4 (.mv (.const (.int .i64 (0))))])
(.seq (.ops [ o_m 5 0, o_m 6 1, o_e 7 (.call 106 [(.tmp 5), (.tmp 6)]), o_m 4 7])
(.ret)),
[.tmp 4]⟩
theorem r_internal_stringslite_IndexByte : resFun Tryz.prog f_internal_stringslite_IndexByte = some c_internal_stringslite_IndexByte := by kernel_rfl

/- internal/bytealg.Cutover -/
abbrev f_internal_bytealg_Cutover : Nat := 93
def c_internal_bytealg_Cutover : MFun := ⟨6, .seq (.ops [ o_p 2 (.mv (.const (.int .i64 (0))))])
(.seq (.ops [ o_m 3 0, o_p 4 (.bin .add (.tmp 3) (.const (.int .i64 (16)))), o_p 5 (.bin .quo (.tmp 4) (.const (.int .i64 (8)))), o_m 2 5])
(.ret)),
[.tmp 2]⟩
theorem r_internal_bytealg_Cutover : resFun Tryz.prog f_internal_bytealg_Cutover = some c_internal_bytealg_Cutover := by kernel_rfl

/- internal/bytealg.IndexRabinKarp[string] -/
abbrev f_internal_bytealg_IndexRabinKarp_string : Nat := 94
def c_internal_bytealg_IndexRabinKarp_string : MFun := ⟨81, .seq (.ops [ o_p 4 (.mv (.const (.int .i64 (0))))])
(.seq (.ops [ o_m 12 1, o_e 13 (.call 107 [(.tmp 12)]), o_m 11 13, o_p 14 (.ext 0 (.tmp 11)), o_p 15 (.ext 1 (.tmp 11)), o_m 5 14, o_m 6 15])
(.seq (.ops [ o_m 16 1, o_p 17 (.slen (.tmp 16)), o_m 7 17])
(.seq (.ops [ o_p 8 (.mv (.const (.int .u32 (0))))])
(.seq (.seq (.ops [ o_p 9 (.mv (.const (.int .i64 (0))))])
(.block 0 (.loop (.seq (.seq (.ops [ o_m 18 9, o_m 19 7, o_p 20 (.bin .lss (.tmp 18) (.tmp 19))])
(.cond (.tmp 20)
(.skip)
(.exit 0)))
(.seq (.block 1 (.ops [ o_m 23 8, o_p 24 (.bin .mul (.tmp 23) (.const (.int .u32 (16777619)))), o_m 25 0, o_m 26 9, o_p 27 (.sidx (.tmp 25) (.tmp 26)), o_p 28 (.conv .u32 (.tmp 27)), o_p 29 (.bin .add (.tmp 24) (.tmp 28)), o_m 8 29]))
(.ops [ o_m 21 9, o_p 22 (.bin .add (.tmp 21) (.const (.int .i64 (1)))), o_m 9 22]))))))
(.seq (.seq (.ops [ o_m 30 8, o_m 31 5, o_p 32 (.bin .eql (.tmp 30) (.tmp 31)), o_m 33 32,
.split 33,
.op ⟨(some 34), (.pure (.mv (.tmp 0))), (some (33, true))⟩,
.op ⟨(some 35), (.pure (.mv (.tmp 7))), (some (33, true))⟩,
.op ⟨(some 36), (.pure (.sslc (.tmp 34) none (some (.tmp 35)))), (some (33, true))⟩,
.op ⟨(some 37), (.pure (.mv (.tmp 1))), (some (33, true))⟩,
.op ⟨(some 38), (.pure (.bin .eql (.tmp 36) (.tmp 37))), (some (33, true))⟩, o_p 39 (.pick (.tmp 33) (.tmp 38) (.const (.bool false)))])
(.cond (.tmp 39)
(.seq (.ops [ o_p 4 (.mv (.const (.int .i64 (0))))])
(.ret))
(.skip)))
(.seq (.seq (.ops [ o_m 40 7, o_m 10 40])
(.block 2 (.loop (.seq (.seq (.ops [ o_m 41 10, o_m 42 0, o_p 43 (.slen (.tmp 42)), o_p 44 (.bin .lss (.tmp 41) (.tmp 43))])
(.cond (.tmp 44)
(.skip)
(.exit 2)))
(.block 3 (.seq (.ops [ o_m 45 8, o_p 46 (.bin .mul (.tmp 45) (.const (.int .u32 (16777619)))), o_m 8 46])
(.seq (.ops [ o_m 47 8, o_m 48 0, o_m 49 10, o_p 50 (.sidx (.tmp 48) (.tmp 49)), o_p 51 (.conv .u32 (.tmp 50)), o_p 52 (.bin .add (.tmp 47) (.tmp 51)), o_m 8 52])
(.seq (.ops [ o_m 53 8, o_m 54 6, o_m 55 0, o_m 56 10, o_m 57 7, o_p 58 (.bin .sub (.tmp 56) (.tmp 57)), o_p 59 (.sidx (.tmp 55) (.tmp 58)), o_p 60 (.conv .u32 (.tmp 59)), o_p 61 (.bin .mul (.tmp 54) (.tmp 60)), o_p 62 (.bin .sub (.tmp 53) (.tmp 61)), o_m 8 62])
(.seq (.ops [ o_m 63 10, o_p 64 (.bin .add (.tmp 63) (.const (.int .i64 (1)))), o_m 10 64])
(.seq (.ops [ o_m 65 8, o_m 66 5, o_p 67 (.bin .eql (.tmp 65) (.tmp 66)), o_m 68 67,
.split 68,
.op ⟨(some 69), (.pure (.mv (.tmp 0))), (some (68, true))⟩,
.op ⟨(some 70), (.pure (.mv (.tmp 10))), (some (68, true))⟩,
.op ⟨(some 71), (.pure (.mv (.tmp 7))), (some (68, true))⟩,
.op ⟨(some 72), (.pure (.bin .sub (.tmp 70) (.tmp 71))), (some (68, true))⟩,
.op ⟨(some 73), (.pure (.mv (.tmp 10))), (some (68, true))⟩,
.op ⟨(some 74), (.pure (.sslc (.tmp 69) (some (.tmp 72)) (some (.tmp 73)))), (some (68, true))⟩,
.op ⟨(some 75), (.pure (.mv (.tmp 1))), (some (68, true))⟩,
.op ⟨(some 76), (.pure (.bin .eql (.tmp 74) (.tmp 75))), (some (68, true))⟩, o_p 77 (.pick (.tmp 68) (.tmp 76) (.const (.bool false)))])
(.cond (.tmp 77)
(.seq (.ops [ o_m 78 10, o_m 79 7, o_p 80 (.bin .sub (.tmp 78) (.tmp 79)), o_m 4 80])
(.ret))
(.skip))))))))))))
(.seq (.ops [ o_p 4 (.mv (.const (.int .i64 (-1))))])
(.ret)))))))),
[.tmp 4]⟩
theorem r_internal_bytealg_IndexRabinKarp_string : resFun Tryz.prog f_internal_bytealg_IndexRabinKarp_string = some c_internal_bytealg_IndexRabinKarp_string := by kernel_rfl

/- strings.explode -/
abbrev f_strings_explode : Nat := 95
def c_strings_explode : MFun := ⟨50, .seq (.ops [ o_p 4 (.mv (.const (.slice none 0 0)))])
(.seq (.ops [ o_m 10 0, o_e 11 (.call 108 [(.tmp 10)]), o_m 5 11])
(.seq (.seq (.ops [ o_m 12 1, o_p 13 (.bin .lss (.tmp 12) (.const (.int .i64 (0)))), o_m 14 13,
.split 14,
.op ⟨(some 15), (.pure (.mv (.tmp 1))), (some (14, false))⟩,
.op ⟨(some 16), (.pure (.mv (.tmp 5))), (some (14, false))⟩,
.op ⟨(some 17), (.pure (.bin .gtr (.tmp 15) (.tmp 16))), (some (14, false))⟩, o_p 18 (.pick (.tmp 14) (.const (.bool true)) (.tmp 17))])
(.cond (.tmp 18)
(.ops [ o_m 19 5, o_m 1 19])
(.skip)))
(.seq (.ops [ o_m 20 1,
.op ⟨(some 21), (.eff (.mk 9 1 16 [(.string ⟨#[]⟩)] (.tmp 20) (.tmp 20))), none⟩, o_m 6 21])
(.seq (.seq (.ops [ o_p 7 (.mv (.const (.int .i64 (0))))])
(.block 0 (.loop (.seq (.seq (.ops [ o_m 22 7, o_m 23 1, o_p 24 (.bin .sub (.tmp 23) (.const (.int .i64 (1)))), o_p 25 (.bin .lss (.tmp 22) (.tmp 24))])
(.cond (.tmp 25)
(.skip)
(.exit 0)))
(.seq (.block 1 (.seq (.ops [ o_m 29 0, o_e 30 (.call 109 [(.tmp 29)]), o_m 28 30, o_p 31 (.ext 0 (.tmp 28)), o_p 32 (.ext 1 (.tmp 28)), o_m 8 31, o_m 9 32])
(.seq (.ops [ o_m 33 6, o_m 34 7, o_m 35 0, o_m 36 9, o_p 37 (.sslc (.tmp 35) none (some (.tmp 36))), o_p 38 (.idx 1 (.tmp 33) (.tmp 34)),
.op ⟨none, (.eff (.store 1 (.tmp 38) (.tmp 37))), none⟩])
(.ops [ o_m 39 0, o_m 40 9, o_p 41 (.sslc (.tmp 39) (some (.tmp 40)) none), o_m 0 41]))))
(.ops [ o_m 26 7, o_p 27 (.bin .add (.tmp 26) (.const (.int .i64 (1)))), o_m 7 27]))))))
(.seq (.seq (.ops [ o_m 42 1, o_p 43 (.bin .gtr (.tmp 42) (.const (.int .i64 (0))))])
(.cond (.tmp 43)
(.ops [ o_m 44 6, o_m 45 1, o_p 46 (.bin .sub (.tmp 45) (.const (.int .i64 (1)))), o_m 47 0, o_p 48 (.idx 1 (.tmp 44) (.tmp 46)),
.op ⟨none, (.eff (.store 1 (.tmp 48) (.tmp 47))), none⟩])
(.skip)))
(.seq (.ops [ o_m 49 6, o_m 4 49])
(.ret))))))),
[.tmp 4]⟩
theorem r_strings_explode : resFun Tryz.prog f_strings_explode = some c_strings_explode := by kernel_rfl

/- strings.Count -/
abbrev f_strings_Count : Nat := 96
def c_strings_Count : MFun := ⟨34, .seq (.ops [ o_p 4 (.mv (.const (.int .i64 (0))))])
(.seq (.seq (.ops [ o_m 7 1, o_p 8 (.slen (.tmp 7)), o_p 9 (.bin .eql (.tmp 8) (.const (.int .i64 (0))))])
(.cond (.tmp 9)
(.seq (.ops [ o_m 10 0, o_e 11 (.call 108 [(.tmp 10)]), o_p 12 (.bin .add (.tmp 11) (.const (.int .i64 (1)))), o_m 4 12])
(.ret))
(.skip)))
(.seq (.seq (.ops [ o_m 13 1, o_p 14 (.slen (.tmp 13)), o_p 15 (.bin .eql (.tmp 14) (.const (.int .i64 (1))))])
(.cond (.tmp 15)
(.seq (.ops [ o_m 16 0, o_m 17 1, o_p 18 (.sidx (.tmp 17) (.const (.int .i64 (0)))), o_e 19 (.call 110 [(.tmp 16), (.tmp 18)]), o_m 4 19])
(.ret))
(.skip)))
(.seq (.ops [ o_p 5 (.mv (.const (.int .i64 (0))))])
(.block 0 (.loop (.block 1 (.seq (.ops [ o_m 20 0, o_m 21 1, o_e 22 (.call 97 [(.tmp 20), (.tmp 21)]), o_m 6 22])
(.seq (.seq (.ops [ o_m 23 6, o_p 24 (.bin .eql (.tmp 23) (.const (.int .i64 (-1))))])
(.cond (.tmp 24)
(.seq (.ops [ o_m 25 5, o_m 4 25])
(.ret))
(.skip)))
(.seq (.ops [ o_m 26 5, o_p 27 (.bin .add (.tmp 26) (.const (.int .i64 (1)))), o_m 5 27])
(.ops [ o_m 28 0, o_m 29 6, o_m 30 1, o_p 31 (.slen (.tmp 30)), o_p 32 (.bin .add (.tmp 29) (.tmp 31)), o_p 33 (.sslc (.tmp 28) (some (.tmp 32)) none), o_m 0 33])))))))))),
[.tmp 4]⟩
theorem r_strings_Count : resFun Tryz.prog f_strings_Count = some c_strings_Count := by kernel_rfl

/- strings.Index -/
abbrev f_strings_Index : Nat := 97
def c_strings_Index : MFun := ⟨8, .seq (.ops [ o_p 4 (.mv (.const (.int .i64 (0))))])
(.seq (.ops [ o_m 5 0, o_m 6 1, o_e 7 (.call 81 [(.tmp 5), (.tmp 6)]), o_m 4 7])
(.ret)),
[.tmp 4]⟩
theorem r_strings_Index : resFun Tryz.prog f_strings_Index = some c_strings_Index := by kernel_rfl

/- internal/strconv.Atoi -/
abbrev f_internal_strconv_Atoi : Nat := 98
def c_internal_strconv_Atoi : MFun := ⟨77, .seq (.ops [ o_p 2 (.mv (.const (.int .i64 (0)))), o_p 3 (.mv (.const .nilIface))])
(.seq (.ops [ o_m 11 0, o_p 12 (.slen (.tmp 11)), o_m 4 12])
(.seq (.seq (.ops [ o_p 13 (.mv (.const (.bool false))),
.split 13,
.op ⟨(some 14), (.pure (.mv (.tmp 4))), (some (13, true))⟩,
.op ⟨(some 15), (.pure (.bin .lss (.const (.int .i64 (0))) (.tmp 14))), (some (13, true))⟩,
.op ⟨(some 16), (.pure (.mv (.tmp 15))), (some (13, true))⟩,
.split 16,
.op ⟨(some 17), (.pure (.mv (.tmp 4))), (some (16, true))⟩,
.op ⟨(some 18), (.pure (.bin .lss (.tmp 17) (.const (.int .i64 (10))))), (some (16, true))⟩,
.op ⟨(some 19), (.pure (.pick (.tmp 16) (.tmp 18) (.const (.bool false)))), (some (13, true))⟩, o_p 20 (.pick (.tmp 13) (.tmp 19) (.const (.bool false))), o_m 21 20,
.split 21,
.op ⟨(some 22), (.pure (.mv (.const (.bool true)))), (some (21, false))⟩,
.split 22,
.op ⟨(some 23), (.pure (.mv (.tmp 4))), (some (22, true))⟩,
.op ⟨(some 24), (.pure (.bin .lss (.const (.int .i64 (0))) (.tmp 23))), (some (22, true))⟩,
.op ⟨(some 25), (.pure (.mv (.tmp 24))), (some (22, true))⟩,
.split 25,
.op ⟨(some 26), (.pure (.mv (.tmp 4))), (some (25, true))⟩,
.op ⟨(some 27), (.pure (.bin .lss (.tmp 26) (.const (.int .i64 (19))))), (some (25, true))⟩,
.op ⟨(some 28), (.pure (.pick (.tmp 25) (.tmp 27) (.const (.bool false)))), (some (22, true))⟩,
.op ⟨(some 29), (.pure (.pick (.tmp 22) (.tmp 28) (.const (.bool false)))), (some (21, false))⟩, o_p 30 (.pick (.tmp 21) (.const (.bool true)) (.tmp 29))])
(.cond (.tmp 30)
(.seq (.ops [ o_m 31 0, o_m 5 31])
(.seq (.seq (.ops [ o_m 32 0, o_p 33 (.sidx (.tmp 32) (.const (.int .i64 (0)))), o_p 34 (.bin .eql (.tmp 33) (.const (.int .u8 (45)))), o_m 35 34,
.split 35,
.op ⟨(some 36), (.pure (.mv (.tmp 0))), (some (35, false))⟩,
.op ⟨(some 37), (.pure (.sidx (.tmp 36) (.const (.int .i64 (0))))), (some (35, false))⟩,
.op ⟨(some 38), (.pure (.bin .eql (.tmp 37) (.const (.int .u8 (43))))), (some (35, false))⟩, o_p 39 (.pick (.tmp 35) (.const (.bool true)) (.tmp 38))])
(.cond (.tmp 39)
(.seq (.ops [ o_m 40 0, o_p 41 (.sslc (.tmp 40) (some (.const (.int .i64 (1)))) none), o_m 0 41])
(.seq (.ops [ o_m 42 0, o_p 43 (.slen (.tmp 42)), o_p 44 (.bin .lss (.tmp 43) (.const (.int .i64 (1))))])
(.cond (.tmp 44)
(.seq (.ops [ o_e 45 (.fail), o_p 2 (.mv (.const (.int .i64 (0)))), o_m 3 45])
(.ret))
(.skip))))
(.skip)))
(.seq (.ops [ o_p 6 (.mv (.const (.int .i64 (0))))])
(.seq (.seq (.ops [ o_m 46 0, o_e 47 (.fail), o_p 48 (.len (.tmp 47)), o_p 49 (.mv (.const (.int .i64 (0))))])
(.block 0 (.loop (.seq (.ops [ o_p 50 (.bin .lss (.tmp 49) (.tmp 48))])
(.seq (.cond (.tmp 50)
(.skip)
(.exit 0))
(.seq (.block 1 (.seq (.ops [ o_p 51 (.idx 1 (.tmp 47) (.tmp 49)), o_l 52 51, o_m 8 52])
(.seq (.ops [ o_m 53 8, o_p 54 (.bin .sub (.tmp 53) (.const (.int .u8 (48)))), o_m 8 54])
(.seq (.seq (.ops [ o_m 55 8, o_p 56 (.bin .gtr (.tmp 55) (.const (.int .u8 (9))))])
(.cond (.tmp 56)
(.seq (.ops [ o_e 57 (.fail), o_p 2 (.mv (.const (.int .i64 (0)))), o_m 3 57])
(.ret))
(.skip)))
(.ops [ o_m 58 6, o_p 59 (.bin .mul (.tmp 58) (.const (.int .i64 (10)))), o_m 60 8, o_p 61 (.conv .i64 (.tmp 60)), o_p 62 (.bin .add (.tmp 59) (.tmp 61)), o_m 6 62])))))
(.ops [ o_p 63 (.bin .add (.tmp 49) (.const (.int .i64 (1)))), o_m 49 63])))))))
(.seq (.seq (.ops [ o_m 64 5, o_p 65 (.sidx (.tmp 64) (.const (.int .i64 (0)))), o_p 66 (.bin .eql (.tmp 65) (.const (.int .u8 (45))))])
(.cond (.tmp 66)
(.ops [ o_m 67 6, o_p 68 (.ineg (.tmp 67)), o_m 6 68])
(.skip)))
(.seq (.ops [ o_m 69 6, o_m 2 69, o_p 3 (.mv (.const .nilIface))])
(.ret)))))))
(.skip)))
(.seq (.ops [ o_m 71 0, o_e 72 (.call 111 [(.tmp 71), (.const (.int .i64 (10))), (.const (.int .i64 (0)))]), o_m 70 72, o_p 73 (.ext 0 (.tmp 70)), o_p 74 (.ext 1 (.tmp 70)), o_m 9 73, o_m 10 74])
(.seq (.ops [ o_m 75 9, o_m 76 10, o_m 2 75, o_m 3 76])
(.ret))))),
[.tmp 2, .tmp 3]⟩
theorem r_internal_strconv_Atoi : resFun Tryz.prog f_internal_strconv_Atoi = some c_internal_strconv_Atoi := by kernel_rfl

/- strconv.toError -/
abbrev f_strconv_toError : Nat := 99
def c_strconv_toError : MFun := ⟨43, .seq (.ops [ o_p 10 (.mv (.const .nilIface))])
(.seq (.seq (.ops [ o_m 11 4])
(.block 0 (.seq (.ops [ o_e 13 (.fail), o_e 14 (.fail), o_m 12 14])
(.cond (.tmp 12)
(.seq (.ops [ o_m 15 0, o_m 16 1, o_e 17 (.call 112 [(.tmp 15), (.tmp 16)]), o_e 18 (.fail), o_m 10 18])
(.ret))
(.seq (.ops [ o_e 20 (.fail), o_e 21 (.fail), o_m 19 21])
(.cond (.tmp 19)
(.seq (.ops [ o_m 22 0, o_m 23 1, o_e 24 (.call 113 [(.tmp 22), (.tmp 23)]), o_e 25 (.fail), o_m 10 25])
(.ret))
(.seq (.ops [ o_e 27 (.fail), o_e 28 (.fail), o_m 26 28])
(.cond (.tmp 26)
(.seq (.ops [ o_m 29 0, o_m 30 1, o_m 31 2, o_e 32 (.call 114 [(.tmp 29), (.tmp 30), (.tmp 31)]), o_e 33 (.fail), o_m 10 33])
(.ret))
(.seq (.ops [ o_e 35 (.fail), o_e 36 (.fail), o_m 34 36])
(.cond (.tmp 34)
(.seq (.ops [ o_m 37 0, o_m 38 1, o_m 39 3, o_e 40 (.call 115 [(.tmp 37), (.tmp 38), (.tmp 39)]), o_e 41 (.fail), o_m 10 41])
(.ret))
(.skip)))))))))))
(.seq (.ops [ o_m 42 4, o_m 10 42])
(.ret))),
[.tmp 10]⟩
theorem r_strconv_toError : resFun Tryz.prog f_strconv_toError = some c_strconv_toError := by kernel_rfl

/- internal/strconv.small -/
abbrev f_internal_strconv_small : Nat := 100
def c_internal_strconv_small : MFun := ⟨15, .seq (.ops [
.op ⟨(some 2), (.pure (.mv (.const (.string ⟨#[]⟩)))), none⟩])
(.seq (.seq (.ops [ o_m 3 0, o_p 4 (.bin .lss (.tmp 3) (.const (.int .i64 (10))))])
(.cond (.tmp 4)
(.seq (.ops [ o_m 5 0, o_m 6 0, o_p 7 (.bin .add (.tmp 6) (.const (.int .i64 (1)))),
.op ⟨(some 8), (.pure (.sslc (.const (.string ⟨#[48, 49, 50, 51, 52, 53, 54, 55, 56, 57, 97, 98, 99, 100, 101, 102, 103, 104, 105, 106, 107, 108, 109, 110, 111, 112, 113, 114, 115, 116, 117, 118, 119, 120, 121, 122]⟩)) (some (.tmp 5)) (some (.tmp 7)))), none⟩, o_m 2 8])
(.ret))
(.skip)))
(.seq (.ops [ o_m 9 0, o_p 10 (.bin .mul (.tmp 9) (.const (.int .i64 (2)))), o_m 11 0, o_p 12 (.bin .mul (.tmp 11) (.const (.int .i64 (2)))), o_p 13 (.bin .add (.tmp 12) (.const (.int .i64 (2)))),
.op ⟨(some 14), (.pure (.sslc (.const (.string ⟨#[48, 48, 48, 49, 48, 50, 48, 51, 48, 52, 48, 53, 48, 54, 48, 55, 48, 56, 48, 57, 49, 48, 49, 49, 49, 50, 49, 51, 49, 52, 49, 53, 49, 54, 49, 55, 49, 56, 49, 57, 50, 48, 50, 49, 50, 50, 50, 51, 50, 52, 50, 53, 50, 54, 50, 55, 50, 56, 50, 57, 51, 48, 51, 49, 51, 50, 51, 51, 51, 52, 51, 53, 51, 54, 51, 55, 51, 56, 51, 57, 52, 48, 52, 49, 52, 50, 52, 51, 52, 52, 52, 53, 52, 54, 52, 55, 52, 56, 52, 57, 53, 48, 53, 49, 53, 50, 53, 51, 53, 52, 53, 53, 53, 54, 53, 55, 53, 56, 53, 57, 54, 48, 54, 49, 54, 50, 54, 51, 54, 52, 54, 53, 54, 54, 54, 55, 54, 56, 54, 57, 55, 48, 55, 49, 55, 50, 55, 51, 55, 52, 55, 53, 55, 54, 55, 55, 55, 56, 55, 57, 56, 48, 56, 49, 56, 50, 56, 51, 56, 52, 56, 53, 56, 54, 56, 55, 56, 56, 56, 57, 57, 48, 57, 49, 57, 50, 57, 51, 57, 52, 57, 53, 57, 54, 57, 55, 57, 56, 57, 57]⟩)) (some (.tmp 10)) (some (.tmp 13)))), none⟩, o_m 2 14])
(.ret))),
[.tmp 2]⟩
theorem r_internal_strconv_small : resFun Tryz.prog f_internal_strconv_small = some c_internal_strconv_small := by kernel_rfl

/- internal/strconv.numDigits -/
abbrev f_internal_strconv_numDigits : Nat := 101
def c_internal_strconv_numDigits : MFun := ⟨15, .seq (.ops [ o_p 2 (.mv (.const (.int .i64 (0))))])
(.seq (.ops [ o_m 4 0, o_e 5 (.call 117 [(.tmp 4)]), o_e 6 (.call 116 [(.tmp 5)]), o_m 3 6])
(.seq (.ops [ o_m 7 3, o_m 8 0, o_m 9 3, o_p 10 (.idxA 20 1 (.global 1) (.tmp 9)), o_l 11 10, o_p 12 (.bin .geq (.tmp 8) (.tmp 11)), o_e 13 (.call 118 [(.tmp 12)]), o_p 14 (.bin .add (.tmp 7) (.tmp 13)), o_m 2 14])
(.ret))),
[.tmp 2]⟩
theorem r_internal_strconv_numDigits : resFun Tryz.prog f_internal_strconv_numDigits = some c_internal_strconv_numDigits := by kernel_rfl

/- internal/strconv.formatBase10 -/
abbrev f_internal_strconv_formatBase10 : Nat := 102
def c_internal_strconv_formatBase10 : MFun := ⟨167, .seq (.ops [ o_m 17 0, o_p 18 (.len (.tmp 17)), o_m 4 18])
(.seq (.block 0 (.loop (.seq (.seq (.ops [ o_m 19 4, o_p 20 (.bin .geq (.tmp 19) (.const (.int .i64 (8))))])
(.cond (.tmp 20)
(.skip)
(.exit 0)))
(.block 1 (.seq (.ops [ o_m 21 1, o_p 22 (.bin .rem (.tmp 21) (.const (.int .u64 (100000000)))), o_p 23 (.conv .u32 (.tmp 22)), o_m 5 23])
(.seq (.ops [ o_m 24 1, o_p 25 (.bin .quo (.tmp 24) (.const (.int .u64 (100000000)))), o_m 1 25])
(.seq (.ops [ o_m 26 5, o_p 27 (.bin .quo (.tmp 26) (.const (.int .u32 (10000)))), o_m 28 5, o_p 29 (.bin .rem (.tmp 28) (.const (.int .u32 (10000)))), o_m 6 27, o_m 7 29])
(.seq (.ops [ o_m 30 7, o_p 31 (.bin .quo (.tmp 30) (.const (.int .u32 (100)))), o_p 32 (.bin .mul (.tmp 31) (.const (.int .u32 (2)))), o_m 33 7, o_p 34 (.bin .rem (.tmp 33) (.const (.int .u32 (100)))), o_p 35 (.bin .mul (.tmp 34) (.const (.int .u32 (2)))), o_m 8 32, o_m 9 35])
(.seq (.ops [ o_m 36 6, o_p 37 (.bin .quo (.tmp 36) (.const (.int .u32 (100)))), o_p 38 (.bin .mul (.tmp 37) (.const (.int .u32 (2)))), o_m 39 6, o_p 40 (.bin .rem (.tmp 39) (.const (.int .u32 (100)))), o_p 41 (.bin .mul (.tmp 40) (.const (.int .u32 (2)))), o_m 10 38, o_m 11 41])
(.seq (.draw false
(.take (t_m 42 0)
(.take (t_m 43 4)
(.take (t_p 44 (.bin .sub (.tmp 43) (.const (.int .i64 (1)))))
(.take (t_m 45 0)
(.take (t_m 46 4)
(.take (t_p 47 (.bin .sub (.tmp 46) (.const (.int .i64 (2)))))
(.take (t_m 48 9)
(.take (t_p 49 (.bin .add (.tmp 48) (.const (.int .u32 (1)))))
(.take ⟨(some 50), (.pure (.sidx (.const (.string ⟨#[48, 48, 48, 49, 48, 50, 48, 51, 48, 52, 48, 53, 48, 54, 48, 55, 48, 56, 48, 57, 49, 48, 49, 49, 49, 50, 49, 51, 49, 52, 49, 53, 49, 54, 49, 55, 49, 56, 49, 57, 50, 48, 50, 49, 50, 50, 50, 51, 50, 52, 50, 53, 50, 54, 50, 55, 50, 56, 50, 57, 51, 48, 51, 49, 51, 50, 51, 51, 51, 52, 51, 53, 51, 54, 51, 55, 51, 56, 51, 57, 52, 48, 52, 49, 52, 50, 52, 51, 52, 52, 52, 53, 52, 54, 52, 55, 52, 56, 52, 57, 53, 48, 53, 49, 53, 50, 53, 51, 53, 52, 53, 53, 53, 54, 53, 55, 53, 56, 53, 57, 54, 48, 54, 49, 54, 50, 54, 51, 54, 52, 54, 53, 54, 54, 54, 55, 54, 56, 54, 57, 55, 48, 55, 49, 55, 50, 55, 51, 55, 52, 55, 53, 55, 54, 55, 55, 55, 56, 55, 57, 56, 48, 56, 49, 56, 50, 56, 51, 56, 52, 56, 53, 56, 54, 56, 55, 56, 56, 56, 57, 57, 48, 57, 49, 57, 50, 57, 51, 57, 52, 57, 53, 57, 54, 57, 55, 57, 56, 57, 57]⟩)) (.tmp 49))), none⟩
(.take (t_m 51 9)
(.take ⟨(some 52), (.pure (.sidx (.const (.string ⟨#[48, 48, 48, 49, 48, 50, 48, 51, 48, 52, 48, 53, 48, 54, 48, 55, 48, 56, 48, 57, 49, 48, 49, 49, 49, 50, 49, 51, 49, 52, 49, 53, 49, 54, 49, 55, 49, 56, 49, 57, 50, 48, 50, 49, 50, 50, 50, 51, 50, 52, 50, 53, 50, 54, 50, 55, 50, 56, 50, 57, 51, 48, 51, 49, 51, 50, 51, 51, 51, 52, 51, 53, 51, 54, 51, 55, 51, 56, 51, 57, 52, 48, 52, 49, 52, 50, 52, 51, 52, 52, 52, 53, 52, 54, 52, 55, 52, 56, 52, 57, 53, 48, 53, 49, 53, 50, 53, 51, 53, 52, 53, 53, 53, 54, 53, 55, 53, 56, 53, 57, 54, 48, 54, 49, 54, 50, 54, 51, 54, 52, 54, 53, 54, 54, 54, 55, 54, 56, 54, 57, 55, 48, 55, 49, 55, 50, 55, 51, 55, 52, 55, 53, 55, 54, 55, 55, 55, 56, 55, 57, 56, 48, 56, 49, 56, 50, 56, 51, 56, 52, 56, 53, 56, 54, 56, 55, 56, 56, 56, 57, 57, 48, 57, 49, 57, 50, 57, 51, 57, 52, 57, 53, 57, 54, 57, 55, 57, 56, 57, 57]⟩)) (.tmp 51))), none⟩
(.take (t_p 53 (.idx 1 (.tmp 42) (.tmp 44)))
(.only true ⟨none, (.eff (.store 1 (.tmp 53) (.tmp 50))), none⟩
(.take (t_p 54 (.idx 1 (.tmp 45) (.tmp 47)))
(.only true ⟨none, (.eff (.store 1 (.tmp 54) (.tmp 52))), none⟩
(.done)))))))))))))))))
(.seq (.draw false
(.take (t_m 55 0)
(.take (t_m 56 4)
(.take (t_p 57 (.bin .sub (.tmp 56) (.const (.int .i64 (3)))))
(.take (t_m 58 0)
(.take (t_m 59 4)
(.take (t_p 60 (.bin .sub (.tmp 59) (.const (.int .i64 (4)))))
(.take (t_m 61 8)
(.take (t_p 62 (.bin .add (.tmp 61) (.const (.int .u32 (1)))))
(.take ⟨(some 63), (.pure (.sidx (.const (.string ⟨#[48, 48, 48, 49, 48, 50, 48, 51, 48, 52, 48, 53, 48, 54, 48, 55, 48, 56, 48, 57, 49, 48, 49, 49, 49, 50, 49, 51, 49, 52, 49, 53, 49, 54, 49, 55, 49, 56, 49, 57, 50, 48, 50, 49, 50, 50, 50, 51, 50, 52, 50, 53, 50, 54, 50, 55, 50, 56, 50, 57, 51, 48, 51, 49, 51, 50, 51, 51, 51, 52, 51, 53, 51, 54, 51, 55, 51, 56, 51, 57, 52, 48, 52, 49, 52, 50, 52, 51, 52, 52, 52, 53, 52, 54, 52, 55, 52, 56, 52, 57, 53, 48, 53, 49, 53, 50, 53, 51, 53, 52, 53, 53, 53, 54, 53, 55, 53, 56, 53, 57, 54, 48, 54, 49, 54, 50, 54, 51, 54, 52, 54, 53, 54, 54, 54, 55, 54, 56, 54, 57, 55, 48, 55, 49, 55, 50, 55, 51, 55, 52, 55, 53, 55, 54, 55, 55, 55, 56, 55, 57, 56, 48, 56, 49, 56, 50, 56, 51, 56, 52, 56, 53, 56, 54, 56, 55, 56, 56, 56, 57, 57, 48, 57, 49, 57, 50, 57, 51, 57, 52, 57, 53, 57, 54, 57, 55, 57, 56, 57, 57]⟩)) (.tmp 62))), none⟩
(.take (t_m 64 8)
(.take ⟨(some 65), (.pure (.sidx (.const (.string ⟨#[48, 48, 48, 49, 48, 50, 48, 51, 48, 52, 48, 53, 48, 54, 48, 55, 48, 56, 48, 57, 49, 48, 49, 49, 49, 50, 49, 51, 49, 52, 49, 53, 49, 54, 49, 55, 49, 56, 49, 57, 50, 48, 50, 49, 50, 50, 50, 51, 50, 52, 50, 53, 50, 54, 50, 55, 50, 56, 50, 57, 51, 48, 51, 49, 51, 50, 51, 51, 51, 52, 51, 53, 51, 54, 51, 55, 51, 56, 51, 57, 52, 48, 52, 49, 52, 50, 52, 51, 52, 52, 52, 53, 52, 54, 52, 55, 52, 56, 52, 57, 53, 48, 53, 49, 53, 50, 53, 51, 53, 52, 53, 53, 53, 54, 53, 55, 53, 56, 53, 57, 54, 48, 54, 49, 54, 50, 54, 51, 54, 52, 54, 53, 54, 54, 54, 55, 54, 56, 54, 57, 55, 48, 55, 49, 55, 50, 55, 51, 55, 52, 55, 53, 55, 54, 55, 55, 55, 56, 55, 57, 56, 48, 56, 49, 56, 50, 56, 51, 56, 52, 56, 53, 56, 54, 56, 55, 56, 56, 56, 57, 57, 48, 57, 49, 57, 50, 57, 51, 57, 52, 57, 53, 57, 54, 57, 55, 57, 56, 57, 57]⟩)) (.tmp 64))), none⟩
(.take (t_p 66 (.idx 1 (.tmp 55) (.tmp 57)))
(.only true ⟨none, (.eff (.store 1 (.tmp 66) (.tmp 63))), none⟩
(.take (t_p 67 (.idx 1 (.tmp 58) (.tmp 60)))
(.only true ⟨none, (.eff (.store 1 (.tmp 67) (.tmp 65))), none⟩
(.done)))))))))))))))))
(.seq (.draw false
(.take (t_m 68 0)
(.take (t_m 69 4)
(.take (t_p 70 (.bin .sub (.tmp 69) (.const (.int .i64 (5)))))
(.take (t_m 71 0)
(.take (t_m 72 4)
(.take (t_p 73 (.bin .sub (.tmp 72) (.const (.int .i64 (6)))))
(.take (t_m 74 11)
(.take (t_p 75 (.bin .add (.tmp 74) (.const (.int .u32 (1)))))
(.take ⟨(some 76), (.pure (.sidx (.const (.string ⟨#[48, 48, 48, 49, 48, 50, 48, 51, 48, 52, 48, 53, 48, 54, 48, 55, 48, 56, 48, 57, 49, 48, 49, 49, 49, 50, 49, 51, 49, 52, 49, 53, 49, 54, 49, 55, 49, 56, 49, 57, 50, 48, 50, 49, 50, 50, 50, 51, 50, 52, 50, 53, 50, 54, 50, 55, 50, 56, 50, 57, 51, 48, 51, 49, 51, 50, 51, 51, 51, 52, 51, 53, 51, 54, 51, 55, 51, 56, 51, 57, 52, 48, 52, 49, 52, 50, 52, 51, 52, 52, 52, 53, 52, 54, 52, 55, 52, 56, 52, 57, 53, 48, 53, 49, 53, 50, 53, 51, 53, 52, 53, 53, 53, 54, 53, 55, 53, 56, 53, 57, 54, 48, 54, 49, 54, 50, 54, 51, 54, 52, 54, 53, 54, 54, 54, 55, 54, 56, 54, 57, 55, 48, 55, 49, 55, 50, 55, 51, 55, 52, 55, 53, 55, 54, 55, 55, 55, 56, 55, 57, 56, 48, 56, 49, 56, 50, 56, 51, 56, 52, 56, 53, 56, 54, 56, 55, 56, 56, 56, 57, 57, 48, 57, 49, 57, 50, 57, 51, 57, 52, 57, 53, 57, 54, 57, 55, 57, 56, 57, 57]⟩)) (.tmp 75))), none⟩
(.take (t_m 77 11)
(.take ⟨(some 78), (.pure (.sidx (.const (.string ⟨#[48, 48, 48, 49, 48, 50, 48, 51, 48, 52, 48, 53, 48, 54, 48, 55, 48, 56, 48, 57, 49, 48, 49, 49, 49, 50, 49, 51, 49, 52, 49, 53, 49, 54, 49, 55, 49, 56, 49, 57, 50, 48, 50, 49, 50, 50, 50, 51, 50, 52, 50, 53, 50, 54, 50, 55, 50, 56, 50, 57, 51, 48, 51, 49, 51, 50, 51, 51, 51, 52, 51, 53, 51, 54, 51, 55, 51, 56, 51, 57, 52, 48, 52, 49, 52, 50, 52, 51, 52, 52, 52, 53, 52, 54, 52, 55, 52, 56, 52, 57, 53, 48, 53, 49, 53, 50, 53, 51, 53, 52, 53, 53, 53, 54, 53, 55, 53, 56, 53, 57, 54, 48, 54, 49, 54, 50, 54, 51, 54, 52, 54, 53, 54, 54, 54, 55, 54, 56, 54, 57, 55, 48, 55, 49, 55, 50, 55, 51, 55, 52, 55, 53, 55, 54, 55, 55, 55, 56, 55, 57, 56, 48, 56, 49, 56, 50, 56, 51, 56, 52, 56, 53, 56, 54, 56, 55, 56, 56, 56, 57, 57, 48, 57, 49, 57, 50, 57, 51, 57, 52, 57, 53, 57, 54, 57, 55, 57, 56, 57, 57]⟩)) (.tmp 77))), none⟩
(.take (t_p 79 (.idx 1 (.tmp 68) (.tmp 70)))
(.only true ⟨none, (.eff (.store 1 (.tmp 79) (.tmp 76))), none⟩
(.take (t_p 80 (.idx 1 (.tmp 71) (.tmp 73)))
(.only true ⟨none, (.eff (.store 1 (.tmp 80) (.tmp 78))), none⟩
(.done)))))))))))))))))
(.seq (.draw false
(.take (t_m 81 0)
(.take (t_m 82 4)
(.take (t_p 83 (.bin .sub (.tmp 82) (.const (.int .i64 (7)))))
(.take (t_m 84 0)
(.take (t_m 85 4)
(.take (t_p 86 (.bin .sub (.tmp 85) (.const (.int .i64 (8)))))
(.take (t_m 87 10)
(.take (t_p 88 (.bin .add (.tmp 87) (.const (.int .u32 (1)))))
(.take ⟨(some 89), (.pure (.sidx (.const (.string ⟨#[48, 48, 48, 49, 48, 50, 48, 51, 48, 52, 48, 53, 48, 54, 48, 55, 48, 56, 48, 57, 49, 48, 49, 49, 49, 50, 49, 51, 49, 52, 49, 53, 49, 54, 49, 55, 49, 56, 49, 57, 50, 48, 50, 49, 50, 50, 50, 51, 50, 52, 50, 53, 50, 54, 50, 55, 50, 56, 50, 57, 51, 48, 51, 49, 51, 50, 51, 51, 51, 52, 51, 53, 51, 54, 51, 55, 51, 56, 51, 57, 52, 48, 52, 49, 52, 50, 52, 51, 52, 52, 52, 53, 52, 54, 52, 55, 52, 56, 52, 57, 53, 48, 53, 49, 53, 50, 53, 51, 53, 52, 53, 53, 53, 54, 53, 55, 53, 56, 53, 57, 54, 48, 54, 49, 54, 50, 54, 51, 54, 52, 54, 53, 54, 54, 54, 55, 54, 56, 54, 57, 55, 48, 55, 49, 55, 50, 55, 51, 55, 52, 55, 53, 55, 54, 55, 55, 55, 56, 55, 57, 56, 48, 56, 49, 56, 50, 56, 51, 56, 52, 56, 53, 56, 54, 56, 55, 56, 56, 56, 57, 57, 48, 57, 49, 57, 50, 57, 51, 57, 52, 57, 53, 57, 54, 57, 55, 57, 56, 57, 57]⟩)) (.tmp 88))), none⟩
(.take (t_m 90 10)
(.take ⟨(some 91), (.pure (.sidx (.const (.string ⟨#[48, 48, 48, 49, 48, 50, 48, 51, 48, 52, 48, 53, 48, 54, 48, 55, 48, 56, 48, 57, 49, 48, 49, 49, 49, 50, 49, 51, 49, 52, 49, 53, 49, 54, 49, 55, 49, 56, 49, 57, 50, 48, 50, 49, 50, 50, 50, 51, 50, 52, 50, 53, 50, 54, 50, 55, 50, 56, 50, 57, 51, 48, 51, 49, 51, 50, 51, 51, 51, 52, 51, 53, 51, 54, 51, 55, 51, 56, 51, 57, 52, 48, 52, 49, 52, 50, 52, 51, 52, 52, 52, 53, 52, 54, 52, 55, 52, 56, 52, 57, 53, 48, 53, 49, 53, 50, 53, 51, 53, 52, 53, 53, 53, 54, 53, 55, 53, 56, 53, 57, 54, 48, 54, 49, 54, 50, 54, 51, 54, 52, 54, 53, 54, 54, 54, 55, 54, 56, 54, 57, 55, 48, 55, 49, 55, 50, 55, 51, 55, 52, 55, 53, 55, 54, 55, 55, 55, 56, 55, 57, 56, 48, 56, 49, 56, 50, 56, 51, 56, 52, 56, 53, 56, 54, 56, 55, 56, 56, 56, 57, 57, 48, 57, 49, 57, 50, 57, 51, 57, 52, 57, 53, 57, 54, 57, 55, 57, 56, 57, 57]⟩)) (.tmp 90))), none⟩
(.take (t_p 92 (.idx 1 (.tmp 81) (.tmp 83)))
(.only true ⟨none, (.eff (.store 1 (.tmp 92) (.tmp 89))), none⟩
(.take (t_p 93 (.idx 1 (.tmp 84) (.tmp 86)))
(.only true ⟨none, (.eff (.store 1 (.tmp 93) (.tmp 91))), none⟩
(.done)))))))))))))))))
(.ops [ o_m 94 4, o_p 95 (.bin .sub (.tmp 94) (.const (.int .i64 (8)))), o_m 4 95]))))))))))))))
(.seq (.ops [ o_m 96 1, o_p 97 (.conv .u32 (.tmp 96)), o_m 12 97])
(.seq (.seq (.ops [ o_m 98 4, o_p 99 (.bin .geq (.tmp 98) (.const (.int .i64 (4))))])
(.cond (.tmp 99)
(.seq (.ops [ o_m 100 12, o_p 101 (.bin .rem (.tmp 100) (.const (.int .u32 (10000)))), o_m 13 101])
(.seq (.ops [ o_m 102 12, o_p 103 (.bin .quo (.tmp 102) (.const (.int .u32 (10000)))), o_m 12 103])
(.seq (.ops [ o_m 104 13, o_p 105 (.bin .quo (.tmp 104) (.const (.int .u32 (100)))), o_p 106 (.bin .mul (.tmp 105) (.const (.int .u32 (2)))), o_m 107 13, o_p 108 (.bin .rem (.tmp 107) (.const (.int .u32 (100)))), o_p 109 (.bin .mul (.tmp 108) (.const (.int .u32 (2)))), o_m 14 106, o_m 15 109])
(.seq (.draw false
(.take (t_m 110 0)
(.take (t_m 111 4)
(.take (t_p 112 (.bin .sub (.tmp 111) (.const (.int .i64 (1)))))
(.take (t_m 113 0)
(.take (t_m 114 4)
(.take (t_p 115 (.bin .sub (.tmp 114) (.const (.int .i64 (2)))))
(.take (t_m 116 15)
(.take (t_p 117 (.bin .add (.tmp 116) (.const (.int .u32 (1)))))
(.take ⟨(some 118), (.pure (.sidx (.const (.string ⟨#[48, 48, 48, 49, 48, 50, 48, 51, 48, 52, 48, 53, 48, 54, 48, 55, 48, 56, 48, 57, 49, 48, 49, 49, 49, 50, 49, 51, 49, 52, 49, 53, 49, 54, 49, 55, 49, 56, 49, 57, 50, 48, 50, 49, 50, 50, 50, 51, 50, 52, 50, 53, 50, 54, 50, 55, 50, 56, 50, 57, 51, 48, 51, 49, 51, 50, 51, 51, 51, 52, 51, 53, 51, 54, 51, 55, 51, 56, 51, 57, 52, 48, 52, 49, 52, 50, 52, 51, 52, 52, 52, 53, 52, 54, 52, 55, 52, 56, 52, 57, 53, 48, 53, 49, 53, 50, 53, 51, 53, 52, 53, 53, 53, 54, 53, 55, 53, 56, 53, 57, 54, 48, 54, 49, 54, 50, 54, 51, 54, 52, 54, 53, 54, 54, 54, 55, 54, 56, 54, 57, 55, 48, 55, 49, 55, 50, 55, 51, 55, 52, 55, 53, 55, 54, 55, 55, 55, 56, 55, 57, 56, 48, 56, 49, 56, 50, 56, 51, 56, 52, 56, 53, 56, 54, 56, 55, 56, 56, 56, 57, 57, 48, 57, 49, 57, 50, 57, 51, 57, 52, 57, 53, 57, 54, 57, 55, 57, 56, 57, 57]⟩)) (.tmp 117))), none⟩
(.take (t_m 119 15)
(.take ⟨(some 120), (.pure (.sidx (.const (.string ⟨#[48, 48, 48, 49, 48, 50, 48, 51, 48, 52, 48, 53, 48, 54, 48, 55, 48, 56, 48, 57, 49, 48, 49, 49, 49, 50, 49, 51, 49, 52, 49, 53, 49, 54, 49, 55, 49, 56, 49, 57, 50, 48, 50, 49, 50, 50, 50, 51, 50, 52, 50, 53, 50, 54, 50, 55, 50, 56, 50, 57, 51, 48, 51, 49, 51, 50, 51, 51, 51, 52, 51, 53, 51, 54, 51, 55, 51, 56, 51, 57, 52, 48, 52, 49, 52, 50, 52, 51, 52, 52, 52, 53, 52, 54, 52, 55, 52, 56, 52, 57, 53, 48, 53, 49, 53, 50, 53, 51, 53, 52, 53, 53, 53, 54, 53, 55, 53, 56, 53, 57, 54, 48, 54, 49, 54, 50, 54, 51, 54, 52, 54, 53, 54, 54, 54, 55, 54, 56, 54, 57, 55, 48, 55, 49, 55, 50, 55, 51, 55, 52, 55, 53, 55, 54, 55, 55, 55, 56, 55, 57, 56, 48, 56, 49, 56, 50, 56, 51, 56, 52, 56, 53, 56, 54, 56, 55, 56, 56, 56, 57, 57, 48, 57, 49, 57, 50, 57, 51, 57, 52, 57, 53, 57, 54, 57, 55, 57, 56, 57, 57]⟩)) (.tmp 119))), none⟩
(.take (t_p 121 (.idx 1 (.tmp 110) (.tmp 112)))
(.only true ⟨none, (.eff (.store 1 (.tmp 121) (.tmp 118))), none⟩
(.take (t_p 122 (.idx 1 (.tmp 113) (.tmp 115)))
(.only true ⟨none, (.eff (.store 1 (.tmp 122) (.tmp 120))), none⟩
(.done)))))))))))))))))
(.seq (.draw false
(.take (t_m 123 0)
(.take (t_m 124 4)
(.take (t_p 125 (.bin .sub (.tmp 124) (.const (.int .i64 (3)))))
(.take (t_m 126 0)
(.take (t_m 127 4)
(.take (t_p 128 (.bin .sub (.tmp 127) (.const (.int .i64 (4)))))
(.take (t_m 129 14)
(.take (t_p 130 (.bin .add (.tmp 129) (.const (.int .u32 (1)))))
(.take ⟨(some 131), (.pure (.sidx (.const (.string ⟨#[48, 48, 48, 49, 48, 50, 48, 51, 48, 52, 48, 53, 48, 54, 48, 55, 48, 56, 48, 57, 49, 48, 49, 49, 49, 50, 49, 51, 49, 52, 49, 53, 49, 54, 49, 55, 49, 56, 49, 57, 50, 48, 50, 49, 50, 50, 50, 51, 50, 52, 50, 53, 50, 54, 50, 55, 50, 56, 50, 57, 51, 48, 51, 49, 51, 50, 51, 51, 51, 52, 51, 53, 51, 54, 51, 55, 51, 56, 51, 57, 52, 48, 52, 49, 52, 50, 52, 51, 52, 52, 52, 53, 52, 54, 52, 55, 52, 56, 52, 57, 53, 48, 53, 49, 53, 50, 53, 51, 53, 52, 53, 53, 53, 54, 53, 55, 53, 56, 53, 57, 54, 48, 54, 49, 54, 50, 54, 51, 54, 52, 54, 53, 54, 54, 54, 55, 54, 56, 54, 57, 55, 48, 55, 49, 55, 50, 55, 51, 55, 52, 55, 53, 55, 54, 55, 55, 55, 56, 55, 57, 56, 48, 56, 49, 56, 50, 56, 51, 56, 52, 56, 53, 56, 54, 56, 55, 56, 56, 56, 57, 57, 48, 57, 49, 57, 50, 57, 51, 57, 52, 57, 53, 57, 54, 57, 55, 57, 56, 57, 57]⟩)) (.tmp 130))), none⟩
(.take (t_m 132 14)
(.take ⟨(some 133), (.pure (.sidx (.const (.string ⟨#[48, 48, 48, 49, 48, 50, 48, 51, 48, 52, 48, 53, 48, 54, 48, 55, 48, 56, 48, 57, 49, 48, 49, 49, 49, 50, 49, 51, 49, 52, 49, 53, 49, 54, 49, 55, 49, 56, 49, 57, 50, 48, 50, 49, 50, 50, 50, 51, 50, 52, 50, 53, 50, 54, 50, 55, 50, 56, 50, 57, 51, 48, 51, 49, 51, 50, 51, 51, 51, 52, 51, 53, 51, 54, 51, 55, 51, 56, 51, 57, 52, 48, 52, 49, 52, 50, 52, 51, 52, 52, 52, 53, 52, 54, 52, 55, 52, 56, 52, 57, 53, 48, 53, 49, 53, 50, 53, 51, 53, 52, 53, 53, 53, 54, 53, 55, 53, 56, 53, 57, 54, 48, 54, 49, 54, 50, 54, 51, 54, 52, 54, 53, 54, 54, 54, 55, 54, 56, 54, 57, 55, 48, 55, 49, 55, 50, 55, 51, 55, 52, 55, 53, 55, 54, 55, 55, 55, 56, 55, 57, 56, 48, 56, 49, 56, 50, 56, 51, 56, 52, 56, 53, 56, 54, 56, 55, 56, 56, 56, 57, 57, 48, 57, 49, 57, 50, 57, 51, 57, 52, 57, 53, 57, 54, 57, 55, 57, 56, 57, 57]⟩)) (.tmp 132))), none⟩
(.take (t_p 134 (.idx 1 (.tmp 123) (.tmp 125)))
(.only true ⟨none, (.eff (.store 1 (.tmp 134) (.tmp 131))), none⟩
(.take (t_p 135 (.idx 1 (.tmp 126) (.tmp 128)))
(.only true ⟨none, (.eff (.store 1 (.tmp 135) (.tmp 133))), none⟩
(.done)))))))))))))))))
(.ops [ o_m 136 4, o_p 137 (.bin .sub (.tmp 136) (.const (.int .i64 (4)))), o_m 4 137]))))))
(.skip)))
(.seq (.seq (.ops [ o_m 138 4, o_p 139 (.bin .geq (.tmp 138) (.const (.int .i64 (2))))])
(.cond (.tmp 139)
(.seq (.ops [ o_m 140 12, o_p 141 (.bin .rem (.tmp 140) (.const (.int .u32 (100)))), o_p 142 (.bin .mul (.tmp 141) (.const (.int .u32 (2)))), o_m 16 142])
(.seq (.ops [ o_m 143 12, o_p 144 (.bin .quo (.tmp 143) (.const (.int .u32 (100)))), o_m 12 144])
(.seq (.draw false
(.take (t_m 145 0)
(.take (t_m 146 4)
(.take (t_p 147 (.bin .sub (.tmp 146) (.const (.int .i64 (1)))))
(.take (t_m 148 0)
(.take (t_m 149 4)
(.take (t_p 150 (.bin .sub (.tmp 149) (.const (.int .i64 (2)))))
(.take (t_m 151 16)
(.take (t_p 152 (.bin .add (.tmp 151) (.const (.int .u32 (1)))))
(.take ⟨(some 153), (.pure (.sidx (.const (.string ⟨#[48, 48, 48, 49, 48, 50, 48, 51, 48, 52, 48, 53, 48, 54, 48, 55, 48, 56, 48, 57, 49, 48, 49, 49, 49, 50, 49, 51, 49, 52, 49, 53, 49, 54, 49, 55, 49, 56, 49, 57, 50, 48, 50, 49, 50, 50, 50, 51, 50, 52, 50, 53, 50, 54, 50, 55, 50, 56, 50, 57, 51, 48, 51, 49, 51, 50, 51, 51, 51, 52, 51, 53, 51, 54, 51, 55, 51, 56, 51, 57, 52, 48, 52, 49, 52, 50, 52, 51, 52, 52, 52, 53, 52, 54, 52, 55, 52, 56, 52, 57, 53, 48, 53, 49, 53, 50, 53, 51, 53, 52, 53, 53, 53, 54, 53, 55, 53, 56, 53, 57, 54, 48, 54, 49, 54, 50, 54, 51, 54, 52, 54, 53, 54, 54, 54, 55, 54, 56, 54, 57, 55, 48, 55, 49, 55, 50, 55, 51, 55, 52, 55, 53, 55, 54, 55, 55, 55, 56, 55, 57, 56, 48, 56, 49, 56, 50, 56, 51, 56, 52, 56, 53, 56, 54, 56, 55, 56, 56, 56, 57, 57, 48, 57, 49, 57, 50, 57, 51, 57, 52, 57, 53, 57, 54, 57, 55, 57, 56, 57, 57]⟩)) (.tmp 152))), none⟩
(.take (t_m 154 16)
(.take ⟨(some 155), (.pure (.sidx (.const (.string ⟨#[48, 48, 48, 49, 48, 50, 48, 51, 48, 52, 48, 53, 48, 54, 48, 55, 48, 56, 48, 57, 49, 48, 49, 49, 49, 50, 49, 51, 49, 52, 49, 53, 49, 54, 49, 55, 49, 56, 49, 57, 50, 48, 50, 49, 50, 50, 50, 51, 50, 52, 50, 53, 50, 54, 50, 55, 50, 56, 50, 57, 51, 48, 51, 49, 51, 50, 51, 51, 51, 52, 51, 53, 51, 54, 51, 55, 51, 56, 51, 57, 52, 48, 52, 49, 52, 50, 52, 51, 52, 52, 52, 53, 52, 54, 52, 55, 52, 56, 52, 57, 53, 48, 53, 49, 53, 50, 53, 51, 53, 52, 53, 53, 53, 54, 53, 55, 53, 56, 53, 57, 54, 48, 54, 49, 54, 50, 54, 51, 54, 52, 54, 53, 54, 54, 54, 55, 54, 56, 54, 57, 55, 48, 55, 49, 55, 50, 55, 51, 55, 52, 55, 53, 55, 54, 55, 55, 55, 56, 55, 57, 56, 48, 56, 49, 56, 50, 56, 51, 56, 52, 56, 53, 56, 54, 56, 55, 56, 56, 56, 57, 57, 48, 57, 49, 57, 50, 57, 51, 57, 52, 57, 53, 57, 54, 57, 55, 57, 56, 57, 57]⟩)) (.tmp 154))), none⟩
(.take (t_p 156 (.idx 1 (.tmp 145) (.tmp 147)))
(.only true ⟨none, (.eff (.store 1 (.tmp 156) (.tmp 153))), none⟩
(.take (t_p 157 (.idx 1 (.tmp 148) (.tmp 150)))
(.only true ⟨none, (.eff (.store 1 (.tmp 157) (.tmp 155))), none⟩
(.done)))))))))))))))))
(.ops [ o_m 158 4, o_p 159 (.bin .sub (.tmp 158) (.const (.int .i64 (2)))), o_m 4 159]))))
(.skip)))
(.seq (.ops [ o_m 160 4, o_p 161 (.bin .gtr (.tmp 160) (.const (.int .i64 (0))))])
(.cond (.tmp 161)
(.ops [ o_m 162 0, o_m 163 12, o_p 164 (.bin .add (.const (.int .u32 (48))) (.tmp 163)), o_p 165 (.conv .u8 (.tmp 164)), o_p 166 (.idx 1 (.tmp 162) (.const (.int .i64 (0)))),
.op ⟨none, (.eff (.store 1 (.tmp 166) (.tmp 165))), none⟩])
(.skip))))))),
[]⟩
theorem r_internal_strconv_formatBase10 : resFun Tryz.prog f_internal_strconv_formatBase10 = some c_internal_strconv_formatBase10 := by kernel_rfl

/- internal/strconv.formatBits -/
abbrev f_internal_strconv_formatBits : Nat := 103
def c_internal_strconv_formatBits : MFun := ⟨102, .seq (.ops [ o_p 10 (.mv (.const (.slice none 0 0))),
.op ⟨(some 11), (.pure (.mv (.const (.string ⟨#[]⟩)))), none⟩])
(.seq (.seq (.ops [ o_m 19 2, o_p 20 (.bin .lss (.tmp 19) (.const (.int .i64 (2)))), o_m 21 20,
.split 21,
.op ⟨(some 22), (.pure (.mv (.tmp 2))), (some (21, false))⟩,
.op ⟨(some 23), (.pure (.bin .eql (.tmp 22) (.const (.int .i64 (10))))), (some (21, false))⟩, o_p 24 (.pick (.tmp 21) (.const (.bool true)) (.tmp 23)), o_m 25 24,
.split 25,
.op ⟨(some 26), (.pure (.mv (.tmp 2))), (some (25, false))⟩,
.op ⟨(some 27), (.pure (.bin .gtr (.tmp 26) (.const (.int .i64 (36))))), (some (25, false))⟩, o_p 28 (.pick (.tmp 25) (.const (.bool true)) (.tmp 27))])
(.cond (.tmp 28)
(.ops [ o_e 29 (.fail),
.op ⟨none, (.eff (.fail)), none⟩])
(.skip)))
(.seq (.ops [ o_e 12 (.new 127 [(.int .u8 (0)), (.int .u8 (0)), (.int .u8 (0)), (.int .u8 (0)), (.int .u8 (0)), (.int .u8 (0)), (.int .u8 (0)), (.int .u8 (0)), (.int .u8 (0)), (.int .u8 (0)), (.int .u8 (0)), (.int .u8 (0)), (.int .u8 (0)), (.int .u8 (0)), (.int .u8 (0)), (.int .u8 (0)), (.int .u8 (0)), (.int .u8 (0)), (.int .u8 (0)), (.int .u8 (0)), (.int .u8 (0)), (.int .u8 (0)), (.int .u8 (0)), (.int .u8 (0)), (.int .u8 (0)), (.int .u8 (0)), (.int .u8 (0)), (.int .u8 (0)), (.int .u8 (0)), (.int .u8 (0)), (.int .u8 (0)), (.int .u8 (0)), (.int .u8 (0)), (.int .u8 (0)), (.int .u8 (0)), (.int .u8 (0)), (.int .u8 (0)), (.int .u8 (0)), (.int .u8 (0)), (.int .u8 (0)), (.int .u8 (0)), (.int .u8 (0)), (.int .u8 (0)), (.int .u8 (0)), (.int .u8 (0)), (.int .u8 (0)), (.int .u8 (0)), (.int .u8 (0)), (.int .u8 (0)), (.int .u8 (0)), (.int .u8 (0)), (.int .u8 (0)), (.int .u8 (0)), (.int .u8 (0)), (.int .u8 (0)), (.int .u8 (0)), (.int .u8 (0)), (.int .u8 (0)), (.int .u8 (0)), (.int .u8 (0)), (.int .u8 (0)), (.int .u8 (0)), (.int .u8 (0)), (.int .u8 (0)), (.int .u8 (0))])])
(.seq (.ops [ o_p 13 (.mv (.const (.int .i64 (65))))])
(.seq (.seq (.ops [ o_m 30 3])
(.cond (.tmp 30)
(.ops [ o_m 31 1, o_p 32 (.ineg (.tmp 31)), o_m 1 32])
(.skip)))
(.seq (.seq (.ops [ o_m 33 2, o_e 34 (.call 119 [(.tmp 33)])])
(.cond (.tmp 34)
(.seq (.ops [ o_m 35 2, o_p 36 (.conv .u64 (.tmp 35)), o_e 37 (.call 120 [(.tmp 36)]), o_p 38 (.conv .u64 (.tmp 37)), o_m 14 38])
(.seq (.ops [ o_m 39 2, o_p 40 (.conv .u64 (.tmp 39)), o_m 15 40])
(.seq (.ops [ o_m 41 2, o_p 42 (.conv .u64 (.tmp 41)), o_p 43 (.bin .sub (.tmp 42) (.const (.int .u64 (1)))), o_m 16 43])
(.seq (.block 0 (.loop (.seq (.seq (.ops [ o_m 44 1, o_m 45 15, o_p 46 (.bin .geq (.tmp 44) (.tmp 45))])
(.cond (.tmp 46)
(.skip)
(.exit 0)))
(.block 1 (.seq (.ops [ o_m 47 13, o_p 48 (.bin .sub (.tmp 47) (.const (.int .i64 (1)))), o_m 13 48])
(.seq (.ops [ o_m 49 13, o_m 50 1, o_m 51 16, o_p 52 (.bin .and (.tmp 50) (.tmp 51)),
.op ⟨(some 53), (.pure (.sidx (.const (.string ⟨#[48, 49, 50, 51, 52, 53, 54, 55, 56, 57, 97, 98, 99, 100, 101, 102, 103, 104, 105, 106, 107, 108, 109, 110, 111, 112, 113, 114, 115, 116, 117, 118, 119, 120, 121, 122]⟩)) (.tmp 52))), none⟩, o_p 54 (.idxA 65 1 (.tmp 12) (.tmp 49)),
.op ⟨none, (.eff (.store 1 (.tmp 54) (.tmp 53))), none⟩])
(.ops [ o_m 55 1, o_m 56 14, o_p 57 (.bin .shr (.tmp 55) (.tmp 56)), o_m 1 57])))))))
(.seq (.ops [ o_m 58 13, o_p 59 (.bin .sub (.tmp 58) (.const (.int .i64 (1)))), o_m 13 59])
(.ops [ o_m 60 13, o_m 61 1,
.op ⟨(some 62), (.pure (.sidx (.const (.string ⟨#[48, 49, 50, 51, 52, 53, 54, 55, 56, 57, 97, 98, 99, 100, 101, 102, 103, 104, 105, 106, 107, 108, 109, 110, 111, 112, 113, 114, 115, 116, 117, 118, 119, 120, 121, 122]⟩)) (.tmp 61))), none⟩, o_p 63 (.idxA 65 1 (.tmp 12) (.tmp 60)),
.op ⟨none, (.eff (.store 1 (.tmp 63) (.tmp 62))), none⟩]))))))
(.seq (.ops [ o_m 64 2, o_p 65 (.conv .u64 (.tmp 64)), o_m 17 65])
(.seq (.block 2 (.loop (.seq (.seq (.ops [ o_m 66 1, o_m 67 17, o_p 68 (.bin .geq (.tmp 66) (.tmp 67))])
(.cond (.tmp 68)
(.skip)
(.exit 2)))
(.block 3 (.seq (.ops [ o_m 69 13, o_p 70 (.bin .sub (.tmp 69) (.const (.int .i64 (1)))), o_m 13 70])
(.seq (.ops [ o_m 71 1, o_m 72 17, o_p 73 (.bin .quo (.tmp 71) (.tmp 72)), o_m 18 73])
(.seq (.ops [ o_m 74 13, o_m 75 1, o_m 76 18, o_m 77 17, o_p 78 (.bin .mul (.tmp 76) (.tmp 77)), o_p 79 (.bin .sub (.tmp 75) (.tmp 78)),
.op ⟨(some 80), (.pure (.sidx (.const (.string ⟨#[48, 49, 50, 51, 52, 53, 54, 55, 56, 57, 97, 98, 99, 100, 101, 102, 103, 104, 105, 106, 107, 108, 109, 110, 111, 112, 113, 114, 115, 116, 117, 118, 119, 120, 121, 122]⟩)) (.tmp 79))), none⟩, o_p 81 (.idxA 65 1 (.tmp 12) (.tmp 74)),
.op ⟨none, (.eff (.store 1 (.tmp 81) (.tmp 80))), none⟩])
(.ops [ o_m 82 18, o_m 1 82]))))))))
(.seq (.ops [ o_m 83 13, o_p 84 (.bin .sub (.tmp 83) (.const (.int .i64 (1)))), o_m 13 84])
(.ops [ o_m 85 13, o_m 86 1,
.op ⟨(some 87), (.pure (.sidx (.const (.string ⟨#[48, 49, 50, 51, 52, 53, 54, 55, 56, 57, 97, 98, 99, 100, 101, 102, 103, 104, 105, 106, 107, 108, 109, 110, 111, 112, 113, 114, 115, 116, 117, 118, 119, 120, 121, 122]⟩)) (.tmp 86))), none⟩, o_p 88 (.idxA 65 1 (.tmp 12) (.tmp 85)),
.op ⟨none, (.eff (.store 1 (.tmp 88) (.tmp 87))), none⟩]))))))
(.seq (.seq (.ops [ o_m 89 3])
(.cond (.tmp 89)
(.seq (.ops [ o_m 90 13, o_p 91 (.bin .sub (.tmp 90) (.const (.int .i64 (1)))), o_m 13 91])
(.ops [ o_m 92 13, o_p 93 (.idxA 65 1 (.tmp 12) (.tmp 92)),
.op ⟨none, (.eff (.store 1 (.tmp 93) (.const (.int .u8 (45))))), none⟩]))
(.skip)))
(.seq (.seq (.ops [ o_m 94 4])
(.cond (.tmp 94)
(.seq (.ops [ o_m 95 0, o_m 96 13, o_e 97 (.fail), o_e 98 (.app 5 1 1 (.tmp 95) (.tmp 97)), o_m 10 98])
(.ret))
(.skip)))
(.seq (.ops [ o_m 99 13, o_e 100 (.fail), o_e 101 (.bstr (.tmp 100)), o_m 11 101])
(.ret))))))))),
[.tmp 10, .tmp 11]⟩
theorem r_internal_strconv_formatBits : resFun Tryz.prog f_internal_strconv_formatBits = some c_internal_strconv_formatBits := by kernel_rfl

/- internal/bytealg.hashStr[string] -/
abbrev f_internal_bytealg_hashStr_string : Nat := 107
def c_internal_bytealg_hashStr_string : MFun := ⟨39, .seq (.ops [ o_p 2 (.mv (.const (.int .u32 (0)))), o_p 3 (.mv (.const (.int .u32 (0))))])
(.seq (.ops [ o_p 4 (.mv (.const (.int .u32 (0))))])
(.seq (.seq (.ops [ o_p 5 (.mv (.const (.int .i64 (0))))])
(.block 0 (.loop (.seq (.seq (.ops [ o_m 9 5, o_m 10 0, o_p 11 (.slen (.tmp 10)), o_p 12 (.bin .lss (.tmp 9) (.tmp 11))])
(.cond (.tmp 12)
(.skip)
(.exit 0)))
(.seq (.block 1 (.ops [ o_m 15 4, o_p 16 (.bin .mul (.tmp 15) (.const (.int .u32 (16777619)))), o_m 17 0, o_m 18 5, o_p 19 (.sidx (.tmp 17) (.tmp 18)), o_p 20 (.conv .u32 (.tmp 19)), o_p 21 (.bin .add (.tmp 16) (.tmp 20)), o_m 4 21]))
(.ops [ o_m 13 5, o_p 14 (.bin .add (.tmp 13) (.const (.int .i64 (1)))), o_m 5 14]))))))
(.seq (.ops [ o_p 6 (.mv (.const (.int .u32 (1)))), o_p 7 (.mv (.const (.int .u32 (16777619))))])
(.seq (.seq (.ops [ o_m 22 0, o_p 23 (.slen (.tmp 22)), o_m 8 23])
(.block 2 (.loop (.seq (.seq (.ops [ o_m 24 8, o_p 25 (.bin .gtr (.tmp 24) (.const (.int .i64 (0))))])
(.cond (.tmp 25)
(.skip)
(.exit 2)))
(.seq (.block 3 (.seq (.seq (.ops [ o_m 28 8, o_p 29 (.bin .and (.tmp 28) (.const (.int .i64 (1)))), o_p 30 (.bin .neq (.tmp 29) (.const (.int .i64 (0))))])
(.cond (.tmp 30)
(.ops [ o_m 31 6, o_m 32 7, o_p 33 (.bin .mul (.tmp 31) (.tmp 32)), o_m 6 33])
(.skip)))
(.ops [ o_m 34 7, o_m 35 7, o_p 36 (.bin .mul (.tmp 34) (.tmp 35)), o_m 7 36])))
(.ops [ o_m 26 8, o_p 27 (.bin .shr (.tmp 26) (.const (.int .u64 (1)))), o_m 8 27]))))))
(.seq (.ops [ o_m 37 4, o_m 38 6, o_m 2 37, o_m 3 38])
(.ret)))))),
[.tmp 2, .tmp 3]⟩
theorem r_internal_bytealg_hashStr_string : resFun Tryz.prog f_internal_bytealg_hashStr_string = some c_internal_bytealg_hashStr_string := by kernel_rfl

/- unicode/utf8.RuneCountInString -/
abbrev f_unicode_utf8_RuneCountInString : Nat := 108
def c_unicode_utf8_RuneCountInString : MFun := ⟨10, .seq (.ops [ o_p 2 (.mv (.const (.int .i64 (0))))])
(.seq (.seq (.ops [ o_m 3 0, o_e 4 (.fail)])
(.block 0 (.loop (.seq (.ops [ o_e 5 (.fail), o_p 6 (.ext 0 (.tmp 5))])
(.seq (.cond (.tmp 6)
(.skip)
(.exit 0))
(.block 1 (.ops [ o_m 7 2, o_p 8 (.bin .add (.tmp 7) (.const (.int .i64 (1)))), o_m 2 8])))))))
(.seq (.ops [ o_m 9 2, o_m 2 9])
(.ret))),
[.tmp 2]⟩
theorem r_unicode_utf8_RuneCountInString : resFun Tryz.prog f_unicode_utf8_RuneCountInString = some c_unicode_utf8_RuneCountInString := by kernel_rfl

/- unicode/utf8.DecodeRuneInString -/
abbrev f_unicode_utf8_DecodeRuneInString : Nat := 109
def c_unicode_utf8_DecodeRuneInString : MFun := ⟨19, .seq (.ops [ o_p 2 (.mv (.const (.int .i32 (0)))), o_p 3 (.mv (.const (.int .i64 (0))))])
(.seq (.seq (.ops [ o_m 4 0,
.op ⟨(some 5), (.pure (.bin .neq (.tmp 4) (.const (.string ⟨#[]⟩)))), none⟩, o_m 6 5,
.split 6,
.op ⟨(some 7), (.pure (.mv (.tmp 0))), (some (6, true))⟩,
.op ⟨(some 8), (.pure (.sidx (.tmp 7) (.const (.int .i64 (0))))), (some (6, true))⟩,
.op ⟨(some 9), (.pure (.bin .lss (.tmp 8) (.const (.int .u8 (128))))), (some (6, true))⟩, o_p 10 (.pick (.tmp 6) (.tmp 9) (.const (.bool false)))])
(.cond (.tmp 10)
(.seq (.ops [ o_m 11 0, o_p 12 (.sidx (.tmp 11) (.const (.int .i64 (0)))), o_p 13 (.conv .i32 (.tmp 12)), o_m 2 13, o_p 3 (.mv (.const (.int .i64 (1))))])
(.ret))
(.ops [ o_m 15 0, o_e 16 (.call 121 [(.tmp 15)]), o_m 14 16, o_p 17 (.ext 0 (.tmp 14)), o_p 18 (.ext 1 (.tmp 14)), o_m 2 17, o_m 3 18])))
(.ret)),
[.tmp 2, .tmp 3]⟩
theorem r_unicode_utf8_DecodeRuneInString : resFun Tryz.prog f_unicode_utf8_DecodeRuneInString = some c_unicode_utf8_DecodeRuneInString := by kernel_rfl

/- internal/strconv.ParseInt -/
abbrev f_internal_strconv_ParseInt : Nat := 111
def c_internal_strconv_ParseInt : MFun := ⟨73, .seq (.ops [ o_p 6 (.mv (.const (.int .i64 (0)))), o_p 7 (.mv (.const .nilIface))])
(.seq (.seq (.ops [ o_m 12 0,
.op ⟨(some 13), (.pure (.bin .eql (.tmp 12) (.const (.string ⟨#[]⟩)))), none⟩])
(.cond (.tmp 13)
(.seq (.ops [ o_e 14 (.fail), o_p 6 (.mv (.const (.int .i64 (0)))), o_m 7 14])
(.ret))
(.skip)))
(.seq (.ops [ o_p 8 (.mv (.const (.bool false)))])
(.seq (.seq (.ops [ o_m 15 0, o_p 16 (.sidx (.tmp 15) (.const (.int .i64 (0))))])
(.block 0 (.seq (.ops [ o_p 18 (.bin .eql (.tmp 16) (.const (.int .u8 (43)))), o_m 17 18])
(.cond (.tmp 17)
(.ops [ o_m 19 0, o_p 20 (.sslc (.tmp 19) (some (.const (.int .i64 (1)))) none), o_m 0 20])
(.seq (.ops [ o_p 22 (.bin .eql (.tmp 16) (.const (.int .u8 (45)))), o_m 21 22])
(.cond (.tmp 21)
(.seq (.ops [ o_m 23 0, o_p 24 (.sslc (.tmp 23) (some (.const (.int .i64 (1)))) none), o_m 0 24])
(.ops [ o_p 8 (.mv (.const (.bool true)))]))
(.skip)))))))
(.seq (.ops [ o_p 9 (.mv (.const (.int .u64 (0))))])
(.seq (.ops [ o_m 26 0, o_m 27 1, o_m 28 2, o_e 29 (.call 122 [(.tmp 26), (.tmp 27), (.tmp 28)]), o_m 25 29, o_p 30 (.ext 0 (.tmp 25)), o_p 31 (.ext 1 (.tmp 25)), o_m 9 30, o_m 7 31])
(.seq (.seq (.ops [ o_m 32 7, o_p 33 (.ifnil true (.tmp 32)), o_m 34 33,
.split 34,
.op ⟨(some 35), (.pure (.mv (.tmp 7))), (some (34, true))⟩,
.op ⟨(some 36), (.eff (.fail)), (some (34, true))⟩,
.op ⟨(some 37), (.eff (.fail)), (some (34, true))⟩, o_p 38 (.pick (.tmp 34) (.tmp 37) (.const (.bool false)))])
(.cond (.tmp 38)
(.seq (.ops [ o_m 39 7, o_p 6 (.mv (.const (.int .i64 (0)))), o_m 7 39])
(.ret))
(.skip)))
(.seq (.seq (.ops [ o_m 40 2, o_p 41 (.bin .eql (.tmp 40) (.const (.int .i64 (0))))])
(.cond (.tmp 41)
(.ops [ o_p 2 (.mv (.const (.int .i64 (64))))])
(.skip)))
(.seq (.ops [ o_m 42 2, o_p 43 (.bin .sub (.tmp 42) (.const (.int .i64 (1)))), o_p 44 (.conv .u64 (.tmp 43)), o_p 45 (.bin .shl (.const (.int .u64 (1))) (.tmp 44)), o_m 10 45])
(.seq (.seq (.ops [ o_m 46 8, o_p 47 (.bnot (.tmp 46)), o_m 48 47,
.split 48,
.op ⟨(some 49), (.pure (.mv (.tmp 9))), (some (48, true))⟩,
.op ⟨(some 50), (.pure (.mv (.tmp 10))), (some (48, true))⟩,
.op ⟨(some 51), (.pure (.bin .geq (.tmp 49) (.tmp 50))), (some (48, true))⟩, o_p 52 (.pick (.tmp 48) (.tmp 51) (.const (.bool false)))])
(.cond (.tmp 52)
(.seq (.ops [ o_m 53 10, o_p 54 (.bin .sub (.tmp 53) (.const (.int .u64 (1)))), o_p 55 (.conv .i64 (.tmp 54)), o_e 56 (.fail), o_m 6 55, o_m 7 56])
(.ret))
(.skip)))
(.seq (.seq (.ops [ o_m 57 8, o_m 58 57,
.split 58,
.op ⟨(some 59), (.pure (.mv (.tmp 9))), (some (58, true))⟩,
.op ⟨(some 60), (.pure (.mv (.tmp 10))), (some (58, true))⟩,
.op ⟨(some 61), (.pure (.bin .gtr (.tmp 59) (.tmp 60))), (some (58, true))⟩, o_p 62 (.pick (.tmp 58) (.tmp 61) (.const (.bool false)))])
(.cond (.tmp 62)
(.seq (.ops [ o_m 63 10, o_p 64 (.conv .i64 (.tmp 63)), o_p 65 (.ineg (.tmp 64)), o_e 66 (.fail), o_m 6 65, o_m 7 66])
(.ret))
(.skip)))
(.seq (.ops [ o_m 67 9, o_p 68 (.conv .i64 (.tmp 67)), o_m 11 68])
(.seq (.seq (.ops [ o_m 69 8])
(.cond (.tmp 69)
(.ops [ o_m 70 11, o_p 71 (.ineg (.tmp 70)), o_m 11 71])
(.skip)))
(.seq (.ops [ o_m 72 11, o_m 6 72, o_p 7 (.mv (.const .nilIface))])
(.ret)))))))))))))),
[.tmp 6, .tmp 7]⟩
theorem r_internal_strconv_ParseInt : resFun Tryz.prog f_internal_strconv_ParseInt = some c_internal_strconv_ParseInt := by kernel_rfl
end Go.Proofs.YtbikhpphdhffaaaGreatDoor
