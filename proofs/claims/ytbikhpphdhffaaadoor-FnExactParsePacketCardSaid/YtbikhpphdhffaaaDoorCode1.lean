/- The code of this seat's functions, resolved, written by a program of mine; each is held against the given program by the kernel. Condition: none. -/
import Derived.Test.YtbikhpphdhffaaaDoorProg
import Derived.Test.YtbikhpphdhffaaaDoorBase9
import Derived.KernelRfl
namespace Go.Proofs.YtbikhpphdhffaaaDoor
open Go.Vc

/- strings.genSplit -/
abbrev f_strings_genSplit : Nat := 32
def c_strings_genSplit : MFun := ⟨66, .seq (.ops [ o_p 8 (.mv (.const (.slice none 0 0)))])
(.seq (.seq (.ops [ o_m 12 3, o_p 13 (.bin .eql (.tmp 12) (.const (.int .i64 (0))))])
(.cond (.tmp 13)
(.seq (.ops [ o_p 8 (.mv (.const (.slice none 0 0)))])
(.ret))
(.skip)))
(.seq (.seq (.ops [ o_m 14 1,
.op ⟨(some 15), (.pure (.bin .eql (.tmp 14) (.const (.string ⟨#[]⟩)))), none⟩])
(.cond (.tmp 15)
(.seq (.ops [ o_m 16 0, o_m 17 3, o_e 18 (.call 39 [(.tmp 16), (.tmp 17)]), o_m 8 18])
(.ret))
(.skip)))
(.seq (.seq (.ops [ o_m 19 3, o_p 20 (.bin .lss (.tmp 19) (.const (.int .i64 (0))))])
(.cond (.tmp 20)
(.ops [ o_m 21 0, o_m 22 1, o_e 23 (.call 40 [(.tmp 21), (.tmp 22)]), o_p 24 (.bin .add (.tmp 23) (.const (.int .i64 (1)))), o_m 3 24])
(.skip)))
(.seq (.ops [ o_m 25 3, o_m 26 0, o_p 27 (.slen (.tmp 26)), o_p 28 (.bin .add (.tmp 27) (.const (.int .i64 (1)))), o_p 29 (.min2 (.tmp 25) (.tmp 28)), o_m 3 29])
(.seq (.ops [ o_m 30 3,
.op ⟨(some 31), (.eff (.mk 9 1 16 [(.string ⟨#[]⟩)] (.tmp 30) (.tmp 30))), none⟩, o_m 9 31])
(.seq (.ops [ o_m 32 3, o_p 33 (.bin .sub (.tmp 32) (.const (.int .i64 (1)))), o_m 3 33])
(.seq (.ops [ o_p 10 (.mv (.const (.int .i64 (0))))])
(.seq (.block 0 (.loop (.seq (.seq (.ops [ o_m 34 10, o_m 35 3, o_p 36 (.bin .lss (.tmp 34) (.tmp 35))])
(.cond (.tmp 36)
(.skip)
(.exit 0)))
(.block 1 (.seq (.ops [ o_m 37 0, o_m 38 1, o_e 39 (.call 41 [(.tmp 37), (.tmp 38)]), o_m 11 39])
(.seq (.seq (.ops [ o_m 40 11, o_p 41 (.bin .lss (.tmp 40) (.const (.int .i64 (0))))])
(.cond (.tmp 41)
(.exit 0)
(.skip)))
(.seq (.ops [ o_m 42 9, o_m 43 10, o_m 44 0, o_m 45 11, o_m 46 2, o_p 47 (.bin .add (.tmp 45) (.tmp 46)), o_p 48 (.sslc (.tmp 44) none (some (.tmp 47))), o_p 49 (.idx 1 (.tmp 42) (.tmp 43)),
.op ⟨none, (.eff (.store 1 (.tmp 49) (.tmp 48))), none⟩])
(.seq (.ops [ o_m 50 0, o_m 51 11, o_m 52 1, o_p 53 (.slen (.tmp 52)), o_p 54 (.bin .add (.tmp 51) (.tmp 53)), o_p 55 (.sslc (.tmp 50) (some (.tmp 54)) none), o_m 0 55])
(.ops [ o_m 56 10, o_p 57 (.bin .add (.tmp 56) (.const (.int .i64 (1)))), o_m 10 57])))))))))
(.seq (.ops [ o_m 58 9, o_m 59 10, o_m 60 0, o_p 61 (.idx 1 (.tmp 58) (.tmp 59)),
.op ⟨none, (.eff (.store 1 (.tmp 61) (.tmp 60))), none⟩])
(.seq (.ops [ o_m 62 9, o_m 63 10, o_p 64 (.bin .add (.tmp 63) (.const (.int .i64 (1)))), o_p 65 (.slc 1 (.tmp 62) none (some (.tmp 64)) none), o_m 8 65])
(.ret))))))))))),
[.tmp 8]⟩
theorem r_strings_genSplit : resFun Tryd.prog f_strings_genSplit = some c_strings_genSplit := by kernel_rfl

/- strconv.Atoi -/
abbrev f_strconv_Atoi : Nat := 33
def c_strconv_Atoi : MFun := ⟨18, .seq (.ops [ o_p 2 (.mv (.const (.int .i64 (0)))), o_p 3 (.mv (.const .nilIface))])
(.seq (.ops [ o_m 7 0, o_e 8 (.call 42 [(.tmp 7)]), o_m 6 8, o_p 9 (.ext 0 (.tmp 6)), o_p 10 (.ext 1 (.tmp 6)), o_m 4 9, o_m 5 10])
(.seq (.seq (.ops [ o_m 11 5, o_p 12 (.ifnil true (.tmp 11))])
(.cond (.tmp 12)
(.seq (.ops [ o_m 13 4, o_m 14 0, o_m 15 5,
.op ⟨(some 16), (.eff (.call 43 [(.const (.string ⟨#[65, 116, 111, 105]⟩)), (.tmp 14), (.const (.int .i64 (0))), (.const (.int .i64 (0))), (.tmp 15)])), none⟩, o_m 2 13, o_m 3 16])
(.ret))
(.skip)))
(.seq (.ops [ o_m 17 4, o_m 2 17, o_p 3 (.mv (.const .nilIface))])
(.ret)))),
[.tmp 2, .tmp 3]⟩
theorem r_strconv_Atoi : resFun Tryd.prog f_strconv_Atoi = some c_strconv_Atoi := by kernel_rfl

/- strconv.Itoa -/
abbrev f_strconv_Itoa : Nat := 34
def c_strconv_Itoa : MFun := ⟨5, .seq (.ops [
.op ⟨(some 2), (.pure (.mv (.const (.string ⟨#[]⟩)))), none⟩])
(.seq (.ops [ o_m 3 0, o_e 4 (.call 44 [(.tmp 3)]), o_m 2 4])
(.ret)),
[.tmp 2]⟩
theorem r_strconv_Itoa : resFun Tryd.prog f_strconv_Itoa = some c_strconv_Itoa := by kernel_rfl

/- internal/stringslite.IndexByte -/
abbrev f_internal_stringslite_IndexByte : Nat := 35
def c_internal_stringslite_IndexByte : MFun := ⟨8, .seq (.ops [ o_p 4 (.mv (.const (.int .i64 (0))))])
(.seq (.ops [ o_m 5 0, o_m 6 1, o_e 7 (.call 45 [(.tmp 5), (.tmp 6)]), o_m 4 7])
(.ret)),
[.tmp 4]⟩
theorem r_internal_stringslite_IndexByte : resFun Tryd.prog f_internal_stringslite_IndexByte = some c_internal_stringslite_IndexByte := by kernel_rfl

/- internal/bytealg.Cutover -/
abbrev f_internal_bytealg_Cutover : Nat := 37
def c_internal_bytealg_Cutover : MFun := ⟨6, .seq (.ops [ o_p 2 (.mv (.const (.int .i64 (0))))])
(.seq (.ops [ o_m 3 0, o_p 4 (.bin .add (.tmp 3) (.const (.int .i64 (16)))), o_p 5 (.bin .quo (.tmp 4) (.const (.int .i64 (8)))), o_m 2 5])
(.ret)),
[.tmp 2]⟩
theorem r_internal_bytealg_Cutover : resFun Tryd.prog f_internal_bytealg_Cutover = some c_internal_bytealg_Cutover := by kernel_rfl

/- internal/bytealg.IndexRabinKarp[string] -/
abbrev f_internal_bytealg_IndexRabinKarp_string : Nat := 38
def c_internal_bytealg_IndexRabinKarp_string : MFun := ⟨81, .seq (.ops [ o_p 4 (.mv (.const (.int .i64 (0))))])
(.seq (.ops [ o_m 12 1, o_e 13 (.call 46 [(.tmp 12)]), o_m 11 13, o_p 14 (.ext 0 (.tmp 11)), o_p 15 (.ext 1 (.tmp 11)), o_m 5 14, o_m 6 15])
(.seq (.ops [ o_m 16 1, o_p 17 (.slen (.tmp 16)), o_m 7 17])
(.seq (.ops [ o_p 8 (.mv (.const (.int .u32 (0))))])
(.seq (.seq (.ops [ o_p 9 (.mv (.const (.int .i64 (0))))])
(.block 0 (.loop (.seq (.seq (.ops [ o_m 18 9, o_m 19 7, o_p 20 (.bin .lss (.tmp 18) (.tmp 19))])
(.cond (.tmp 20)
(.skip)
(.exit 0)))
(.seq (.block 1 (.ops [ o_m 23 8, o_p 24 (.bin .mul (.tmp 23) (.const (.int .u32 (16777619)))), o_m 25 0, o_m 26 9, o_p 27 (.sidx (.tmp 25) (.tmp 26)), o_p 28 (.conv .u32 (.tmp 27)), o_p 29 (.bin .add (.tmp 24) (.tmp 28)), o_m 8 29]))
(.ops [ o_m 21 9, o_p 22 (.bin .add (.tmp 21) (.const (.int .i64 (1)))), o_m 9 22]))))))
(.seq (.seq (.ops [ o_m 30 8, o_m 31 5, o_p 32 (.bin .eql (.tmp 30) (.tmp 31)), o_m 33 32,
.split 33,
.op ⟨(some 34), (.pure (.mv (.tmp 0))), (some (33, true))⟩,
.op ⟨(some 35), (.pure (.mv (.tmp 7))), (some (33, true))⟩,
.op ⟨(some 36), (.pure (.sslc (.tmp 34) none (some (.tmp 35)))), (some (33, true))⟩,
.op ⟨(some 37), (.pure (.mv (.tmp 1))), (some (33, true))⟩,
.op ⟨(some 38), (.pure (.bin .eql (.tmp 36) (.tmp 37))), (some (33, true))⟩, o_p 39 (.pick (.tmp 33) (.tmp 38) (.const (.bool false)))])
(.cond (.tmp 39)
(.seq (.ops [ o_p 4 (.mv (.const (.int .i64 (0))))])
(.ret))
(.skip)))
(.seq (.seq (.ops [ o_m 40 7, o_m 10 40])
(.block 2 (.loop (.seq (.seq (.ops [ o_m 41 10, o_m 42 0, o_p 43 (.slen (.tmp 42)), o_p 44 (.bin .lss (.tmp 41) (.tmp 43))])
(.cond (.tmp 44)
(.skip)
(.exit 2)))
(.block 3 (.seq (.ops [ o_m 45 8, o_p 46 (.bin .mul (.tmp 45) (.const (.int .u32 (16777619)))), o_m 8 46])
(.seq (.ops [ o_m 47 8, o_m 48 0, o_m 49 10, o_p 50 (.sidx (.tmp 48) (.tmp 49)), o_p 51 (.conv .u32 (.tmp 50)), o_p 52 (.bin .add (.tmp 47) (.tmp 51)), o_m 8 52])
(.seq (.ops [ o_m 53 8, o_m 54 6, o_m 55 0, o_m 56 10, o_m 57 7, o_p 58 (.bin .sub (.tmp 56) (.tmp 57)), o_p 59 (.sidx (.tmp 55) (.tmp 58)), o_p 60 (.conv .u32 (.tmp 59)), o_p 61 (.bin .mul (.tmp 54) (.tmp 60)), o_p 62 (.bin .sub (.tmp 53) (.tmp 61)), o_m 8 62])
(.seq (.ops [ o_m 63 10, o_p 64 (.bin .add (.tmp 63) (.const (.int .i64 (1)))), o_m 10 64])
(.seq (.ops [ o_m 65 8, o_m 66 5, o_p 67 (.bin .eql (.tmp 65) (.tmp 66)), o_m 68 67,
.split 68,
.op ⟨(some 69), (.pure (.mv (.tmp 0))), (some (68, true))⟩,
.op ⟨(some 70), (.pure (.mv (.tmp 10))), (some (68, true))⟩,
.op ⟨(some 71), (.pure (.mv (.tmp 7))), (some (68, true))⟩,
.op ⟨(some 72), (.pure (.bin .sub (.tmp 70) (.tmp 71))), (some (68, true))⟩,
.op ⟨(some 73), (.pure (.mv (.tmp 10))), (some (68, true))⟩,
.op ⟨(some 74), (.pure (.sslc (.tmp 69) (some (.tmp 72)) (some (.tmp 73)))), (some (68, true))⟩,
.op ⟨(some 75), (.pure (.mv (.tmp 1))), (some (68, true))⟩,
.op ⟨(some 76), (.pure (.bin .eql (.tmp 74) (.tmp 75))), (some (68, true))⟩, o_p 77 (.pick (.tmp 68) (.tmp 76) (.const (.bool false)))])
(.cond (.tmp 77)
(.seq (.ops [ o_m 78 10, o_m 79 7, o_p 80 (.bin .sub (.tmp 78) (.tmp 79)), o_m 4 80])
(.ret))
(.skip))))))))))))
(.seq (.ops [ o_p 4 (.mv (.const (.int .i64 (-1))))])
(.ret)))))))),
[.tmp 4]⟩
theorem r_internal_bytealg_IndexRabinKarp_string : resFun Tryd.prog f_internal_bytealg_IndexRabinKarp_string = some c_internal_bytealg_IndexRabinKarp_string := by kernel_rfl

/- strings.explode -/
abbrev f_strings_explode : Nat := 39
def c_strings_explode : MFun := ⟨50, .seq (.ops [ o_p 4 (.mv (.const (.slice none 0 0)))])
(.seq (.ops [ o_m 10 0, o_e 11 (.call 47 [(.tmp 10)]), o_m 5 11])
(.seq (.seq (.ops [ o_m 12 1, o_p 13 (.bin .lss (.tmp 12) (.const (.int .i64 (0)))), o_m 14 13,
.split 14,
.op ⟨(some 15), (.pure (.mv (.tmp 1))), (some (14, false))⟩,
.op ⟨(some 16), (.pure (.mv (.tmp 5))), (some (14, false))⟩,
.op ⟨(some 17), (.pure (.bin .gtr (.tmp 15) (.tmp 16))), (some (14, false))⟩, o_p 18 (.pick (.tmp 14) (.const (.bool true)) (.tmp 17))])
(.cond (.tmp 18)
(.ops [ o_m 19 5, o_m 1 19])
(.skip)))
(.seq (.ops [ o_m 20 1,
.op ⟨(some 21), (.eff (.mk 9 1 16 [(.string ⟨#[]⟩)] (.tmp 20) (.tmp 20))), none⟩, o_m 6 21])
(.seq (.seq (.ops [ o_p 7 (.mv (.const (.int .i64 (0))))])
(.block 0 (.loop (.seq (.seq (.ops [ o_m 22 7, o_m 23 1, o_p 24 (.bin .sub (.tmp 23) (.const (.int .i64 (1)))), o_p 25 (.bin .lss (.tmp 22) (.tmp 24))])
(.cond (.tmp 25)
(.skip)
(.exit 0)))
(.seq (.block 1 (.seq (.ops [ o_m 29 0, o_e 30 (.call 48 [(.tmp 29)]), o_m 28 30, o_p 31 (.ext 0 (.tmp 28)), o_p 32 (.ext 1 (.tmp 28)), o_m 8 31, o_m 9 32])
(.seq (.ops [ o_m 33 6, o_m 34 7, o_m 35 0, o_m 36 9, o_p 37 (.sslc (.tmp 35) none (some (.tmp 36))), o_p 38 (.idx 1 (.tmp 33) (.tmp 34)),
.op ⟨none, (.eff (.store 1 (.tmp 38) (.tmp 37))), none⟩])
(.ops [ o_m 39 0, o_m 40 9, o_p 41 (.sslc (.tmp 39) (some (.tmp 40)) none), o_m 0 41]))))
(.ops [ o_m 26 7, o_p 27 (.bin .add (.tmp 26) (.const (.int .i64 (1)))), o_m 7 27]))))))
(.seq (.seq (.ops [ o_m 42 1, o_p 43 (.bin .gtr (.tmp 42) (.const (.int .i64 (0))))])
(.cond (.tmp 43)
(.ops [ o_m 44 6, o_m 45 1, o_p 46 (.bin .sub (.tmp 45) (.const (.int .i64 (1)))), o_m 47 0, o_p 48 (.idx 1 (.tmp 44) (.tmp 46)),
.op ⟨none, (.eff (.store 1 (.tmp 48) (.tmp 47))), none⟩])
(.skip)))
(.seq (.ops [ o_m 49 6, o_m 4 49])
(.ret))))))),
[.tmp 4]⟩
theorem r_strings_explode : resFun Tryd.prog f_strings_explode = some c_strings_explode := by kernel_rfl

/- strings.Count -/
abbrev f_strings_Count : Nat := 40
def c_strings_Count : MFun := ⟨34, .seq (.ops [ o_p 4 (.mv (.const (.int .i64 (0))))])
(.seq (.seq (.ops [ o_m 7 1, o_p 8 (.slen (.tmp 7)), o_p 9 (.bin .eql (.tmp 8) (.const (.int .i64 (0))))])
(.cond (.tmp 9)
(.seq (.ops [ o_m 10 0, o_e 11 (.call 47 [(.tmp 10)]), o_p 12 (.bin .add (.tmp 11) (.const (.int .i64 (1)))), o_m 4 12])
(.ret))
(.skip)))
(.seq (.seq (.ops [ o_m 13 1, o_p 14 (.slen (.tmp 13)), o_p 15 (.bin .eql (.tmp 14) (.const (.int .i64 (1))))])
(.cond (.tmp 15)
(.seq (.ops [ o_m 16 0, o_m 17 1, o_p 18 (.sidx (.tmp 17) (.const (.int .i64 (0)))), o_e 19 (.call 49 [(.tmp 16), (.tmp 18)]), o_m 4 19])
(.ret))
(.skip)))
(.seq (.ops [ o_p 5 (.mv (.const (.int .i64 (0))))])
(.block 0 (.loop (.block 1 (.seq (.ops [ o_m 20 0, o_m 21 1, o_e 22 (.call 41 [(.tmp 20), (.tmp 21)]), o_m 6 22])
(.seq (.seq (.ops [ o_m 23 6, o_p 24 (.bin .eql (.tmp 23) (.const (.int .i64 (-1))))])
(.cond (.tmp 24)
(.seq (.ops [ o_m 25 5, o_m 4 25])
(.ret))
(.skip)))
(.seq (.ops [ o_m 26 5, o_p 27 (.bin .add (.tmp 26) (.const (.int .i64 (1)))), o_m 5 27])
(.ops [ o_m 28 0, o_m 29 6, o_m 30 1, o_p 31 (.slen (.tmp 30)), o_p 32 (.bin .add (.tmp 29) (.tmp 31)), o_p 33 (.sslc (.tmp 28) (some (.tmp 32)) none), o_m 0 33])))))))))),
[.tmp 4]⟩
theorem r_strings_Count : resFun Tryd.prog f_strings_Count = some c_strings_Count := by kernel_rfl

/- strings.Index -/
abbrev f_strings_Index : Nat := 41
def c_strings_Index : MFun := ⟨8, .seq (.ops [ o_p 4 (.mv (.const (.int .i64 (0))))])
(.seq (.ops [ o_m 5 0, o_m 6 1, o_e 7 (.call 31 [(.tmp 5), (.tmp 6)]), o_m 4 7])
(.ret)),
[.tmp 4]⟩
theorem r_strings_Index : resFun Tryd.prog f_strings_Index = some c_strings_Index := by kernel_rfl

/- internal/strconv.Atoi -/
abbrev f_internal_strconv_Atoi : Nat := 42
def c_internal_strconv_Atoi : MFun := ⟨77, .seq (.ops [ o_p 2 (.mv (.const (.int .i64 (0)))), o_p 3 (.mv (.const .nilIface))])
(.seq (.ops [ o_m 11 0, o_p 12 (.slen (.tmp 11)), o_m 4 12])
(.seq (.seq (.ops [ o_p 13 (.mv (.const (.bool false))),
.split 13,
.op ⟨(some 14), (.pure (.mv (.tmp 4))), (some (13, true))⟩,
.op ⟨(some 15), (.pure (.bin .lss (.const (.int .i64 (0))) (.tmp 14))), (some (13, true))⟩,
.op ⟨(some 16), (.pure (.mv (.tmp 15))), (some (13, true))⟩,
.split 16,
.op ⟨(some 17), (.pure (.mv (.tmp 4))), (some (16, true))⟩,
.op ⟨(some 18), (.pure (.bin .lss (.tmp 17) (.const (.int .i64 (10))))), (some (16, true))⟩,
.op ⟨(some 19), (.pure (.pick (.tmp 16) (.tmp 18) (.const (.bool false)))), (some (13, true))⟩, o_p 20 (.pick (.tmp 13) (.tmp 19) (.const (.bool false))), o_m 21 20,
.split 21,
.op ⟨(some 22), (.pure (.mv (.const (.bool true)))), (some (21, false))⟩,
.split 22,
.op ⟨(some 23), (.pure (.mv (.tmp 4))), (some (22, true))⟩,
.op ⟨(some 24), (.pure (.bin .lss (.const (.int .i64 (0))) (.tmp 23))), (some (22, true))⟩,
.op ⟨(some 25), (.pure (.mv (.tmp 24))), (some (22, true))⟩,
.split 25,
.op ⟨(some 26), (.pure (.mv (.tmp 4))), (some (25, true))⟩,
.op ⟨(some 27), (.pure (.bin .lss (.tmp 26) (.const (.int .i64 (19))))), (some (25, true))⟩,
.op ⟨(some 28), (.pure (.pick (.tmp 25) (.tmp 27) (.const (.bool false)))), (some (22, true))⟩,
.op ⟨(some 29), (.pure (.pick (.tmp 22) (.tmp 28) (.const (.bool false)))), (some (21, false))⟩, o_p 30 (.pick (.tmp 21) (.const (.bool true)) (.tmp 29))])
(.cond (.tmp 30)
(.seq (.ops [ o_m 31 0, o_m 5 31])
(.seq (.seq (.ops [ o_m 32 0, o_p 33 (.sidx (.tmp 32) (.const (.int .i64 (0)))), o_p 34 (.bin .eql (.tmp 33) (.const (.int .u8 (45)))), o_m 35 34,
.split 35,
.op ⟨(some 36), (.pure (.mv (.tmp 0))), (some (35, false))⟩,
.op ⟨(some 37), (.pure (.sidx (.tmp 36) (.const (.int .i64 (0))))), (some (35, false))⟩,
.op ⟨(some 38), (.pure (.bin .eql (.tmp 37) (.const (.int .u8 (43))))), (some (35, false))⟩, o_p 39 (.pick (.tmp 35) (.const (.bool true)) (.tmp 38))])
(.cond (.tmp 39)
(.seq (.ops [ o_m 40 0, o_p 41 (.sslc (.tmp 40) (some (.const (.int .i64 (1)))) none), o_m 0 41])
(.seq (.ops [ o_m 42 0, o_p 43 (.slen (.tmp 42)), o_p 44 (.bin .lss (.tmp 43) (.const (.int .i64 (1))))])
(.cond (.tmp 44)
(.seq (.ops [ o_e 45 (.fail), o_p 2 (.mv (.const (.int .i64 (0)))), o_m 3 45])
(.ret))
(.skip))))
(.skip)))
(.seq (.ops [ o_p 6 (.mv (.const (.int .i64 (0))))])
(.seq (.seq (.ops [ o_m 46 0, o_e 47 (.fail), o_p 48 (.len (.tmp 47)), o_p 49 (.mv (.const (.int .i64 (0))))])
(.block 0 (.loop (.seq (.ops [ o_p 50 (.bin .lss (.tmp 49) (.tmp 48))])
(.seq (.cond (.tmp 50)
(.skip)
(.exit 0))
(.seq (.block 1 (.seq (.ops [ o_p 51 (.idx 1 (.tmp 47) (.tmp 49)), o_l 52 51, o_m 8 52])
(.seq (.ops [ o_m 53 8, o_p 54 (.bin .sub (.tmp 53) (.const (.int .u8 (48)))), o_m 8 54])
(.seq (.seq (.ops [ o_m 55 8, o_p 56 (.bin .gtr (.tmp 55) (.const (.int .u8 (9))))])
(.cond (.tmp 56)
(.seq (.ops [ o_e 57 (.fail), o_p 2 (.mv (.const (.int .i64 (0)))), o_m 3 57])
(.ret))
(.skip)))
(.ops [ o_m 58 6, o_p 59 (.bin .mul (.tmp 58) (.const (.int .i64 (10)))), o_m 60 8, o_p 61 (.conv .i64 (.tmp 60)), o_p 62 (.bin .add (.tmp 59) (.tmp 61)), o_m 6 62])))))
(.ops [ o_p 63 (.bin .add (.tmp 49) (.const (.int .i64 (1)))), o_m 49 63])))))))
(.seq (.seq (.ops [ o_m 64 5, o_p 65 (.sidx (.tmp 64) (.const (.int .i64 (0)))), o_p 66 (.bin .eql (.tmp 65) (.const (.int .u8 (45))))])
(.cond (.tmp 66)
(.ops [ o_m 67 6, o_p 68 (.ineg (.tmp 67)), o_m 6 68])
(.skip)))
(.seq (.ops [ o_m 69 6, o_m 2 69, o_p 3 (.mv (.const .nilIface))])
(.ret)))))))
(.skip)))
(.seq (.ops [ o_m 71 0, o_e 72 (.call 50 [(.tmp 71), (.const (.int .i64 (10))), (.const (.int .i64 (0)))]), o_m 70 72, o_p 73 (.ext 0 (.tmp 70)), o_p 74 (.ext 1 (.tmp 70)), o_m 9 73, o_m 10 74])
(.seq (.ops [ o_m 75 9, o_m 76 10, o_m 2 75, o_m 3 76])
(.ret))))),
[.tmp 2, .tmp 3]⟩
theorem r_internal_strconv_Atoi : resFun Tryd.prog f_internal_strconv_Atoi = some c_internal_strconv_Atoi := by kernel_rfl

/- strconv.toError -/
abbrev f_strconv_toError : Nat := 43
def c_strconv_toError : MFun := ⟨43, .seq (.ops [ o_p 10 (.mv (.const .nilIface))])
(.seq (.seq (.ops [ o_m 11 4])
(.block 0 (.seq (.ops [ o_e 13 (.fail), o_e 14 (.fail), o_m 12 14])
(.cond (.tmp 12)
(.seq (.ops [ o_m 15 0, o_m 16 1, o_e 17 (.call 51 [(.tmp 15), (.tmp 16)]), o_e 18 (.fail), o_m 10 18])
(.ret))
(.seq (.ops [ o_e 20 (.fail), o_e 21 (.fail), o_m 19 21])
(.cond (.tmp 19)
(.seq (.ops [ o_m 22 0, o_m 23 1, o_e 24 (.call 52 [(.tmp 22), (.tmp 23)]), o_e 25 (.fail), o_m 10 25])
(.ret))
(.seq (.ops [ o_e 27 (.fail), o_e 28 (.fail), o_m 26 28])
(.cond (.tmp 26)
(.seq (.ops [ o_m 29 0, o_m 30 1, o_m 31 2, o_e 32 (.call 53 [(.tmp 29), (.tmp 30), (.tmp 31)]), o_e 33 (.fail), o_m 10 33])
(.ret))
(.seq (.ops [ o_e 35 (.fail), o_e 36 (.fail), o_m 34 36])
(.cond (.tmp 34)
(.seq (.ops [ o_m 37 0, o_m 38 1, o_m 39 3, o_e 40 (.call 54 [(.tmp 37), (.tmp 38), (.tmp 39)]), o_e 41 (.fail), o_m 10 41])
(.ret))
(.skip)))))))))))
(.seq (.ops [ o_m 42 4, o_m 10 42])
(.ret))),
[.tmp 10]⟩
theorem r_strconv_toError : resFun Tryd.prog f_strconv_toError = some c_strconv_toError := by kernel_rfl

/- internal/strconv.Itoa -/
abbrev f_internal_strconv_Itoa : Nat := 44
def c_internal_strconv_Itoa : MFun := ⟨5, .seq (.ops [
.op ⟨(some 2), (.pure (.mv (.const (.string ⟨#[]⟩)))), none⟩])
(.seq (.ops [ o_m 3 0, o_e 4 (.call 55 [(.tmp 3), (.const (.int .i64 (10)))]), o_m 2 4])
(.ret)),
[.tmp 2]⟩
theorem r_internal_strconv_Itoa : resFun Tryd.prog f_internal_strconv_Itoa = some c_internal_strconv_Itoa := by kernel_rfl

/- internal/bytealg.hashStr[string] -/
abbrev f_internal_bytealg_hashStr_string : Nat := 46
def c_internal_bytealg_hashStr_string : MFun := ⟨39, .seq (.ops [ o_p 2 (.mv (.const (.int .u32 (0)))), o_p 3 (.mv (.const (.int .u32 (0))))])
(.seq (.ops [ o_p 4 (.mv (.const (.int .u32 (0))))])
(.seq (.seq (.ops [ o_p 5 (.mv (.const (.int .i64 (0))))])
(.block 0 (.loop (.seq (.seq (.ops [ o_m 9 5, o_m 10 0, o_p 11 (.slen (.tmp 10)), o_p 12 (.bin .lss (.tmp 9) (.tmp 11))])
(.cond (.tmp 12)
(.skip)
(.exit 0)))
(.seq (.block 1 (.ops [ o_m 15 4, o_p 16 (.bin .mul (.tmp 15) (.const (.int .u32 (16777619)))), o_m 17 0, o_m 18 5, o_p 19 (.sidx (.tmp 17) (.tmp 18)), o_p 20 (.conv .u32 (.tmp 19)), o_p 21 (.bin .add (.tmp 16) (.tmp 20)), o_m 4 21]))
(.ops [ o_m 13 5, o_p 14 (.bin .add (.tmp 13) (.const (.int .i64 (1)))), o_m 5 14]))))))
(.seq (.ops [ o_p 6 (.mv (.const (.int .u32 (1)))), o_p 7 (.mv (.const (.int .u32 (16777619))))])
(.seq (.seq (.ops [ o_m 22 0, o_p 23 (.slen (.tmp 22)), o_m 8 23])
(.block 2 (.loop (.seq (.seq (.ops [ o_m 24 8, o_p 25 (.bin .gtr (.tmp 24) (.const (.int .i64 (0))))])
(.cond (.tmp 25)
(.skip)
(.exit 2)))
(.seq (.block 3 (.seq (.seq (.ops [ o_m 28 8, o_p 29 (.bin .and (.tmp 28) (.const (.int .i64 (1)))), o_p 30 (.bin .neq (.tmp 29) (.const (.int .i64 (0))))])
(.cond (.tmp 30)
(.ops [ o_m 31 6, o_m 32 7, o_p 33 (.bin .mul (.tmp 31) (.tmp 32)), o_m 6 33])
(.skip)))
(.ops [ o_m 34 7, o_m 35 7, o_p 36 (.bin .mul (.tmp 34) (.tmp 35)), o_m 7 36])))
(.ops [ o_m 26 8, o_p 27 (.bin .shr (.tmp 26) (.const (.int .u64 (1)))), o_m 8 27]))))))
(.seq (.ops [ o_m 37 4, o_m 38 6, o_m 2 37, o_m 3 38])
(.ret)))))),
[.tmp 2, .tmp 3]⟩
theorem r_internal_bytealg_hashStr_string : resFun Tryd.prog f_internal_bytealg_hashStr_string = some c_internal_bytealg_hashStr_string := by kernel_rfl

/- unicode/utf8.RuneCountInString -/
abbrev f_unicode_utf8_RuneCountInString : Nat := 47
def c_unicode_utf8_RuneCountInString : MFun := ⟨10, .seq (.ops [ o_p 2 (.mv (.const (.int .i64 (0))))])
(.seq (.seq (.ops [ o_m 3 0, o_e 4 (.fail)])
(.block 0 (.loop (.seq (.ops [ o_e 5 (.fail), o_p 6 (.ext 0 (.tmp 5))])
(.seq (.cond (.tmp 6)
(.skip)
(.exit 0))
(.block 1 (.ops [ o_m 7 2, o_p 8 (.bin .add (.tmp 7) (.const (.int .i64 (1)))), o_m 2 8])))))))
(.seq (.ops [ o_m 9 2, o_m 2 9])
(.ret))),
[.tmp 2]⟩
theorem r_unicode_utf8_RuneCountInString : resFun Tryd.prog f_unicode_utf8_RuneCountInString = some c_unicode_utf8_RuneCountInString := by kernel_rfl

/- unicode/utf8.DecodeRuneInString -/
abbrev f_unicode_utf8_DecodeRuneInString : Nat := 48
def c_unicode_utf8_DecodeRuneInString : MFun := ⟨19, .seq (.ops [ o_p 2 (.mv (.const (.int .i32 (0)))), o_p 3 (.mv (.const (.int .i64 (0))))])
(.seq (.seq (.ops [ o_m 4 0,
.op ⟨(some 5), (.pure (.bin .neq (.tmp 4) (.const (.string ⟨#[]⟩)))), none⟩, o_m 6 5,
.split 6,
.op ⟨(some 7), (.pure (.mv (.tmp 0))), (some (6, true))⟩,
.op ⟨(some 8), (.pure (.sidx (.tmp 7) (.const (.int .i64 (0))))), (some (6, true))⟩,
.op ⟨(some 9), (.pure (.bin .lss (.tmp 8) (.const (.int .u8 (128))))), (some (6, true))⟩, o_p 10 (.pick (.tmp 6) (.tmp 9) (.const (.bool false)))])
(.cond (.tmp 10)
(.seq (.ops [ o_m 11 0, o_p 12 (.sidx (.tmp 11) (.const (.int .i64 (0)))), o_p 13 (.conv .i32 (.tmp 12)), o_m 2 13, o_p 3 (.mv (.const (.int .i64 (1))))])
(.ret))
(.ops [ o_m 15 0, o_e 16 (.call 56 [(.tmp 15)]), o_m 14 16, o_p 17 (.ext 0 (.tmp 14)), o_p 18 (.ext 1 (.tmp 14)), o_m 2 17, o_m 3 18])))
(.ret)),
[.tmp 2, .tmp 3]⟩
theorem r_unicode_utf8_DecodeRuneInString : resFun Tryd.prog f_unicode_utf8_DecodeRuneInString = some c_unicode_utf8_DecodeRuneInString := by kernel_rfl

/- internal/strconv.ParseInt -/
abbrev f_internal_strconv_ParseInt : Nat := 50
def c_internal_strconv_ParseInt : MFun := ⟨73, .seq (.ops [ o_p 6 (.mv (.const (.int .i64 (0)))), o_p 7 (.mv (.const .nilIface))])
(.seq (.seq (.ops [ o_m 12 0,
.op ⟨(some 13), (.pure (.bin .eql (.tmp 12) (.const (.string ⟨#[]⟩)))), none⟩])
(.cond (.tmp 13)
(.seq (.ops [ o_e 14 (.fail), o_p 6 (.mv (.const (.int .i64 (0)))), o_m 7 14])
(.ret))
(.skip)))
(.seq (.ops [ o_p 8 (.mv (.const (.bool false)))])
(.seq (.seq (.ops [ o_m 15 0, o_p 16 (.sidx (.tmp 15) (.const (.int .i64 (0))))])
(.block 0 (.seq (.ops [ o_p 18 (.bin .eql (.tmp 16) (.const (.int .u8 (43)))), o_m 17 18])
(.cond (.tmp 17)
(.ops [ o_m 19 0, o_p 20 (.sslc (.tmp 19) (some (.const (.int .i64 (1)))) none), o_m 0 20])
(.seq (.ops [ o_p 22 (.bin .eql (.tmp 16) (.const (.int .u8 (45)))), o_m 21 22])
(.cond (.tmp 21)
(.seq (.ops [ o_m 23 0, o_p 24 (.sslc (.tmp 23) (some (.const (.int .i64 (1)))) none), o_m 0 24])
(.ops [ o_p 8 (.mv (.const (.bool true)))]))
(.skip)))))))
(.seq (.ops [ o_p 9 (.mv (.const (.int .u64 (0))))])
(.seq (.ops [ o_m 26 0, o_m 27 1, o_m 28 2, o_e 29 (.call 57 [(.tmp 26), (.tmp 27), (.tmp 28)]), o_m 25 29, o_p 30 (.ext 0 (.tmp 25)), o_p 31 (.ext 1 (.tmp 25)), o_m 9 30, o_m 7 31])
(.seq (.seq (.ops [ o_m 32 7, o_p 33 (.ifnil true (.tmp 32)), o_m 34 33,
.split 34,
.op ⟨(some 35), (.pure (.mv (.tmp 7))), (some (34, true))⟩,
.op ⟨(some 36), (.eff (.fail)), (some (34, true))⟩,
.op ⟨(some 37), (.eff (.fail)), (some (34, true))⟩, o_p 38 (.pick (.tmp 34) (.tmp 37) (.const (.bool false)))])
(.cond (.tmp 38)
(.seq (.ops [ o_m 39 7, o_p 6 (.mv (.const (.int .i64 (0)))), o_m 7 39])
(.ret))
(.skip)))
(.seq (.seq (.ops [ o_m 40 2, o_p 41 (.bin .eql (.tmp 40) (.const (.int .i64 (0))))])
(.cond (.tmp 41)
(.ops [ o_p 2 (.mv (.const (.int .i64 (64))))])
(.skip)))
(.seq (.ops [ o_m 42 2, o_p 43 (.bin .sub (.tmp 42) (.const (.int .i64 (1)))), o_p 44 (.conv .u64 (.tmp 43)), o_p 45 (.bin .shl (.const (.int .u64 (1))) (.tmp 44)), o_m 10 45])
(.seq (.seq (.ops [ o_m 46 8, o_p 47 (.bnot (.tmp 46)), o_m 48 47,
.split 48,
.op ⟨(some 49), (.pure (.mv (.tmp 9))), (some (48, true))⟩,
.op ⟨(some 50), (.pure (.mv (.tmp 10))), (some (48, true))⟩,
.op ⟨(some 51), (.pure (.bin .geq (.tmp 49) (.tmp 50))), (some (48, true))⟩, o_p 52 (.pick (.tmp 48) (.tmp 51) (.const (.bool false)))])
(.cond (.tmp 52)
(.seq (.ops [ o_m 53 10, o_p 54 (.bin .sub (.tmp 53) (.const (.int .u64 (1)))), o_p 55 (.conv .i64 (.tmp 54)), o_e 56 (.fail), o_m 6 55, o_m 7 56])
(.ret))
(.skip)))
(.seq (.seq (.ops [ o_m 57 8, o_m 58 57,
.split 58,
.op ⟨(some 59), (.pure (.mv (.tmp 9))), (some (58, true))⟩,
.op ⟨(some 60), (.pure (.mv (.tmp 10))), (some (58, true))⟩,
.op ⟨(some 61), (.pure (.bin .gtr (.tmp 59) (.tmp 60))), (some (58, true))⟩, o_p 62 (.pick (.tmp 58) (.tmp 61) (.const (.bool false)))])
(.cond (.tmp 62)
(.seq (.ops [ o_m 63 10, o_p 64 (.conv .i64 (.tmp 63)), o_p 65 (.ineg (.tmp 64)), o_e 66 (.fail), o_m 6 65, o_m 7 66])
(.ret))
(.skip)))
(.seq (.ops [ o_m 67 9, o_p 68 (.conv .i64 (.tmp 67)), o_m 11 68])
(.seq (.seq (.ops [ o_m 69 8])
(.cond (.tmp 69)
(.ops [ o_m 70 11, o_p 71 (.ineg (.tmp 70)), o_m 11 71])
(.skip)))
(.seq (.ops [ o_m 72 11, o_m 6 72, o_p 7 (.mv (.const .nilIface))])
(.ret)))))))))))))),
[.tmp 6, .tmp 7]⟩
theorem r_internal_strconv_ParseInt : resFun Tryd.prog f_internal_strconv_ParseInt = some c_internal_strconv_ParseInt := by kernel_rfl

/- strconv.syntaxError -/
abbrev f_strconv_syntaxError : Nat := 51
def c_strconv_syntaxError : MFun := ⟨11, .seq (.ops [ o_p 4 (.mv (.const (.pointer none)))])
(.seq (.draw true
(.take (t_m 5 0)
(.take (t_m 6 1)
(.take ⟨(some 8), (.load none (.global 1)), none⟩
(.only false (t_e 7 (.call 58 [(.tmp 6)]))
(.take ⟨(some 9), (.pure (.build [(.string ⟨#[]⟩), (.string ⟨#[]⟩), .nilIface] [(0, 1, (.tmp 5)), (1, 1, (.tmp 7)), (2, 1, (.tmp 8))])), none⟩
(.only true (t_e 10 (.box 79 (.tmp 9)))
(.take (t_m 4 10)
(.done)))))))))
(.ret)),
[.tmp 4]⟩
theorem r_strconv_syntaxError : resFun Tryd.prog f_strconv_syntaxError = some c_strconv_syntaxError := by kernel_rfl

/- strconv.rangeError -/
abbrev f_strconv_rangeError : Nat := 52
def c_strconv_rangeError : MFun := ⟨11, .seq (.ops [ o_p 4 (.mv (.const (.pointer none)))])
(.seq (.draw true
(.take (t_m 5 0)
(.take (t_m 6 1)
(.take ⟨(some 8), (.load none (.global 2)), none⟩
(.only false (t_e 7 (.call 58 [(.tmp 6)]))
(.take ⟨(some 9), (.pure (.build [(.string ⟨#[]⟩), (.string ⟨#[]⟩), .nilIface] [(0, 1, (.tmp 5)), (1, 1, (.tmp 7)), (2, 1, (.tmp 8))])), none⟩
(.only true (t_e 10 (.box 79 (.tmp 9)))
(.take (t_m 4 10)
(.done)))))))))
(.ret)),
[.tmp 4]⟩
theorem r_strconv_rangeError : resFun Tryd.prog f_strconv_rangeError = some c_strconv_rangeError := by kernel_rfl

/- strconv.baseError -/
abbrev f_strconv_baseError : Nat := 53
def c_strconv_baseError : MFun := ⟨16, .seq (.ops [ o_p 6 (.mv (.const (.pointer none)))])
(.seq (.ops [ o_m 7 0, o_m 8 1, o_e 9 (.call 58 [(.tmp 8)]), o_m 10 2, o_e 11 (.call 34 [(.tmp 10)]),
.op ⟨(some 12), (.pure (.bin .add (.const (.string ⟨#[105, 110, 118, 97, 108, 105, 100, 32, 98, 97, 115, 101, 32]⟩)) (.tmp 11))), none⟩, o_e 13 (.call 59 [(.tmp 12)]),
.op ⟨(some 14), (.pure (.build [(.string ⟨#[]⟩), (.string ⟨#[]⟩), .nilIface] [(0, 1, (.tmp 7)), (1, 1, (.tmp 9)), (2, 1, (.tmp 13))])), none⟩, o_e 15 (.box 79 (.tmp 14)), o_m 6 15])
(.ret)),
[.tmp 6]⟩
theorem r_strconv_baseError : resFun Tryd.prog f_strconv_baseError = some c_strconv_baseError := by kernel_rfl

/- strconv.bitSizeError -/
abbrev f_strconv_bitSizeError : Nat := 54
def c_strconv_bitSizeError : MFun := ⟨16, .seq (.ops [ o_p 6 (.mv (.const (.pointer none)))])
(.seq (.ops [ o_m 7 0, o_m 8 1, o_e 9 (.call 58 [(.tmp 8)]), o_m 10 2, o_e 11 (.call 34 [(.tmp 10)]),
.op ⟨(some 12), (.pure (.bin .add (.const (.string ⟨#[105, 110, 118, 97, 108, 105, 100, 32, 98, 105, 116, 32, 115, 105, 122, 101, 32]⟩)) (.tmp 11))), none⟩, o_e 13 (.call 59 [(.tmp 12)]),
.op ⟨(some 14), (.pure (.build [(.string ⟨#[]⟩), (.string ⟨#[]⟩), .nilIface] [(0, 1, (.tmp 7)), (1, 1, (.tmp 9)), (2, 1, (.tmp 13))])), none⟩, o_e 15 (.box 79 (.tmp 14)), o_m 6 15])
(.ret)),
[.tmp 6]⟩
theorem r_strconv_bitSizeError : resFun Tryd.prog f_strconv_bitSizeError = some c_strconv_bitSizeError := by kernel_rfl

/- internal/strconv.FormatInt -/
abbrev f_internal_strconv_FormatInt : Nat := 55
def c_internal_strconv_FormatInt : MFun := ⟨54, .seq (.ops [
.op ⟨(some 4), (.pure (.mv (.const (.string ⟨#[]⟩)))), none⟩])
(.seq (.seq (.ops [ o_m 10 1, o_p 11 (.bin .eql (.tmp 10) (.const (.int .i64 (10))))])
(.cond (.tmp 11)
(.seq (.seq (.ops [ o_m 12 0, o_p 13 (.bin .leq (.const (.int .i64 (0))) (.tmp 12)), o_m 14 13,
.split 14,
.op ⟨(some 15), (.pure (.mv (.tmp 0))), (some (14, true))⟩,
.op ⟨(some 16), (.pure (.bin .lss (.tmp 15) (.const (.int .i64 (100))))), (some (14, true))⟩, o_p 17 (.pick (.tmp 14) (.tmp 16) (.const (.bool false)))])
(.cond (.tmp 17)
(.seq (.ops [ o_m 18 0, o_e 19 (.call 60 [(.tmp 18)]), o_m 4 19])
(.ret))
(.skip)))
(.seq (.ops [ o_e 5 (.new 81 [(.int .u8 (0)), (.int .u8 (0)), (.int .u8 (0)), (.int .u8 (0)), (.int .u8 (0)), (.int .u8 (0)), (.int .u8 (0)), (.int .u8 (0)), (.int .u8 (0)), (.int .u8 (0)), (.int .u8 (0)), (.int .u8 (0)), (.int .u8 (0)), (.int .u8 (0)), (.int .u8 (0)), (.int .u8 (0)), (.int .u8 (0)), (.int .u8 (0)), (.int .u8 (0)), (.int .u8 (0)), (.int .u8 (0)), (.int .u8 (0)), (.int .u8 (0)), (.int .u8 (0))])])
(.seq (.ops [ o_m 20 0, o_p 21 (.conv .u64 (.tmp 20)), o_m 6 21])
(.seq (.seq (.ops [ o_m 22 0, o_p 23 (.bin .lss (.tmp 22) (.const (.int .i64 (0))))])
(.cond (.tmp 23)
(.ops [ o_m 24 6, o_p 25 (.ineg (.tmp 24)), o_m 6 25])
(.skip)))
(.seq (.ops [ o_m 26 6, o_e 27 (.call 61 [(.tmp 26)]), o_m 7 27])
(.seq (.ops [ o_m 28 7, o_p 29 (.bin .add (.const (.int .i64 (1))) (.tmp 28)), o_e 30 (.fail), o_m 31 6, o_e 32 (.call 62 [(.tmp 30), (.tmp 31)])])
(.seq (.seq (.ops [ o_m 33 0, o_p 34 (.bin .lss (.tmp 33) (.const (.int .i64 (0))))])
(.cond (.tmp 34)
(.seq (.ops [ o_p 35 (.idxA 24 1 (.tmp 5) (.const (.int .i64 (0)))),
.op ⟨none, (.eff (.store 1 (.tmp 35) (.const (.int .u8 (45))))), none⟩])
(.seq (.ops [ o_m 36 7, o_p 37 (.bin .add (.const (.int .i64 (1))) (.tmp 36)), o_e 38 (.fail), o_e 39 (.bstr (.tmp 38)), o_m 4 39])
(.ret)))
(.skip)))
(.seq (.ops [ o_m 40 7, o_p 41 (.bin .add (.const (.int .i64 (1))) (.tmp 40)), o_e 42 (.fail), o_e 43 (.bstr (.tmp 42)), o_m 4 43])
(.ret)))))))))
(.skip)))
(.seq (.ops [ o_m 45 0, o_p 46 (.conv .u64 (.tmp 45)), o_m 47 1, o_m 48 0, o_p 49 (.bin .lss (.tmp 48) (.const (.int .i64 (0)))), o_e 50 (.call 63 [(.const (.slice none 0 0)), (.tmp 46), (.tmp 47), (.tmp 49), (.const (.bool false))]), o_m 44 50, o_p 51 (.ext 0 (.tmp 44)), o_p 52 (.ext 1 (.tmp 44)), o_m 8 51, o_m 9 52])
(.seq (.ops [ o_m 53 9, o_m 4 53])
(.ret)))),
[.tmp 4]⟩
theorem r_internal_strconv_FormatInt : resFun Tryd.prog f_internal_strconv_FormatInt = some c_internal_strconv_FormatInt := by kernel_rfl

/- unicode/utf8.decodeRuneInStringSlow -/
abbrev f_unicode_utf8_decodeRuneInStringSlow : Nat := 56
def c_unicode_utf8_decodeRuneInStringSlow : MFun := ⟨117, .seq (.ops [ o_p 2 (.mv (.const (.int .i32 (0)))), o_p 3 (.mv (.const (.int .i64 (0))))])
(.seq (.ops [ o_m 13 0, o_p 14 (.slen (.tmp 13)), o_m 4 14])
(.seq (.seq (.ops [ o_m 15 4, o_p 16 (.bin .lss (.tmp 15) (.const (.int .i64 (1))))])
(.cond (.tmp 16)
(.seq (.ops [ o_p 2 (.mv (.const (.int .i32 (65533)))), o_p 3 (.mv (.const (.int .i64 (0))))])
(.ret))
(.skip)))
(.seq (.ops [ o_m 17 0, o_p 18 (.sidx (.tmp 17) (.const (.int .i64 (0)))), o_m 5 18])
(.seq (.ops [ o_m 19 5, o_p 20 (.idxA 256 1 (.global 3) (.tmp 19)), o_l 21 20, o_m 6 21])
(.seq (.seq (.ops [ o_m 22 6, o_p 23 (.bin .geq (.tmp 22) (.const (.int .u8 (240))))])
(.cond (.tmp 23)
(.seq (.ops [ o_m 24 6, o_p 25 (.conv .i32 (.tmp 24)), o_p 26 (.bin .shl (.tmp 25) (.const (.int .u64 (31)))), o_p 27 (.bin .shr (.tmp 26) (.const (.int .u64 (31)))), o_m 7 27])
(.seq (.ops [ o_m 28 0, o_p 29 (.sidx (.tmp 28) (.const (.int .i64 (0)))), o_p 30 (.conv .i32 (.tmp 29)), o_m 31 7, o_p 32 (.bin .andNot (.tmp 30) (.tmp 31)), o_m 33 7, o_p 34 (.bin .and (.const (.int .i32 (65533))) (.tmp 33)), o_p 35 (.bin .or (.tmp 32) (.tmp 34)), o_m 2 35, o_p 3 (.mv (.const (.int .i64 (1))))])
(.ret)))
(.skip)))
(.seq (.ops [ o_m 36 6, o_p 37 (.bin .and (.tmp 36) (.const (.int .u8 (7)))), o_p 38 (.conv .i64 (.tmp 37)), o_m 8 38])
(.seq (.ops [ o_m 39 6, o_p 40 (.bin .shr (.tmp 39) (.const (.int .u64 (4)))), o_p 41 (.idxA 16 2 (.global 4) (.tmp 40)),
.op ⟨(some 42), (.load (some 2) (.tmp 41)), none⟩, o_e 9 (.new 88 [(.int .u8 (0)), (.int .u8 (0))]),
.op ⟨none, (.eff (.store 2 (.tmp 9) (.tmp 42))), none⟩])
(.seq (.seq (.ops [ o_m 43 4, o_m 44 8, o_p 45 (.bin .lss (.tmp 43) (.tmp 44))])
(.cond (.tmp 45)
(.seq (.ops [ o_p 2 (.mv (.const (.int .i32 (65533)))), o_p 3 (.mv (.const (.int .i64 (1))))])
(.ret))
(.skip)))
(.seq (.ops [ o_m 46 0, o_p 47 (.sidx (.tmp 46) (.const (.int .i64 (1)))), o_m 10 47])
(.seq (.seq (.ops [ o_m 48 10, o_p 49 (.fieldAddr 0 (.tmp 9)), o_l 50 49, o_p 51 (.bin .lss (.tmp 48) (.tmp 50)), o_m 52 51,
.split 52,
.op ⟨(some 53), (.pure (.fieldAddr 1 (.tmp 9))), (some (52, false))⟩,
.op ⟨(some 54), (.load none (.tmp 53)), (some (52, false))⟩,
.op ⟨(some 55), (.pure (.mv (.tmp 10))), (some (52, false))⟩,
.op ⟨(some 56), (.pure (.bin .lss (.tmp 54) (.tmp 55))), (some (52, false))⟩, o_p 57 (.pick (.tmp 52) (.const (.bool true)) (.tmp 56))])
(.cond (.tmp 57)
(.seq (.ops [ o_p 2 (.mv (.const (.int .i32 (65533)))), o_p 3 (.mv (.const (.int .i64 (1))))])
(.ret))
(.skip)))
(.seq (.seq (.ops [ o_m 58 8, o_p 59 (.bin .leq (.tmp 58) (.const (.int .i64 (2))))])
(.cond (.tmp 59)
(.seq (.ops [ o_m 60 5, o_p 61 (.bin .and (.tmp 60) (.const (.int .u8 (31)))), o_p 62 (.conv .i32 (.tmp 61)), o_p 63 (.bin .shl (.tmp 62) (.const (.int .u64 (6)))), o_m 64 10, o_p 65 (.bin .and (.tmp 64) (.const (.int .u8 (63)))), o_p 66 (.conv .i32 (.tmp 65)), o_p 67 (.bin .or (.tmp 63) (.tmp 66)), o_m 2 67, o_p 3 (.mv (.const (.int .i64 (2))))])
(.ret))
(.skip)))
(.seq (.ops [ o_m 68 0, o_p 69 (.sidx (.tmp 68) (.const (.int .i64 (2)))), o_m 11 69])
(.seq (.seq (.ops [ o_m 70 11, o_p 71 (.bin .lss (.tmp 70) (.const (.int .u8 (128)))), o_m 72 71,
.split 72,
.op ⟨(some 73), (.pure (.mv (.tmp 11))), (some (72, false))⟩,
.op ⟨(some 74), (.pure (.bin .lss (.const (.int .u8 (191))) (.tmp 73))), (some (72, false))⟩, o_p 75 (.pick (.tmp 72) (.const (.bool true)) (.tmp 74))])
(.cond (.tmp 75)
(.seq (.ops [ o_p 2 (.mv (.const (.int .i32 (65533)))), o_p 3 (.mv (.const (.int .i64 (1))))])
(.ret))
(.skip)))
(.seq (.seq (.ops [ o_m 76 8, o_p 77 (.bin .leq (.tmp 76) (.const (.int .i64 (3))))])
(.cond (.tmp 77)
(.seq (.ops [ o_m 78 5, o_p 79 (.bin .and (.tmp 78) (.const (.int .u8 (15)))), o_p 80 (.conv .i32 (.tmp 79)), o_p 81 (.bin .shl (.tmp 80) (.const (.int .u64 (12)))), o_m 82 10, o_p 83 (.bin .and (.tmp 82) (.const (.int .u8 (63)))), o_p 84 (.conv .i32 (.tmp 83)), o_p 85 (.bin .shl (.tmp 84) (.const (.int .u64 (6)))), o_p 86 (.bin .or (.tmp 81) (.tmp 85)), o_m 87 11, o_p 88 (.bin .and (.tmp 87) (.const (.int .u8 (63)))), o_p 89 (.conv .i32 (.tmp 88)), o_p 90 (.bin .or (.tmp 86) (.tmp 89)), o_m 2 90, o_p 3 (.mv (.const (.int .i64 (3))))])
(.ret))
(.skip)))
(.seq (.ops [ o_m 91 0, o_p 92 (.sidx (.tmp 91) (.const (.int .i64 (3)))), o_m 12 92])
(.seq (.seq (.ops [ o_m 93 12, o_p 94 (.bin .lss (.tmp 93) (.const (.int .u8 (128)))), o_m 95 94,
.split 95,
.op ⟨(some 96), (.pure (.mv (.tmp 12))), (some (95, false))⟩,
.op ⟨(some 97), (.pure (.bin .lss (.const (.int .u8 (191))) (.tmp 96))), (some (95, false))⟩, o_p 98 (.pick (.tmp 95) (.const (.bool true)) (.tmp 97))])
(.cond (.tmp 98)
(.seq (.ops [ o_p 2 (.mv (.const (.int .i32 (65533)))), o_p 3 (.mv (.const (.int .i64 (1))))])
(.ret))
(.skip)))
(.seq (.ops [ o_m 99 5, o_p 100 (.bin .and (.tmp 99) (.const (.int .u8 (7)))), o_p 101 (.conv .i32 (.tmp 100)), o_p 102 (.bin .shl (.tmp 101) (.const (.int .u64 (18)))), o_m 103 10, o_p 104 (.bin .and (.tmp 103) (.const (.int .u8 (63)))), o_p 105 (.conv .i32 (.tmp 104)), o_p 106 (.bin .shl (.tmp 105) (.const (.int .u64 (12)))), o_p 107 (.bin .or (.tmp 102) (.tmp 106)), o_m 108 11, o_p 109 (.bin .and (.tmp 108) (.const (.int .u8 (63)))), o_p 110 (.conv .i32 (.tmp 109)), o_p 111 (.bin .shl (.tmp 110) (.const (.int .u64 (6)))), o_p 112 (.bin .or (.tmp 107) (.tmp 111)), o_m 113 12, o_p 114 (.bin .and (.tmp 113) (.const (.int .u8 (63)))), o_p 115 (.conv .i32 (.tmp 114)), o_p 116 (.bin .or (.tmp 112) (.tmp 115)), o_m 2 116, o_p 3 (.mv (.const (.int .i64 (4))))])
(.ret)))))))))))))))))),
[.tmp 2, .tmp 3]⟩
theorem r_unicode_utf8_decodeRuneInStringSlow : resFun Tryd.prog f_unicode_utf8_decodeRuneInStringSlow = some c_unicode_utf8_decodeRuneInStringSlow := by kernel_rfl

/- internal/strconv.ParseUint -/
abbrev f_internal_strconv_ParseUint : Nat := 57
def c_internal_strconv_ParseUint : MFun := ⟨172, .seq (.ops [ o_p 6 (.mv (.const (.int .u64 (0)))), o_p 7 (.mv (.const .nilIface))])
(.seq (.seq (.ops [ o_m 18 0,
.op ⟨(some 19), (.pure (.bin .eql (.tmp 18) (.const (.string ⟨#[]⟩)))), none⟩])
(.cond (.tmp 19)
(.seq (.ops [ o_e 20 (.fail), o_p 6 (.mv (.const (.int .u64 (0)))), o_m 7 20])
(.ret))
(.skip)))
(.seq (.ops [ o_m 21 1, o_p 22 (.bin .eql (.tmp 21) (.const (.int .i64 (0)))), o_m 8 22])
(.seq (.ops [ o_m 23 0, o_m 9 23])
(.seq (.block 0 (.seq (.ops [ o_m 26 1, o_p 27 (.bin .leq (.const (.int .i64 (2))) (.tmp 26)), o_m 28 27,
.split 28,
.op ⟨(some 29), (.pure (.mv (.tmp 1))), (some (28, true))⟩,
.op ⟨(some 30), (.pure (.bin .leq (.tmp 29) (.const (.int .i64 (36))))), (some (28, true))⟩, o_p 31 (.pick (.tmp 28) (.tmp 30) (.const (.bool false))), o_m 25 31])
(.cond (.tmp 25)
(.skip)
(.seq (.ops [ o_m 33 1, o_p 34 (.bin .eql (.tmp 33) (.const (.int .i64 (0)))), o_m 32 34])
(.cond (.tmp 32)
(.seq (.ops [ o_p 1 (.mv (.const (.int .i64 (10))))])
(.seq (.ops [ o_m 35 0, o_p 36 (.sidx (.tmp 35) (.const (.int .i64 (0)))), o_p 37 (.bin .eql (.tmp 36) (.const (.int .u8 (48))))])
(.cond (.tmp 37)
(.block 1 (.seq (.ops [ o_m 41 0, o_p 42 (.slen (.tmp 41)), o_p 43 (.bin .geq (.tmp 42) (.const (.int .i64 (3)))), o_m 44 43,
.split 44,
.op ⟨(some 45), (.pure (.mv (.tmp 0))), (some (44, true))⟩,
.op ⟨(some 46), (.pure (.sidx (.tmp 45) (.const (.int .i64 (1))))), (some (44, true))⟩,
.op ⟨(some 47), (.eff (.call 64 [(.tmp 46)])), (some (44, true))⟩,
.op ⟨(some 48), (.pure (.bin .eql (.tmp 47) (.const (.int .u8 (98))))), (some (44, true))⟩, o_p 49 (.pick (.tmp 44) (.tmp 48) (.const (.bool false))), o_m 40 49])
(.cond (.tmp 40)
(.seq (.ops [ o_p 1 (.mv (.const (.int .i64 (2))))])
(.ops [ o_m 50 0, o_p 51 (.sslc (.tmp 50) (some (.const (.int .i64 (2)))) none), o_m 0 51]))
(.seq (.ops [ o_m 53 0, o_p 54 (.slen (.tmp 53)), o_p 55 (.bin .geq (.tmp 54) (.const (.int .i64 (3)))), o_m 56 55,
.split 56,
.op ⟨(some 57), (.pure (.mv (.tmp 0))), (some (56, true))⟩,
.op ⟨(some 58), (.pure (.sidx (.tmp 57) (.const (.int .i64 (1))))), (some (56, true))⟩,
.op ⟨(some 59), (.eff (.call 64 [(.tmp 58)])), (some (56, true))⟩,
.op ⟨(some 60), (.pure (.bin .eql (.tmp 59) (.const (.int .u8 (111))))), (some (56, true))⟩, o_p 61 (.pick (.tmp 56) (.tmp 60) (.const (.bool false))), o_m 52 61])
(.cond (.tmp 52)
(.seq (.ops [ o_p 1 (.mv (.const (.int .i64 (8))))])
(.ops [ o_m 62 0, o_p 63 (.sslc (.tmp 62) (some (.const (.int .i64 (2)))) none), o_m 0 63]))
(.seq (.ops [ o_m 65 0, o_p 66 (.slen (.tmp 65)), o_p 67 (.bin .geq (.tmp 66) (.const (.int .i64 (3)))), o_m 68 67,
.split 68,
.op ⟨(some 69), (.pure (.mv (.tmp 0))), (some (68, true))⟩,
.op ⟨(some 70), (.pure (.sidx (.tmp 69) (.const (.int .i64 (1))))), (some (68, true))⟩,
.op ⟨(some 71), (.eff (.call 64 [(.tmp 70)])), (some (68, true))⟩,
.op ⟨(some 72), (.pure (.bin .eql (.tmp 71) (.const (.int .u8 (120))))), (some (68, true))⟩, o_p 73 (.pick (.tmp 68) (.tmp 72) (.const (.bool false))), o_m 64 73])
(.cond (.tmp 64)
(.seq (.ops [ o_p 1 (.mv (.const (.int .i64 (16))))])
(.ops [ o_m 74 0, o_p 75 (.sslc (.tmp 74) (some (.const (.int .i64 (2)))) none), o_m 0 75]))
(.seq (.ops [ o_p 1 (.mv (.const (.int .i64 (8))))])
(.ops [ o_m 38 0, o_p 39 (.sslc (.tmp 38) (some (.const (.int .i64 (1)))) none), o_m 0 39])))))))))
(.skip))))
(.seq (.ops [ o_e 24 (.fail), o_p 6 (.mv (.const (.int .u64 (0)))), o_m 7 24])
(.ret)))))))
(.seq (.seq (.ops [ o_m 76 2, o_p 77 (.bin .eql (.tmp 76) (.const (.int .i64 (0))))])
(.cond (.tmp 77)
(.ops [ o_p 2 (.mv (.const (.int .i64 (64))))])
(.seq (.ops [ o_m 78 2, o_p 79 (.bin .lss (.tmp 78) (.const (.int .i64 (0)))), o_m 80 79,
.split 80,
.op ⟨(some 81), (.pure (.mv (.tmp 2))), (some (80, false))⟩,
.op ⟨(some 82), (.pure (.bin .gtr (.tmp 81) (.const (.int .i64 (64))))), (some (80, false))⟩, o_p 83 (.pick (.tmp 80) (.const (.bool true)) (.tmp 82))])
(.cond (.tmp 83)
(.seq (.ops [ o_e 84 (.fail), o_p 6 (.mv (.const (.int .u64 (0)))), o_m 7 84])
(.ret))
(.skip)))))
(.seq (.ops [ o_p 10 (.mv (.const (.int .u64 (0))))])
(.seq (.seq (.ops [ o_m 85 1])
(.block 2 (.seq (.ops [ o_p 91 (.bin .eql (.tmp 85) (.const (.int .i64 (10)))), o_m 90 91])
(.cond (.tmp 90)
(.ops [ o_p 10 (.mv (.const (.int .u64 (1844674407370955162))))])
(.seq (.ops [ o_p 93 (.bin .eql (.tmp 85) (.const (.int .i64 (16)))), o_m 92 93])
(.cond (.tmp 92)
(.ops [ o_p 10 (.mv (.const (.int .u64 (1152921504606846976))))])
(.ops [ o_m 86 1, o_p 87 (.conv .u64 (.tmp 86)), o_p 88 (.bin .quo (.const (.int .u64 (18446744073709551615))) (.tmp 87)), o_p 89 (.bin .add (.tmp 88) (.const (.int .u64 (1)))), o_m 10 89])))))))
(.seq (.ops [ o_m 94 2, o_p 95 (.conv .u64 (.tmp 94)), o_p 96 (.bin .shl (.const (.int .u64 (1))) (.tmp 95)), o_p 97 (.bin .sub (.tmp 96) (.const (.int .u64 (1)))), o_m 11 97])
(.seq (.ops [ o_p 12 (.mv (.const (.bool false)))])
(.seq (.ops [ o_p 13 (.mv (.const (.int .u64 (0))))])
(.seq (.seq (.ops [ o_m 98 0, o_e 99 (.fail), o_p 100 (.len (.tmp 99)), o_p 101 (.mv (.const (.int .i64 (0))))])
(.block 3 (.loop (.seq (.ops [ o_p 102 (.bin .lss (.tmp 101) (.tmp 100))])
(.seq (.cond (.tmp 102)
(.skip)
(.exit 3))
(.seq (.block 4 (.seq (.ops [ o_p 103 (.idx 1 (.tmp 99) (.tmp 101)), o_l 104 103, o_m 15 104])
(.seq (.ops [ o_p 16 (.mv (.const (.int .u8 (0))))])
(.seq (.block 5 (.seq (.ops [ o_m 107 15, o_p 108 (.bin .eql (.tmp 107) (.const (.int .u8 (95)))), o_m 109 108,
.split 109,
.op ⟨(some 110), (.pure (.mv (.tmp 8))), (some (109, true))⟩, o_p 111 (.pick (.tmp 109) (.tmp 110) (.const (.bool false))), o_m 106 111])
(.cond (.tmp 106)
(.seq (.ops [ o_p 12 (.mv (.const (.bool true)))])
(.exit 4))
(.seq (.ops [ o_m 113 15, o_p 114 (.bin .leq (.const (.int .u8 (48))) (.tmp 113)), o_m 115 114,
.split 115,
.op ⟨(some 116), (.pure (.mv (.tmp 15))), (some (115, true))⟩,
.op ⟨(some 117), (.pure (.bin .leq (.tmp 116) (.const (.int .u8 (57))))), (some (115, true))⟩, o_p 118 (.pick (.tmp 115) (.tmp 117) (.const (.bool false))), o_m 112 118])
(.cond (.tmp 112)
(.ops [ o_m 119 15, o_p 120 (.bin .sub (.tmp 119) (.const (.int .u8 (48)))), o_m 16 120])
(.seq (.ops [ o_m 122 15, o_e 123 (.call 64 [(.tmp 122)]), o_p 124 (.bin .leq (.const (.int .u8 (97))) (.tmp 123)), o_m 125 124,
.split 125,
.op ⟨(some 126), (.pure (.mv (.tmp 15))), (some (125, true))⟩,
.op ⟨(some 127), (.eff (.call 64 [(.tmp 126)])), (some (125, true))⟩,
.op ⟨(some 128), (.pure (.bin .leq (.tmp 127) (.const (.int .u8 (122))))), (some (125, true))⟩, o_p 129 (.pick (.tmp 125) (.tmp 128) (.const (.bool false))), o_m 121 129])
(.cond (.tmp 121)
(.ops [ o_m 130 15, o_e 131 (.call 64 [(.tmp 130)]), o_p 132 (.bin .sub (.tmp 131) (.const (.int .u8 (97)))), o_p 133 (.bin .add (.tmp 132) (.const (.int .u8 (10)))), o_m 16 133])
(.seq (.ops [ o_e 105 (.fail), o_p 6 (.mv (.const (.int .u64 (0)))), o_m 7 105])
(.ret)))))))))
(.seq (.seq (.ops [ o_m 134 16, o_m 135 1, o_p 136 (.conv .u8 (.tmp 135)), o_p 137 (.bin .geq (.tmp 134) (.tmp 136))])
(.cond (.tmp 137)
(.seq (.ops [ o_e 138 (.fail), o_p 6 (.mv (.const (.int .u64 (0)))), o_m 7 138])
(.ret))
(.skip)))
(.seq (.seq (.ops [ o_m 139 13, o_m 140 10, o_p 141 (.bin .geq (.tmp 139) (.tmp 140))])
(.cond (.tmp 141)
(.seq (.ops [ o_m 142 11, o_e 143 (.fail), o_m 6 142, o_m 7 143])
(.ret))
(.skip)))
(.seq (.ops [ o_m 144 13, o_m 145 1, o_p 146 (.conv .u64 (.tmp 145)), o_p 147 (.bin .mul (.tmp 144) (.tmp 146)), o_m 13 147])
(.seq (.ops [ o_m 148 13, o_m 149 16, o_p 150 (.conv .u64 (.tmp 149)), o_p 151 (.bin .add (.tmp 148) (.tmp 150)), o_m 17 151])
(.seq (.seq (.ops [ o_m 152 17, o_m 153 13, o_p 154 (.bin .lss (.tmp 152) (.tmp 153)), o_m 155 154,
.split 155,
.op ⟨(some 156), (.pure (.mv (.tmp 17))), (some (155, false))⟩,
.op ⟨(some 157), (.pure (.mv (.tmp 11))), (some (155, false))⟩,
.op ⟨(some 158), (.pure (.bin .gtr (.tmp 156) (.tmp 157))), (some (155, false))⟩, o_p 159 (.pick (.tmp 155) (.const (.bool true)) (.tmp 158))])
(.cond (.tmp 159)
(.seq (.ops [ o_m 160 11, o_e 161 (.fail), o_m 6 160, o_m 7 161])
(.ret))
(.skip)))
(.ops [ o_m 162 17, o_m 13 162]))))))))))
(.ops [ o_p 163 (.bin .add (.tmp 101) (.const (.int .i64 (1)))), o_m 101 163])))))))
(.seq (.seq (.ops [ o_m 164 12, o_m 165 164,
.split 165,
.op ⟨(some 166), (.pure (.mv (.tmp 9))), (some (165, true))⟩,
.op ⟨(some 167), (.eff (.call 65 [(.tmp 166)])), (some (165, true))⟩,
.op ⟨(some 168), (.pure (.bnot (.tmp 167))), (some (165, true))⟩, o_p 169 (.pick (.tmp 165) (.tmp 168) (.const (.bool false)))])
(.cond (.tmp 169)
(.seq (.ops [ o_e 170 (.fail), o_p 6 (.mv (.const (.int .u64 (0)))), o_m 7 170])
(.ret))
(.skip)))
(.seq (.ops [ o_m 171 13, o_m 6 171, o_p 7 (.mv (.const .nilIface))])
(.ret)))))))))))))),
[.tmp 6, .tmp 7]⟩
theorem r_internal_strconv_ParseUint : resFun Tryd.prog f_internal_strconv_ParseUint = some c_internal_strconv_ParseUint := by kernel_rfl
end Go.Proofs.YtbikhpphdhffaaaDoor
