/- The code of this seat's functions, resolved, written by a program of mine; each is held against the given program by the kernel. Condition: none. -/
import Derived.Test.YtbikhpphdhffaaaDoorProg
import Derived.Test.YtbikhpphdhffaaaDoorBase9
import Derived.KernelRfl
namespace Go.Proofs.YtbikhpphdhffaaaDoor
open Go.Vc

/- internal/stringslite.Clone -/
abbrev f_internal_stringslite_Clone : Nat := 58
def c_internal_stringslite_Clone : MFun := ⟨18, .seq (.ops [
.op ⟨(some 2), (.pure (.mv (.const (.string ⟨#[]⟩)))), none⟩])
(.seq (.seq (.ops [ o_m 4 0, o_p 5 (.slen (.tmp 4)), o_p 6 (.bin .eql (.tmp 5) (.const (.int .i64 (0))))])
(.cond (.tmp 6)
(.seq (.ops [
.op ⟨(some 2), (.pure (.mv (.const (.string ⟨#[]⟩)))), none⟩])
(.ret))
(.skip)))
(.seq (.ops [ o_m 7 0, o_p 8 (.slen (.tmp 7)), o_e 9 (.mk 5 1 1 [(.int .u8 (0))] (.tmp 8) (.tmp 8)), o_m 3 9])
(.seq (.ops [ o_m 10 3, o_m 11 0, o_e 12 (.copy 1 (.tmp 10) (.tmp 11))])
(.seq (.ops [ o_m 13 3, o_p 14 (.idx 1 (.tmp 13) (.const (.int .i64 (0)))), o_m 15 3, o_p 16 (.len (.tmp 15)), o_e 17 (.fail), o_m 2 17])
(.ret))))),
[.tmp 2]⟩
theorem r_internal_stringslite_Clone : resFun Tryd.prog f_internal_stringslite_Clone = some c_internal_stringslite_Clone := by kernel_rfl

/- errors.New -/
abbrev f_errors_New : Nat := 59
def c_errors_New : MFun := ⟨7, .seq (.ops [ o_p 2 (.mv (.const .nilIface))])
(.seq (.ops [ o_m 3 0,
.op ⟨(some 4), (.pure (.build [(.string ⟨#[]⟩)] [(0, 1, (.tmp 3))])), none⟩, o_e 5 (.box 94 (.tmp 4)), o_e 6 (.fail), o_m 2 6])
(.ret)),
[.tmp 2]⟩
theorem r_errors_New : resFun Tryd.prog f_errors_New = some c_errors_New := by kernel_rfl

/- internal/strconv.small -/
abbrev f_internal_strconv_small : Nat := 60
def c_internal_strconv_small : MFun := ⟨15, .seq (.ops [
.op ⟨(some 2), (.pure (.mv (.const (.string ⟨#[]⟩)))), none⟩])
(.seq (.seq (.ops [ o_m 3 0, o_p 4 (.bin .lss (.tmp 3) (.const (.int .i64 (10))))])
(.cond (.tmp 4)
(.seq (.ops [ o_m 5 0, o_m 6 0, o_p 7 (.bin .add (.tmp 6) (.const (.int .i64 (1)))),
.op ⟨(some 8), (.pure (.sslc (.const (.string ⟨#[48, 49, 50, 51, 52, 53, 54, 55, 56, 57, 97, 98, 99, 100, 101, 102, 103, 104, 105, 106, 107, 108, 109, 110, 111, 112, 113, 114, 115, 116, 117, 118, 119, 120, 121, 122]⟩)) (some (.tmp 5)) (some (.tmp 7)))), none⟩, o_m 2 8])
(.ret))
(.skip)))
(.seq (.ops [ o_m 9 0, o_p 10 (.bin .mul (.tmp 9) (.const (.int .i64 (2)))), o_m 11 0, o_p 12 (.bin .mul (.tmp 11) (.const (.int .i64 (2)))), o_p 13 (.bin .add (.tmp 12) (.const (.int .i64 (2)))),
.op ⟨(some 14), (.pure (.sslc (.const (.string ⟨#[48, 48, 48, 49, 48, 50, 48, 51, 48, 52, 48, 53, 48, 54, 48, 55, 48, 56, 48, 57, 49, 48, 49, 49, 49, 50, 49, 51, 49, 52, 49, 53, 49, 54, 49, 55, 49, 56, 49, 57, 50, 48, 50, 49, 50, 50, 50, 51, 50, 52, 50, 53, 50, 54, 50, 55, 50, 56, 50, 57, 51, 48, 51, 49, 51, 50, 51, 51, 51, 52, 51, 53, 51, 54, 51, 55, 51, 56, 51, 57, 52, 48, 52, 49, 52, 50, 52, 51, 52, 52, 52, 53, 52, 54, 52, 55, 52, 56, 52, 57, 53, 48, 53, 49, 53, 50, 53, 51, 53, 52, 53, 53, 53, 54, 53, 55, 53, 56, 53, 57, 54, 48, 54, 49, 54, 50, 54, 51, 54, 52, 54, 53, 54, 54, 54, 55, 54, 56, 54, 57, 55, 48, 55, 49, 55, 50, 55, 51, 55, 52, 55, 53, 55, 54, 55, 55, 55, 56, 55, 57, 56, 48, 56, 49, 56, 50, 56, 51, 56, 52, 56, 53, 56, 54, 56, 55, 56, 56, 56, 57, 57, 48, 57, 49, 57, 50, 57, 51, 57, 52, 57, 53, 57, 54, 57, 55, 57, 56, 57, 57]⟩)) (some (.tmp 10)) (some (.tmp 13)))), none⟩, o_m 2 14])
(.ret))),
[.tmp 2]⟩
theorem r_internal_strconv_small : resFun Tryd.prog f_internal_strconv_small = some c_internal_strconv_small := by kernel_rfl

/- internal/strconv.numDigits -/
abbrev f_internal_strconv_numDigits : Nat := 61
def c_internal_strconv_numDigits : MFun := ⟨15, .seq (.ops [ o_p 2 (.mv (.const (.int .i64 (0))))])
(.seq (.ops [ o_m 4 0, o_e 5 (.call 67 [(.tmp 4)]), o_e 6 (.call 66 [(.tmp 5)]), o_m 3 6])
(.seq (.ops [ o_m 7 3, o_m 8 0, o_m 9 3, o_p 10 (.idxA 20 1 (.global 5) (.tmp 9)), o_l 11 10, o_p 12 (.bin .geq (.tmp 8) (.tmp 11)), o_e 13 (.call 68 [(.tmp 12)]), o_p 14 (.bin .add (.tmp 7) (.tmp 13)), o_m 2 14])
(.ret))),
[.tmp 2]⟩
theorem r_internal_strconv_numDigits : resFun Tryd.prog f_internal_strconv_numDigits = some c_internal_strconv_numDigits := by kernel_rfl

/- internal/strconv.formatBase10 -/
abbrev f_internal_strconv_formatBase10 : Nat := 62
def c_internal_strconv_formatBase10 : MFun := ⟨167, .seq (.ops [ o_m 17 0, o_p 18 (.len (.tmp 17)), o_m 4 18])
(.seq (.block 0 (.loop (.seq (.seq (.ops [ o_m 19 4, o_p 20 (.bin .geq (.tmp 19) (.const (.int .i64 (8))))])
(.cond (.tmp 20)
(.skip)
(.exit 0)))
(.block 1 (.seq (.ops [ o_m 21 1, o_p 22 (.bin .rem (.tmp 21) (.const (.int .u64 (100000000)))), o_p 23 (.conv .u32 (.tmp 22)), o_m 5 23])
(.seq (.ops [ o_m 24 1, o_p 25 (.bin .quo (.tmp 24) (.const (.int .u64 (100000000)))), o_m 1 25])
(.seq (.ops [ o_m 26 5, o_p 27 (.bin .quo (.tmp 26) (.const (.int .u32 (10000)))), o_m 28 5, o_p 29 (.bin .rem (.tmp 28) (.const (.int .u32 (10000)))), o_m 6 27, o_m 7 29])
(.seq (.ops [ o_m 30 7, o_p 31 (.bin .quo (.tmp 30) (.const (.int .u32 (100)))), o_p 32 (.bin .mul (.tmp 31) (.const (.int .u32 (2)))), o_m 33 7, o_p 34 (.bin .rem (.tmp 33) (.const (.int .u32 (100)))), o_p 35 (.bin .mul (.tmp 34) (.const (.int .u32 (2)))), o_m 8 32, o_m 9 35])
(.seq (.ops [ o_m 36 6, o_p 37 (.bin .quo (.tmp 36) (.const (.int .u32 (100)))), o_p 38 (.bin .mul (.tmp 37) (.const (.int .u32 (2)))), o_m 39 6, o_p 40 (.bin .rem (.tmp 39) (.const (.int .u32 (100)))), o_p 41 (.bin .mul (.tmp 40) (.const (.int .u32 (2)))), o_m 10 38, o_m 11 41])
(.seq (.draw false
(.take (t_m 42 0)
(.take (t_m 43 4)
(.take (t_p 44 (.bin .sub (.tmp 43) (.const (.int .i64 (1)))))
(.take (t_m 45 0)
(.take (t_m 46 4)
(.take (t_p 47 (.bin .sub (.tmp 46) (.const (.int .i64 (2)))))
(.take (t_m 48 9)
(.take (t_p 49 (.bin .add (.tmp 48) (.const (.int .u32 (1)))))
(.take ⟨(some 50), (.pure (.sidx (.const (.string ⟨#[48, 48, 48, 49, 48, 50, 48, 51, 48, 52, 48, 53, 48, 54, 48, 55, 48, 56, 48, 57, 49, 48, 49, 49, 49, 50, 49, 51, 49, 52, 49, 53, 49, 54, 49, 55, 49, 56, 49, 57, 50, 48, 50, 49, 50, 50, 50, 51, 50, 52, 50, 53, 50, 54, 50, 55, 50, 56, 50, 57, 51, 48, 51, 49, 51, 50, 51, 51, 51, 52, 51, 53, 51, 54, 51, 55, 51, 56, 51, 57, 52, 48, 52, 49, 52, 50, 52, 51, 52, 52, 52, 53, 52, 54, 52, 55, 52, 56, 52, 57, 53, 48, 53, 49, 53, 50, 53, 51, 53, 52, 53, 53, 53, 54, 53, 55, 53, 56, 53, 57, 54, 48, 54, 49, 54, 50, 54, 51, 54, 52, 54, 53, 54, 54, 54, 55, 54, 56, 54, 57, 55, 48, 55, 49, 55, 50, 55, 51, 55, 52, 55, 53, 55, 54, 55, 55, 55, 56, 55, 57, 56, 48, 56, 49, 56, 50, 56, 51, 56, 52, 56, 53, 56, 54, 56, 55, 56, 56, 56, 57, 57, 48, 57, 49, 57, 50, 57, 51, 57, 52, 57, 53, 57, 54, 57, 55, 57, 56, 57, 57]⟩)) (.tmp 49))), none⟩
(.take (t_m 51 9)
(.take ⟨(some 52), (.pure (.sidx (.const (.string ⟨#[48, 48, 48, 49, 48, 50, 48, 51, 48, 52, 48, 53, 48, 54, 48, 55, 48, 56, 48, 57, 49, 48, 49, 49, 49, 50, 49, 51, 49, 52, 49, 53, 49, 54, 49, 55, 49, 56, 49, 57, 50, 48, 50, 49, 50, 50, 50, 51, 50, 52, 50, 53, 50, 54, 50, 55, 50, 56, 50, 57, 51, 48, 51, 49, 51, 50, 51, 51, 51, 52, 51, 53, 51, 54, 51, 55, 51, 56, 51, 57, 52, 48, 52, 49, 52, 50, 52, 51, 52, 52, 52, 53, 52, 54, 52, 55, 52, 56, 52, 57, 53, 48, 53, 49, 53, 50, 53, 51, 53, 52, 53, 53, 53, 54, 53, 55, 53, 56, 53, 57, 54, 48, 54, 49, 54, 50, 54, 51, 54, 52, 54, 53, 54, 54, 54, 55, 54, 56, 54, 57, 55, 48, 55, 49, 55, 50, 55, 51, 55, 52, 55, 53, 55, 54, 55, 55, 55, 56, 55, 57, 56, 48, 56, 49, 56, 50, 56, 51, 56, 52, 56, 53, 56, 54, 56, 55, 56, 56, 56, 57, 57, 48, 57, 49, 57, 50, 57, 51, 57, 52, 57, 53, 57, 54, 57, 55, 57, 56, 57, 57]⟩)) (.tmp 51))), none⟩
(.take (t_p 53 (.idx 1 (.tmp 42) (.tmp 44)))
(.only true ⟨none, (.eff (.store 1 (.tmp 53) (.tmp 50))), none⟩
(.take (t_p 54 (.idx 1 (.tmp 45) (.tmp 47)))
(.only true ⟨none, (.eff (.store 1 (.tmp 54) (.tmp 52))), none⟩
(.done)))))))))))))))))
(.seq (.draw false
(.take (t_m 55 0)
(.take (t_m 56 4)
(.take (t_p 57 (.bin .sub (.tmp 56) (.const (.int .i64 (3)))))
(.take (t_m 58 0)
(.take (t_m 59 4)
(.take (t_p 60 (.bin .sub (.tmp 59) (.const (.int .i64 (4)))))
(.take (t_m 61 8)
(.take (t_p 62 (.bin .add (.tmp 61) (.const (.int .u32 (1)))))
(.take ⟨(some 63), (.pure (.sidx (.const (.string ⟨#[48, 48, 48, 49, 48, 50, 48, 51, 48, 52, 48, 53, 48, 54, 48, 55, 48, 56, 48, 57, 49, 48, 49, 49, 49, 50, 49, 51, 49, 52, 49, 53, 49, 54, 49, 55, 49, 56, 49, 57, 50, 48, 50, 49, 50, 50, 50, 51, 50, 52, 50, 53, 50, 54, 50, 55, 50, 56, 50, 57, 51, 48, 51, 49, 51, 50, 51, 51, 51, 52, 51, 53, 51, 54, 51, 55, 51, 56, 51, 57, 52, 48, 52, 49, 52, 50, 52, 51, 52, 52, 52, 53, 52, 54, 52, 55, 52, 56, 52, 57, 53, 48, 53, 49, 53, 50, 53, 51, 53, 52, 53, 53, 53, 54, 53, 55, 53, 56, 53, 57, 54, 48, 54, 49, 54, 50, 54, 51, 54, 52, 54, 53, 54, 54, 54, 55, 54, 56, 54, 57, 55, 48, 55, 49, 55, 50, 55, 51, 55, 52, 55, 53, 55, 54, 55, 55, 55, 56, 55, 57, 56, 48, 56, 49, 56, 50, 56, 51, 56, 52, 56, 53, 56, 54, 56, 55, 56, 56, 56, 57, 57, 48, 57, 49, 57, 50, 57, 51, 57, 52, 57, 53, 57, 54, 57, 55, 57, 56, 57, 57]⟩)) (.tmp 62))), none⟩
(.take (t_m 64 8)
(.take ⟨(some 65), (.pure (.sidx (.const (.string ⟨#[48, 48, 48, 49, 48, 50, 48, 51, 48, 52, 48, 53, 48, 54, 48, 55, 48, 56, 48, 57, 49, 48, 49, 49, 49, 50, 49, 51, 49, 52, 49, 53, 49, 54, 49, 55, 49, 56, 49, 57, 50, 48, 50, 49, 50, 50, 50, 51, 50, 52, 50, 53, 50, 54, 50, 55, 50, 56, 50, 57, 51, 48, 51, 49, 51, 50, 51, 51, 51, 52, 51, 53, 51, 54, 51, 55, 51, 56, 51, 57, 52, 48, 52, 49, 52, 50, 52, 51, 52, 52, 52, 53, 52, 54, 52, 55, 52, 56, 52, 57, 53, 48, 53, 49, 53, 50, 53, 51, 53, 52, 53, 53, 53, 54, 53, 55, 53, 56, 53, 57, 54, 48, 54, 49, 54, 50, 54, 51, 54, 52, 54, 53, 54, 54, 54, 55, 54, 56, 54, 57, 55, 48, 55, 49, 55, 50, 55, 51, 55, 52, 55, 53, 55, 54, 55, 55, 55, 56, 55, 57, 56, 48, 56, 49, 56, 50, 56, 51, 56, 52, 56, 53, 56, 54, 56, 55, 56, 56, 56, 57, 57, 48, 57, 49, 57, 50, 57, 51, 57, 52, 57, 53, 57, 54, 57, 55, 57, 56, 57, 57]⟩)) (.tmp 64))), none⟩
(.take (t_p 66 (.idx 1 (.tmp 55) (.tmp 57)))
(.only true ⟨none, (.eff (.store 1 (.tmp 66) (.tmp 63))), none⟩
(.take (t_p 67 (.idx 1 (.tmp 58) (.tmp 60)))
(.only true ⟨none, (.eff (.store 1 (.tmp 67) (.tmp 65))), none⟩
(.done)))))))))))))))))
(.seq (.draw false
(.take (t_m 68 0)
(.take (t_m 69 4)
(.take (t_p 70 (.bin .sub (.tmp 69) (.const (.int .i64 (5)))))
(.take (t_m 71 0)
(.take (t_m 72 4)
(.take (t_p 73 (.bin .sub (.tmp 72) (.const (.int .i64 (6)))))
(.take (t_m 74 11)
(.take (t_p 75 (.bin .add (.tmp 74) (.const (.int .u32 (1)))))
(.take ⟨(some 76), (.pure (.sidx (.const (.string ⟨#[48, 48, 48, 49, 48, 50, 48, 51, 48, 52, 48, 53, 48, 54, 48, 55, 48, 56, 48, 57, 49, 48, 49, 49, 49, 50, 49, 51, 49, 52, 49, 53, 49, 54, 49, 55, 49, 56, 49, 57, 50, 48, 50, 49, 50, 50, 50, 51, 50, 52, 50, 53, 50, 54, 50, 55, 50, 56, 50, 57, 51, 48, 51, 49, 51, 50, 51, 51, 51, 52, 51, 53, 51, 54, 51, 55, 51, 56, 51, 57, 52, 48, 52, 49, 52, 50, 52, 51, 52, 52, 52, 53, 52, 54, 52, 55, 52, 56, 52, 57, 53, 48, 53, 49, 53, 50, 53, 51, 53, 52, 53, 53, 53, 54, 53, 55, 53, 56, 53, 57, 54, 48, 54, 49, 54, 50, 54, 51, 54, 52, 54, 53, 54, 54, 54, 55, 54, 56, 54, 57, 55, 48, 55, 49, 55, 50, 55, 51, 55, 52, 55, 53, 55, 54, 55, 55, 55, 56, 55, 57, 56, 48, 56, 49, 56, 50, 56, 51, 56, 52, 56, 53, 56, 54, 56, 55, 56, 56, 56, 57, 57, 48, 57, 49, 57, 50, 57, 51, 57, 52, 57, 53, 57, 54, 57, 55, 57, 56, 57, 57]⟩)) (.tmp 75))), none⟩
(.take (t_m 77 11)
(.take ⟨(some 78), (.pure (.sidx (.const (.string ⟨#[48, 48, 48, 49, 48, 50, 48, 51, 48, 52, 48, 53, 48, 54, 48, 55, 48, 56, 48, 57, 49, 48, 49, 49, 49, 50, 49, 51, 49, 52, 49, 53, 49, 54, 49, 55, 49, 56, 49, 57, 50, 48, 50, 49, 50, 50, 50, 51, 50, 52, 50, 53, 50, 54, 50, 55, 50, 56, 50, 57, 51, 48, 51, 49, 51, 50, 51, 51, 51, 52, 51, 53, 51, 54, 51, 55, 51, 56, 51, 57, 52, 48, 52, 49, 52, 50, 52, 51, 52, 52, 52, 53, 52, 54, 52, 55, 52, 56, 52, 57, 53, 48, 53, 49, 53, 50, 53, 51, 53, 52, 53, 53, 53, 54, 53, 55, 53, 56, 53, 57, 54, 48, 54, 49, 54, 50, 54, 51, 54, 52, 54, 53, 54, 54, 54, 55, 54, 56, 54, 57, 55, 48, 55, 49, 55, 50, 55, 51, 55, 52, 55, 53, 55, 54, 55, 55, 55, 56, 55, 57, 56, 48, 56, 49, 56, 50, 56, 51, 56, 52, 56, 53, 56, 54, 56, 55, 56, 56, 56, 57, 57, 48, 57, 49, 57, 50, 57, 51, 57, 52, 57, 53, 57, 54, 57, 55, 57, 56, 57, 57]⟩)) (.tmp 77))), none⟩
(.take (t_p 79 (.idx 1 (.tmp 68) (.tmp 70)))
(.only true ⟨none, (.eff (.store 1 (.tmp 79) (.tmp 76))), none⟩
(.take (t_p 80 (.idx 1 (.tmp 71) (.tmp 73)))
(.only true ⟨none, (.eff (.store 1 (.tmp 80) (.tmp 78))), none⟩
(.done)))))))))))))))))
(.seq (.draw false
(.take (t_m 81 0)
(.take (t_m 82 4)
(.take (t_p 83 (.bin .sub (.tmp 82) (.const (.int .i64 (7)))))
(.take (t_m 84 0)
(.take (t_m 85 4)
(.take (t_p 86 (.bin .sub (.tmp 85) (.const (.int .i64 (8)))))
(.take (t_m 87 10)
(.take (t_p 88 (.bin .add (.tmp 87) (.const (.int .u32 (1)))))
(.take ⟨(some 89), (.pure (.sidx (.const (.string ⟨#[48, 48, 48, 49, 48, 50, 48, 51, 48, 52, 48, 53, 48, 54, 48, 55, 48, 56, 48, 57, 49, 48, 49, 49, 49, 50, 49, 51, 49, 52, 49, 53, 49, 54, 49, 55, 49, 56, 49, 57, 50, 48, 50, 49, 50, 50, 50, 51, 50, 52, 50, 53, 50, 54, 50, 55, 50, 56, 50, 57, 51, 48, 51, 49, 51, 50, 51, 51, 51, 52, 51, 53, 51, 54, 51, 55, 51, 56, 51, 57, 52, 48, 52, 49, 52, 50, 52, 51, 52, 52, 52, 53, 52, 54, 52, 55, 52, 56, 52, 57, 53, 48, 53, 49, 53, 50, 53, 51, 53, 52, 53, 53, 53, 54, 53, 55, 53, 56, 53, 57, 54, 48, 54, 49, 54, 50, 54, 51, 54, 52, 54, 53, 54, 54, 54, 55, 54, 56, 54, 57, 55, 48, 55, 49, 55, 50, 55, 51, 55, 52, 55, 53, 55, 54, 55, 55, 55, 56, 55, 57, 56, 48, 56, 49, 56, 50, 56, 51, 56, 52, 56, 53, 56, 54, 56, 55, 56, 56, 56, 57, 57, 48, 57, 49, 57, 50, 57, 51, 57, 52, 57, 53, 57, 54, 57, 55, 57, 56, 57, 57]⟩)) (.tmp 88))), none⟩
(.take (t_m 90 10)
(.take ⟨(some 91), (.pure (.sidx (.const (.string ⟨#[48, 48, 48, 49, 48, 50, 48, 51, 48, 52, 48, 53, 48, 54, 48, 55, 48, 56, 48, 57, 49, 48, 49, 49, 49, 50, 49, 51, 49, 52, 49, 53, 49, 54, 49, 55, 49, 56, 49, 57, 50, 48, 50, 49, 50, 50, 50, 51, 50, 52, 50, 53, 50, 54, 50, 55, 50, 56, 50, 57, 51, 48, 51, 49, 51, 50, 51, 51, 51, 52, 51, 53, 51, 54, 51, 55, 51, 56, 51, 57, 52, 48, 52, 49, 52, 50, 52, 51, 52, 52, 52, 53, 52, 54, 52, 55, 52, 56, 52, 57, 53, 48, 53, 49, 53, 50, 53, 51, 53, 52, 53, 53, 53, 54, 53, 55, 53, 56, 53, 57, 54, 48, 54, 49, 54, 50, 54, 51, 54, 52, 54, 53, 54, 54, 54, 55, 54, 56, 54, 57, 55, 48, 55, 49, 55, 50, 55, 51, 55, 52, 55, 53, 55, 54, 55, 55, 55, 56, 55, 57, 56, 48, 56, 49, 56, 50, 56, 51, 56, 52, 56, 53, 56, 54, 56, 55, 56, 56, 56, 57, 57, 48, 57, 49, 57, 50, 57, 51, 57, 52, 57, 53, 57, 54, 57, 55, 57, 56, 57, 57]⟩)) (.tmp 90))), none⟩
(.take (t_p 92 (.idx 1 (.tmp 81) (.tmp 83)))
(.only true ⟨none, (.eff (.store 1 (.tmp 92) (.tmp 89))), none⟩
(.take (t_p 93 (.idx 1 (.tmp 84) (.tmp 86)))
(.only true ⟨none, (.eff (.store 1 (.tmp 93) (.tmp 91))), none⟩
(.done)))))))))))))))))
(.ops [ o_m 94 4, o_p 95 (.bin .sub (.tmp 94) (.const (.int .i64 (8)))), o_m 4 95]))))))))))))))
(.seq (.ops [ o_m 96 1, o_p 97 (.conv .u32 (.tmp 96)), o_m 12 97])
(.seq (.seq (.ops [ o_m 98 4, o_p 99 (.bin .geq (.tmp 98) (.const (.int .i64 (4))))])
(.cond (.tmp 99)
(.seq (.ops [ o_m 100 12, o_p 101 (.bin .rem (.tmp 100) (.const (.int .u32 (10000)))), o_m 13 101])
(.seq (.ops [ o_m 102 12, o_p 103 (.bin .quo (.tmp 102) (.const (.int .u32 (10000)))), o_m 12 103])
(.seq (.ops [ o_m 104 13, o_p 105 (.bin .quo (.tmp 104) (.const (.int .u32 (100)))), o_p 106 (.bin .mul (.tmp 105) (.const (.int .u32 (2)))), o_m 107 13, o_p 108 (.bin .rem (.tmp 107) (.const (.int .u32 (100)))), o_p 109 (.bin .mul (.tmp 108) (.const (.int .u32 (2)))), o_m 14 106, o_m 15 109])
(.seq (.draw false
(.take (t_m 110 0)
(.take (t_m 111 4)
(.take (t_p 112 (.bin .sub (.tmp 111) (.const (.int .i64 (1)))))
(.take (t_m 113 0)
(.take (t_m 114 4)
(.take (t_p 115 (.bin .sub (.tmp 114) (.const (.int .i64 (2)))))
(.take (t_m 116 15)
(.take (t_p 117 (.bin .add (.tmp 116) (.const (.int .u32 (1)))))
(.take ⟨(some 118), (.pure (.sidx (.const (.string ⟨#[48, 48, 48, 49, 48, 50, 48, 51, 48, 52, 48, 53, 48, 54, 48, 55, 48, 56, 48, 57, 49, 48, 49, 49, 49, 50, 49, 51, 49, 52, 49, 53, 49, 54, 49, 55, 49, 56, 49, 57, 50, 48, 50, 49, 50, 50, 50, 51, 50, 52, 50, 53, 50, 54, 50, 55, 50, 56, 50, 57, 51, 48, 51, 49, 51, 50, 51, 51, 51, 52, 51, 53, 51, 54, 51, 55, 51, 56, 51, 57, 52, 48, 52, 49, 52, 50, 52, 51, 52, 52, 52, 53, 52, 54, 52, 55, 52, 56, 52, 57, 53, 48, 53, 49, 53, 50, 53, 51, 53, 52, 53, 53, 53, 54, 53, 55, 53, 56, 53, 57, 54, 48, 54, 49, 54, 50, 54, 51, 54, 52, 54, 53, 54, 54, 54, 55, 54, 56, 54, 57, 55, 48, 55, 49, 55, 50, 55, 51, 55, 52, 55, 53, 55, 54, 55, 55, 55, 56, 55, 57, 56, 48, 56, 49, 56, 50, 56, 51, 56, 52, 56, 53, 56, 54, 56, 55, 56, 56, 56, 57, 57, 48, 57, 49, 57, 50, 57, 51, 57, 52, 57, 53, 57, 54, 57, 55, 57, 56, 57, 57]⟩)) (.tmp 117))), none⟩
(.take (t_m 119 15)
(.take ⟨(some 120), (.pure (.sidx (.const (.string ⟨#[48, 48, 48, 49, 48, 50, 48, 51, 48, 52, 48, 53, 48, 54, 48, 55, 48, 56, 48, 57, 49, 48, 49, 49, 49, 50, 49, 51, 49, 52, 49, 53, 49, 54, 49, 55, 49, 56, 49, 57, 50, 48, 50, 49, 50, 50, 50, 51, 50, 52, 50, 53, 50, 54, 50, 55, 50, 56, 50, 57, 51, 48, 51, 49, 51, 50, 51, 51, 51, 52, 51, 53, 51, 54, 51, 55, 51, 56, 51, 57, 52, 48, 52, 49, 52, 50, 52, 51, 52, 52, 52, 53, 52, 54, 52, 55, 52, 56, 52, 57, 53, 48, 53, 49, 53, 50, 53, 51, 53, 52, 53, 53, 53, 54, 53, 55, 53, 56, 53, 57, 54, 48, 54, 49, 54, 50, 54, 51, 54, 52, 54, 53, 54, 54, 54, 55, 54, 56, 54, 57, 55, 48, 55, 49, 55, 50, 55, 51, 55, 52, 55, 53, 55, 54, 55, 55, 55, 56, 55, 57, 56, 48, 56, 49, 56, 50, 56, 51, 56, 52, 56, 53, 56, 54, 56, 55, 56, 56, 56, 57, 57, 48, 57, 49, 57, 50, 57, 51, 57, 52, 57, 53, 57, 54, 57, 55, 57, 56, 57, 57]⟩)) (.tmp 119))), none⟩
(.take (t_p 121 (.idx 1 (.tmp 110) (.tmp 112)))
(.only true ⟨none, (.eff (.store 1 (.tmp 121) (.tmp 118))), none⟩
(.take (t_p 122 (.idx 1 (.tmp 113) (.tmp 115)))
(.only true ⟨none, (.eff (.store 1 (.tmp 122) (.tmp 120))), none⟩
(.done)))))))))))))))))
(.seq (.draw false
(.take (t_m 123 0)
(.take (t_m 124 4)
(.take (t_p 125 (.bin .sub (.tmp 124) (.const (.int .i64 (3)))))
(.take (t_m 126 0)
(.take (t_m 127 4)
(.take (t_p 128 (.bin .sub (.tmp 127) (.const (.int .i64 (4)))))
(.take (t_m 129 14)
(.take (t_p 130 (.bin .add (.tmp 129) (.const (.int .u32 (1)))))
(.take ⟨(some 131), (.pure (.sidx (.const (.string ⟨#[48, 48, 48, 49, 48, 50, 48, 51, 48, 52, 48, 53, 48, 54, 48, 55, 48, 56, 48, 57, 49, 48, 49, 49, 49, 50, 49, 51, 49, 52, 49, 53, 49, 54, 49, 55, 49, 56, 49, 57, 50, 48, 50, 49, 50, 50, 50, 51, 50, 52, 50, 53, 50, 54, 50, 55, 50, 56, 50, 57, 51, 48, 51, 49, 51, 50, 51, 51, 51, 52, 51, 53, 51, 54, 51, 55, 51, 56, 51, 57, 52, 48, 52, 49, 52, 50, 52, 51, 52, 52, 52, 53, 52, 54, 52, 55, 52, 56, 52, 57, 53, 48, 53, 49, 53, 50, 53, 51, 53, 52, 53, 53, 53, 54, 53, 55, 53, 56, 53, 57, 54, 48, 54, 49, 54, 50, 54, 51, 54, 52, 54, 53, 54, 54, 54, 55, 54, 56, 54, 57, 55, 48, 55, 49, 55, 50, 55, 51, 55, 52, 55, 53, 55, 54, 55, 55, 55, 56, 55, 57, 56, 48, 56, 49, 56, 50, 56, 51, 56, 52, 56, 53, 56, 54, 56, 55, 56, 56, 56, 57, 57, 48, 57, 49, 57, 50, 57, 51, 57, 52, 57, 53, 57, 54, 57, 55, 57, 56, 57, 57]⟩)) (.tmp 130))), none⟩
(.take (t_m 132 14)
(.take ⟨(some 133), (.pure (.sidx (.const (.string ⟨#[48, 48, 48, 49, 48, 50, 48, 51, 48, 52, 48, 53, 48, 54, 48, 55, 48, 56, 48, 57, 49, 48, 49, 49, 49, 50, 49, 51, 49, 52, 49, 53, 49, 54, 49, 55, 49, 56, 49, 57, 50, 48, 50, 49, 50, 50, 50, 51, 50, 52, 50, 53, 50, 54, 50, 55, 50, 56, 50, 57, 51, 48, 51, 49, 51, 50, 51, 51, 51, 52, 51, 53, 51, 54, 51, 55, 51, 56, 51, 57, 52, 48, 52, 49, 52, 50, 52, 51, 52, 52, 52, 53, 52, 54, 52, 55, 52, 56, 52, 57, 53, 48, 53, 49, 53, 50, 53, 51, 53, 52, 53, 53, 53, 54, 53, 55, 53, 56, 53, 57, 54, 48, 54, 49, 54, 50, 54, 51, 54, 52, 54, 53, 54, 54, 54, 55, 54, 56, 54, 57, 55, 48, 55, 49, 55, 50, 55, 51, 55, 52, 55, 53, 55, 54, 55, 55, 55, 56, 55, 57, 56, 48, 56, 49, 56, 50, 56, 51, 56, 52, 56, 53, 56, 54, 56, 55, 56, 56, 56, 57, 57, 48, 57, 49, 57, 50, 57, 51, 57, 52, 57, 53, 57, 54, 57, 55, 57, 56, 57, 57]⟩)) (.tmp 132))), none⟩
(.take (t_p 134 (.idx 1 (.tmp 123) (.tmp 125)))
(.only true ⟨none, (.eff (.store 1 (.tmp 134) (.tmp 131))), none⟩
(.take (t_p 135 (.idx 1 (.tmp 126) (.tmp 128)))
(.only true ⟨none, (.eff (.store 1 (.tmp 135) (.tmp 133))), none⟩
(.done)))))))))))))))))
(.ops [ o_m 136 4, o_p 137 (.bin .sub (.tmp 136) (.const (.int .i64 (4)))), o_m 4 137]))))))
(.skip)))
(.seq (.seq (.ops [ o_m 138 4, o_p 139 (.bin .geq (.tmp 138) (.const (.int .i64 (2))))])
(.cond (.tmp 139)
(.seq (.ops [ o_m 140 12, o_p 141 (.bin .rem (.tmp 140) (.const (.int .u32 (100)))), o_p 142 (.bin .mul (.tmp 141) (.const (.int .u32 (2)))), o_m 16 142])
(.seq (.ops [ o_m 143 12, o_p 144 (.bin .quo (.tmp 143) (.const (.int .u32 (100)))), o_m 12 144])
(.seq (.draw false
(.take (t_m 145 0)
(.take (t_m 146 4)
(.take (t_p 147 (.bin .sub (.tmp 146) (.const (.int .i64 (1)))))
(.take (t_m 148 0)
(.take (t_m 149 4)
(.take (t_p 150 (.bin .sub (.tmp 149) (.const (.int .i64 (2)))))
(.take (t_m 151 16)
(.take (t_p 152 (.bin .add (.tmp 151) (.const (.int .u32 (1)))))
(.take ⟨(some 153), (.pure (.sidx (.const (.string ⟨#[48, 48, 48, 49, 48, 50, 48, 51, 48, 52, 48, 53, 48, 54, 48, 55, 48, 56, 48, 57, 49, 48, 49, 49, 49, 50, 49, 51, 49, 52, 49, 53, 49, 54, 49, 55, 49, 56, 49, 57, 50, 48, 50, 49, 50, 50, 50, 51, 50, 52, 50, 53, 50, 54, 50, 55, 50, 56, 50, 57, 51, 48, 51, 49, 51, 50, 51, 51, 51, 52, 51, 53, 51, 54, 51, 55, 51, 56, 51, 57, 52, 48, 52, 49, 52, 50, 52, 51, 52, 52, 52, 53, 52, 54, 52, 55, 52, 56, 52, 57, 53, 48, 53, 49, 53, 50, 53, 51, 53, 52, 53, 53, 53, 54, 53, 55, 53, 56, 53, 57, 54, 48, 54, 49, 54, 50, 54, 51, 54, 52, 54, 53, 54, 54, 54, 55, 54, 56, 54, 57, 55, 48, 55, 49, 55, 50, 55, 51, 55, 52, 55, 53, 55, 54, 55, 55, 55, 56, 55, 57, 56, 48, 56, 49, 56, 50, 56, 51, 56, 52, 56, 53, 56, 54, 56, 55, 56, 56, 56, 57, 57, 48, 57, 49, 57, 50, 57, 51, 57, 52, 57, 53, 57, 54, 57, 55, 57, 56, 57, 57]⟩)) (.tmp 152))), none⟩
(.take (t_m 154 16)
(.take ⟨(some 155), (.pure (.sidx (.const (.string ⟨#[48, 48, 48, 49, 48, 50, 48, 51, 48, 52, 48, 53, 48, 54, 48, 55, 48, 56, 48, 57, 49, 48, 49, 49, 49, 50, 49, 51, 49, 52, 49, 53, 49, 54, 49, 55, 49, 56, 49, 57, 50, 48, 50, 49, 50, 50, 50, 51, 50, 52, 50, 53, 50, 54, 50, 55, 50, 56, 50, 57, 51, 48, 51, 49, 51, 50, 51, 51, 51, 52, 51, 53, 51, 54, 51, 55, 51, 56, 51, 57, 52, 48, 52, 49, 52, 50, 52, 51, 52, 52, 52, 53, 52, 54, 52, 55, 52, 56, 52, 57, 53, 48, 53, 49, 53, 50, 53, 51, 53, 52, 53, 53, 53, 54, 53, 55, 53, 56, 53, 57, 54, 48, 54, 49, 54, 50, 54, 51, 54, 52, 54, 53, 54, 54, 54, 55, 54, 56, 54, 57, 55, 48, 55, 49, 55, 50, 55, 51, 55, 52, 55, 53, 55, 54, 55, 55, 55, 56, 55, 57, 56, 48, 56, 49, 56, 50, 56, 51, 56, 52, 56, 53, 56, 54, 56, 55, 56, 56, 56, 57, 57, 48, 57, 49, 57, 50, 57, 51, 57, 52, 57, 53, 57, 54, 57, 55, 57, 56, 57, 57]⟩)) (.tmp 154))), none⟩
(.take (t_p 156 (.idx 1 (.tmp 145) (.tmp 147)))
(.only true ⟨none, (.eff (.store 1 (.tmp 156) (.tmp 153))), none⟩
(.take (t_p 157 (.idx 1 (.tmp 148) (.tmp 150)))
(.only true ⟨none, (.eff (.store 1 (.tmp 157) (.tmp 155))), none⟩
(.done)))))))))))))))))
(.ops [ o_m 158 4, o_p 159 (.bin .sub (.tmp 158) (.const (.int .i64 (2)))), o_m 4 159]))))
(.skip)))
(.seq (.ops [ o_m 160 4, o_p 161 (.bin .gtr (.tmp 160) (.const (.int .i64 (0))))])
(.cond (.tmp 161)
(.ops [ o_m 162 0, o_m 163 12, o_p 164 (.bin .add (.const (.int .u32 (48))) (.tmp 163)), o_p 165 (.conv .u8 (.tmp 164)), o_p 166 (.idx 1 (.tmp 162) (.const (.int .i64 (0)))),
.op ⟨none, (.eff (.store 1 (.tmp 166) (.tmp 165))), none⟩])
(.skip))))))),
[]⟩
theorem r_internal_strconv_formatBase10 : resFun Tryd.prog f_internal_strconv_formatBase10 = some c_internal_strconv_formatBase10 := by kernel_rfl

/- internal/strconv.formatBits -/
abbrev f_internal_strconv_formatBits : Nat := 63
def c_internal_strconv_formatBits : MFun := ⟨102, .seq (.ops [ o_p 10 (.mv (.const (.slice none 0 0))),
.op ⟨(some 11), (.pure (.mv (.const (.string ⟨#[]⟩)))), none⟩])
(.seq (.seq (.ops [ o_m 19 2, o_p 20 (.bin .lss (.tmp 19) (.const (.int .i64 (2)))), o_m 21 20,
.split 21,
.op ⟨(some 22), (.pure (.mv (.tmp 2))), (some (21, false))⟩,
.op ⟨(some 23), (.pure (.bin .eql (.tmp 22) (.const (.int .i64 (10))))), (some (21, false))⟩, o_p 24 (.pick (.tmp 21) (.const (.bool true)) (.tmp 23)), o_m 25 24,
.split 25,
.op ⟨(some 26), (.pure (.mv (.tmp 2))), (some (25, false))⟩,
.op ⟨(some 27), (.pure (.bin .gtr (.tmp 26) (.const (.int .i64 (36))))), (some (25, false))⟩, o_p 28 (.pick (.tmp 25) (.const (.bool true)) (.tmp 27))])
(.cond (.tmp 28)
(.ops [ o_e 29 (.fail),
.op ⟨none, (.eff (.fail)), none⟩])
(.skip)))
(.seq (.ops [ o_e 12 (.new 97 [(.int .u8 (0)), (.int .u8 (0)), (.int .u8 (0)), (.int .u8 (0)), (.int .u8 (0)), (.int .u8 (0)), (.int .u8 (0)), (.int .u8 (0)), (.int .u8 (0)), (.int .u8 (0)), (.int .u8 (0)), (.int .u8 (0)), (.int .u8 (0)), (.int .u8 (0)), (.int .u8 (0)), (.int .u8 (0)), (.int .u8 (0)), (.int .u8 (0)), (.int .u8 (0)), (.int .u8 (0)), (.int .u8 (0)), (.int .u8 (0)), (.int .u8 (0)), (.int .u8 (0)), (.int .u8 (0)), (.int .u8 (0)), (.int .u8 (0)), (.int .u8 (0)), (.int .u8 (0)), (.int .u8 (0)), (.int .u8 (0)), (.int .u8 (0)), (.int .u8 (0)), (.int .u8 (0)), (.int .u8 (0)), (.int .u8 (0)), (.int .u8 (0)), (.int .u8 (0)), (.int .u8 (0)), (.int .u8 (0)), (.int .u8 (0)), (.int .u8 (0)), (.int .u8 (0)), (.int .u8 (0)), (.int .u8 (0)), (.int .u8 (0)), (.int .u8 (0)), (.int .u8 (0)), (.int .u8 (0)), (.int .u8 (0)), (.int .u8 (0)), (.int .u8 (0)), (.int .u8 (0)), (.int .u8 (0)), (.int .u8 (0)), (.int .u8 (0)), (.int .u8 (0)), (.int .u8 (0)), (.int .u8 (0)), (.int .u8 (0)), (.int .u8 (0)), (.int .u8 (0)), (.int .u8 (0)), (.int .u8 (0)), (.int .u8 (0))])])
(.seq (.ops [ o_p 13 (.mv (.const (.int .i64 (65))))])
(.seq (.seq (.ops [ o_m 30 3])
(.cond (.tmp 30)
(.ops [ o_m 31 1, o_p 32 (.ineg (.tmp 31)), o_m 1 32])
(.skip)))
(.seq (.seq (.ops [ o_m 33 2, o_e 34 (.call 69 [(.tmp 33)])])
(.cond (.tmp 34)
(.seq (.ops [ o_m 35 2, o_p 36 (.conv .u64 (.tmp 35)), o_e 37 (.call 70 [(.tmp 36)]), o_p 38 (.conv .u64 (.tmp 37)), o_m 14 38])
(.seq (.ops [ o_m 39 2, o_p 40 (.conv .u64 (.tmp 39)), o_m 15 40])
(.seq (.ops [ o_m 41 2, o_p 42 (.conv .u64 (.tmp 41)), o_p 43 (.bin .sub (.tmp 42) (.const (.int .u64 (1)))), o_m 16 43])
(.seq (.block 0 (.loop (.seq (.seq (.ops [ o_m 44 1, o_m 45 15, o_p 46 (.bin .geq (.tmp 44) (.tmp 45))])
(.cond (.tmp 46)
(.skip)
(.exit 0)))
(.block 1 (.seq (.ops [ o_m 47 13, o_p 48 (.bin .sub (.tmp 47) (.const (.int .i64 (1)))), o_m 13 48])
(.seq (.ops [ o_m 49 13, o_m 50 1, o_m 51 16, o_p 52 (.bin .and (.tmp 50) (.tmp 51)),
.op ⟨(some 53), (.pure (.sidx (.const (.string ⟨#[48, 49, 50, 51, 52, 53, 54, 55, 56, 57, 97, 98, 99, 100, 101, 102, 103, 104, 105, 106, 107, 108, 109, 110, 111, 112, 113, 114, 115, 116, 117, 118, 119, 120, 121, 122]⟩)) (.tmp 52))), none⟩, o_p 54 (.idxA 65 1 (.tmp 12) (.tmp 49)),
.op ⟨none, (.eff (.store 1 (.tmp 54) (.tmp 53))), none⟩])
(.ops [ o_m 55 1, o_m 56 14, o_p 57 (.bin .shr (.tmp 55) (.tmp 56)), o_m 1 57])))))))
(.seq (.ops [ o_m 58 13, o_p 59 (.bin .sub (.tmp 58) (.const (.int .i64 (1)))), o_m 13 59])
(.ops [ o_m 60 13, o_m 61 1,
.op ⟨(some 62), (.pure (.sidx (.const (.string ⟨#[48, 49, 50, 51, 52, 53, 54, 55, 56, 57, 97, 98, 99, 100, 101, 102, 103, 104, 105, 106, 107, 108, 109, 110, 111, 112, 113, 114, 115, 116, 117, 118, 119, 120, 121, 122]⟩)) (.tmp 61))), none⟩, o_p 63 (.idxA 65 1 (.tmp 12) (.tmp 60)),
.op ⟨none, (.eff (.store 1 (.tmp 63) (.tmp 62))), none⟩]))))))
(.seq (.ops [ o_m 64 2, o_p 65 (.conv .u64 (.tmp 64)), o_m 17 65])
(.seq (.block 2 (.loop (.seq (.seq (.ops [ o_m 66 1, o_m 67 17, o_p 68 (.bin .geq (.tmp 66) (.tmp 67))])
(.cond (.tmp 68)
(.skip)
(.exit 2)))
(.block 3 (.seq (.ops [ o_m 69 13, o_p 70 (.bin .sub (.tmp 69) (.const (.int .i64 (1)))), o_m 13 70])
(.seq (.ops [ o_m 71 1, o_m 72 17, o_p 73 (.bin .quo (.tmp 71) (.tmp 72)), o_m 18 73])
(.seq (.ops [ o_m 74 13, o_m 75 1, o_m 76 18, o_m 77 17, o_p 78 (.bin .mul (.tmp 76) (.tmp 77)), o_p 79 (.bin .sub (.tmp 75) (.tmp 78)),
.op ⟨(some 80), (.pure (.sidx (.const (.string ⟨#[48, 49, 50, 51, 52, 53, 54, 55, 56, 57, 97, 98, 99, 100, 101, 102, 103, 104, 105, 106, 107, 108, 109, 110, 111, 112, 113, 114, 115, 116, 117, 118, 119, 120, 121, 122]⟩)) (.tmp 79))), none⟩, o_p 81 (.idxA 65 1 (.tmp 12) (.tmp 74)),
.op ⟨none, (.eff (.store 1 (.tmp 81) (.tmp 80))), none⟩])
(.ops [ o_m 82 18, o_m 1 82]))))))))
(.seq (.ops [ o_m 83 13, o_p 84 (.bin .sub (.tmp 83) (.const (.int .i64 (1)))), o_m 13 84])
(.ops [ o_m 85 13, o_m 86 1,
.op ⟨(some 87), (.pure (.sidx (.const (.string ⟨#[48, 49, 50, 51, 52, 53, 54, 55, 56, 57, 97, 98, 99, 100, 101, 102, 103, 104, 105, 106, 107, 108, 109, 110, 111, 112, 113, 114, 115, 116, 117, 118, 119, 120, 121, 122]⟩)) (.tmp 86))), none⟩, o_p 88 (.idxA 65 1 (.tmp 12) (.tmp 85)),
.op ⟨none, (.eff (.store 1 (.tmp 88) (.tmp 87))), none⟩]))))))
(.seq (.seq (.ops [ o_m 89 3])
(.cond (.tmp 89)
(.seq (.ops [ o_m 90 13, o_p 91 (.bin .sub (.tmp 90) (.const (.int .i64 (1)))), o_m 13 91])
(.ops [ o_m 92 13, o_p 93 (.idxA 65 1 (.tmp 12) (.tmp 92)),
.op ⟨none, (.eff (.store 1 (.tmp 93) (.const (.int .u8 (45))))), none⟩]))
(.skip)))
(.seq (.seq (.ops [ o_m 94 4])
(.cond (.tmp 94)
(.seq (.ops [ o_m 95 0, o_m 96 13, o_e 97 (.fail), o_e 98 (.app 5 1 1 (.tmp 95) (.tmp 97)), o_m 10 98])
(.ret))
(.skip)))
(.seq (.ops [ o_m 99 13, o_e 100 (.fail), o_e 101 (.bstr (.tmp 100)), o_m 11 101])
(.ret))))))))),
[.tmp 10, .tmp 11]⟩
theorem r_internal_strconv_formatBits : resFun Tryd.prog f_internal_strconv_formatBits = some c_internal_strconv_formatBits := by kernel_rfl

/- internal/strconv.lower -/
abbrev f_internal_strconv_lower : Nat := 64
def c_internal_strconv_lower : MFun := ⟨5, .seq (.ops [ o_p 2 (.mv (.const (.int .u8 (0))))])
(.seq (.ops [ o_m 3 0, o_p 4 (.bin .or (.tmp 3) (.const (.int .u8 (32)))), o_m 2 4])
(.ret)),
[.tmp 2]⟩
theorem r_internal_strconv_lower : resFun Tryd.prog f_internal_strconv_lower = some c_internal_strconv_lower := by kernel_rfl

/- internal/strconv.underscoreOK -/
abbrev f_internal_strconv_underscoreOK : Nat := 65
def c_internal_strconv_underscoreOK : MFun := ⟨94, .seq (.ops [ o_p 2 (.mv (.const (.bool false)))])
(.seq (.ops [ o_p 3 (.mv (.const (.int .i32 (94))))])
(.seq (.ops [ o_p 4 (.mv (.const (.int .i64 (0))))])
(.seq (.seq (.ops [ o_m 6 0, o_p 7 (.slen (.tmp 6)), o_p 8 (.bin .geq (.tmp 7) (.const (.int .i64 (1)))), o_m 9 8,
.split 9,
.op ⟨(some 10), (.pure (.mv (.tmp 0))), (some (9, true))⟩,
.op ⟨(some 11), (.pure (.sidx (.tmp 10) (.const (.int .i64 (0))))), (some (9, true))⟩,
.op ⟨(some 12), (.pure (.bin .eql (.tmp 11) (.const (.int .u8 (45))))), (some (9, true))⟩,
.op ⟨(some 13), (.pure (.mv (.tmp 12))), (some (9, true))⟩,
.split 13,
.op ⟨(some 14), (.pure (.mv (.tmp 0))), (some (13, false))⟩,
.op ⟨(some 15), (.pure (.sidx (.tmp 14) (.const (.int .i64 (0))))), (some (13, false))⟩,
.op ⟨(some 16), (.pure (.bin .eql (.tmp 15) (.const (.int .u8 (43))))), (some (13, false))⟩,
.op ⟨(some 17), (.pure (.pick (.tmp 13) (.const (.bool true)) (.tmp 16))), (some (9, true))⟩, o_p 18 (.pick (.tmp 9) (.tmp 17) (.const (.bool false)))])
(.cond (.tmp 18)
(.ops [ o_m 19 0, o_p 20 (.sslc (.tmp 19) (some (.const (.int .i64 (1)))) none), o_m 0 20])
(.skip)))
(.seq (.ops [ o_p 5 (.mv (.const (.bool false)))])
(.seq (.seq (.ops [ o_m 21 0, o_p 22 (.slen (.tmp 21)), o_p 23 (.bin .geq (.tmp 22) (.const (.int .i64 (2)))), o_m 24 23,
.split 24,
.op ⟨(some 25), (.pure (.mv (.tmp 0))), (some (24, true))⟩,
.op ⟨(some 26), (.pure (.sidx (.tmp 25) (.const (.int .i64 (0))))), (some (24, true))⟩,
.op ⟨(some 27), (.pure (.bin .eql (.tmp 26) (.const (.int .u8 (48))))), (some (24, true))⟩, o_p 28 (.pick (.tmp 24) (.tmp 27) (.const (.bool false))), o_m 29 28,
.split 29,
.op ⟨(some 30), (.pure (.mv (.tmp 0))), (some (29, true))⟩,
.op ⟨(some 31), (.pure (.sidx (.tmp 30) (.const (.int .i64 (1))))), (some (29, true))⟩,
.op ⟨(some 32), (.eff (.call 64 [(.tmp 31)])), (some (29, true))⟩,
.op ⟨(some 33), (.pure (.bin .eql (.tmp 32) (.const (.int .u8 (98))))), (some (29, true))⟩,
.op ⟨(some 34), (.pure (.mv (.tmp 33))), (some (29, true))⟩,
.split 34,
.op ⟨(some 35), (.pure (.mv (.tmp 0))), (some (34, false))⟩,
.op ⟨(some 36), (.pure (.sidx (.tmp 35) (.const (.int .i64 (1))))), (some (34, false))⟩,
.op ⟨(some 37), (.eff (.call 64 [(.tmp 36)])), (some (34, false))⟩,
.op ⟨(some 38), (.pure (.bin .eql (.tmp 37) (.const (.int .u8 (111))))), (some (34, false))⟩,
.op ⟨(some 39), (.pure (.pick (.tmp 34) (.const (.bool true)) (.tmp 38))), (some (29, true))⟩,
.op ⟨(some 40), (.pure (.mv (.tmp 39))), (some (29, true))⟩,
.split 40,
.op ⟨(some 41), (.pure (.mv (.tmp 0))), (some (40, false))⟩,
.op ⟨(some 42), (.pure (.sidx (.tmp 41) (.const (.int .i64 (1))))), (some (40, false))⟩,
.op ⟨(some 43), (.eff (.call 64 [(.tmp 42)])), (some (40, false))⟩,
.op ⟨(some 44), (.pure (.bin .eql (.tmp 43) (.const (.int .u8 (120))))), (some (40, false))⟩,
.op ⟨(some 45), (.pure (.pick (.tmp 40) (.const (.bool true)) (.tmp 44))), (some (29, true))⟩, o_p 46 (.pick (.tmp 29) (.tmp 45) (.const (.bool false)))])
(.cond (.tmp 46)
(.seq (.ops [ o_p 4 (.mv (.const (.int .i64 (2))))])
(.seq (.ops [ o_p 3 (.mv (.const (.int .i32 (48))))])
(.ops [ o_m 47 0, o_p 48 (.sidx (.tmp 47) (.const (.int .i64 (1)))), o_e 49 (.call 64 [(.tmp 48)]), o_p 50 (.bin .eql (.tmp 49) (.const (.int .u8 (120)))), o_m 5 50])))
(.skip)))
(.seq (.block 0 (.loop (.seq (.seq (.ops [ o_m 51 4, o_m 52 0, o_p 53 (.slen (.tmp 52)), o_p 54 (.bin .lss (.tmp 51) (.tmp 53))])
(.cond (.tmp 54)
(.skip)
(.exit 0)))
(.seq (.block 1 (.seq (.seq (.ops [ o_m 57 0, o_m 58 4, o_p 59 (.sidx (.tmp 57) (.tmp 58)), o_p 60 (.bin .leq (.const (.int .u8 (48))) (.tmp 59)), o_m 61 60,
.split 61,
.op ⟨(some 62), (.pure (.mv (.tmp 0))), (some (61, true))⟩,
.op ⟨(some 63), (.pure (.mv (.tmp 4))), (some (61, true))⟩,
.op ⟨(some 64), (.pure (.sidx (.tmp 62) (.tmp 63))), (some (61, true))⟩,
.op ⟨(some 65), (.pure (.bin .leq (.tmp 64) (.const (.int .u8 (57))))), (some (61, true))⟩, o_p 66 (.pick (.tmp 61) (.tmp 65) (.const (.bool false))), o_m 67 66,
.split 67,
.op ⟨(some 68), (.pure (.mv (.tmp 5))), (some (67, false))⟩,
.op ⟨(some 69), (.pure (.mv (.tmp 68))), (some (67, false))⟩,
.split 69,
.op ⟨(some 70), (.pure (.mv (.tmp 0))), (some (69, true))⟩,
.op ⟨(some 71), (.pure (.mv (.tmp 4))), (some (69, true))⟩,
.op ⟨(some 72), (.pure (.sidx (.tmp 70) (.tmp 71))), (some (69, true))⟩,
.op ⟨(some 73), (.eff (.call 64 [(.tmp 72)])), (some (69, true))⟩,
.op ⟨(some 74), (.pure (.bin .leq (.const (.int .u8 (97))) (.tmp 73))), (some (69, true))⟩,
.op ⟨(some 75), (.pure (.pick (.tmp 69) (.tmp 74) (.const (.bool false)))), (some (67, false))⟩,
.op ⟨(some 76), (.pure (.mv (.tmp 75))), (some (67, false))⟩,
.split 76,
.op ⟨(some 77), (.pure (.mv (.tmp 0))), (some (76, true))⟩,
.op ⟨(some 78), (.pure (.mv (.tmp 4))), (some (76, true))⟩,
.op ⟨(some 79), (.pure (.sidx (.tmp 77) (.tmp 78))), (some (76, true))⟩,
.op ⟨(some 80), (.eff (.call 64 [(.tmp 79)])), (some (76, true))⟩,
.op ⟨(some 81), (.pure (.bin .leq (.tmp 80) (.const (.int .u8 (102))))), (some (76, true))⟩,
.op ⟨(some 82), (.pure (.pick (.tmp 76) (.tmp 81) (.const (.bool false)))), (some (67, false))⟩, o_p 83 (.pick (.tmp 67) (.const (.bool true)) (.tmp 82))])
(.cond (.tmp 83)
(.seq (.ops [ o_p 3 (.mv (.const (.int .i32 (48))))])
(.exit 1))
(.skip)))
(.seq (.seq (.ops [ o_m 84 0, o_m 85 4, o_p 86 (.sidx (.tmp 84) (.tmp 85)), o_p 87 (.bin .eql (.tmp 86) (.const (.int .u8 (95))))])
(.cond (.tmp 87)
(.seq (.seq (.ops [ o_m 88 3, o_p 89 (.bin .neq (.tmp 88) (.const (.int .i32 (48))))])
(.cond (.tmp 89)
(.seq (.ops [ o_p 2 (.mv (.const (.bool false)))])
(.ret))
(.skip)))
(.seq (.ops [ o_p 3 (.mv (.const (.int .i32 (95))))])
(.exit 1)))
(.skip)))
(.seq (.seq (.ops [ o_m 90 3, o_p 91 (.bin .eql (.tmp 90) (.const (.int .i32 (95))))])
(.cond (.tmp 91)
(.seq (.ops [ o_p 2 (.mv (.const (.bool false)))])
(.ret))
(.skip)))
(.ops [ o_p 3 (.mv (.const (.int .i32 (33))))])))))
(.ops [ o_m 55 4, o_p 56 (.bin .add (.tmp 55) (.const (.int .i64 (1)))), o_m 4 56])))))
(.seq (.ops [ o_m 92 3, o_p 93 (.bin .neq (.tmp 92) (.const (.int .i32 (95)))), o_m 2 93])
(.ret)))))))),
[.tmp 2]⟩
theorem r_internal_strconv_underscoreOK : resFun Tryd.prog f_internal_strconv_underscoreOK = some c_internal_strconv_underscoreOK := by kernel_rfl

/- internal/strconv.log10Pow2 -/
abbrev f_internal_strconv_log10Pow2 : Nat := 66
def c_internal_strconv_log10Pow2 : MFun := ⟨6, .seq (.ops [ o_p 2 (.mv (.const (.int .i64 (0))))])
(.seq (.ops [ o_m 3 0, o_p 4 (.bin .mul (.tmp 3) (.const (.int .i64 (78913)))), o_p 5 (.bin .shr (.tmp 4) (.const (.int .u64 (18)))), o_m 2 5])
(.ret)),
[.tmp 2]⟩
theorem r_internal_strconv_log10Pow2 : resFun Tryd.prog f_internal_strconv_log10Pow2 = some c_internal_strconv_log10Pow2 := by kernel_rfl

/- math/bits.Len64 -/
abbrev f_math_bits_Len64 : Nat := 67
def c_math_bits_Len64 : MFun := ⟨25, .seq (.ops [ o_p 2 (.mv (.const (.int .i64 (0))))])
(.seq (.seq (.ops [ o_m 3 0, o_p 4 (.bin .geq (.tmp 3) (.const (.int .u64 (4294967296))))])
(.cond (.tmp 4)
(.seq (.ops [ o_m 5 0, o_p 6 (.bin .shr (.tmp 5) (.const (.int .u64 (32)))), o_m 0 6])
(.ops [ o_p 2 (.mv (.const (.int .i64 (32))))]))
(.skip)))
(.seq (.seq (.ops [ o_m 7 0, o_p 8 (.bin .geq (.tmp 7) (.const (.int .u64 (65536))))])
(.cond (.tmp 8)
(.seq (.ops [ o_m 9 0, o_p 10 (.bin .shr (.tmp 9) (.const (.int .u64 (16)))), o_m 0 10])
(.ops [ o_m 11 2, o_p 12 (.bin .add (.tmp 11) (.const (.int .i64 (16)))), o_m 2 12]))
(.skip)))
(.seq (.seq (.ops [ o_m 13 0, o_p 14 (.bin .geq (.tmp 13) (.const (.int .u64 (256))))])
(.cond (.tmp 14)
(.seq (.ops [ o_m 15 0, o_p 16 (.bin .shr (.tmp 15) (.const (.int .u64 (8)))), o_m 0 16])
(.ops [ o_m 17 2, o_p 18 (.bin .add (.tmp 17) (.const (.int .i64 (8)))), o_m 2 18]))
(.skip)))
(.seq (.ops [ o_m 19 2, o_m 20 0, o_p 21 (.conv .u8 (.tmp 20)),
.op ⟨(some 22), (.pure (.sidx (.const (.string ⟨#[0, 1, 2, 2, 3, 3, 3, 3, 4, 4, 4, 4, 4, 4, 4, 4, 5, 5, 5, 5, 5, 5, 5, 5, 5, 5, 5, 5, 5, 5, 5, 5, 6, 6, 6, 6, 6, 6, 6, 6, 6, 6, 6, 6, 6, 6, 6, 6, 6, 6, 6, 6, 6, 6, 6, 6, 6, 6, 6, 6, 6, 6, 6, 6, 7, 7, 7, 7, 7, 7, 7, 7, 7, 7, 7, 7, 7, 7, 7, 7, 7, 7, 7, 7, 7, 7, 7, 7, 7, 7, 7, 7, 7, 7, 7, 7, 7, 7, 7, 7, 7, 7, 7, 7, 7, 7, 7, 7, 7, 7, 7, 7, 7, 7, 7, 7, 7, 7, 7, 7, 7, 7, 7, 7, 7, 7, 7, 7, 8, 8, 8, 8, 8, 8, 8, 8, 8, 8, 8, 8, 8, 8, 8, 8, 8, 8, 8, 8, 8, 8, 8, 8, 8, 8, 8, 8, 8, 8, 8, 8, 8, 8, 8, 8, 8, 8, 8, 8, 8, 8, 8, 8, 8, 8, 8, 8, 8, 8, 8, 8, 8, 8, 8, 8, 8, 8, 8, 8, 8, 8, 8, 8, 8, 8, 8, 8, 8, 8, 8, 8, 8, 8, 8, 8, 8, 8, 8, 8, 8, 8, 8, 8, 8, 8, 8, 8, 8, 8, 8, 8, 8, 8, 8, 8, 8, 8, 8, 8, 8, 8, 8, 8, 8, 8, 8, 8, 8, 8, 8, 8, 8, 8, 8, 8, 8, 8, 8, 8, 8, 8, 8, 8, 8, 8, 8, 8]⟩)) (.tmp 21))), none⟩, o_p 23 (.conv .i64 (.tmp 22)), o_p 24 (.bin .add (.tmp 19) (.tmp 23)), o_m 2 24])
(.ret))))),
[.tmp 2]⟩
theorem r_math_bits_Len64 : resFun Tryd.prog f_math_bits_Len64 = some c_math_bits_Len64 := by kernel_rfl

/- internal/strconv.bool2[int] -/
abbrev f_internal_strconv_bool2_int : Nat := 68
def c_internal_strconv_bool2_int : MFun := ⟨4, .seq (.ops [ o_p 2 (.mv (.const (.int .i64 (0))))])
(.seq (.seq (.ops [ o_m 3 0])
(.cond (.tmp 3)
(.seq (.ops [ o_p 2 (.mv (.const (.int .i64 (1))))])
(.ret))
(.skip)))
(.seq (.ops [ o_p 2 (.mv (.const (.int .i64 (0))))])
(.ret))),
[.tmp 2]⟩
theorem r_internal_strconv_bool2_int : resFun Tryd.prog f_internal_strconv_bool2_int = some c_internal_strconv_bool2_int := by kernel_rfl

/- internal/strconv.isPowerOfTwo -/
abbrev f_internal_strconv_isPowerOfTwo : Nat := 69
def c_internal_strconv_isPowerOfTwo : MFun := ⟨8, .seq (.ops [ o_p 2 (.mv (.const (.bool false)))])
(.seq (.ops [ o_m 3 0, o_m 4 0, o_p 5 (.bin .sub (.tmp 4) (.const (.int .i64 (1)))), o_p 6 (.bin .and (.tmp 3) (.tmp 5)), o_p 7 (.bin .eql (.tmp 6) (.const (.int .i64 (0)))), o_m 2 7])
(.ret)),
[.tmp 2]⟩
theorem r_internal_strconv_isPowerOfTwo : resFun Tryd.prog f_internal_strconv_isPowerOfTwo = some c_internal_strconv_isPowerOfTwo := by kernel_rfl

/- math/bits.TrailingZeros -/
abbrev f_math_bits_TrailingZeros : Nat := 70
def c_math_bits_TrailingZeros : MFun := ⟨8, .seq (.ops [ o_p 2 (.mv (.const (.int .i64 (0))))])
(.seq (.cond (.const (.bool false))
(.seq (.ops [ o_m 3 0, o_p 4 (.conv .u32 (.tmp 3)), o_e 5 (.call 71 [(.tmp 4)]), o_m 2 5])
(.ret))
(.skip))
(.seq (.ops [ o_m 6 0, o_e 7 (.call 72 [(.tmp 6)]), o_m 2 7])
(.ret))),
[.tmp 2]⟩
theorem r_math_bits_TrailingZeros : resFun Tryd.prog f_math_bits_TrailingZeros = some c_math_bits_TrailingZeros := by kernel_rfl

/- math/bits.TrailingZeros32 -/
abbrev f_math_bits_TrailingZeros32 : Nat := 71
def c_math_bits_TrailingZeros32 : MFun := ⟨14, .seq (.ops [ o_p 2 (.mv (.const (.int .i64 (0))))])
(.seq (.seq (.ops [ o_m 3 0, o_p 4 (.bin .eql (.tmp 3) (.const (.int .u32 (0))))])
(.cond (.tmp 4)
(.seq (.ops [ o_p 2 (.mv (.const (.int .i64 (32))))])
(.ret))
(.skip)))
(.seq (.ops [ o_m 5 0, o_m 6 0, o_p 7 (.ineg (.tmp 6)), o_p 8 (.bin .and (.tmp 5) (.tmp 7)), o_p 9 (.bin .mul (.tmp 8) (.const (.int .u32 (125613361)))), o_p 10 (.bin .shr (.tmp 9) (.const (.int .u64 (27)))), o_p 11 (.idxA 32 1 (.global 6) (.tmp 10)), o_l 12 11, o_p 13 (.conv .i64 (.tmp 12)), o_m 2 13])
(.ret))),
[.tmp 2]⟩
theorem r_math_bits_TrailingZeros32 : resFun Tryd.prog f_math_bits_TrailingZeros32 = some c_math_bits_TrailingZeros32 := by kernel_rfl

/- math/bits.TrailingZeros64 -/
abbrev f_math_bits_TrailingZeros64 : Nat := 72
def c_math_bits_TrailingZeros64 : MFun := ⟨14, .seq (.ops [ o_p 2 (.mv (.const (.int .i64 (0))))])
(.seq (.seq (.ops [ o_m 3 0, o_p 4 (.bin .eql (.tmp 3) (.const (.int .u64 (0))))])
(.cond (.tmp 4)
(.seq (.ops [ o_p 2 (.mv (.const (.int .i64 (64))))])
(.ret))
(.skip)))
(.seq (.ops [ o_m 5 0, o_m 6 0, o_p 7 (.ineg (.tmp 6)), o_p 8 (.bin .and (.tmp 5) (.tmp 7)), o_p 9 (.bin .mul (.tmp 8) (.const (.int .u64 (285870213051353865)))), o_p 10 (.bin .shr (.tmp 9) (.const (.int .u64 (58)))), o_p 11 (.idxA 64 1 (.global 7) (.tmp 10)), o_l 12 11, o_p 13 (.conv .i64 (.tmp 12)), o_m 2 13])
(.ret))),
[.tmp 2]⟩
theorem r_math_bits_TrailingZeros64 : resFun Tryd.prog f_math_bits_TrailingZeros64 = some c_math_bits_TrailingZeros64 := by kernel_rfl
end Go.Proofs.YtbikhpphdhffaaaDoor
