/- The code of this seat's functions, resolved, written by a program of mine; each is held against the given program by the kernel. Condition: none. -/
import Derived.Test.YtbikhpphdhffaabDoorProg
import Derived.Test.YtbikhpphdhffaabDoorBase9
import Derived.KernelRfl
namespace Go.Proofs.YtbikhpphdhffaabDoor
open Go.Vc

/- internal/strconv.formatBits -/
abbrev f_internal_strconv_formatBits : Nat := 34
def c_internal_strconv_formatBits : MFun := ⟨102, .seq (.ops [ o_p 10 (.mv (.const (.slice none 0 0))),
.op ⟨(some 11), (.pure (.mv (.const (.string ⟨#[]⟩)))), none⟩])
(.seq (.seq (.ops [ o_m 19 2, o_p 20 (.bin .lss (.tmp 19) (.const (.int .i64 (2)))), o_m 21 20,
.split 21,
.op ⟨(some 22), (.pure (.mv (.tmp 2))), (some (21, false))⟩,
.op ⟨(some 23), (.pure (.bin .eql (.tmp 22) (.const (.int .i64 (10))))), (some (21, false))⟩, o_p 24 (.pick (.tmp 21) (.const (.bool true)) (.tmp 23)), o_m 25 24,
.split 25,
.op ⟨(some 26), (.pure (.mv (.tmp 2))), (some (25, false))⟩,
.op ⟨(some 27), (.pure (.bin .gtr (.tmp 26) (.const (.int .i64 (36))))), (some (25, false))⟩, o_p 28 (.pick (.tmp 25) (.const (.bool true)) (.tmp 27))])
(.cond (.tmp 28)
(.ops [ o_e 29 (.fail),
.op ⟨none, (.eff (.fail)), none⟩])
(.skip)))
(.seq (.ops [ o_e 12 (.new 69 [(.int .u8 (0)), (.int .u8 (0)), (.int .u8 (0)), (.int .u8 (0)), (.int .u8 (0)), (.int .u8 (0)), (.int .u8 (0)), (.int .u8 (0)), (.int .u8 (0)), (.int .u8 (0)), (.int .u8 (0)), (.int .u8 (0)), (.int .u8 (0)), (.int .u8 (0)), (.int .u8 (0)), (.int .u8 (0)), (.int .u8 (0)), (.int .u8 (0)), (.int .u8 (0)), (.int .u8 (0)), (.int .u8 (0)), (.int .u8 (0)), (.int .u8 (0)), (.int .u8 (0)), (.int .u8 (0)), (.int .u8 (0)), (.int .u8 (0)), (.int .u8 (0)), (.int .u8 (0)), (.int .u8 (0)), (.int .u8 (0)), (.int .u8 (0)), (.int .u8 (0)), (.int .u8 (0)), (.int .u8 (0)), (.int .u8 (0)), (.int .u8 (0)), (.int .u8 (0)), (.int .u8 (0)), (.int .u8 (0)), (.int .u8 (0)), (.int .u8 (0)), (.int .u8 (0)), (.int .u8 (0)), (.int .u8 (0)), (.int .u8 (0)), (.int .u8 (0)), (.int .u8 (0)), (.int .u8 (0)), (.int .u8 (0)), (.int .u8 (0)), (.int .u8 (0)), (.int .u8 (0)), (.int .u8 (0)), (.int .u8 (0)), (.int .u8 (0)), (.int .u8 (0)), (.int .u8 (0)), (.int .u8 (0)), (.int .u8 (0)), (.int .u8 (0)), (.int .u8 (0)), (.int .u8 (0)), (.int .u8 (0)), (.int .u8 (0))])])
(.seq (.ops [ o_p 13 (.mv (.const (.int .i64 (65))))])
(.seq (.seq (.ops [ o_m 30 3])
(.cond (.tmp 30)
(.ops [ o_m 31 1, o_p 32 (.ineg (.tmp 31)), o_m 1 32])
(.skip)))
(.seq (.seq (.ops [ o_m 33 2, o_e 34 (.call 40 [(.tmp 33)])])
(.cond (.tmp 34)
(.seq (.ops [ o_m 35 2, o_p 36 (.conv .u64 (.tmp 35)), o_e 37 (.call 41 [(.tmp 36)]), o_p 38 (.conv .u64 (.tmp 37)), o_m 14 38])
(.seq (.ops [ o_m 39 2, o_p 40 (.conv .u64 (.tmp 39)), o_m 15 40])
(.seq (.ops [ o_m 41 2, o_p 42 (.conv .u64 (.tmp 41)), o_p 43 (.bin .sub (.tmp 42) (.const (.int .u64 (1)))), o_m 16 43])
(.seq (.block 0 (.loop (.seq (.seq (.ops [ o_m 44 1, o_m 45 15, o_p 46 (.bin .geq (.tmp 44) (.tmp 45))])
(.cond (.tmp 46)
(.skip)
(.exit 0)))
(.block 1 (.seq (.ops [ o_m 47 13, o_p 48 (.bin .sub (.tmp 47) (.const (.int .i64 (1)))), o_m 13 48])
(.seq (.ops [ o_m 49 13, o_m 50 1, o_m 51 16, o_p 52 (.bin .and (.tmp 50) (.tmp 51)),
.op ⟨(some 53), (.pure (.sidx (.const (.string ⟨#[48, 49, 50, 51, 52, 53, 54, 55, 56, 57, 97, 98, 99, 100, 101, 102, 103, 104, 105, 106, 107, 108, 109, 110, 111, 112, 113, 114, 115, 116, 117, 118, 119, 120, 121, 122]⟩)) (.tmp 52))), none⟩, o_p 54 (.idxA 65 1 (.tmp 12) (.tmp 49)),
.op ⟨none, (.eff (.store 1 (.tmp 54) (.tmp 53))), none⟩])
(.ops [ o_m 55 1, o_m 56 14, o_p 57 (.bin .shr (.tmp 55) (.tmp 56)), o_m 1 57])))))))
(.seq (.ops [ o_m 58 13, o_p 59 (.bin .sub (.tmp 58) (.const (.int .i64 (1)))), o_m 13 59])
(.ops [ o_m 60 13, o_m 61 1,
.op ⟨(some 62), (.pure (.sidx (.const (.string ⟨#[48, 49, 50, 51, 52, 53, 54, 55, 56, 57, 97, 98, 99, 100, 101, 102, 103, 104, 105, 106, 107, 108, 109, 110, 111, 112, 113, 114, 115, 116, 117, 118, 119, 120, 121, 122]⟩)) (.tmp 61))), none⟩, o_p 63 (.idxA 65 1 (.tmp 12) (.tmp 60)),
.op ⟨none, (.eff (.store 1 (.tmp 63) (.tmp 62))), none⟩]))))))
(.seq (.ops [ o_m 64 2, o_p 65 (.conv .u64 (.tmp 64)), o_m 17 65])
(.seq (.block 2 (.loop (.seq (.seq (.ops [ o_m 66 1, o_m 67 17, o_p 68 (.bin .geq (.tmp 66) (.tmp 67))])
(.cond (.tmp 68)
(.skip)
(.exit 2)))
(.block 3 (.seq (.ops [ o_m 69 13, o_p 70 (.bin .sub (.tmp 69) (.const (.int .i64 (1)))), o_m 13 70])
(.seq (.ops [ o_m 71 1, o_m 72 17, o_p 73 (.bin .quo (.tmp 71) (.tmp 72)), o_m 18 73])
(.seq (.ops [ o_m 74 13, o_m 75 1, o_m 76 18, o_m 77 17, o_p 78 (.bin .mul (.tmp 76) (.tmp 77)), o_p 79 (.bin .sub (.tmp 75) (.tmp 78)),
.op ⟨(some 80), (.pure (.sidx (.const (.string ⟨#[48, 49, 50, 51, 52, 53, 54, 55, 56, 57, 97, 98, 99, 100, 101, 102, 103, 104, 105, 106, 107, 108, 109, 110, 111, 112, 113, 114, 115, 116, 117, 118, 119, 120, 121, 122]⟩)) (.tmp 79))), none⟩, o_p 81 (.idxA 65 1 (.tmp 12) (.tmp 74)),
.op ⟨none, (.eff (.store 1 (.tmp 81) (.tmp 80))), none⟩])
(.ops [ o_m 82 18, o_m 1 82]))))))))
(.seq (.ops [ o_m 83 13, o_p 84 (.bin .sub (.tmp 83) (.const (.int .i64 (1)))), o_m 13 84])
(.ops [ o_m 85 13, o_m 86 1,
.op ⟨(some 87), (.pure (.sidx (.const (.string ⟨#[48, 49, 50, 51, 52, 53, 54, 55, 56, 57, 97, 98, 99, 100, 101, 102, 103, 104, 105, 106, 107, 108, 109, 110, 111, 112, 113, 114, 115, 116, 117, 118, 119, 120, 121, 122]⟩)) (.tmp 86))), none⟩, o_p 88 (.idxA 65 1 (.tmp 12) (.tmp 85)),
.op ⟨none, (.eff (.store 1 (.tmp 88) (.tmp 87))), none⟩]))))))
(.seq (.seq (.ops [ o_m 89 3])
(.cond (.tmp 89)
(.seq (.ops [ o_m 90 13, o_p 91 (.bin .sub (.tmp 90) (.const (.int .i64 (1)))), o_m 13 91])
(.ops [ o_m 92 13, o_p 93 (.idxA 65 1 (.tmp 12) (.tmp 92)),
.op ⟨none, (.eff (.store 1 (.tmp 93) (.const (.int .u8 (45))))), none⟩]))
(.skip)))
(.seq (.seq (.ops [ o_m 94 4])
(.cond (.tmp 94)
(.seq (.ops [ o_m 95 0, o_m 96 13, o_e 97 (.fail), o_e 98 (.app 5 1 1 (.tmp 95) (.tmp 97)), o_m 10 98])
(.ret))
(.skip)))
(.seq (.ops [ o_m 99 13, o_e 100 (.fail), o_e 101 (.bstr (.tmp 100)), o_m 11 101])
(.ret))))))))),
[.tmp 10, .tmp 11]⟩
theorem r_internal_strconv_formatBits : resFun Tryd.prog f_internal_strconv_formatBits = some c_internal_strconv_formatBits := by kernel_rfl

/- internal/strconv.log10Pow2 -/
abbrev f_internal_strconv_log10Pow2 : Nat := 37
def c_internal_strconv_log10Pow2 : MFun := ⟨6, .seq (.ops [ o_p 2 (.mv (.const (.int .i64 (0))))])
(.seq (.ops [ o_m 3 0, o_p 4 (.bin .mul (.tmp 3) (.const (.int .i64 (78913)))), o_p 5 (.bin .shr (.tmp 4) (.const (.int .u64 (18)))), o_m 2 5])
(.ret)),
[.tmp 2]⟩
theorem r_internal_strconv_log10Pow2 : resFun Tryd.prog f_internal_strconv_log10Pow2 = some c_internal_strconv_log10Pow2 := by kernel_rfl

/- math/bits.Len64 -/
abbrev f_math_bits_Len64 : Nat := 38
def c_math_bits_Len64 : MFun := ⟨25, .seq (.ops [ o_p 2 (.mv (.const (.int .i64 (0))))])
(.seq (.seq (.ops [ o_m 3 0, o_p 4 (.bin .geq (.tmp 3) (.const (.int .u64 (4294967296))))])
(.cond (.tmp 4)
(.seq (.ops [ o_m 5 0, o_p 6 (.bin .shr (.tmp 5) (.const (.int .u64 (32)))), o_m 0 6])
(.ops [ o_p 2 (.mv (.const (.int .i64 (32))))]))
(.skip)))
(.seq (.seq (.ops [ o_m 7 0, o_p 8 (.bin .geq (.tmp 7) (.const (.int .u64 (65536))))])
(.cond (.tmp 8)
(.seq (.ops [ o_m 9 0, o_p 10 (.bin .shr (.tmp 9) (.const (.int .u64 (16)))), o_m 0 10])
(.ops [ o_m 11 2, o_p 12 (.bin .add (.tmp 11) (.const (.int .i64 (16)))), o_m 2 12]))
(.skip)))
(.seq (.seq (.ops [ o_m 13 0, o_p 14 (.bin .geq (.tmp 13) (.const (.int .u64 (256))))])
(.cond (.tmp 14)
(.seq (.ops [ o_m 15 0, o_p 16 (.bin .shr (.tmp 15) (.const (.int .u64 (8)))), o_m 0 16])
(.ops [ o_m 17 2, o_p 18 (.bin .add (.tmp 17) (.const (.int .i64 (8)))), o_m 2 18]))
(.skip)))
(.seq (.ops [ o_m 19 2, o_m 20 0, o_p 21 (.conv .u8 (.tmp 20)),
.op ⟨(some 22), (.pure (.sidx (.const (.string ⟨#[0, 1, 2, 2, 3, 3, 3, 3, 4, 4, 4, 4, 4, 4, 4, 4, 5, 5, 5, 5, 5, 5, 5, 5, 5, 5, 5, 5, 5, 5, 5, 5, 6, 6, 6, 6, 6, 6, 6, 6, 6, 6, 6, 6, 6, 6, 6, 6, 6, 6, 6, 6, 6, 6, 6, 6, 6, 6, 6, 6, 6, 6, 6, 6, 7, 7, 7, 7, 7, 7, 7, 7, 7, 7, 7, 7, 7, 7, 7, 7, 7, 7, 7, 7, 7, 7, 7, 7, 7, 7, 7, 7, 7, 7, 7, 7, 7, 7, 7, 7, 7, 7, 7, 7, 7, 7, 7, 7, 7, 7, 7, 7, 7, 7, 7, 7, 7, 7, 7, 7, 7, 7, 7, 7, 7, 7, 7, 7, 8, 8, 8, 8, 8, 8, 8, 8, 8, 8, 8, 8, 8, 8, 8, 8, 8, 8, 8, 8, 8, 8, 8, 8, 8, 8, 8, 8, 8, 8, 8, 8, 8, 8, 8, 8, 8, 8, 8, 8, 8, 8, 8, 8, 8, 8, 8, 8, 8, 8, 8, 8, 8, 8, 8, 8, 8, 8, 8, 8, 8, 8, 8, 8, 8, 8, 8, 8, 8, 8, 8, 8, 8, 8, 8, 8, 8, 8, 8, 8, 8, 8, 8, 8, 8, 8, 8, 8, 8, 8, 8, 8, 8, 8, 8, 8, 8, 8, 8, 8, 8, 8, 8, 8, 8, 8, 8, 8, 8, 8, 8, 8, 8, 8, 8, 8, 8, 8, 8, 8, 8, 8, 8, 8, 8, 8, 8, 8]⟩)) (.tmp 21))), none⟩, o_p 23 (.conv .i64 (.tmp 22)), o_p 24 (.bin .add (.tmp 19) (.tmp 23)), o_m 2 24])
(.ret))))),
[.tmp 2]⟩
theorem r_math_bits_Len64 : resFun Tryd.prog f_math_bits_Len64 = some c_math_bits_Len64 := by kernel_rfl

/- internal/strconv.bool2[int] -/
abbrev f_internal_strconv_bool2_int : Nat := 39
def c_internal_strconv_bool2_int : MFun := ⟨4, .seq (.ops [ o_p 2 (.mv (.const (.int .i64 (0))))])
(.seq (.seq (.ops [ o_m 3 0])
(.cond (.tmp 3)
(.seq (.ops [ o_p 2 (.mv (.const (.int .i64 (1))))])
(.ret))
(.skip)))
(.seq (.ops [ o_p 2 (.mv (.const (.int .i64 (0))))])
(.ret))),
[.tmp 2]⟩
theorem r_internal_strconv_bool2_int : resFun Tryd.prog f_internal_strconv_bool2_int = some c_internal_strconv_bool2_int := by kernel_rfl

/- internal/strconv.isPowerOfTwo -/
abbrev f_internal_strconv_isPowerOfTwo : Nat := 40
def c_internal_strconv_isPowerOfTwo : MFun := ⟨8, .seq (.ops [ o_p 2 (.mv (.const (.bool false)))])
(.seq (.ops [ o_m 3 0, o_m 4 0, o_p 5 (.bin .sub (.tmp 4) (.const (.int .i64 (1)))), o_p 6 (.bin .and (.tmp 3) (.tmp 5)), o_p 7 (.bin .eql (.tmp 6) (.const (.int .i64 (0)))), o_m 2 7])
(.ret)),
[.tmp 2]⟩
theorem r_internal_strconv_isPowerOfTwo : resFun Tryd.prog f_internal_strconv_isPowerOfTwo = some c_internal_strconv_isPowerOfTwo := by kernel_rfl

/- math/bits.TrailingZeros -/
abbrev f_math_bits_TrailingZeros : Nat := 41
def c_math_bits_TrailingZeros : MFun := ⟨8, .seq (.ops [ o_p 2 (.mv (.const (.int .i64 (0))))])
(.seq (.cond (.const (.bool false))
(.seq (.ops [ o_m 3 0, o_p 4 (.conv .u32 (.tmp 3)), o_e 5 (.call 42 [(.tmp 4)]), o_m 2 5])
(.ret))
(.skip))
(.seq (.ops [ o_m 6 0, o_e 7 (.call 43 [(.tmp 6)]), o_m 2 7])
(.ret))),
[.tmp 2]⟩
theorem r_math_bits_TrailingZeros : resFun Tryd.prog f_math_bits_TrailingZeros = some c_math_bits_TrailingZeros := by kernel_rfl

/- math/bits.TrailingZeros32 -/
abbrev f_math_bits_TrailingZeros32 : Nat := 42
def c_math_bits_TrailingZeros32 : MFun := ⟨14, .seq (.ops [ o_p 2 (.mv (.const (.int .i64 (0))))])
(.seq (.seq (.ops [ o_m 3 0, o_p 4 (.bin .eql (.tmp 3) (.const (.int .u32 (0))))])
(.cond (.tmp 4)
(.seq (.ops [ o_p 2 (.mv (.const (.int .i64 (32))))])
(.ret))
(.skip)))
(.seq (.ops [ o_m 5 0, o_m 6 0, o_p 7 (.ineg (.tmp 6)), o_p 8 (.bin .and (.tmp 5) (.tmp 7)), o_p 9 (.bin .mul (.tmp 8) (.const (.int .u32 (125613361)))), o_p 10 (.bin .shr (.tmp 9) (.const (.int .u64 (27)))), o_p 11 (.idxA 32 1 (.global 2) (.tmp 10)), o_l 12 11, o_p 13 (.conv .i64 (.tmp 12)), o_m 2 13])
(.ret))),
[.tmp 2]⟩
theorem r_math_bits_TrailingZeros32 : resFun Tryd.prog f_math_bits_TrailingZeros32 = some c_math_bits_TrailingZeros32 := by kernel_rfl

/- math/bits.TrailingZeros64 -/
abbrev f_math_bits_TrailingZeros64 : Nat := 43
def c_math_bits_TrailingZeros64 : MFun := ⟨14, .seq (.ops [ o_p 2 (.mv (.const (.int .i64 (0))))])
(.seq (.seq (.ops [ o_m 3 0, o_p 4 (.bin .eql (.tmp 3) (.const (.int .u64 (0))))])
(.cond (.tmp 4)
(.seq (.ops [ o_p 2 (.mv (.const (.int .i64 (64))))])
(.ret))
(.skip)))
(.seq (.ops [ o_m 5 0, o_m 6 0, o_p 7 (.ineg (.tmp 6)), o_p 8 (.bin .and (.tmp 5) (.tmp 7)), o_p 9 (.bin .mul (.tmp 8) (.const (.int .u64 (285870213051353865)))), o_p 10 (.bin .shr (.tmp 9) (.const (.int .u64 (58)))), o_p 11 (.idxA 64 1 (.global 3) (.tmp 10)), o_l 12 11, o_p 13 (.conv .i64 (.tmp 12)), o_m 2 13])
(.ret))),
[.tmp 2]⟩
theorem r_math_bits_TrailingZeros64 : resFun Tryd.prog f_math_bits_TrailingZeros64 = some c_math_bits_TrailingZeros64 := by kernel_rfl
end Go.Proofs.YtbikhpphdhffaabDoor
