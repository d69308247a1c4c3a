/- The code of this seat's functions, resolved, written by a program of mine; each is held against the given program by the kernel. Condition: none. -/
import Derived.Test.YtbikhpphdhffaaaGreatDoorProg
import Derived.Test.YtbikhpphdhffaaaGreatDoorBase9
import Derived.KernelRfl
namespace Go.Proofs.YtbikhpphdhffaaaGreatDoor
open Go.Vc

/- strconv.syntaxError -/
abbrev f_strconv_syntaxError : Nat := 112
def c_strconv_syntaxError : MFun := ⟨11, .seq (.ops [ o_p 4 (.mv (.const (.pointer none)))])
(.seq (.draw true
(.take (t_m 5 0)
(.take (t_m 6 1)
(.take ⟨(some 8), (.load none (.global 2)), none⟩
(.only false (t_e 7 (.call 123 [(.tmp 6)]))
(.take ⟨(some 9), (.pure (.build [(.string ⟨#[]⟩), (.string ⟨#[]⟩), .nilIface] [(0, 1, (.tmp 5)), (1, 1, (.tmp 7)), (2, 1, (.tmp 8))])), none⟩
(.only true (t_e 10 (.box 133 (.tmp 9)))
(.take (t_m 4 10)
(.done)))))))))
(.ret)),
[.tmp 4]⟩
theorem r_strconv_syntaxError : resFun Tryz.prog f_strconv_syntaxError = some c_strconv_syntaxError := by kernel_rfl

/- strconv.rangeError -/
abbrev f_strconv_rangeError : Nat := 113
def c_strconv_rangeError : MFun := ⟨11, .seq (.ops [ o_p 4 (.mv (.const (.pointer none)))])
(.seq (.draw true
(.take (t_m 5 0)
(.take (t_m 6 1)
(.take ⟨(some 8), (.load none (.global 3)), none⟩
(.only false (t_e 7 (.call 123 [(.tmp 6)]))
(.take ⟨(some 9), (.pure (.build [(.string ⟨#[]⟩), (.string ⟨#[]⟩), .nilIface] [(0, 1, (.tmp 5)), (1, 1, (.tmp 7)), (2, 1, (.tmp 8))])), none⟩
(.only true (t_e 10 (.box 133 (.tmp 9)))
(.take (t_m 4 10)
(.done)))))))))
(.ret)),
[.tmp 4]⟩
theorem r_strconv_rangeError : resFun Tryz.prog f_strconv_rangeError = some c_strconv_rangeError := by kernel_rfl

/- strconv.baseError -/
abbrev f_strconv_baseError : Nat := 114
def c_strconv_baseError : MFun := ⟨16, .seq (.ops [ o_p 6 (.mv (.const (.pointer none)))])
(.seq (.ops [ o_m 7 0, o_m 8 1, o_e 9 (.call 123 [(.tmp 8)]), o_m 10 2, o_e 11 (.call 58 [(.tmp 10)]),
.op ⟨(some 12), (.pure (.bin .add (.const (.string ⟨#[105, 110, 118, 97, 108, 105, 100, 32, 98, 97, 115, 101, 32]⟩)) (.tmp 11))), none⟩, o_e 13 (.call 124 [(.tmp 12)]),
.op ⟨(some 14), (.pure (.build [(.string ⟨#[]⟩), (.string ⟨#[]⟩), .nilIface] [(0, 1, (.tmp 7)), (1, 1, (.tmp 9)), (2, 1, (.tmp 13))])), none⟩, o_e 15 (.box 133 (.tmp 14)), o_m 6 15])
(.ret)),
[.tmp 6]⟩
theorem r_strconv_baseError : resFun Tryz.prog f_strconv_baseError = some c_strconv_baseError := by kernel_rfl

/- strconv.bitSizeError -/
abbrev f_strconv_bitSizeError : Nat := 115
def c_strconv_bitSizeError : MFun := ⟨16, .seq (.ops [ o_p 6 (.mv (.const (.pointer none)))])
(.seq (.ops [ o_m 7 0, o_m 8 1, o_e 9 (.call 123 [(.tmp 8)]), o_m 10 2, o_e 11 (.call 58 [(.tmp 10)]),
.op ⟨(some 12), (.pure (.bin .add (.const (.string ⟨#[105, 110, 118, 97, 108, 105, 100, 32, 98, 105, 116, 32, 115, 105, 122, 101, 32]⟩)) (.tmp 11))), none⟩, o_e 13 (.call 124 [(.tmp 12)]),
.op ⟨(some 14), (.pure (.build [(.string ⟨#[]⟩), (.string ⟨#[]⟩), .nilIface] [(0, 1, (.tmp 7)), (1, 1, (.tmp 9)), (2, 1, (.tmp 13))])), none⟩, o_e 15 (.box 133 (.tmp 14)), o_m 6 15])
(.ret)),
[.tmp 6]⟩
theorem r_strconv_bitSizeError : resFun Tryz.prog f_strconv_bitSizeError = some c_strconv_bitSizeError := by kernel_rfl

/- internal/strconv.log10Pow2 -/
abbrev f_internal_strconv_log10Pow2 : Nat := 116
def c_internal_strconv_log10Pow2 : MFun := ⟨6, .seq (.ops [ o_p 2 (.mv (.const (.int .i64 (0))))])
(.seq (.ops [ o_m 3 0, o_p 4 (.bin .mul (.tmp 3) (.const (.int .i64 (78913)))), o_p 5 (.bin .shr (.tmp 4) (.const (.int .u64 (18)))), o_m 2 5])
(.ret)),
[.tmp 2]⟩
theorem r_internal_strconv_log10Pow2 : resFun Tryz.prog f_internal_strconv_log10Pow2 = some c_internal_strconv_log10Pow2 := by kernel_rfl

/- math/bits.Len64 -/
abbrev f_math_bits_Len64 : Nat := 117
def c_math_bits_Len64 : MFun := ⟨25, .seq (.ops [ o_p 2 (.mv (.const (.int .i64 (0))))])
(.seq (.seq (.ops [ o_m 3 0, o_p 4 (.bin .geq (.tmp 3) (.const (.int .u64 (4294967296))))])
(.cond (.tmp 4)
(.seq (.ops [ o_m 5 0, o_p 6 (.bin .shr (.tmp 5) (.const (.int .u64 (32)))), o_m 0 6])
(.ops [ o_p 2 (.mv (.const (.int .i64 (32))))]))
(.skip)))
(.seq (.seq (.ops [ o_m 7 0, o_p 8 (.bin .geq (.tmp 7) (.const (.int .u64 (65536))))])
(.cond (.tmp 8)
(.seq (.ops [ o_m 9 0, o_p 10 (.bin .shr (.tmp 9) (.const (.int .u64 (16)))), o_m 0 10])
(.ops [ o_m 11 2, o_p 12 (.bin .add (.tmp 11) (.const (.int .i64 (16)))), o_m 2 12]))
(.skip)))
(.seq (.seq (.ops [ o_m 13 0, o_p 14 (.bin .geq (.tmp 13) (.const (.int .u64 (256))))])
(.cond (.tmp 14)
(.seq (.ops [ o_m 15 0, o_p 16 (.bin .shr (.tmp 15) (.const (.int .u64 (8)))), o_m 0 16])
(.ops [ o_m 17 2, o_p 18 (.bin .add (.tmp 17) (.const (.int .i64 (8)))), o_m 2 18]))
(.skip)))
(.seq (.ops [ o_m 19 2, o_m 20 0, o_p 21 (.conv .u8 (.tmp 20)),
.op ⟨(some 22), (.pure (.sidx (.const (.string ⟨#[0, 1, 2, 2, 3, 3, 3, 3, 4, 4, 4, 4, 4, 4, 4, 4, 5, 5, 5, 5, 5, 5, 5, 5, 5, 5, 5, 5, 5, 5, 5, 5, 6, 6, 6, 6, 6, 6, 6, 6, 6, 6, 6, 6, 6, 6, 6, 6, 6, 6, 6, 6, 6, 6, 6, 6, 6, 6, 6, 6, 6, 6, 6, 6, 7, 7, 7, 7, 7, 7, 7, 7, 7, 7, 7, 7, 7, 7, 7, 7, 7, 7, 7, 7, 7, 7, 7, 7, 7, 7, 7, 7, 7, 7, 7, 7, 7, 7, 7, 7, 7, 7, 7, 7, 7, 7, 7, 7, 7, 7, 7, 7, 7, 7, 7, 7, 7, 7, 7, 7, 7, 7, 7, 7, 7, 7, 7, 7, 8, 8, 8, 8, 8, 8, 8, 8, 8, 8, 8, 8, 8, 8, 8, 8, 8, 8, 8, 8, 8, 8, 8, 8, 8, 8, 8, 8, 8, 8, 8, 8, 8, 8, 8, 8, 8, 8, 8, 8, 8, 8, 8, 8, 8, 8, 8, 8, 8, 8, 8, 8, 8, 8, 8, 8, 8, 8, 8, 8, 8, 8, 8, 8, 8, 8, 8, 8, 8, 8, 8, 8, 8, 8, 8, 8, 8, 8, 8, 8, 8, 8, 8, 8, 8, 8, 8, 8, 8, 8, 8, 8, 8, 8, 8, 8, 8, 8, 8, 8, 8, 8, 8, 8, 8, 8, 8, 8, 8, 8, 8, 8, 8, 8, 8, 8, 8, 8, 8, 8, 8, 8, 8, 8, 8, 8, 8, 8]⟩)) (.tmp 21))), none⟩, o_p 23 (.conv .i64 (.tmp 22)), o_p 24 (.bin .add (.tmp 19) (.tmp 23)), o_m 2 24])
(.ret))))),
[.tmp 2]⟩
theorem r_math_bits_Len64 : resFun Tryz.prog f_math_bits_Len64 = some c_math_bits_Len64 := by kernel_rfl

/- internal/strconv.bool2[int] -/
abbrev f_internal_strconv_bool2_int : Nat := 118
def c_internal_strconv_bool2_int : MFun := ⟨4, .seq (.ops [ o_p 2 (.mv (.const (.int .i64 (0))))])
(.seq (.seq (.ops [ o_m 3 0])
(.cond (.tmp 3)
(.seq (.ops [ o_p 2 (.mv (.const (.int .i64 (1))))])
(.ret))
(.skip)))
(.seq (.ops [ o_p 2 (.mv (.const (.int .i64 (0))))])
(.ret))),
[.tmp 2]⟩
theorem r_internal_strconv_bool2_int : resFun Tryz.prog f_internal_strconv_bool2_int = some c_internal_strconv_bool2_int := by kernel_rfl

/- internal/strconv.isPowerOfTwo -/
abbrev f_internal_strconv_isPowerOfTwo : Nat := 119
def c_internal_strconv_isPowerOfTwo : MFun := ⟨8, .seq (.ops [ o_p 2 (.mv (.const (.bool false)))])
(.seq (.ops [ o_m 3 0, o_m 4 0, o_p 5 (.bin .sub (.tmp 4) (.const (.int .i64 (1)))), o_p 6 (.bin .and (.tmp 3) (.tmp 5)), o_p 7 (.bin .eql (.tmp 6) (.const (.int .i64 (0)))), o_m 2 7])
(.ret)),
[.tmp 2]⟩
theorem r_internal_strconv_isPowerOfTwo : resFun Tryz.prog f_internal_strconv_isPowerOfTwo = some c_internal_strconv_isPowerOfTwo := by kernel_rfl

/- math/bits.TrailingZeros -/
abbrev f_math_bits_TrailingZeros : Nat := 120
def c_math_bits_TrailingZeros : MFun := ⟨8, .seq (.ops [ o_p 2 (.mv (.const (.int .i64 (0))))])
(.seq (.cond (.const (.bool false))
(.seq (.ops [ o_m 3 0, o_p 4 (.conv .u32 (.tmp 3)), o_e 5 (.call 125 [(.tmp 4)]), o_m 2 5])
(.ret))
(.skip))
(.seq (.ops [ o_m 6 0, o_e 7 (.call 126 [(.tmp 6)]), o_m 2 7])
(.ret))),
[.tmp 2]⟩
theorem r_math_bits_TrailingZeros : resFun Tryz.prog f_math_bits_TrailingZeros = some c_math_bits_TrailingZeros := by kernel_rfl

/- unicode/utf8.decodeRuneInStringSlow -/
abbrev f_unicode_utf8_decodeRuneInStringSlow : Nat := 121
def c_unicode_utf8_decodeRuneInStringSlow : MFun := ⟨117, .seq (.ops [ o_p 2 (.mv (.const (.int .i32 (0)))), o_p 3 (.mv (.const (.int .i64 (0))))])
(.seq (.ops [ o_m 13 0, o_p 14 (.slen (.tmp 13)), o_m 4 14])
(.seq (.seq (.ops [ o_m 15 4, o_p 16 (.bin .lss (.tmp 15) (.const (.int .i64 (1))))])
(.cond (.tmp 16)
(.seq (.ops [ o_p 2 (.mv (.const (.int .i32 (65533)))), o_p 3 (.mv (.const (.int .i64 (0))))])
(.ret))
(.skip)))
(.seq (.ops [ o_m 17 0, o_p 18 (.sidx (.tmp 17) (.const (.int .i64 (0)))), o_m 5 18])
(.seq (.ops [ o_m 19 5, o_p 20 (.idxA 256 1 (.global 4) (.tmp 19)), o_l 21 20, o_m 6 21])
(.seq (.seq (.ops [ o_m 22 6, o_p 23 (.bin .geq (.tmp 22) (.const (.int .u8 (240))))])
(.cond (.tmp 23)
(.seq (.ops [ o_m 24 6, o_p 25 (.conv .i32 (.tmp 24)), o_p 26 (.bin .shl (.tmp 25) (.const (.int .u64 (31)))), o_p 27 (.bin .shr (.tmp 26) (.const (.int .u64 (31)))), o_m 7 27])
(.seq (.ops [ o_m 28 0, o_p 29 (.sidx (.tmp 28) (.const (.int .i64 (0)))), o_p 30 (.conv .i32 (.tmp 29)), o_m 31 7, o_p 32 (.bin .andNot (.tmp 30) (.tmp 31)), o_m 33 7, o_p 34 (.bin .and (.const (.int .i32 (65533))) (.tmp 33)), o_p 35 (.bin .or (.tmp 32) (.tmp 34)), o_m 2 35, o_p 3 (.mv (.const (.int .i64 (1))))])
(.ret)))
(.skip)))
(.seq (.ops [ o_m 36 6, o_p 37 (.bin .and (.tmp 36) (.const (.int .u8 (7)))), o_p 38 (.conv .i64 (.tmp 37)), o_m 8 38])
(.seq (.ops [ o_m 39 6, o_p 40 (.bin .shr (.tmp 39) (.const (.int .u64 (4)))), o_p 41 (.idxA 16 2 (.global 5) (.tmp 40)),
.op ⟨(some 42), (.load (some 2) (.tmp 41)), none⟩, o_e 9 (.new 138 [(.int .u8 (0)), (.int .u8 (0))]),
.op ⟨none, (.eff (.store 2 (.tmp 9) (.tmp 42))), none⟩])
(.seq (.seq (.ops [ o_m 43 4, o_m 44 8, o_p 45 (.bin .lss (.tmp 43) (.tmp 44))])
(.cond (.tmp 45)
(.seq (.ops [ o_p 2 (.mv (.const (.int .i32 (65533)))), o_p 3 (.mv (.const (.int .i64 (1))))])
(.ret))
(.skip)))
(.seq (.ops [ o_m 46 0, o_p 47 (.sidx (.tmp 46) (.const (.int .i64 (1)))), o_m 10 47])
(.seq (.seq (.ops [ o_m 48 10, o_p 49 (.fieldAddr 0 (.tmp 9)), o_l 50 49, o_p 51 (.bin .lss (.tmp 48) (.tmp 50)), o_m 52 51,
.split 52,
.op ⟨(some 53), (.pure (.fieldAddr 1 (.tmp 9))), (some (52, false))⟩,
.op ⟨(some 54), (.load none (.tmp 53)), (some (52, false))⟩,
.op ⟨(some 55), (.pure (.mv (.tmp 10))), (some (52, false))⟩,
.op ⟨(some 56), (.pure (.bin .lss (.tmp 54) (.tmp 55))), (some (52, false))⟩, o_p 57 (.pick (.tmp 52) (.const (.bool true)) (.tmp 56))])
(.cond (.tmp 57)
(.seq (.ops [ o_p 2 (.mv (.const (.int .i32 (65533)))), o_p 3 (.mv (.const (.int .i64 (1))))])
(.ret))
(.skip)))
(.seq (.seq (.ops [ o_m 58 8, o_p 59 (.bin .leq (.tmp 58) (.const (.int .i64 (2))))])
(.cond (.tmp 59)
(.seq (.ops [ o_m 60 5, o_p 61 (.bin .and (.tmp 60) (.const (.int .u8 (31)))), o_p 62 (.conv .i32 (.tmp 61)), o_p 63 (.bin .shl (.tmp 62) (.const (.int .u64 (6)))), o_m 64 10, o_p 65 (.bin .and (.tmp 64) (.const (.int .u8 (63)))), o_p 66 (.conv .i32 (.tmp 65)), o_p 67 (.bin .or (.tmp 63) (.tmp 66)), o_m 2 67, o_p 3 (.mv (.const (.int .i64 (2))))])
(.ret))
(.skip)))
(.seq (.ops [ o_m 68 0, o_p 69 (.sidx (.tmp 68) (.const (.int .i64 (2)))), o_m 11 69])
(.seq (.seq (.ops [ o_m 70 11, o_p 71 (.bin .lss (.tmp 70) (.const (.int .u8 (128)))), o_m 72 71,
.split 72,
.op ⟨(some 73), (.pure (.mv (.tmp 11))), (some (72, false))⟩,
.op ⟨(some 74), (.pure (.bin .lss (.const (.int .u8 (191))) (.tmp 73))), (some (72, false))⟩, o_p 75 (.pick (.tmp 72) (.const (.bool true)) (.tmp 74))])
(.cond (.tmp 75)
(.seq (.ops [ o_p 2 (.mv (.const (.int .i32 (65533)))), o_p 3 (.mv (.const (.int .i64 (1))))])
(.ret))
(.skip)))
(.seq (.seq (.ops [ o_m 76 8, o_p 77 (.bin .leq (.tmp 76) (.const (.int .i64 (3))))])
(.cond (.tmp 77)
(.seq (.ops [ o_m 78 5, o_p 79 (.bin .and (.tmp 78) (.const (.int .u8 (15)))), o_p 80 (.conv .i32 (.tmp 79)), o_p 81 (.bin .shl (.tmp 80) (.const (.int .u64 (12)))), o_m 82 10, o_p 83 (.bin .and (.tmp 82) (.const (.int .u8 (63)))), o_p 84 (.conv .i32 (.tmp 83)), o_p 85 (.bin .shl (.tmp 84) (.const (.int .u64 (6)))), o_p 86 (.bin .or (.tmp 81) (.tmp 85)), o_m 87 11, o_p 88 (.bin .and (.tmp 87) (.const (.int .u8 (63)))), o_p 89 (.conv .i32 (.tmp 88)), o_p 90 (.bin .or (.tmp 86) (.tmp 89)), o_m 2 90, o_p 3 (.mv (.const (.int .i64 (3))))])
(.ret))
(.skip)))
(.seq (.ops [ o_m 91 0, o_p 92 (.sidx (.tmp 91) (.const (.int .i64 (3)))), o_m 12 92])
(.seq (.seq (.ops [ o_m 93 12, o_p 94 (.bin .lss (.tmp 93) (.const (.int .u8 (128)))), o_m 95 94,
.split 95,
.op ⟨(some 96), (.pure (.mv (.tmp 12))), (some (95, false))⟩,
.op ⟨(some 97), (.pure (.bin .lss (.const (.int .u8 (191))) (.tmp 96))), (some (95, false))⟩, o_p 98 (.pick (.tmp 95) (.const (.bool true)) (.tmp 97))])
(.cond (.tmp 98)
(.seq (.ops [ o_p 2 (.mv (.const (.int .i32 (65533)))), o_p 3 (.mv (.const (.int .i64 (1))))])
(.ret))
(.skip)))
(.seq (.ops [ o_m 99 5, o_p 100 (.bin .and (.tmp 99) (.const (.int .u8 (7)))), o_p 101 (.conv .i32 (.tmp 100)), o_p 102 (.bin .shl (.tmp 101) (.const (.int .u64 (18)))), o_m 103 10, o_p 104 (.bin .and (.tmp 103) (.const (.int .u8 (63)))), o_p 105 (.conv .i32 (.tmp 104)), o_p 106 (.bin .shl (.tmp 105) (.const (.int .u64 (12)))), o_p 107 (.bin .or (.tmp 102) (.tmp 106)), o_m 108 11, o_p 109 (.bin .and (.tmp 108) (.const (.int .u8 (63)))), o_p 110 (.conv .i32 (.tmp 109)), o_p 111 (.bin .shl (.tmp 110) (.const (.int .u64 (6)))), o_p 112 (.bin .or (.tmp 107) (.tmp 111)), o_m 113 12, o_p 114 (.bin .and (.tmp 113) (.const (.int .u8 (63)))), o_p 115 (.conv .i32 (.tmp 114)), o_p 116 (.bin .or (.tmp 112) (.tmp 115)), o_m 2 116, o_p 3 (.mv (.const (.int .i64 (4))))])
(.ret)))))))))))))))))),
[.tmp 2, .tmp 3]⟩
theorem r_unicode_utf8_decodeRuneInStringSlow : resFun Tryz.prog f_unicode_utf8_decodeRuneInStringSlow = some c_unicode_utf8_decodeRuneInStringSlow := by kernel_rfl

/- internal/strconv.ParseUint -/
abbrev f_internal_strconv_ParseUint : Nat := 122
def c_internal_strconv_ParseUint : MFun := ⟨172, .seq (.ops [ o_p 6 (.mv (.const (.int .u64 (0)))), o_p 7 (.mv (.const .nilIface))])
(.seq (.seq (.ops [ o_m 18 0,
.op ⟨(some 19), (.pure (.bin .eql (.tmp 18) (.const (.string ⟨#[]⟩)))), none⟩])
(.cond (.tmp 19)
(.seq (.ops [ o_e 20 (.fail), o_p 6 (.mv (.const (.int .u64 (0)))), o_m 7 20])
(.ret))
(.skip)))
(.seq (.ops [ o_m 21 1, o_p 22 (.bin .eql (.tmp 21) (.const (.int .i64 (0)))), o_m 8 22])
(.seq (.ops [ o_m 23 0, o_m 9 23])
(.seq (.block 0 (.seq (.ops [ o_m 26 1, o_p 27 (.bin .leq (.const (.int .i64 (2))) (.tmp 26)), o_m 28 27,
.split 28,
.op ⟨(some 29), (.pure (.mv (.tmp 1))), (some (28, true))⟩,
.op ⟨(some 30), (.pure (.bin .leq (.tmp 29) (.const (.int .i64 (36))))), (some (28, true))⟩, o_p 31 (.pick (.tmp 28) (.tmp 30) (.const (.bool false))), o_m 25 31])
(.cond (.tmp 25)
(.skip)
(.seq (.ops [ o_m 33 1, o_p 34 (.bin .eql (.tmp 33) (.const (.int .i64 (0)))), o_m 32 34])
(.cond (.tmp 32)
(.seq (.ops [ o_p 1 (.mv (.const (.int .i64 (10))))])
(.seq (.ops [ o_m 35 0, o_p 36 (.sidx (.tmp 35) (.const (.int .i64 (0)))), o_p 37 (.bin .eql (.tmp 36) (.const (.int .u8 (48))))])
(.cond (.tmp 37)
(.block 1 (.seq (.ops [ o_m 41 0, o_p 42 (.slen (.tmp 41)), o_p 43 (.bin .geq (.tmp 42) (.const (.int .i64 (3)))), o_m 44 43,
.split 44,
.op ⟨(some 45), (.pure (.mv (.tmp 0))), (some (44, true))⟩,
.op ⟨(some 46), (.pure (.sidx (.tmp 45) (.const (.int .i64 (1))))), (some (44, true))⟩,
.op ⟨(some 47), (.eff (.call 127 [(.tmp 46)])), (some (44, true))⟩,
.op ⟨(some 48), (.pure (.bin .eql (.tmp 47) (.const (.int .u8 (98))))), (some (44, true))⟩, o_p 49 (.pick (.tmp 44) (.tmp 48) (.const (.bool false))), o_m 40 49])
(.cond (.tmp 40)
(.seq (.ops [ o_p 1 (.mv (.const (.int .i64 (2))))])
(.ops [ o_m 50 0, o_p 51 (.sslc (.tmp 50) (some (.const (.int .i64 (2)))) none), o_m 0 51]))
(.seq (.ops [ o_m 53 0, o_p 54 (.slen (.tmp 53)), o_p 55 (.bin .geq (.tmp 54) (.const (.int .i64 (3)))), o_m 56 55,
.split 56,
.op ⟨(some 57), (.pure (.mv (.tmp 0))), (some (56, true))⟩,
.op ⟨(some 58), (.pure (.sidx (.tmp 57) (.const (.int .i64 (1))))), (some (56, true))⟩,
.op ⟨(some 59), (.eff (.call 127 [(.tmp 58)])), (some (56, true))⟩,
.op ⟨(some 60), (.pure (.bin .eql (.tmp 59) (.const (.int .u8 (111))))), (some (56, true))⟩, o_p 61 (.pick (.tmp 56) (.tmp 60) (.const (.bool false))), o_m 52 61])
(.cond (.tmp 52)
(.seq (.ops [ o_p 1 (.mv (.const (.int .i64 (8))))])
(.ops [ o_m 62 0, o_p 63 (.sslc (.tmp 62) (some (.const (.int .i64 (2)))) none), o_m 0 63]))
(.seq (.ops [ o_m 65 0, o_p 66 (.slen (.tmp 65)), o_p 67 (.bin .geq (.tmp 66) (.const (.int .i64 (3)))), o_m 68 67,
.split 68,
.op ⟨(some 69), (.pure (.mv (.tmp 0))), (some (68, true))⟩,
.op ⟨(some 70), (.pure (.sidx (.tmp 69) (.const (.int .i64 (1))))), (some (68, true))⟩,
.op ⟨(some 71), (.eff (.call 127 [(.tmp 70)])), (some (68, true))⟩,
.op ⟨(some 72), (.pure (.bin .eql (.tmp 71) (.const (.int .u8 (120))))), (some (68, true))⟩, o_p 73 (.pick (.tmp 68) (.tmp 72) (.const (.bool false))), o_m 64 73])
(.cond (.tmp 64)
(.seq (.ops [ o_p 1 (.mv (.const (.int .i64 (16))))])
(.ops [ o_m 74 0, o_p 75 (.sslc (.tmp 74) (some (.const (.int .i64 (2)))) none), o_m 0 75]))
(.seq (.ops [ o_p 1 (.mv (.const (.int .i64 (8))))])
(.ops [ o_m 38 0, o_p 39 (.sslc (.tmp 38) (some (.const (.int .i64 (1)))) none), o_m 0 39])))))))))
(.skip))))
(.seq (.ops [ o_e 24 (.fail), o_p 6 (.mv (.const (.int .u64 (0)))), o_m 7 24])
(.ret)))))))
(.seq (.seq (.ops [ o_m 76 2, o_p 77 (.bin .eql (.tmp 76) (.const (.int .i64 (0))))])
(.cond (.tmp 77)
(.ops [ o_p 2 (.mv (.const (.int .i64 (64))))])
(.seq (.ops [ o_m 78 2, o_p 79 (.bin .lss (.tmp 78) (.const (.int .i64 (0)))), o_m 80 79,
.split 80,
.op ⟨(some 81), (.pure (.mv (.tmp 2))), (some (80, false))⟩,
.op ⟨(some 82), (.pure (.bin .gtr (.tmp 81) (.const (.int .i64 (64))))), (some (80, false))⟩, o_p 83 (.pick (.tmp 80) (.const (.bool true)) (.tmp 82))])
(.cond (.tmp 83)
(.seq (.ops [ o_e 84 (.fail), o_p 6 (.mv (.const (.int .u64 (0)))), o_m 7 84])
(.ret))
(.skip)))))
(.seq (.ops [ o_p 10 (.mv (.const (.int .u64 (0))))])
(.seq (.seq (.ops [ o_m 85 1])
(.block 2 (.seq (.ops [ o_p 91 (.bin .eql (.tmp 85) (.const (.int .i64 (10)))), o_m 90 91])
(.cond (.tmp 90)
(.ops [ o_p 10 (.mv (.const (.int .u64 (1844674407370955162))))])
(.seq (.ops [ o_p 93 (.bin .eql (.tmp 85) (.const (.int .i64 (16)))), o_m 92 93])
(.cond (.tmp 92)
(.ops [ o_p 10 (.mv (.const (.int .u64 (1152921504606846976))))])
(.ops [ o_m 86 1, o_p 87 (.conv .u64 (.tmp 86)), o_p 88 (.bin .quo (.const (.int .u64 (18446744073709551615))) (.tmp 87)), o_p 89 (.bin .add (.tmp 88) (.const (.int .u64 (1)))), o_m 10 89])))))))
(.seq (.ops [ o_m 94 2, o_p 95 (.conv .u64 (.tmp 94)), o_p 96 (.bin .shl (.const (.int .u64 (1))) (.tmp 95)), o_p 97 (.bin .sub (.tmp 96) (.const (.int .u64 (1)))), o_m 11 97])
(.seq (.ops [ o_p 12 (.mv (.const (.bool false)))])
(.seq (.ops [ o_p 13 (.mv (.const (.int .u64 (0))))])
(.seq (.seq (.ops [ o_m 98 0, o_e 99 (.fail), o_p 100 (.len (.tmp 99)), o_p 101 (.mv (.const (.int .i64 (0))))])
(.block 3 (.loop (.seq (.ops [ o_p 102 (.bin .lss (.tmp 101) (.tmp 100))])
(.seq (.cond (.tmp 102)
(.skip)
(.exit 3))
(.seq (.block 4 (.seq (.ops [ o_p 103 (.idx 1 (.tmp 99) (.tmp 101)), o_l 104 103, o_m 15 104])
(.seq (.ops [ o_p 16 (.mv (.const (.int .u8 (0))))])
(.seq (.block 5 (.seq (.ops [ o_m 107 15, o_p 108 (.bin .eql (.tmp 107) (.const (.int .u8 (95)))), o_m 109 108,
.split 109,
.op ⟨(some 110), (.pure (.mv (.tmp 8))), (some (109, true))⟩, o_p 111 (.pick (.tmp 109) (.tmp 110) (.const (.bool false))), o_m 106 111])
(.cond (.tmp 106)
(.seq (.ops [ o_p 12 (.mv (.const (.bool true)))])
(.exit 4))
(.seq (.ops [ o_m 113 15, o_p 114 (.bin .leq (.const (.int .u8 (48))) (.tmp 113)), o_m 115 114,
.split 115,
.op ⟨(some 116), (.pure (.mv (.tmp 15))), (some (115, true))⟩,
.op ⟨(some 117), (.pure (.bin .leq (.tmp 116) (.const (.int .u8 (57))))), (some (115, true))⟩, o_p 118 (.pick (.tmp 115) (.tmp 117) (.const (.bool false))), o_m 112 118])
(.cond (.tmp 112)
(.ops [ o_m 119 15, o_p 120 (.bin .sub (.tmp 119) (.const (.int .u8 (48)))), o_m 16 120])
(.seq (.ops [ o_m 122 15, o_e 123 (.call 127 [(.tmp 122)]), o_p 124 (.bin .leq (.const (.int .u8 (97))) (.tmp 123)), o_m 125 124,
.split 125,
.op ⟨(some 126), (.pure (.mv (.tmp 15))), (some (125, true))⟩,
.op ⟨(some 127), (.eff (.call 127 [(.tmp 126)])), (some (125, true))⟩,
.op ⟨(some 128), (.pure (.bin .leq (.tmp 127) (.const (.int .u8 (122))))), (some (125, true))⟩, o_p 129 (.pick (.tmp 125) (.tmp 128) (.const (.bool false))), o_m 121 129])
(.cond (.tmp 121)
(.ops [ o_m 130 15, o_e 131 (.call 127 [(.tmp 130)]), o_p 132 (.bin .sub (.tmp 131) (.const (.int .u8 (97)))), o_p 133 (.bin .add (.tmp 132) (.const (.int .u8 (10)))), o_m 16 133])
(.seq (.ops [ o_e 105 (.fail), o_p 6 (.mv (.const (.int .u64 (0)))), o_m 7 105])
(.ret)))))))))
(.seq (.seq (.ops [ o_m 134 16, o_m 135 1, o_p 136 (.conv .u8 (.tmp 135)), o_p 137 (.bin .geq (.tmp 134) (.tmp 136))])
(.cond (.tmp 137)
(.seq (.ops [ o_e 138 (.fail), o_p 6 (.mv (.const (.int .u64 (0)))), o_m 7 138])
(.ret))
(.skip)))
(.seq (.seq (.ops [ o_m 139 13, o_m 140 10, o_p 141 (.bin .geq (.tmp 139) (.tmp 140))])
(.cond (.tmp 141)
(.seq (.ops [ o_m 142 11, o_e 143 (.fail), o_m 6 142, o_m 7 143])
(.ret))
(.skip)))
(.seq (.ops [ o_m 144 13, o_m 145 1, o_p 146 (.conv .u64 (.tmp 145)), o_p 147 (.bin .mul (.tmp 144) (.tmp 146)), o_m 13 147])
(.seq (.ops [ o_m 148 13, o_m 149 16, o_p 150 (.conv .u64 (.tmp 149)), o_p 151 (.bin .add (.tmp 148) (.tmp 150)), o_m 17 151])
(.seq (.seq (.ops [ o_m 152 17, o_m 153 13, o_p 154 (.bin .lss (.tmp 152) (.tmp 153)), o_m 155 154,
.split 155,
.op ⟨(some 156), (.pure (.mv (.tmp 17))), (some (155, false))⟩,
.op ⟨(some 157), (.pure (.mv (.tmp 11))), (some (155, false))⟩,
.op ⟨(some 158), (.pure (.bin .gtr (.tmp 156) (.tmp 157))), (some (155, false))⟩, o_p 159 (.pick (.tmp 155) (.const (.bool true)) (.tmp 158))])
(.cond (.tmp 159)
(.seq (.ops [ o_m 160 11, o_e 161 (.fail), o_m 6 160, o_m 7 161])
(.ret))
(.skip)))
(.ops [ o_m 162 17, o_m 13 162]))))))))))
(.ops [ o_p 163 (.bin .add (.tmp 101) (.const (.int .i64 (1)))), o_m 101 163])))))))
(.seq (.seq (.ops [ o_m 164 12, o_m 165 164,
.split 165,
.op ⟨(some 166), (.pure (.mv (.tmp 9))), (some (165, true))⟩,
.op ⟨(some 167), (.eff (.call 128 [(.tmp 166)])), (some (165, true))⟩,
.op ⟨(some 168), (.pure (.bnot (.tmp 167))), (some (165, true))⟩, o_p 169 (.pick (.tmp 165) (.tmp 168) (.const (.bool false)))])
(.cond (.tmp 169)
(.seq (.ops [ o_e 170 (.fail), o_p 6 (.mv (.const (.int .u64 (0)))), o_m 7 170])
(.ret))
(.skip)))
(.seq (.ops [ o_m 171 13, o_m 6 171, o_p 7 (.mv (.const .nilIface))])
(.ret)))))))))))))),
[.tmp 6, .tmp 7]⟩
theorem r_internal_strconv_ParseUint : resFun Tryz.prog f_internal_strconv_ParseUint = some c_internal_strconv_ParseUint := by kernel_rfl

/- internal/stringslite.Clone -/
abbrev f_internal_stringslite_Clone : Nat := 123
def c_internal_stringslite_Clone : MFun := ⟨18, .seq (.ops [
.op ⟨(some 2), (.pure (.mv (.const (.string ⟨#[]⟩)))), none⟩])
(.seq (.seq (.ops [ o_m 4 0, o_p 5 (.slen (.tmp 4)), o_p 6 (.bin .eql (.tmp 5) (.const (.int .i64 (0))))])
(.cond (.tmp 6)
(.seq (.ops [
.op ⟨(some 2), (.pure (.mv (.const (.string ⟨#[]⟩)))), none⟩])
(.ret))
(.skip)))
(.seq (.ops [ o_m 7 0, o_p 8 (.slen (.tmp 7)), o_e 9 (.mk 5 1 1 [(.int .u8 (0))] (.tmp 8) (.tmp 8)), o_m 3 9])
(.seq (.ops [ o_m 10 3, o_m 11 0, o_e 12 (.copy 1 (.tmp 10) (.tmp 11))])
(.seq (.ops [ o_m 13 3, o_p 14 (.idx 1 (.tmp 13) (.const (.int .i64 (0)))), o_m 15 3, o_p 16 (.len (.tmp 15)), o_e 17 (.fail), o_m 2 17])
(.ret))))),
[.tmp 2]⟩
theorem r_internal_stringslite_Clone : resFun Tryz.prog f_internal_stringslite_Clone = some c_internal_stringslite_Clone := by kernel_rfl

/- errors.New -/
abbrev f_errors_New : Nat := 124
def c_errors_New : MFun := ⟨7, .seq (.ops [ o_p 2 (.mv (.const .nilIface))])
(.seq (.ops [ o_m 3 0,
.op ⟨(some 4), (.pure (.build [(.string ⟨#[]⟩)] [(0, 1, (.tmp 3))])), none⟩, o_e 5 (.box 144 (.tmp 4)), o_e 6 (.fail), o_m 2 6])
(.ret)),
[.tmp 2]⟩
theorem r_errors_New : resFun Tryz.prog f_errors_New = some c_errors_New := by kernel_rfl

/- math/bits.TrailingZeros32 -/
abbrev f_math_bits_TrailingZeros32 : Nat := 125
def c_math_bits_TrailingZeros32 : MFun := ⟨14, .seq (.ops [ o_p 2 (.mv (.const (.int .i64 (0))))])
(.seq (.seq (.ops [ o_m 3 0, o_p 4 (.bin .eql (.tmp 3) (.const (.int .u32 (0))))])
(.cond (.tmp 4)
(.seq (.ops [ o_p 2 (.mv (.const (.int .i64 (32))))])
(.ret))
(.skip)))
(.seq (.ops [ o_m 5 0, o_m 6 0, o_p 7 (.ineg (.tmp 6)), o_p 8 (.bin .and (.tmp 5) (.tmp 7)), o_p 9 (.bin .mul (.tmp 8) (.const (.int .u32 (125613361)))), o_p 10 (.bin .shr (.tmp 9) (.const (.int .u64 (27)))), o_p 11 (.idxA 32 1 (.global 6) (.tmp 10)), o_l 12 11, o_p 13 (.conv .i64 (.tmp 12)), o_m 2 13])
(.ret))),
[.tmp 2]⟩
theorem r_math_bits_TrailingZeros32 : resFun Tryz.prog f_math_bits_TrailingZeros32 = some c_math_bits_TrailingZeros32 := by kernel_rfl

/- math/bits.TrailingZeros64 -/
abbrev f_math_bits_TrailingZeros64 : Nat := 126
def c_math_bits_TrailingZeros64 : MFun := ⟨14, .seq (.ops [ o_p 2 (.mv (.const (.int .i64 (0))))])
(.seq (.seq (.ops [ o_m 3 0, o_p 4 (.bin .eql (.tmp 3) (.const (.int .u64 (0))))])
(.cond (.tmp 4)
(.seq (.ops [ o_p 2 (.mv (.const (.int .i64 (64))))])
(.ret))
(.skip)))
(.seq (.ops [ o_m 5 0, o_m 6 0, o_p 7 (.ineg (.tmp 6)), o_p 8 (.bin .and (.tmp 5) (.tmp 7)), o_p 9 (.bin .mul (.tmp 8) (.const (.int .u64 (285870213051353865)))), o_p 10 (.bin .shr (.tmp 9) (.const (.int .u64 (58)))), o_p 11 (.idxA 64 1 (.global 7) (.tmp 10)), o_l 12 11, o_p 13 (.conv .i64 (.tmp 12)), o_m 2 13])
(.ret))),
[.tmp 2]⟩
theorem r_math_bits_TrailingZeros64 : resFun Tryz.prog f_math_bits_TrailingZeros64 = some c_math_bits_TrailingZeros64 := by kernel_rfl

/- internal/strconv.lower -/
abbrev f_internal_strconv_lower : Nat := 127
def c_internal_strconv_lower : MFun := ⟨5, .seq (.ops [ o_p 2 (.mv (.const (.int .u8 (0))))])
(.seq (.ops [ o_m 3 0, o_p 4 (.bin .or (.tmp 3) (.const (.int .u8 (32)))), o_m 2 4])
(.ret)),
[.tmp 2]⟩
theorem r_internal_strconv_lower : resFun Tryz.prog f_internal_strconv_lower = some c_internal_strconv_lower := by kernel_rfl

/- internal/strconv.underscoreOK -/
abbrev f_internal_strconv_underscoreOK : Nat := 128
def c_internal_strconv_underscoreOK : MFun := ⟨94, .seq (.ops [ o_p 2 (.mv (.const (.bool false)))])
(.seq (.ops [ o_p 3 (.mv (.const (.int .i32 (94))))])
(.seq (.ops [ o_p 4 (.mv (.const (.int .i64 (0))))])
(.seq (.seq (.ops [ o_m 6 0, o_p 7 (.slen (.tmp 6)), o_p 8 (.bin .geq (.tmp 7) (.const (.int .i64 (1)))), o_m 9 8,
.split 9,
.op ⟨(some 10), (.pure (.mv (.tmp 0))), (some (9, true))⟩,
.op ⟨(some 11), (.pure (.sidx (.tmp 10) (.const (.int .i64 (0))))), (some (9, true))⟩,
.op ⟨(some 12), (.pure (.bin .eql (.tmp 11) (.const (.int .u8 (45))))), (some (9, true))⟩,
.op ⟨(some 13), (.pure (.mv (.tmp 12))), (some (9, true))⟩,
.split 13,
.op ⟨(some 14), (.pure (.mv (.tmp 0))), (some (13, false))⟩,
.op ⟨(some 15), (.pure (.sidx (.tmp 14) (.const (.int .i64 (0))))), (some (13, false))⟩,
.op ⟨(some 16), (.pure (.bin .eql (.tmp 15) (.const (.int .u8 (43))))), (some (13, false))⟩,
.op ⟨(some 17), (.pure (.pick (.tmp 13) (.const (.bool true)) (.tmp 16))), (some (9, true))⟩, o_p 18 (.pick (.tmp 9) (.tmp 17) (.const (.bool false)))])
(.cond (.tmp 18)
(.ops [ o_m 19 0, o_p 20 (.sslc (.tmp 19) (some (.const (.int .i64 (1)))) none), o_m 0 20])
(.skip)))
(.seq (.ops [ o_p 5 (.mv (.const (.bool false)))])
(.seq (.seq (.ops [ o_m 21 0, o_p 22 (.slen (.tmp 21)), o_p 23 (.bin .geq (.tmp 22) (.const (.int .i64 (2)))), o_m 24 23,
.split 24,
.op ⟨(some 25), (.pure (.mv (.tmp 0))), (some (24, true))⟩,
.op ⟨(some 26), (.pure (.sidx (.tmp 25) (.const (.int .i64 (0))))), (some (24, true))⟩,
.op ⟨(some 27), (.pure (.bin .eql (.tmp 26) (.const (.int .u8 (48))))), (some (24, true))⟩, o_p 28 (.pick (.tmp 24) (.tmp 27) (.const (.bool false))), o_m 29 28,
.split 29,
.op ⟨(some 30), (.pure (.mv (.tmp 0))), (some (29, true))⟩,
.op ⟨(some 31), (.pure (.sidx (.tmp 30) (.const (.int .i64 (1))))), (some (29, true))⟩,
.op ⟨(some 32), (.eff (.call 127 [(.tmp 31)])), (some (29, true))⟩,
.op ⟨(some 33), (.pure (.bin .eql (.tmp 32) (.const (.int .u8 (98))))), (some (29, true))⟩,
.op ⟨(some 34), (.pure (.mv (.tmp 33))), (some (29, true))⟩,
.split 34,
.op ⟨(some 35), (.pure (.mv (.tmp 0))), (some (34, false))⟩,
.op ⟨(some 36), (.pure (.sidx (.tmp 35) (.const (.int .i64 (1))))), (some (34, false))⟩,
.op ⟨(some 37), (.eff (.call 127 [(.tmp 36)])), (some (34, false))⟩,
.op ⟨(some 38), (.pure (.bin .eql (.tmp 37) (.const (.int .u8 (111))))), (some (34, false))⟩,
.op ⟨(some 39), (.pure (.pick (.tmp 34) (.const (.bool true)) (.tmp 38))), (some (29, true))⟩,
.op ⟨(some 40), (.pure (.mv (.tmp 39))), (some (29, true))⟩,
.split 40,
.op ⟨(some 41), (.pure (.mv (.tmp 0))), (some (40, false))⟩,
.op ⟨(some 42), (.pure (.sidx (.tmp 41) (.const (.int .i64 (1))))), (some (40, false))⟩,
.op ⟨(some 43), (.eff (.call 127 [(.tmp 42)])), (some (40, false))⟩,
.op ⟨(some 44), (.pure (.bin .eql (.tmp 43) (.const (.int .u8 (120))))), (some (40, false))⟩,
.op ⟨(some 45), (.pure (.pick (.tmp 40) (.const (.bool true)) (.tmp 44))), (some (29, true))⟩, o_p 46 (.pick (.tmp 29) (.tmp 45) (.const (.bool false)))])
(.cond (.tmp 46)
(.seq (.ops [ o_p 4 (.mv (.const (.int .i64 (2))))])
(.seq (.ops [ o_p 3 (.mv (.const (.int .i32 (48))))])
(.ops [ o_m 47 0, o_p 48 (.sidx (.tmp 47) (.const (.int .i64 (1)))), o_e 49 (.call 127 [(.tmp 48)]), o_p 50 (.bin .eql (.tmp 49) (.const (.int .u8 (120)))), o_m 5 50])))
(.skip)))
(.seq (.block 0 (.loop (.seq (.seq (.ops [ o_m 51 4, o_m 52 0, o_p 53 (.slen (.tmp 52)), o_p 54 (.bin .lss (.tmp 51) (.tmp 53))])
(.cond (.tmp 54)
(.skip)
(.exit 0)))
(.seq (.block 1 (.seq (.seq (.ops [ o_m 57 0, o_m 58 4, o_p 59 (.sidx (.tmp 57) (.tmp 58)), o_p 60 (.bin .leq (.const (.int .u8 (48))) (.tmp 59)), o_m 61 60,
.split 61,
.op ⟨(some 62), (.pure (.mv (.tmp 0))), (some (61, true))⟩,
.op ⟨(some 63), (.pure (.mv (.tmp 4))), (some (61, true))⟩,
.op ⟨(some 64), (.pure (.sidx (.tmp 62) (.tmp 63))), (some (61, true))⟩,
.op ⟨(some 65), (.pure (.bin .leq (.tmp 64) (.const (.int .u8 (57))))), (some (61, true))⟩, o_p 66 (.pick (.tmp 61) (.tmp 65) (.const (.bool false))), o_m 67 66,
.split 67,
.op ⟨(some 68), (.pure (.mv (.tmp 5))), (some (67, false))⟩,
.op ⟨(some 69), (.pure (.mv (.tmp 68))), (some (67, false))⟩,
.split 69,
.op ⟨(some 70), (.pure (.mv (.tmp 0))), (some (69, true))⟩,
.op ⟨(some 71), (.pure (.mv (.tmp 4))), (some (69, true))⟩,
.op ⟨(some 72), (.pure (.sidx (.tmp 70) (.tmp 71))), (some (69, true))⟩,
.op ⟨(some 73), (.eff (.call 127 [(.tmp 72)])), (some (69, true))⟩,
.op ⟨(some 74), (.pure (.bin .leq (.const (.int .u8 (97))) (.tmp 73))), (some (69, true))⟩,
.op ⟨(some 75), (.pure (.pick (.tmp 69) (.tmp 74) (.const (.bool false)))), (some (67, false))⟩,
.op ⟨(some 76), (.pure (.mv (.tmp 75))), (some (67, false))⟩,
.split 76,
.op ⟨(some 77), (.pure (.mv (.tmp 0))), (some (76, true))⟩,
.op ⟨(some 78), (.pure (.mv (.tmp 4))), (some (76, true))⟩,
.op ⟨(some 79), (.pure (.sidx (.tmp 77) (.tmp 78))), (some (76, true))⟩,
.op ⟨(some 80), (.eff (.call 127 [(.tmp 79)])), (some (76, true))⟩,
.op ⟨(some 81), (.pure (.bin .leq (.tmp 80) (.const (.int .u8 (102))))), (some (76, true))⟩,
.op ⟨(some 82), (.pure (.pick (.tmp 76) (.tmp 81) (.const (.bool false)))), (some (67, false))⟩, o_p 83 (.pick (.tmp 67) (.const (.bool true)) (.tmp 82))])
(.cond (.tmp 83)
(.seq (.ops [ o_p 3 (.mv (.const (.int .i32 (48))))])
(.exit 1))
(.skip)))
(.seq (.seq (.ops [ o_m 84 0, o_m 85 4, o_p 86 (.sidx (.tmp 84) (.tmp 85)), o_p 87 (.bin .eql (.tmp 86) (.const (.int .u8 (95))))])
(.cond (.tmp 87)
(.seq (.seq (.ops [ o_m 88 3, o_p 89 (.bin .neq (.tmp 88) (.const (.int .i32 (48))))])
(.cond (.tmp 89)
(.seq (.ops [ o_p 2 (.mv (.const (.bool false)))])
(.ret))
(.skip)))
(.seq (.ops [ o_p 3 (.mv (.const (.int .i32 (95))))])
(.exit 1)))
(.skip)))
(.seq (.seq (.ops [ o_m 90 3, o_p 91 (.bin .eql (.tmp 90) (.const (.int .i32 (95))))])
(.cond (.tmp 91)
(.seq (.ops [ o_p 2 (.mv (.const (.bool false)))])
(.ret))
(.skip)))
(.ops [ o_p 3 (.mv (.const (.int .i32 (33))))])))))
(.ops [ o_m 55 4, o_p 56 (.bin .add (.tmp 55) (.const (.int .i64 (1)))), o_m 4 56])))))
(.seq (.ops [ o_m 92 3, o_p 93 (.bin .neq (.tmp 92) (.const (.int .i32 (95)))), o_m 2 93])
(.ret)))))))),
[.tmp 2]⟩
theorem r_internal_strconv_underscoreOK : resFun Tryz.prog f_internal_strconv_underscoreOK = some c_internal_strconv_underscoreOK := by kernel_rfl
end Go.Proofs.YtbikhpphdhffaaaGreatDoor
