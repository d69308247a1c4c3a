/- The code of this seat's functions, resolved, written by a program of mine; each is held against the given program by the kernel. Condition: none. -/
import Derived.Test.YtbikhpphdhffaaaDoorProg
import Derived.Test.YtbikhpphdhffaaaDoorBase9
import Derived.KernelRfl
namespace Go.Proofs.YtbikhpphdhffaaaDoor
open Go.Vc

/- loop.example/g00940/laws.FnExactParsePacket -/
abbrev f_laws_FnExactParsePacket : Nat := 3
def c_laws_FnExactParsePacket : MFun := ⟨66, .seq (.ops [ o_p 2 (.mv (.const (.bool false)))])
(.seq (.seq (.ops [ o_m 11 0, o_p 12 (.slen (.tmp 11)), o_p 13 (.bin .gtr (.tmp 12) (.const (.int .i64 (1048576))))])
(.cond (.tmp 13)
(.seq (.ops [ o_p 2 (.mv (.const (.bool true)))])
(.ret))
(.skip)))
(.seq (.ops [ o_m 15 0, o_e 16 (.call 4 [(.tmp 15)]), o_m 14 16, o_p 17 (.ext 0 (.tmp 14)), o_p 18 (.ext 1 (.tmp 14)), o_e 3 (.new 24 [(.int .i64 (0)), (.int .i64 (0)), (.int .i64 (0)), (.slice none 0 0)]),
.op ⟨none, (.eff (.store 4 (.tmp 3) (.tmp 17))), none⟩, o_m 4 18])
(.seq (.ops [ o_m 20 0, o_e 21 (.call 5 [(.tmp 20)]), o_m 19 21, o_p 22 (.ext 0 (.tmp 19)), o_p 23 (.ext 1 (.tmp 19)), o_e 5 (.new 24 [(.int .i64 (0)), (.int .i64 (0)), (.int .i64 (0)), (.slice none 0 0)]),
.op ⟨none, (.eff (.store 4 (.tmp 5) (.tmp 22))), none⟩, o_m 6 23])
(.seq (.seq (.ops [
.op ⟨(some 24), (.load (some 4) (.tmp 5)), none⟩,
.op ⟨(some 25), (.load (some 4) (.tmp 3)), none⟩, o_e 26 (.call 6 [(.tmp 24), (.tmp 25)]), o_p 27 (.bnot (.tmp 26)), o_m 28 27,
.split 28,
.op ⟨(some 29), (.pure (.mv (.tmp 6))), (some (28, false))⟩,
.op ⟨(some 30), (.pure (.mv (.tmp 4))), (some (28, false))⟩,
.op ⟨(some 31), (.pure (.eqb true (.tmp 29) (.tmp 30))), (some (28, false))⟩, o_p 32 (.pick (.tmp 28) (.const (.bool true)) (.tmp 31))])
(.cond (.tmp 32)
(.seq (.ops [ o_p 2 (.mv (.const (.bool false)))])
(.ret))
(.skip)))
(.seq (.ops [ o_p 7 (.mv (.const (.int .i64 (1))))])
(.seq (.ops [
.op ⟨(some 33), (.load (some 4) (.tmp 5)), none⟩, o_m 34 7, o_e 35 (.call 7 [(.tmp 33), (.tmp 34)]), o_m 7 35])
(.seq (.ops [ o_p 8 (.mv (.const (.int .i64 (1))))])
(.seq (.ops [
.op ⟨(some 36), (.load (some 4) (.tmp 5)), none⟩, o_m 37 8, o_e 38 (.call 8 [(.tmp 36), (.tmp 37)]), o_m 8 38])
(.seq (.seq (.ops [ o_m 39 8, o_p 40 (.bin .lss (.tmp 39) (.const (.int .i64 (0))))])
(.cond (.tmp 40)
(.seq (.ops [ o_p 2 (.mv (.const (.bool false)))])
(.ret))
(.skip)))
(.seq (.seq (.ops [ o_m 41 8, o_m 42 7, o_p 43 (.bin .neq (.tmp 41) (.tmp 42))])
(.cond (.tmp 43)
(.seq (.ops [ o_p 2 (.mv (.const (.bool false)))])
(.ret))
(.skip)))
(.seq (.ops [ o_m 45 0, o_e 46 (.call 5 [(.tmp 45)]), o_m 44 46, o_p 47 (.ext 0 (.tmp 44)), o_p 48 (.ext 1 (.tmp 44)), o_e 9 (.new 24 [(.int .i64 (0)), (.int .i64 (0)), (.int .i64 (0)), (.slice none 0 0)]),
.op ⟨none, (.eff (.store 4 (.tmp 9) (.tmp 47))), none⟩, o_m 10 48])
(.seq (.seq (.ops [
.op ⟨(some 49), (.load (some 4) (.tmp 9)), none⟩,
.op ⟨(some 50), (.load (some 4) (.tmp 3)), none⟩, o_e 51 (.call 6 [(.tmp 49), (.tmp 50)]), o_p 52 (.bnot (.tmp 51)), o_m 53 52,
.split 53,
.op ⟨(some 54), (.pure (.mv (.tmp 10))), (some (53, false))⟩,
.op ⟨(some 55), (.pure (.mv (.tmp 4))), (some (53, false))⟩,
.op ⟨(some 56), (.pure (.eqb true (.tmp 54) (.tmp 55))), (some (53, false))⟩, o_p 57 (.pick (.tmp 53) (.const (.bool true)) (.tmp 56))])
(.cond (.tmp 57)
(.seq (.ops [ o_p 2 (.mv (.const (.bool false)))])
(.ret))
(.skip)))
(.seq (.ops [ o_p 8 (.mv (.const (.int .i64 (1))))])
(.seq (.ops [
.op ⟨(some 58), (.load (some 4) (.tmp 5)), none⟩, o_m 59 8, o_e 60 (.call 8 [(.tmp 58), (.tmp 59)]), o_m 8 60])
(.seq (.seq (.ops [ o_m 61 8, o_p 62 (.bin .lss (.tmp 61) (.const (.int .i64 (0))))])
(.cond (.tmp 62)
(.seq (.ops [ o_p 2 (.mv (.const (.bool false)))])
(.ret))
(.skip)))
(.seq (.seq (.ops [ o_m 63 8, o_m 64 7, o_p 65 (.bin .neq (.tmp 63) (.tmp 64))])
(.cond (.tmp 65)
(.seq (.ops [ o_p 2 (.mv (.const (.bool false)))])
(.ret))
(.skip)))
(.seq (.ops [ o_p 2 (.mv (.const (.bool true)))])
(.ret)))))))))))))))))),
[.tmp 2]⟩
theorem r_laws_FnExactParsePacket : resFun Tryd.prog f_laws_FnExactParsePacket = some c_laws_FnExactParsePacket := by kernel_rfl

/- loop.example/g00940/spec.ParsePacket -/
abbrev f_spec_ParsePacket : Nat := 4
def c_spec_ParsePacket : MFun := ⟨8, .seq (.ops [ o_e 2 (.new 24 [(.int .i64 (0)), (.int .i64 (0)), (.int .i64 (0)), (.slice none 0 0)]), o_p 3 (.mv (.const (.bool false)))])
(.seq (.ops [ o_m 4 0, o_e 5 (.call 9 [(.tmp 4)]), o_p 6 (.ext 0 (.tmp 5)), o_p 7 (.ext 1 (.tmp 5)),
.op ⟨none, (.eff (.store 4 (.tmp 2) (.tmp 6))), none⟩, o_m 3 7])
(.ret)),
[.cell 2 (some 4), .tmp 3]⟩
theorem r_spec_ParsePacket : resFun Tryd.prog f_spec_ParsePacket = some c_spec_ParsePacket := by kernel_rfl

/- loop.example/g00940/impl.ParsePacket -/
abbrev f_impl_ParsePacket : Nat := 5
def c_impl_ParsePacket : MFun := ⟨56, .seq (.ops [ o_e 2 (.new 24 [(.int .i64 (0)), (.int .i64 (0)), (.int .i64 (0)), (.slice none 0 0)]), o_p 3 (.mv (.const (.bool false)))])
(.seq (.ops [ o_m 13 0,
.op ⟨(some 14), (.eff (.call 10 [(.tmp 13), (.const (.string ⟨#[58]⟩))])), none⟩, o_m 12 14, o_p 15 (.ext 0 (.tmp 12)), o_p 16 (.ext 1 (.tmp 12)), o_p 17 (.ext 2 (.tmp 12)), o_m 4 15, o_m 5 16, o_m 6 17])
(.seq (.ops [ o_m 19 4,
.op ⟨(some 20), (.eff (.call 11 [(.tmp 19), (.const (.string ⟨#[47]⟩))])), none⟩, o_m 18 20, o_p 21 (.ext 0 (.tmp 18)), o_p 22 (.ext 1 (.tmp 18)), o_m 7 21, o_m 8 22])
(.seq (.ops [ o_m 24 5,
.op ⟨(some 25), (.eff (.call 11 [(.tmp 24), (.const (.string ⟨#[32]⟩))])), none⟩, o_m 23 25, o_p 26 (.ext 0 (.tmp 23)), o_p 27 (.ext 1 (.tmp 23)), o_m 9 26, o_m 10 27])
(.seq (.seq (.ops [ o_m 28 8, o_p 29 (.bnot (.tmp 28)), o_m 30 29,
.split 30,
.op ⟨(some 31), (.pure (.mv (.tmp 10))), (some (30, false))⟩,
.op ⟨(some 32), (.pure (.bnot (.tmp 31))), (some (30, false))⟩, o_p 33 (.pick (.tmp 30) (.const (.bool true)) (.tmp 32)), o_m 34 33,
.split 34,
.op ⟨(some 35), (.pure (.mv (.tmp 7))), (some (34, false))⟩,
.op ⟨(some 36), (.pure (.len (.tmp 35))), (some (34, false))⟩,
.op ⟨(some 37), (.pure (.bin .neq (.tmp 36) (.const (.int .i64 (3))))), (some (34, false))⟩, o_p 38 (.pick (.tmp 34) (.const (.bool true)) (.tmp 37))])
(.cond (.tmp 38)
(.seq (.ops [ o_p 39 (.build [(.int .i64 (0)), (.int .i64 (0)), (.int .i64 (0)), (.slice none 0 0)] []),
.op ⟨none, (.eff (.store 4 (.tmp 2) (.tmp 39))), none⟩, o_p 3 (.mv (.const (.bool false)))])
(.ret))
(.skip)))
(.seq (.draw true
(.take (t_m 40 7)
(.take (t_p 41 (.idx 1 (.tmp 40) (.const (.int .i64 (0)))))
(.take (t_m 43 7)
(.take (t_p 44 (.idx 1 (.tmp 43) (.const (.int .i64 (1)))))
(.take (t_m 46 7)
(.take (t_p 47 (.idx 1 (.tmp 46) (.const (.int .i64 (2)))))
(.take (t_m 49 9)
(.take (t_l 42 41)
(.take (t_l 45 44)
(.take (t_l 48 47)
(.take (t_p 50 (.build [(.int .i64 (0)), (.int .i64 (0)), (.int .i64 (0)), (.slice none 0 0)] [(0, 1, (.tmp 42)), (1, 1, (.tmp 45)), (2, 1, (.tmp 48)), (3, 1, (.tmp 49))]))
(.only false (t_e 11 (.new 24 [(.int .i64 (0)), (.int .i64 (0)), (.int .i64 (0)), (.slice none 0 0)]))
(.only true ⟨none, (.eff (.store 4 (.tmp 11) (.tmp 50))), none⟩
(.done)))))))))))))))
(.seq (.seq (.ops [
.op ⟨(some 51), (.load (some 4) (.tmp 11)), none⟩, o_e 52 (.call 12 [(.tmp 51)]), o_p 53 (.bnot (.tmp 52))])
(.cond (.tmp 53)
(.seq (.ops [ o_p 54 (.build [(.int .i64 (0)), (.int .i64 (0)), (.int .i64 (0)), (.slice none 0 0)] []),
.op ⟨none, (.eff (.store 4 (.tmp 2) (.tmp 54))), none⟩, o_p 3 (.mv (.const (.bool false)))])
(.ret))
(.skip)))
(.seq (.ops [
.op ⟨(some 55), (.load (some 4) (.tmp 11)), none⟩,
.op ⟨none, (.eff (.store 4 (.tmp 2) (.tmp 55))), none⟩, o_p 3 (.mv (.const (.bool true)))])
(.ret)))))))),
[.cell 2 (some 4), .tmp 3]⟩
theorem r_impl_ParsePacket : resFun Tryd.prog f_impl_ParsePacket = some c_impl_ParsePacket := by kernel_rfl

/- loop.example/g00940/laws.eqPacket -/
abbrev f_laws_eqPacket : Nat := 6
def c_laws_eqPacket : MFun := ⟨26, .seq (.ops [ o_e 2 (.box 24 (.tmp 0)), o_e 3 (.box 24 (.tmp 1)), o_p 4 (.mv (.const (.bool false)))])
(.seq (.seq (.ops [ o_p 5 (.fieldAddr 0 (.tmp 2)), o_l 6 5, o_p 7 (.fieldAddr 0 (.tmp 3)), o_l 8 7, o_p 9 (.bin .neq (.tmp 6) (.tmp 8))])
(.cond (.tmp 9)
(.seq (.ops [ o_p 4 (.mv (.const (.bool false)))])
(.ret))
(.skip)))
(.seq (.seq (.ops [ o_p 10 (.fieldAddr 1 (.tmp 2)), o_l 11 10, o_p 12 (.fieldAddr 1 (.tmp 3)), o_l 13 12, o_p 14 (.bin .neq (.tmp 11) (.tmp 13))])
(.cond (.tmp 14)
(.seq (.ops [ o_p 4 (.mv (.const (.bool false)))])
(.ret))
(.skip)))
(.seq (.seq (.ops [ o_p 15 (.fieldAddr 2 (.tmp 2)), o_l 16 15, o_p 17 (.fieldAddr 2 (.tmp 3)), o_l 18 17, o_p 19 (.bin .neq (.tmp 16) (.tmp 18))])
(.cond (.tmp 19)
(.seq (.ops [ o_p 4 (.mv (.const (.bool false)))])
(.ret))
(.skip)))
(.seq (.seq (.ops [ o_p 20 (.fieldAddr 3 (.tmp 2)), o_l 21 20, o_p 22 (.fieldAddr 3 (.tmp 3)), o_l 23 22, o_e 24 (.call 13 [(.tmp 21), (.tmp 23)]), o_p 25 (.bnot (.tmp 24))])
(.cond (.tmp 25)
(.seq (.ops [ o_p 4 (.mv (.const (.bool false)))])
(.ret))
(.skip)))
(.seq (.ops [ o_p 4 (.mv (.const (.bool true)))])
(.ret)))))),
[.tmp 4]⟩
theorem r_laws_eqPacket : resFun Tryd.prog f_laws_eqPacket = some c_laws_eqPacket := by kernel_rfl

/- loop.example/g00940/laws.markPacket -/
abbrev f_laws_markPacket : Nat := 7
def c_laws_markPacket : MFun := ⟨10, .seq (.ops [ o_e 2 (.box 24 (.tmp 0)), o_p 4 (.mv (.const (.int .i64 (0))))])
(.seq (.ops [ o_p 5 (.fieldAddr 3 (.tmp 2)), o_l 6 5, o_m 7 1, o_e 8 (.call 14 [(.tmp 6), (.tmp 7)]), o_m 1 8])
(.seq (.ops [ o_m 9 1, o_m 4 9])
(.ret))),
[.tmp 4]⟩
theorem r_laws_markPacket : resFun Tryd.prog f_laws_markPacket = some c_laws_markPacket := by kernel_rfl

/- loop.example/g00940/laws.heldPacket -/
abbrev f_laws_heldPacket : Nat := 8
def c_laws_heldPacket : MFun := ⟨12, .seq (.ops [ o_e 2 (.box 24 (.tmp 0)), o_p 4 (.mv (.const (.int .i64 (0))))])
(.seq (.ops [ o_p 5 (.fieldAddr 3 (.tmp 2)), o_l 6 5, o_m 7 1, o_e 8 (.call 15 [(.tmp 6), (.tmp 7)]), o_m 1 8])
(.seq (.seq (.ops [ o_m 9 1, o_p 10 (.bin .lss (.tmp 9) (.const (.int .i64 (0))))])
(.cond (.tmp 10)
(.seq (.ops [ o_p 4 (.mv (.const (.int .i64 (-1))))])
(.ret))
(.skip)))
(.seq (.ops [ o_m 11 1, o_m 4 11])
(.ret)))),
[.tmp 4]⟩
theorem r_laws_heldPacket : resFun Tryd.prog f_laws_heldPacket = some c_laws_heldPacket := by kernel_rfl

/- loop.example/g00940/spec.pkParse -/
abbrev f_spec_pkParse : Nat := 9
def c_spec_pkParse : MFun := ⟨59, .seq (.ops [ o_e 2 (.new 24 [(.int .i64 (0)), (.int .i64 (0)), (.int .i64 (0)), (.slice none 0 0)]), o_p 3 (.mv (.const (.bool false)))])
(.seq (.ops [ o_m 9 0, o_e 10 (.call 16 [(.tmp 9), (.const (.int .u8 (58)))]), o_m 4 10])
(.seq (.seq (.ops [ o_m 11 4, o_p 12 (.len (.tmp 11)), o_p 13 (.bin .neq (.tmp 12) (.const (.int .i64 (2))))])
(.cond (.tmp 13)
(.seq (.ops [ o_p 14 (.build [(.int .i64 (0)), (.int .i64 (0)), (.int .i64 (0)), (.slice none 0 0)] []),
.op ⟨none, (.eff (.store 4 (.tmp 2) (.tmp 14))), none⟩, o_p 3 (.mv (.const (.bool false)))])
(.ret))
(.skip)))
(.seq (.ops [ o_m 15 4, o_p 16 (.idx 1 (.tmp 15) (.const (.int .i64 (0)))), o_l 17 16, o_e 18 (.call 16 [(.tmp 17), (.const (.int .u8 (47)))]), o_m 5 18])
(.seq (.ops [ o_m 20 4, o_p 21 (.idx 1 (.tmp 20) (.const (.int .i64 (1)))), o_l 22 21, o_e 23 (.call 17 [(.tmp 22)]), o_m 19 23, o_p 24 (.ext 0 (.tmp 19)), o_p 25 (.ext 1 (.tmp 19)), o_m 6 24, o_m 7 25])
(.seq (.seq (.ops [ o_m 26 5, o_p 27 (.len (.tmp 26)), o_p 28 (.bin .neq (.tmp 27) (.const (.int .i64 (3)))), o_m 29 28,
.split 29,
.op ⟨(some 30), (.pure (.mv (.tmp 7))), (some (29, false))⟩,
.op ⟨(some 31), (.pure (.bnot (.tmp 30))), (some (29, false))⟩, o_p 32 (.pick (.tmp 29) (.const (.bool true)) (.tmp 31))])
(.cond (.tmp 32)
(.seq (.ops [ o_p 33 (.build [(.int .i64 (0)), (.int .i64 (0)), (.int .i64 (0)), (.slice none 0 0)] []),
.op ⟨none, (.eff (.store 4 (.tmp 2) (.tmp 33))), none⟩, o_p 3 (.mv (.const (.bool false)))])
(.ret))
(.skip)))
(.seq (.draw true
(.take (t_m 34 5)
(.take (t_p 35 (.idx 1 (.tmp 34) (.const (.int .i64 (0)))))
(.take (t_m 38 5)
(.take (t_p 39 (.idx 1 (.tmp 38) (.const (.int .i64 (1)))))
(.take (t_m 42 5)
(.take (t_p 43 (.idx 1 (.tmp 42) (.const (.int .i64 (2)))))
(.take (t_m 46 6)
(.take (t_l 36 35)
(.take (t_l 40 39)
(.take (t_l 44 43)
(.fork
(.only false (t_e 37 (.call 18 [(.tmp 36)]))
(.fork
(.only false (t_e 41 (.call 18 [(.tmp 40)]))
(.fork
(.only false (t_e 45 (.call 18 [(.tmp 44)]))
(.take (t_p 47 (.build [(.int .i64 (0)), (.int .i64 (0)), (.int .i64 (0)), (.slice none 0 0)] [(0, 1, (.tmp 37)), (1, 1, (.tmp 41)), (2, 1, (.tmp 45)), (3, 1, (.tmp 46))]))
(.only false (t_e 8 (.new 24 [(.int .i64 (0)), (.int .i64 (0)), (.int .i64 (0)), (.slice none 0 0)]))
(.only false ⟨none, (.eff (.store 4 (.tmp 8) (.tmp 47))), none⟩
(.done)))))
(.only false (t_e 8 (.new 24 [(.int .i64 (0)), (.int .i64 (0)), (.int .i64 (0)), (.slice none 0 0)]))
(.only false (t_e 45 (.call 18 [(.tmp 44)]))
(.take (t_p 47 (.build [(.int .i64 (0)), (.int .i64 (0)), (.int .i64 (0)), (.slice none 0 0)] [(0, 1, (.tmp 37)), (1, 1, (.tmp 41)), (2, 1, (.tmp 45)), (3, 1, (.tmp 46))]))
(.only false ⟨none, (.eff (.store 4 (.tmp 8) (.tmp 47))), none⟩
(.done)))))))
(.only false (t_e 8 (.new 24 [(.int .i64 (0)), (.int .i64 (0)), (.int .i64 (0)), (.slice none 0 0)]))
(.only false (t_e 41 (.call 18 [(.tmp 40)]))
(.only false (t_e 45 (.call 18 [(.tmp 44)]))
(.take (t_p 47 (.build [(.int .i64 (0)), (.int .i64 (0)), (.int .i64 (0)), (.slice none 0 0)] [(0, 1, (.tmp 37)), (1, 1, (.tmp 41)), (2, 1, (.tmp 45)), (3, 1, (.tmp 46))]))
(.only false ⟨none, (.eff (.store 4 (.tmp 8) (.tmp 47))), none⟩
(.done))))))))
(.only false (t_e 8 (.new 24 [(.int .i64 (0)), (.int .i64 (0)), (.int .i64 (0)), (.slice none 0 0)]))
(.only false (t_e 37 (.call 18 [(.tmp 36)]))
(.only false (t_e 41 (.call 18 [(.tmp 40)]))
(.only false (t_e 45 (.call 18 [(.tmp 44)]))
(.take (t_p 47 (.build [(.int .i64 (0)), (.int .i64 (0)), (.int .i64 (0)), (.slice none 0 0)] [(0, 1, (.tmp 37)), (1, 1, (.tmp 41)), (2, 1, (.tmp 45)), (3, 1, (.tmp 46))]))
(.only false ⟨none, (.eff (.store 4 (.tmp 8) (.tmp 47))), none⟩
(.done)))))))))))))))))))
(.seq (.seq (.ops [
.op ⟨(some 48), (.load (some 4) (.tmp 8)), none⟩, o_e 49 (.call 19 [(.tmp 48)]), o_p 50 (.bnot (.tmp 49)), o_m 51 50,
.split 51,
.op ⟨(some 52), (.load (some 4) (.tmp 8)), (some (51, false))⟩,
.op ⟨(some 53), (.eff (.call 20 [(.tmp 52)])), (some (51, false))⟩,
.op ⟨(some 54), (.pure (.mv (.tmp 0))), (some (51, false))⟩,
.op ⟨(some 55), (.pure (.bin .neq (.tmp 53) (.tmp 54))), (some (51, false))⟩, o_p 56 (.pick (.tmp 51) (.const (.bool true)) (.tmp 55))])
(.cond (.tmp 56)
(.seq (.ops [ o_p 57 (.build [(.int .i64 (0)), (.int .i64 (0)), (.int .i64 (0)), (.slice none 0 0)] []),
.op ⟨none, (.eff (.store 4 (.tmp 2) (.tmp 57))), none⟩, o_p 3 (.mv (.const (.bool false)))])
(.ret))
(.skip)))
(.seq (.ops [
.op ⟨(some 58), (.load (some 4) (.tmp 8)), none⟩,
.op ⟨none, (.eff (.store 4 (.tmp 2) (.tmp 58))), none⟩, o_p 3 (.mv (.const (.bool true)))])
(.ret))))))))),
[.cell 2 (some 4), .tmp 3]⟩
theorem r_spec_pkParse : resFun Tryd.prog f_spec_pkParse = some c_spec_pkParse := by kernel_rfl

/- strings.Cut -/
abbrev f_strings_Cut : Nat := 10
def c_strings_Cut : MFun := ⟨13, .seq (.ops [
.op ⟨(some 4), (.pure (.mv (.const (.string ⟨#[]⟩)))), none⟩,
.op ⟨(some 5), (.pure (.mv (.const (.string ⟨#[]⟩)))), none⟩, o_p 6 (.mv (.const (.bool false)))])
(.seq (.ops [ o_m 7 0, o_m 8 1, o_e 9 (.call 21 [(.tmp 7), (.tmp 8)]), o_p 10 (.ext 0 (.tmp 9)), o_p 11 (.ext 1 (.tmp 9)), o_p 12 (.ext 2 (.tmp 9)), o_m 4 10, o_m 5 11, o_m 6 12])
(.ret)),
[.tmp 4, .tmp 5, .tmp 6]⟩
theorem r_strings_Cut : resFun Tryd.prog f_strings_Cut = some c_strings_Cut := by kernel_rfl

/- loop.example/g00940/impl.splitNumbers -/
abbrev f_impl_splitNumbers : Nat := 11
def c_impl_splitNumbers : MFun := ⟨32, .seq (.ops [ o_p 4 (.mv (.const (.slice none 0 0))), o_p 5 (.mv (.const (.bool false)))])
(.seq (.ops [ o_p 6 (.mv (.const (.slice none 0 0)))])
(.seq (.seq (.ops [ o_m 11 0, o_m 12 1, o_e 13 (.call 22 [(.tmp 11), (.tmp 12)]), o_p 14 (.len (.tmp 13)), o_p 15 (.mv (.const (.int .i64 (0))))])
(.block 0 (.loop (.seq (.ops [ o_p 16 (.bin .lss (.tmp 15) (.tmp 14))])
(.seq (.cond (.tmp 16)
(.skip)
(.exit 0))
(.seq (.block 1 (.seq (.ops [ o_p 17 (.idx 1 (.tmp 13) (.tmp 15)), o_l 18 17, o_m 8 18])
(.seq (.ops [ o_m 20 8, o_e 21 (.call 23 [(.tmp 20)]), o_m 19 21, o_p 22 (.ext 0 (.tmp 19)), o_p 23 (.ext 1 (.tmp 19)), o_m 9 22, o_m 10 23])
(.seq (.seq (.ops [ o_m 24 10, o_p 25 (.bnot (.tmp 24))])
(.cond (.tmp 25)
(.seq (.ops [ o_p 4 (.mv (.const (.slice none 0 0))), o_p 5 (.mv (.const (.bool false)))])
(.ret))
(.skip)))
(.ops [ o_m 26 6, o_m 27 9, o_e 28 (.row 3 1 [(.int .i64 (0))] [(0, 1, (.tmp 27))]), o_e 29 (.app 3 1 8 (.tmp 26) (.tmp 28)), o_m 6 29])))))
(.ops [ o_p 30 (.bin .add (.tmp 15) (.const (.int .i64 (1)))), o_m 15 30])))))))
(.seq (.ops [ o_m 31 6, o_m 4 31, o_p 5 (.mv (.const (.bool true)))])
(.ret)))),
[.tmp 4, .tmp 5]⟩
theorem r_impl_splitNumbers : resFun Tryd.prog f_impl_splitNumbers = some c_impl_splitNumbers := by kernel_rfl

/- loop.example/g00940/impl.IsPacket -/
abbrev f_impl_IsPacket : Nat := 12
def c_impl_IsPacket : MFun := ⟨30, .seq (.ops [ o_e 1 (.box 24 (.tmp 0)), o_p 2 (.mv (.const (.bool false)))])
(.seq (.ops [ o_p 3 (.fieldAddr 0 (.tmp 1)), o_l 4 3, o_e 5 (.call 24 [(.tmp 4), (.const (.int .i64 (1))), (.const (.int .i64 (999)))]), o_m 6 5,
.split 6,
.op ⟨(some 7), (.pure (.fieldAddr 2 (.tmp 1))), (some (6, true))⟩,
.op ⟨(some 8), (.load none (.tmp 7)), (some (6, true))⟩,
.op ⟨(some 9), (.eff (.call 24 [(.tmp 8), (.const (.int .i64 (1))), (.const (.int .i64 (9)))])), (some (6, true))⟩, o_p 10 (.pick (.tmp 6) (.tmp 9) (.const (.bool false))), o_m 11 10,
.split 11,
.op ⟨(some 12), (.pure (.fieldAddr 1 (.tmp 1))), (some (11, true))⟩,
.op ⟨(some 13), (.load none (.tmp 12)), (some (11, true))⟩,
.op ⟨(some 14), (.pure (.fieldAddr 2 (.tmp 1))), (some (11, true))⟩,
.op ⟨(some 15), (.load none (.tmp 14)), (some (11, true))⟩,
.op ⟨(some 16), (.pure (.bin .sub (.tmp 15) (.const (.int .i64 (1))))), (some (11, true))⟩,
.op ⟨(some 17), (.eff (.call 24 [(.tmp 13), (.const (.int .i64 (0))), (.tmp 16)])), (some (11, true))⟩, o_p 18 (.pick (.tmp 11) (.tmp 17) (.const (.bool false))), o_m 19 18,
.split 19,
.op ⟨(some 20), (.pure (.fieldAddr 3 (.tmp 1))), (some (19, true))⟩,
.op ⟨(some 21), (.load none (.tmp 20)), (some (19, true))⟩,
.op ⟨(some 22), (.pure (.len (.tmp 21))), (some (19, true))⟩,
.op ⟨(some 23), (.eff (.call 24 [(.tmp 22), (.const (.int .i64 (1))), (.const (.int .i64 (8)))])), (some (19, true))⟩, o_p 24 (.pick (.tmp 19) (.tmp 23) (.const (.bool false))), o_m 25 24,
.split 25,
.op ⟨(some 26), (.pure (.fieldAddr 3 (.tmp 1))), (some (25, true))⟩,
.op ⟨(some 27), (.load none (.tmp 26)), (some (25, true))⟩,
.op ⟨(some 28), (.eff (.call 25 [(.tmp 27), (.const (.int .i64 (1))), (.const (.int .i64 (60)))])), (some (25, true))⟩, o_p 29 (.pick (.tmp 25) (.tmp 28) (.const (.bool false))), o_m 2 29])
(.ret)),
[.tmp 2]⟩
theorem r_impl_IsPacket : resFun Tryd.prog f_impl_IsPacket = some c_impl_IsPacket := by kernel_rfl

/- loop.example/g00940/laws.eqIntS -/
abbrev f_laws_eqIntS : Nat := 13
def c_laws_eqIntS : MFun := ⟨26, .seq (.ops [ o_p 4 (.mv (.const (.bool false)))])
(.seq (.seq (.ops [ o_m 6 0, o_p 7 (.len (.tmp 6)), o_m 8 1, o_p 9 (.len (.tmp 8)), o_p 10 (.bin .neq (.tmp 7) (.tmp 9))])
(.cond (.tmp 10)
(.seq (.ops [ o_p 4 (.mv (.const (.bool false)))])
(.ret))
(.skip)))
(.seq (.seq (.ops [ o_p 5 (.mv (.const (.int .i64 (0))))])
(.block 0 (.loop (.seq (.seq (.ops [ o_m 11 5, o_m 12 0, o_p 13 (.len (.tmp 12)), o_p 14 (.bin .lss (.tmp 11) (.tmp 13))])
(.cond (.tmp 14)
(.skip)
(.exit 0)))
(.seq (.block 1 (.seq (.ops [ o_m 17 0, o_m 18 5, o_p 19 (.idx 1 (.tmp 17) (.tmp 18)), o_m 21 1, o_m 22 5, o_p 23 (.idx 1 (.tmp 21) (.tmp 22)), o_l 20 19, o_l 24 23, o_p 25 (.bin .neq (.tmp 20) (.tmp 24))])
(.cond (.tmp 25)
(.seq (.ops [ o_p 4 (.mv (.const (.bool false)))])
(.ret))
(.skip))))
(.ops [ o_m 15 5, o_p 16 (.bin .add (.tmp 15) (.const (.int .i64 (1)))), o_m 5 16]))))))
(.seq (.ops [ o_p 4 (.mv (.const (.bool true)))])
(.ret)))),
[.tmp 4]⟩
theorem r_laws_eqIntS : resFun Tryd.prog f_laws_eqIntS = some c_laws_eqIntS := by kernel_rfl

/- loop.example/g00940/laws.markIntS -/
abbrev f_laws_markIntS : Nat := 14
def c_laws_markIntS : MFun := ⟨19, .seq (.ops [ o_p 4 (.mv (.const (.int .i64 (0))))])
(.seq (.seq (.ops [ o_p 5 (.mv (.const (.int .i64 (0))))])
(.block 0 (.loop (.seq (.seq (.ops [ o_m 6 5, o_m 7 0, o_p 8 (.len (.tmp 7)), o_p 9 (.bin .lss (.tmp 6) (.tmp 8))])
(.cond (.tmp 9)
(.skip)
(.exit 0)))
(.seq (.block 1 (.seq (.ops [ o_m 12 0, o_m 13 5, o_m 14 1, o_p 15 (.idx 1 (.tmp 12) (.tmp 13)),
.op ⟨none, (.eff (.store 1 (.tmp 15) (.tmp 14))), none⟩])
(.ops [ o_m 16 1, o_p 17 (.bin .add (.tmp 16) (.const (.int .i64 (1)))), o_m 1 17])))
(.ops [ o_m 10 5, o_p 11 (.bin .add (.tmp 10) (.const (.int .i64 (1)))), o_m 5 11]))))))
(.seq (.ops [ o_m 18 1, o_m 4 18])
(.ret))),
[.tmp 4]⟩
theorem r_laws_markIntS : resFun Tryd.prog f_laws_markIntS = some c_laws_markIntS := by kernel_rfl

/- loop.example/g00940/laws.heldIntS -/
abbrev f_laws_heldIntS : Nat := 15
def c_laws_heldIntS : MFun := ⟨21, .seq (.ops [ o_p 4 (.mv (.const (.int .i64 (0))))])
(.seq (.seq (.ops [ o_p 5 (.mv (.const (.int .i64 (0))))])
(.block 0 (.loop (.seq (.seq (.ops [ o_m 6 5, o_m 7 0, o_p 8 (.len (.tmp 7)), o_p 9 (.bin .lss (.tmp 6) (.tmp 8))])
(.cond (.tmp 9)
(.skip)
(.exit 0)))
(.seq (.block 1 (.seq (.seq (.ops [ o_m 12 0, o_m 13 5, o_p 14 (.idx 1 (.tmp 12) (.tmp 13)), o_l 15 14, o_m 16 1, o_p 17 (.bin .neq (.tmp 15) (.tmp 16))])
(.cond (.tmp 17)
(.seq (.ops [ o_p 4 (.mv (.const (.int .i64 (-1))))])
(.ret))
(.skip)))
(.ops [ o_m 18 1, o_p 19 (.bin .add (.tmp 18) (.const (.int .i64 (1)))), o_m 1 19])))
(.ops [ o_m 10 5, o_p 11 (.bin .add (.tmp 10) (.const (.int .i64 (1)))), o_m 5 11]))))))
(.seq (.ops [ o_m 20 1, o_m 4 20])
(.ret))),
[.tmp 4]⟩
theorem r_laws_heldIntS : resFun Tryd.prog f_laws_heldIntS = some c_laws_heldIntS := by kernel_rfl

/- loop.example/g00940/spec.l1Split -/
abbrev f_spec_l1Split : Nat := 16
def c_spec_l1Split : MFun := ⟨34, .seq (.ops [ o_p 4 (.mv (.const (.slice none 0 0)))])
(.seq (.ops [ o_p 5 (.mv (.const (.slice none 0 0)))])
(.seq (.ops [ o_p 6 (.mv (.const (.int .i64 (0))))])
(.seq (.seq (.ops [ o_p 7 (.mv (.const (.int .i64 (0))))])
(.block 0 (.loop (.seq (.seq (.ops [ o_m 8 7, o_m 9 0, o_p 10 (.slen (.tmp 9)), o_p 11 (.bin .lss (.tmp 8) (.tmp 10))])
(.cond (.tmp 11)
(.skip)
(.exit 0)))
(.seq (.block 1 (.seq (.ops [ o_m 14 0, o_m 15 7, o_p 16 (.sidx (.tmp 14) (.tmp 15)), o_m 17 1, o_p 18 (.bin .eql (.tmp 16) (.tmp 17))])
(.cond (.tmp 18)
(.seq (.ops [ o_m 19 5, o_m 20 0, o_m 21 6, o_m 22 7, o_p 23 (.sslc (.tmp 20) (some (.tmp 21)) (some (.tmp 22))),
.op ⟨(some 24), (.eff (.row 9 1 [(.string ⟨#[]⟩)] [(0, 1, (.tmp 23))])), none⟩, o_e 25 (.app 9 1 16 (.tmp 19) (.tmp 24)), o_m 5 25])
(.ops [ o_m 26 7, o_p 27 (.bin .add (.tmp 26) (.const (.int .i64 (1)))), o_m 6 27]))
(.skip))))
(.ops [ o_m 12 7, o_p 13 (.bin .add (.tmp 12) (.const (.int .i64 (1)))), o_m 7 13]))))))
(.seq (.ops [ o_m 28 5, o_m 29 0, o_m 30 6, o_p 31 (.sslc (.tmp 29) (some (.tmp 30)) none),
.op ⟨(some 32), (.eff (.row 9 1 [(.string ⟨#[]⟩)] [(0, 1, (.tmp 31))])), none⟩, o_e 33 (.app 9 1 16 (.tmp 28) (.tmp 32)), o_m 4 33])
(.ret))))),
[.tmp 4]⟩
theorem r_spec_l1Split : resFun Tryd.prog f_spec_l1Split = some c_spec_l1Split := by kernel_rfl

/- loop.example/g00940/spec.sgParse -/
abbrev f_spec_sgParse : Nat := 17
def c_spec_sgParse : MFun := ⟨32, .seq (.ops [ o_p 2 (.mv (.const (.slice none 0 0))), o_p 3 (.mv (.const (.bool false)))])
(.seq (.seq (.ops [ o_m 7 0,
.op ⟨(some 8), (.pure (.bin .eql (.tmp 7) (.const (.string ⟨#[]⟩)))), none⟩])
(.cond (.tmp 8)
(.seq (.ops [ o_p 2 (.mv (.const (.slice none 0 0))), o_p 3 (.mv (.const (.bool true)))])
(.ret))
(.skip)))
(.seq (.ops [ o_p 4 (.mv (.const (.slice none 0 0)))])
(.seq (.seq (.ops [ o_m 9 0, o_e 10 (.call 16 [(.tmp 9), (.const (.int .u8 (32)))]), o_p 11 (.len (.tmp 10)), o_p 12 (.mv (.const (.int .i64 (0))))])
(.block 0 (.loop (.seq (.ops [ o_p 13 (.bin .lss (.tmp 12) (.tmp 11))])
(.seq (.cond (.tmp 13)
(.skip)
(.exit 0))
(.seq (.block 1 (.seq (.ops [ o_p 14 (.idx 1 (.tmp 10) (.tmp 12)), o_l 15 14, o_m 6 15])
(.ops [ o_m 16 4, o_m 17 6, o_e 18 (.call 18 [(.tmp 17)]), o_e 19 (.row 3 1 [(.int .i64 (0))] [(0, 1, (.tmp 18))]), o_e 20 (.app 3 1 8 (.tmp 16) (.tmp 19)), o_m 4 20])))
(.ops [ o_p 21 (.bin .add (.tmp 12) (.const (.int .i64 (1)))), o_m 12 21])))))))
(.seq (.seq (.ops [ o_m 22 4, o_e 23 (.call 26 [(.tmp 22)]), o_p 24 (.bnot (.tmp 23)), o_m 25 24,
.split 25,
.op ⟨(some 26), (.pure (.mv (.tmp 4))), (some (25, false))⟩,
.op ⟨(some 27), (.eff (.call 27 [(.tmp 26)])), (some (25, false))⟩,
.op ⟨(some 28), (.pure (.mv (.tmp 0))), (some (25, false))⟩,
.op ⟨(some 29), (.pure (.bin .neq (.tmp 27) (.tmp 28))), (some (25, false))⟩, o_p 30 (.pick (.tmp 25) (.const (.bool true)) (.tmp 29))])
(.cond (.tmp 30)
(.seq (.ops [ o_p 2 (.mv (.const (.slice none 0 0))), o_p 3 (.mv (.const (.bool false)))])
(.ret))
(.skip)))
(.seq (.ops [ o_m 31 4, o_m 2 31, o_p 3 (.mv (.const (.bool true)))])
(.ret)))))),
[.tmp 2, .tmp 3]⟩
theorem r_spec_sgParse : resFun Tryd.prog f_spec_sgParse = some c_spec_sgParse := by kernel_rfl

/- loop.example/g00940/spec.l1Read -/
abbrev f_spec_l1Read : Nat := 18
def c_spec_l1Read : MFun := ⟨44, .seq (.ops [ o_p 2 (.mv (.const (.int .i64 (0))))])
(.seq (.seq (.ops [ o_m 5 0, o_p 6 (.slen (.tmp 5)), o_e 7 (.call 28 [(.tmp 6), (.const (.int .i64 (1))), (.const (.int .i64 (6)))]), o_p 8 (.bnot (.tmp 7)), o_m 9 8,
.split 9,
.op ⟨(some 10), (.pure (.mv (.tmp 0))), (some (9, false))⟩,
.op ⟨(some 11), (.pure (.sidx (.tmp 10) (.const (.int .i64 (0))))), (some (9, false))⟩,
.op ⟨(some 12), (.pure (.bin .eql (.tmp 11) (.const (.int .u8 (48))))), (some (9, false))⟩,
.op ⟨(some 13), (.pure (.mv (.tmp 12))), (some (9, false))⟩,
.split 13,
.op ⟨(some 14), (.pure (.mv (.tmp 0))), (some (13, true))⟩,
.op ⟨(some 15), (.pure (.slen (.tmp 14))), (some (13, true))⟩,
.op ⟨(some 16), (.pure (.bin .gtr (.tmp 15) (.const (.int .i64 (1))))), (some (13, true))⟩,
.op ⟨(some 17), (.pure (.pick (.tmp 13) (.tmp 16) (.const (.bool false)))), (some (9, false))⟩, o_p 18 (.pick (.tmp 9) (.const (.bool true)) (.tmp 17))])
(.cond (.tmp 18)
(.seq (.ops [ o_p 2 (.mv (.const (.int .i64 (-1))))])
(.ret))
(.skip)))
(.seq (.ops [ o_p 3 (.mv (.const (.int .i64 (0))))])
(.seq (.seq (.ops [ o_p 4 (.mv (.const (.int .i64 (0))))])
(.block 0 (.loop (.seq (.seq (.ops [ o_m 19 4, o_m 20 0, o_p 21 (.slen (.tmp 20)), o_p 22 (.bin .lss (.tmp 19) (.tmp 21))])
(.cond (.tmp 22)
(.skip)
(.exit 0)))
(.seq (.block 1 (.seq (.seq (.ops [ o_m 25 0, o_m 26 4, o_p 27 (.sidx (.tmp 25) (.tmp 26)), o_p 28 (.bin .lss (.tmp 27) (.const (.int .u8 (48)))), o_m 29 28,
.split 29,
.op ⟨(some 30), (.pure (.mv (.tmp 0))), (some (29, false))⟩,
.op ⟨(some 31), (.pure (.mv (.tmp 4))), (some (29, false))⟩,
.op ⟨(some 32), (.pure (.sidx (.tmp 30) (.tmp 31))), (some (29, false))⟩,
.op ⟨(some 33), (.pure (.bin .gtr (.tmp 32) (.const (.int .u8 (57))))), (some (29, false))⟩, o_p 34 (.pick (.tmp 29) (.const (.bool true)) (.tmp 33))])
(.cond (.tmp 34)
(.seq (.ops [ o_p 2 (.mv (.const (.int .i64 (-1))))])
(.ret))
(.skip)))
(.ops [ o_m 35 3, o_p 36 (.bin .mul (.const (.int .i64 (10))) (.tmp 35)), o_m 37 0, o_m 38 4, o_p 39 (.sidx (.tmp 37) (.tmp 38)), o_p 40 (.bin .sub (.tmp 39) (.const (.int .u8 (48)))), o_p 41 (.conv .i64 (.tmp 40)), o_p 42 (.bin .add (.tmp 36) (.tmp 41)), o_m 3 42])))
(.ops [ o_m 23 4, o_p 24 (.bin .add (.tmp 23) (.const (.int .i64 (1)))), o_m 4 24]))))))
(.seq (.ops [ o_m 43 3, o_m 2 43])
(.ret))))),
[.tmp 2]⟩
theorem r_spec_l1Read : resFun Tryd.prog f_spec_l1Read = some c_spec_l1Read := by kernel_rfl

/- loop.example/g00940/spec.pkGood -/
abbrev f_spec_pkGood : Nat := 19
def c_spec_pkGood : MFun := ⟨30, .seq (.ops [ o_e 1 (.box 24 (.tmp 0)), o_p 2 (.mv (.const (.bool false)))])
(.seq (.ops [ o_p 3 (.fieldAddr 0 (.tmp 1)), o_l 4 3, o_e 5 (.call 28 [(.tmp 4), (.const (.int .i64 (1))), (.const (.int .i64 (999)))]), o_m 6 5,
.split 6,
.op ⟨(some 7), (.pure (.fieldAddr 2 (.tmp 1))), (some (6, true))⟩,
.op ⟨(some 8), (.load none (.tmp 7)), (some (6, true))⟩,
.op ⟨(some 9), (.eff (.call 28 [(.tmp 8), (.const (.int .i64 (1))), (.const (.int .i64 (9)))])), (some (6, true))⟩, o_p 10 (.pick (.tmp 6) (.tmp 9) (.const (.bool false))), o_m 11 10,
.split 11,
.op ⟨(some 12), (.pure (.fieldAddr 1 (.tmp 1))), (some (11, true))⟩,
.op ⟨(some 13), (.load none (.tmp 12)), (some (11, true))⟩,
.op ⟨(some 14), (.pure (.fieldAddr 2 (.tmp 1))), (some (11, true))⟩,
.op ⟨(some 15), (.load none (.tmp 14)), (some (11, true))⟩,
.op ⟨(some 16), (.pure (.bin .sub (.tmp 15) (.const (.int .i64 (1))))), (some (11, true))⟩,
.op ⟨(some 17), (.eff (.call 28 [(.tmp 13), (.const (.int .i64 (0))), (.tmp 16)])), (some (11, true))⟩, o_p 18 (.pick (.tmp 11) (.tmp 17) (.const (.bool false))), o_m 19 18,
.split 19,
.op ⟨(some 20), (.pure (.fieldAddr 3 (.tmp 1))), (some (19, true))⟩,
.op ⟨(some 21), (.load none (.tmp 20)), (some (19, true))⟩,
.op ⟨(some 22), (.pure (.len (.tmp 21))), (some (19, true))⟩,
.op ⟨(some 23), (.eff (.call 28 [(.tmp 22), (.const (.int .i64 (1))), (.const (.int .i64 (8)))])), (some (19, true))⟩, o_p 24 (.pick (.tmp 19) (.tmp 23) (.const (.bool false))), o_m 25 24,
.split 25,
.op ⟨(some 26), (.pure (.fieldAddr 3 (.tmp 1))), (some (25, true))⟩,
.op ⟨(some 27), (.load none (.tmp 26)), (some (25, true))⟩,
.op ⟨(some 28), (.eff (.call 29 [(.tmp 27), (.const (.int .i64 (1))), (.const (.int .i64 (60)))])), (some (25, true))⟩, o_p 29 (.pick (.tmp 25) (.tmp 28) (.const (.bool false))), o_m 2 29])
(.ret)),
[.tmp 2]⟩
theorem r_spec_pkGood : resFun Tryd.prog f_spec_pkGood = some c_spec_pkGood := by kernel_rfl

/- loop.example/g00940/spec.pkText -/
abbrev f_spec_pkText : Nat := 20
def c_spec_pkText : MFun := ⟨21, .seq (.ops [ o_e 1 (.box 24 (.tmp 0)),
.op ⟨(some 2), (.pure (.mv (.const (.string ⟨#[]⟩)))), none⟩])
(.seq (.draw true
(.take (t_p 3 (.fieldAddr 0 (.tmp 1)))
(.take (t_p 7 (.fieldAddr 1 (.tmp 1)))
(.take (t_p 12 (.fieldAddr 2 (.tmp 1)))
(.take (t_p 17 (.fieldAddr 3 (.tmp 1)))
(.only false (t_l 4 3)
(.take (t_l 8 7)
(.take (t_l 13 12)
(.take (t_l 18 17)
(.only false (t_e 5 (.call 30 [(.tmp 4)]))
(.take ⟨(some 6), (.pure (.bin .add (.tmp 5) (.const (.string ⟨#[47]⟩)))), none⟩
(.only false (t_e 9 (.call 30 [(.tmp 8)]))
(.take (t_p 10 (.bin .add (.tmp 6) (.tmp 9)))
(.take ⟨(some 11), (.pure (.bin .add (.tmp 10) (.const (.string ⟨#[47]⟩)))), none⟩
(.only false (t_e 14 (.call 30 [(.tmp 13)]))
(.take (t_p 15 (.bin .add (.tmp 11) (.tmp 14)))
(.take ⟨(some 16), (.pure (.bin .add (.tmp 15) (.const (.string ⟨#[58]⟩)))), none⟩
(.only true (t_e 19 (.call 27 [(.tmp 18)]))
(.take (t_p 20 (.bin .add (.tmp 16) (.tmp 19)))
(.take (t_m 2 20)
(.done)))))))))))))))))))))
(.ret)),
[.tmp 2]⟩
theorem r_spec_pkText : resFun Tryd.prog f_spec_pkText = some c_spec_pkText := by kernel_rfl

/- internal/stringslite.Cut -/
abbrev f_internal_stringslite_Cut : Nat := 21
def c_internal_stringslite_Cut : MFun := ⟨23, .seq (.ops [
.op ⟨(some 4), (.pure (.mv (.const (.string ⟨#[]⟩)))), none⟩,
.op ⟨(some 5), (.pure (.mv (.const (.string ⟨#[]⟩)))), none⟩, o_p 6 (.mv (.const (.bool false)))])
(.seq (.seq (.ops [ o_m 8 0, o_m 9 1, o_e 10 (.call 31 [(.tmp 8), (.tmp 9)]), o_m 7 10])
(.seq (.ops [ o_m 11 7, o_p 12 (.bin .geq (.tmp 11) (.const (.int .i64 (0))))])
(.cond (.tmp 12)
(.seq (.ops [ o_m 13 0, o_m 14 7, o_p 15 (.sslc (.tmp 13) none (some (.tmp 14))), o_m 16 0, o_m 17 7, o_m 18 1, o_p 19 (.slen (.tmp 18)), o_p 20 (.bin .add (.tmp 17) (.tmp 19)), o_p 21 (.sslc (.tmp 16) (some (.tmp 20)) none), o_m 4 15, o_m 5 21, o_p 6 (.mv (.const (.bool true)))])
(.ret))
(.skip))))
(.seq (.ops [ o_m 22 0, o_m 4 22,
.op ⟨(some 5), (.pure (.mv (.const (.string ⟨#[]⟩)))), none⟩, o_p 6 (.mv (.const (.bool false)))])
(.ret))),
[.tmp 4, .tmp 5, .tmp 6]⟩
theorem r_internal_stringslite_Cut : resFun Tryd.prog f_internal_stringslite_Cut = some c_internal_stringslite_Cut := by kernel_rfl

/- strings.Split -/
abbrev f_strings_Split : Nat := 22
def c_strings_Split : MFun := ⟨8, .seq (.ops [ o_p 4 (.mv (.const (.slice none 0 0)))])
(.seq (.ops [ o_m 5 0, o_m 6 1, o_e 7 (.call 32 [(.tmp 5), (.tmp 6), (.const (.int .i64 (0))), (.const (.int .i64 (-1)))]), o_m 4 7])
(.ret)),
[.tmp 4]⟩
theorem r_strings_Split : resFun Tryd.prog f_strings_Split = some c_strings_Split := by kernel_rfl

/- loop.example/g00940/impl.readNumber -/
abbrev f_impl_readNumber : Nat := 23
def c_impl_readNumber : MFun := ⟨24, .seq (.ops [ o_p 2 (.mv (.const (.int .i64 (0)))), o_p 3 (.mv (.const (.bool false)))])
(.seq (.ops [ o_m 7 0, o_e 8 (.call 33 [(.tmp 7)]), o_m 6 8, o_p 9 (.ext 0 (.tmp 6)), o_p 10 (.ext 1 (.tmp 6)), o_m 4 9, o_m 5 10])
(.seq (.seq (.ops [ o_m 11 5, o_p 12 (.ifnil true (.tmp 11)), o_m 13 12,
.split 13,
.op ⟨(some 14), (.pure (.mv (.tmp 4))), (some (13, false))⟩,
.op ⟨(some 15), (.pure (.bin .lss (.tmp 14) (.const (.int .i64 (0))))), (some (13, false))⟩, o_p 16 (.pick (.tmp 13) (.const (.bool true)) (.tmp 15)), o_m 17 16,
.split 17,
.op ⟨(some 18), (.pure (.mv (.tmp 4))), (some (17, false))⟩,
.op ⟨(some 19), (.eff (.call 34 [(.tmp 18)])), (some (17, false))⟩,
.op ⟨(some 20), (.pure (.mv (.tmp 0))), (some (17, false))⟩,
.op ⟨(some 21), (.pure (.bin .neq (.tmp 19) (.tmp 20))), (some (17, false))⟩, o_p 22 (.pick (.tmp 17) (.const (.bool true)) (.tmp 21))])
(.cond (.tmp 22)
(.seq (.ops [ o_p 2 (.mv (.const (.int .i64 (0)))), o_p 3 (.mv (.const (.bool false)))])
(.ret))
(.skip)))
(.seq (.ops [ o_m 23 4, o_m 2 23, o_p 3 (.mv (.const (.bool true)))])
(.ret)))),
[.tmp 2, .tmp 3]⟩
theorem r_impl_readNumber : resFun Tryd.prog f_impl_readNumber = some c_impl_readNumber := by kernel_rfl

/- loop.example/g00940/impl.within -/
abbrev f_impl_within : Nat := 24
def c_impl_within : MFun := ⟨15, .seq (.ops [ o_p 6 (.mv (.const (.bool false)))])
(.seq (.ops [ o_m 7 0, o_m 8 1, o_p 9 (.bin .geq (.tmp 7) (.tmp 8)), o_m 10 9,
.split 10,
.op ⟨(some 11), (.pure (.mv (.tmp 0))), (some (10, true))⟩,
.op ⟨(some 12), (.pure (.mv (.tmp 2))), (some (10, true))⟩,
.op ⟨(some 13), (.pure (.bin .leq (.tmp 11) (.tmp 12))), (some (10, true))⟩, o_p 14 (.pick (.tmp 10) (.tmp 13) (.const (.bool false))), o_m 6 14])
(.ret)),
[.tmp 6]⟩
theorem r_impl_within : resFun Tryd.prog f_impl_within = some c_impl_within := by kernel_rfl

/- loop.example/g00940/impl.allWithin -/
abbrev f_impl_allWithin : Nat := 25
def c_impl_allWithin : MFun := ⟨21, .seq (.ops [ o_p 6 (.mv (.const (.bool false)))])
(.seq (.seq (.ops [ o_m 9 0, o_p 10 (.len (.tmp 9)), o_p 11 (.mv (.const (.int .i64 (0))))])
(.block 0 (.loop (.seq (.ops [ o_p 12 (.bin .lss (.tmp 11) (.tmp 10))])
(.seq (.cond (.tmp 12)
(.skip)
(.exit 0))
(.seq (.block 1 (.seq (.ops [ o_p 13 (.idx 1 (.tmp 9) (.tmp 11)), o_l 14 13, o_m 8 14])
(.seq (.ops [ o_m 15 8, o_m 16 1, o_m 17 2, o_e 18 (.call 24 [(.tmp 15), (.tmp 16), (.tmp 17)]), o_p 19 (.bnot (.tmp 18))])
(.cond (.tmp 19)
(.seq (.ops [ o_p 6 (.mv (.const (.bool false)))])
(.ret))
(.skip)))))
(.ops [ o_p 20 (.bin .add (.tmp 11) (.const (.int .i64 (1)))), o_m 11 20])))))))
(.seq (.ops [ o_p 6 (.mv (.const (.bool true)))])
(.ret))),
[.tmp 6]⟩
theorem r_impl_allWithin : resFun Tryd.prog f_impl_allWithin = some c_impl_allWithin := by kernel_rfl

/- loop.example/g00940/spec.sgList -/
abbrev f_spec_sgList : Nat := 26
def c_spec_sgList : MFun := ⟨10, .seq (.ops [ o_p 2 (.mv (.const (.bool false)))])
(.seq (.ops [ o_m 3 0, o_p 4 (.len (.tmp 3)), o_p 5 (.bin .leq (.tmp 4) (.const (.int .i64 (100)))), o_m 6 5,
.split 6,
.op ⟨(some 7), (.pure (.mv (.tmp 0))), (some (6, true))⟩,
.op ⟨(some 8), (.eff (.call 29 [(.tmp 7), (.const (.int .i64 (0))), (.const (.int .i64 (63)))])), (some (6, true))⟩, o_p 9 (.pick (.tmp 6) (.tmp 8) (.const (.bool false))), o_m 2 9])
(.ret)),
[.tmp 2]⟩
theorem r_spec_sgList : resFun Tryd.prog f_spec_sgList = some c_spec_sgList := by kernel_rfl

/- loop.example/g00940/spec.sgLine -/
abbrev f_spec_sgLine : Nat := 27
def c_spec_sgLine : MFun := ⟨23, .seq (.ops [
.op ⟨(some 2), (.pure (.mv (.const (.string ⟨#[]⟩)))), none⟩])
(.seq (.ops [
.op ⟨(some 3), (.pure (.mv (.const (.string ⟨#[]⟩)))), none⟩])
(.seq (.seq (.ops [ o_m 6 0, o_p 7 (.len (.tmp 6)), o_p 8 (.mv (.const (.int .i64 (0))))])
(.block 0 (.loop (.seq (.ops [ o_p 9 (.bin .lss (.tmp 8) (.tmp 7))])
(.seq (.cond (.tmp 9)
(.skip)
(.exit 0))
(.seq (.block 1 (.seq (.ops [ o_m 10 8, o_p 11 (.idx 1 (.tmp 6) (.tmp 8)), o_l 12 11, o_m 4 10, o_m 5 12])
(.seq (.seq (.ops [ o_m 13 4, o_p 14 (.bin .gtr (.tmp 13) (.const (.int .i64 (0))))])
(.cond (.tmp 14)
(.ops [ o_m 15 3,
.op ⟨(some 16), (.pure (.bin .add (.tmp 15) (.const (.string ⟨#[32]⟩)))), none⟩, o_m 3 16])
(.skip)))
(.ops [ o_m 17 3, o_m 18 5, o_e 19 (.call 30 [(.tmp 18)]), o_p 20 (.bin .add (.tmp 17) (.tmp 19)), o_m 3 20]))))
(.ops [ o_p 21 (.bin .add (.tmp 8) (.const (.int .i64 (1)))), o_m 8 21])))))))
(.seq (.ops [ o_m 22 3, o_m 2 22])
(.ret)))),
[.tmp 2]⟩
theorem r_spec_sgLine : resFun Tryd.prog f_spec_sgLine = some c_spec_sgLine := by kernel_rfl

/- loop.example/g00940/spec.l1In -/
abbrev f_spec_l1In : Nat := 28
def c_spec_l1In : MFun := ⟨15, .seq (.ops [ o_p 6 (.mv (.const (.bool false)))])
(.seq (.ops [ o_m 7 0, o_m 8 1, o_p 9 (.bin .geq (.tmp 7) (.tmp 8)), o_m 10 9,
.split 10,
.op ⟨(some 11), (.pure (.mv (.tmp 0))), (some (10, true))⟩,
.op ⟨(some 12), (.pure (.mv (.tmp 2))), (some (10, true))⟩,
.op ⟨(some 13), (.pure (.bin .leq (.tmp 11) (.tmp 12))), (some (10, true))⟩, o_p 14 (.pick (.tmp 10) (.tmp 13) (.const (.bool false))), o_m 6 14])
(.ret)),
[.tmp 6]⟩
theorem r_spec_l1In : resFun Tryd.prog f_spec_l1In = some c_spec_l1In := by kernel_rfl

/- loop.example/g00940/spec.l1All -/
abbrev f_spec_l1All : Nat := 29
def c_spec_l1All : MFun := ⟨21, .seq (.ops [ o_p 6 (.mv (.const (.bool false)))])
(.seq (.seq (.ops [ o_m 9 0, o_p 10 (.len (.tmp 9)), o_p 11 (.mv (.const (.int .i64 (0))))])
(.block 0 (.loop (.seq (.ops [ o_p 12 (.bin .lss (.tmp 11) (.tmp 10))])
(.seq (.cond (.tmp 12)
(.skip)
(.exit 0))
(.seq (.block 1 (.seq (.ops [ o_p 13 (.idx 1 (.tmp 9) (.tmp 11)), o_l 14 13, o_m 8 14])
(.seq (.ops [ o_m 15 8, o_m 16 1, o_m 17 2, o_e 18 (.call 28 [(.tmp 15), (.tmp 16), (.tmp 17)]), o_p 19 (.bnot (.tmp 18))])
(.cond (.tmp 19)
(.seq (.ops [ o_p 6 (.mv (.const (.bool false)))])
(.ret))
(.skip)))))
(.ops [ o_p 20 (.bin .add (.tmp 11) (.const (.int .i64 (1)))), o_m 11 20])))))))
(.seq (.ops [ o_p 6 (.mv (.const (.bool true)))])
(.ret))),
[.tmp 6]⟩
theorem r_spec_l1All : resFun Tryd.prog f_spec_l1All = some c_spec_l1All := by kernel_rfl

/- loop.example/g00940/spec.l1Num -/
abbrev f_spec_l1Num : Nat := 30
def c_spec_l1Num : MFun := ⟨20, .seq (.ops [
.op ⟨(some 2), (.pure (.mv (.const (.string ⟨#[]⟩)))), none⟩])
(.seq (.seq (.ops [ o_m 3 0, o_p 4 (.bin .lss (.tmp 3) (.const (.int .i64 (10))))])
(.cond (.tmp 4)
(.seq (.ops [ o_m 5 0, o_p 6 (.bin .add (.const (.int .i64 (48))) (.tmp 5)), o_p 7 (.conv .u8 (.tmp 6)), o_e 8 (.row 5 1 [(.int .u8 (0))] [(0, 1, (.tmp 7))]), o_e 9 (.bstr (.tmp 8)), o_m 2 9])
(.ret))
(.skip)))
(.seq (.draw true
(.take (t_m 10 0)
(.take (t_p 11 (.bin .quo (.tmp 10) (.const (.int .i64 (10)))))
(.take (t_m 13 0)
(.take (t_p 14 (.bin .rem (.tmp 13) (.const (.int .i64 (10)))))
(.take (t_p 15 (.bin .add (.const (.int .i64 (48))) (.tmp 14)))
(.take (t_p 16 (.conv .u8 (.tmp 15)))
(.fork
(.only true (t_e 12 (.call 30 [(.tmp 11)]))
(.only true (t_e 17 (.row 5 1 [(.int .u8 (0))] [(0, 1, (.tmp 16))]))
(.only true (t_e 18 (.bstr (.tmp 17)))
(.take (t_p 19 (.bin .add (.tmp 12) (.tmp 18)))
(.take (t_m 2 19)
(.done))))))
(.only true (t_e 17 (.row 5 1 [(.int .u8 (0))] [(0, 1, (.tmp 16))]))
(.fork
(.only true (t_e 12 (.call 30 [(.tmp 11)]))
(.only true (t_e 18 (.bstr (.tmp 17)))
(.take (t_p 19 (.bin .add (.tmp 12) (.tmp 18)))
(.take (t_m 2 19)
(.done)))))
(.only true (t_e 18 (.bstr (.tmp 17)))
(.only true (t_e 12 (.call 30 [(.tmp 11)]))
(.take (t_p 19 (.bin .add (.tmp 12) (.tmp 18)))
(.take (t_m 2 19)
(.done)))))))))))))))
(.ret))),
[.tmp 2]⟩
theorem r_spec_l1Num : resFun Tryd.prog f_spec_l1Num = some c_spec_l1Num := by kernel_rfl

/- internal/stringslite.Index -/
abbrev f_internal_stringslite_Index : Nat := 31
def c_internal_stringslite_Index : MFun := ⟨143, .seq (.ops [ o_p 4 (.mv (.const (.int .i64 (0))))])
(.seq (.ops [ o_m 14 1, o_p 15 (.slen (.tmp 14)), o_m 5 15])
(.seq (.block 0 (.seq (.ops [ o_m 17 5, o_p 18 (.bin .eql (.tmp 17) (.const (.int .i64 (0)))), o_m 19 18,
.split 19,
.op ⟨(some 20), (.pure (.mv (.tmp 1))), (some (19, false))⟩,
.op ⟨(some 21), (.pure (.mv (.tmp 0))), (some (19, false))⟩,
.op ⟨(some 22), (.pure (.bin .eql (.tmp 20) (.tmp 21))), (some (19, false))⟩, o_p 23 (.pick (.tmp 19) (.const (.bool true)) (.tmp 22)), o_m 16 23])
(.cond (.tmp 16)
(.seq (.ops [ o_p 4 (.mv (.const (.int .i64 (0))))])
(.ret))
(.seq (.ops [ o_m 25 5, o_p 26 (.bin .eql (.tmp 25) (.const (.int .i64 (1)))), o_m 24 26])
(.cond (.tmp 24)
(.seq (.ops [ o_m 27 0, o_m 28 1, o_p 29 (.sidx (.tmp 28) (.const (.int .i64 (0)))), o_e 30 (.call 35 [(.tmp 27), (.tmp 29)]), o_m 4 30])
(.ret))
(.seq (.ops [ o_m 32 5, o_m 33 0, o_p 34 (.slen (.tmp 33)), o_p 35 (.bin .geq (.tmp 32) (.tmp 34)), o_m 31 35])
(.cond (.tmp 31)
(.seq (.ops [ o_p 4 (.mv (.const (.int .i64 (-1))))])
(.ret))
(.seq (.ops [ o_m 37 5,
.op ⟨(some 38), (.load none (.global 0)), none⟩, o_p 39 (.bin .leq (.tmp 37) (.tmp 38)), o_m 40 39,
.split 40,
.op ⟨(some 41), (.pure (.mv (.tmp 0))), (some (40, true))⟩,
.op ⟨(some 42), (.pure (.slen (.tmp 41))), (some (40, true))⟩,
.op ⟨(some 43), (.pure (.bin .leq (.tmp 42) (.const (.int .i64 (64))))), (some (40, true))⟩, o_p 44 (.pick (.tmp 40) (.tmp 43) (.const (.bool false))), o_m 36 44])
(.cond (.tmp 36)
(.seq (.ops [ o_m 45 0, o_m 46 1, o_e 47 (.call 36 [(.tmp 45), (.tmp 46)]), o_m 4 47])
(.ret))
(.skip))))))))))
(.seq (.ops [ o_m 48 1, o_p 49 (.sidx (.tmp 48) (.const (.int .i64 (0)))), o_m 6 49])
(.seq (.ops [ o_m 50 1, o_p 51 (.sidx (.tmp 50) (.const (.int .i64 (1)))), o_m 7 51])
(.seq (.ops [ o_p 8 (.mv (.const (.int .i64 (0))))])
(.seq (.ops [ o_m 52 0, o_p 53 (.slen (.tmp 52)), o_m 54 5, o_p 55 (.bin .sub (.tmp 53) (.tmp 54)), o_p 56 (.bin .add (.tmp 55) (.const (.int .i64 (1)))), o_m 9 56])
(.seq (.ops [ o_p 10 (.mv (.const (.int .i64 (0))))])
(.seq (.block 1 (.loop (.seq (.seq (.ops [ o_m 57 8, o_m 58 9, o_p 59 (.bin .lss (.tmp 57) (.tmp 58))])
(.cond (.tmp 59)
(.skip)
(.exit 1)))
(.block 2 (.seq (.seq (.ops [ o_m 60 0, o_m 61 8, o_p 62 (.sidx (.tmp 60) (.tmp 61)), o_m 63 6, o_p 64 (.bin .neq (.tmp 62) (.tmp 63))])
(.cond (.tmp 64)
(.seq (.ops [ o_m 65 0, o_m 66 8, o_p 67 (.bin .add (.tmp 66) (.const (.int .i64 (1)))), o_m 68 9, o_p 69 (.sslc (.tmp 65) (some (.tmp 67)) (some (.tmp 68))), o_m 70 6, o_e 71 (.call 35 [(.tmp 69), (.tmp 70)]), o_m 11 71])
(.seq (.seq (.ops [ o_m 72 11, o_p 73 (.bin .lss (.tmp 72) (.const (.int .i64 (0))))])
(.cond (.tmp 73)
(.seq (.ops [ o_p 4 (.mv (.const (.int .i64 (-1))))])
(.ret))
(.skip)))
(.ops [ o_m 74 8, o_m 75 11, o_p 76 (.bin .add (.tmp 75) (.const (.int .i64 (1)))), o_p 77 (.bin .add (.tmp 74) (.tmp 76)), o_m 8 77])))
(.skip)))
(.seq (.seq (.ops [ o_m 78 0, o_m 79 8, o_p 80 (.bin .add (.tmp 79) (.const (.int .i64 (1)))), o_p 81 (.sidx (.tmp 78) (.tmp 80)), o_m 82 7, o_p 83 (.bin .eql (.tmp 81) (.tmp 82)), o_m 84 83,
.split 84,
.op ⟨(some 85), (.pure (.mv (.tmp 0))), (some (84, true))⟩,
.op ⟨(some 86), (.pure (.mv (.tmp 8))), (some (84, true))⟩,
.op ⟨(some 87), (.pure (.mv (.tmp 8))), (some (84, true))⟩,
.op ⟨(some 88), (.pure (.mv (.tmp 5))), (some (84, true))⟩,
.op ⟨(some 89), (.pure (.bin .add (.tmp 87) (.tmp 88))), (some (84, true))⟩,
.op ⟨(some 90), (.pure (.sslc (.tmp 85) (some (.tmp 86)) (some (.tmp 89)))), (some (84, true))⟩,
.op ⟨(some 91), (.pure (.mv (.tmp 1))), (some (84, true))⟩,
.op ⟨(some 92), (.pure (.bin .eql (.tmp 90) (.tmp 91))), (some (84, true))⟩, o_p 93 (.pick (.tmp 84) (.tmp 92) (.const (.bool false)))])
(.cond (.tmp 93)
(.seq (.ops [ o_m 94 8, o_m 4 94])
(.ret))
(.skip)))
(.seq (.ops [ o_m 95 8, o_p 96 (.bin .add (.tmp 95) (.const (.int .i64 (1)))), o_m 8 96])
(.seq (.ops [ o_m 97 10, o_p 98 (.bin .add (.tmp 97) (.const (.int .i64 (1)))), o_m 10 98])
(.seq (.ops [ o_m 99 5,
.op ⟨(some 100), (.load none (.global 0)), none⟩, o_p 101 (.bin .leq (.tmp 99) (.tmp 100)), o_m 102 101,
.split 102,
.op ⟨(some 103), (.pure (.mv (.tmp 10))), (some (102, true))⟩,
.op ⟨(some 104), (.pure (.mv (.tmp 8))), (some (102, true))⟩,
.op ⟨(some 105), (.eff (.call 37 [(.tmp 104)])), (some (102, true))⟩,
.op ⟨(some 106), (.pure (.bin .gtr (.tmp 103) (.tmp 105))), (some (102, true))⟩, o_p 107 (.pick (.tmp 102) (.tmp 106) (.const (.bool false)))])
(.cond (.tmp 107)
(.seq (.ops [ o_m 108 0, o_m 109 8, o_p 110 (.sslc (.tmp 108) (some (.tmp 109)) none), o_m 111 1, o_e 112 (.call 36 [(.tmp 110), (.tmp 111)]), o_m 12 112])
(.seq (.seq (.ops [ o_m 113 12, o_p 114 (.bin .geq (.tmp 113) (.const (.int .i64 (0))))])
(.cond (.tmp 114)
(.seq (.ops [ o_m 115 12, o_m 116 8, o_p 117 (.bin .add (.tmp 115) (.tmp 116)), o_m 4 117])
(.ret))
(.skip)))
(.seq (.ops [ o_p 4 (.mv (.const (.int .i64 (-1))))])
(.ret))))
(.seq (.ops [ o_m 118 5,
.op ⟨(some 119), (.load none (.global 0)), none⟩, o_p 120 (.bin .gtr (.tmp 118) (.tmp 119)), o_m 121 120,
.split 121,
.op ⟨(some 122), (.pure (.mv (.tmp 10))), (some (121, true))⟩,
.op ⟨(some 123), (.pure (.mv (.tmp 8))), (some (121, true))⟩,
.op ⟨(some 124), (.pure (.bin .shr (.tmp 123) (.const (.int .u64 (4))))), (some (121, true))⟩,
.op ⟨(some 125), (.pure (.bin .add (.const (.int .i64 (4))) (.tmp 124))), (some (121, true))⟩,
.op ⟨(some 126), (.pure (.bin .geq (.tmp 122) (.tmp 125))), (some (121, true))⟩, o_p 127 (.pick (.tmp 121) (.tmp 126) (.const (.bool false))), o_m 128 127,
.split 128,
.op ⟨(some 129), (.pure (.mv (.tmp 8))), (some (128, true))⟩,
.op ⟨(some 130), (.pure (.mv (.tmp 9))), (some (128, true))⟩,
.op ⟨(some 131), (.pure (.bin .lss (.tmp 129) (.tmp 130))), (some (128, true))⟩, o_p 132 (.pick (.tmp 128) (.tmp 131) (.const (.bool false)))])
(.cond (.tmp 132)
(.seq (.ops [ o_m 133 0, o_m 134 8, o_p 135 (.sslc (.tmp 133) (some (.tmp 134)) none), o_m 136 1, o_e 137 (.call 38 [(.tmp 135), (.tmp 136)]), o_m 13 137])
(.seq (.seq (.ops [ o_m 138 13, o_p 139 (.bin .lss (.tmp 138) (.const (.int .i64 (0))))])
(.cond (.tmp 139)
(.seq (.ops [ o_p 4 (.mv (.const (.int .i64 (-1))))])
(.ret))
(.skip)))
(.seq (.ops [ o_m 140 8, o_m 141 13, o_p 142 (.bin .add (.tmp 140) (.tmp 141)), o_m 4 142])
(.ret))))
(.skip)))))))))))))
(.seq (.ops [ o_p 4 (.mv (.const (.int .i64 (-1))))])
(.ret)))))))))),
[.tmp 4]⟩
theorem r_internal_stringslite_Index : resFun Tryd.prog f_internal_stringslite_Index = some c_internal_stringslite_Index := by kernel_rfl
end Go.Proofs.YtbikhpphdhffaaaDoor
