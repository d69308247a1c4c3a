/- The code of this seat's functions, resolved, written by a program of mine; each is held against the given program by the kernel. Condition: none. -/
import Derived.Test.YtloicopmcagikaaProg
import Derived.Test.YtloicopmcagikaaBase9
import Derived.KernelRfl
namespace Go.Proofs.Ytloicopmcagikaa
open Go.Vc

/- loop.example/g00940/impl.FoggyLinks -/
abbrev f_impl_FoggyLinks : Nat := 11
def c_impl_FoggyLinks : MFun := ⟨41, .seq (.ops [ o_e 3 (.box 27 (.tmp 0)), o_p 6 (.mv (.const (.slice none 0 0))), o_p 7 (.mv (.const (.bool false)))])
(.seq (.seq (.ops [
.op ⟨(some 10), (.load (some 2) (.tmp 3)), none⟩, o_e 11 (.call 49 [(.tmp 10)]), o_p 12 (.bnot (.tmp 11)), o_m 13 12,
.split 13,
.op ⟨(some 14), (.load (some 2) (.tmp 3)), (some (13, false))⟩,
.op ⟨(some 15), (.pure (.mv (.tmp 1))), (some (13, false))⟩,
.op ⟨(some 16), (.eff (.call 50 [(.tmp 14), (.tmp 15)])), (some (13, false))⟩,
.op ⟨(some 17), (.pure (.bnot (.tmp 16))), (some (13, false))⟩, o_p 18 (.pick (.tmp 13) (.const (.bool true)) (.tmp 17)), o_m 19 18,
.split 19,
.op ⟨(some 20), (.pure (.mv (.tmp 2))), (some (19, false))⟩,
.op ⟨(some 21), (.eff (.call 43 [(.tmp 20), (.const (.int .i64 (0))), (.const (.int .i64 (10000)))])), (some (19, false))⟩,
.op ⟨(some 22), (.pure (.bnot (.tmp 21))), (some (19, false))⟩, o_p 23 (.pick (.tmp 19) (.const (.bool true)) (.tmp 22))])
(.cond (.tmp 23)
(.seq (.ops [ o_p 6 (.mv (.const (.slice none 0 0))), o_p 7 (.mv (.const (.bool false)))])
(.ret))
(.skip)))
(.seq (.ops [ o_p 8 (.mv (.const (.slice none 0 0)))])
(.seq (.seq (.ops [ o_p 24 (.fieldAddr 1 (.tmp 3)), o_l 25 24, o_p 26 (.len (.tmp 25)), o_p 27 (.mv (.const (.int .i64 (0))))])
(.block 0 (.loop (.seq (.ops [ o_p 28 (.bin .lss (.tmp 27) (.tmp 26))])
(.seq (.cond (.tmp 28)
(.skip)
(.exit 0))
(.seq (.block 1 (.seq (.ops [ o_m 29 27, o_m 9 29])
(.seq (.ops [ o_m 30 1, o_m 31 9, o_m 32 2, o_e 33 (.call 51 [(.tmp 30), (.tmp 31), (.tmp 32)]), o_p 34 (.bnot (.tmp 33))])
(.cond (.tmp 34)
(.ops [ o_m 35 8, o_m 36 9, o_e 37 (.row 3 1 [(.int .i64 (0))] [(0, 1, (.tmp 36))]), o_e 38 (.app 3 1 8 (.tmp 35) (.tmp 37)), o_m 8 38])
(.skip)))))
(.ops [ o_p 39 (.bin .add (.tmp 27) (.const (.int .i64 (1)))), o_m 27 39])))))))
(.seq (.ops [ o_m 40 8, o_m 6 40, o_p 7 (.mv (.const (.bool true)))])
(.ret))))),
[.tmp 6, .tmp 7]⟩
theorem r_impl_FoggyLinks : resFun Try.prog f_impl_FoggyLinks = some c_impl_FoggyLinks := by kernel_rfl

/- loop.example/g00940/spec.FoggyLinks -/
abbrev f_spec_FoggyLinks : Nat := 12
def c_spec_FoggyLinks : MFun := ⟨41, .seq (.ops [ o_e 3 (.box 27 (.tmp 0)), o_p 6 (.mv (.const (.slice none 0 0))), o_p 7 (.mv (.const (.bool false)))])
(.seq (.seq (.ops [
.op ⟨(some 10), (.load (some 2) (.tmp 3)), none⟩, o_e 11 (.call 52 [(.tmp 10)]), o_p 12 (.bnot (.tmp 11)), o_m 13 12,
.split 13,
.op ⟨(some 14), (.load (some 2) (.tmp 3)), (some (13, false))⟩,
.op ⟨(some 15), (.pure (.mv (.tmp 1))), (some (13, false))⟩,
.op ⟨(some 16), (.eff (.call 53 [(.tmp 14), (.tmp 15)])), (some (13, false))⟩,
.op ⟨(some 17), (.pure (.bnot (.tmp 16))), (some (13, false))⟩, o_p 18 (.pick (.tmp 13) (.const (.bool true)) (.tmp 17)), o_m 19 18,
.split 19,
.op ⟨(some 20), (.pure (.mv (.tmp 2))), (some (19, false))⟩,
.op ⟨(some 21), (.eff (.call 46 [(.tmp 20)])), (some (19, false))⟩,
.op ⟨(some 22), (.pure (.bnot (.tmp 21))), (some (19, false))⟩, o_p 23 (.pick (.tmp 19) (.const (.bool true)) (.tmp 22))])
(.cond (.tmp 23)
(.seq (.ops [ o_p 6 (.mv (.const (.slice none 0 0))), o_p 7 (.mv (.const (.bool false)))])
(.ret))
(.skip)))
(.seq (.ops [ o_p 8 (.mv (.const (.slice none 0 0)))])
(.seq (.seq (.ops [ o_p 24 (.fieldAddr 1 (.tmp 3)), o_l 25 24, o_p 26 (.len (.tmp 25)), o_p 27 (.mv (.const (.int .i64 (0))))])
(.block 0 (.loop (.seq (.ops [ o_p 28 (.bin .lss (.tmp 27) (.tmp 26))])
(.seq (.cond (.tmp 28)
(.skip)
(.exit 0))
(.seq (.block 1 (.seq (.ops [ o_m 29 27, o_m 9 29])
(.seq (.ops [ o_m 30 1, o_m 31 9, o_m 32 2, o_e 33 (.call 54 [(.tmp 30), (.tmp 31), (.tmp 32)]), o_p 34 (.bnot (.tmp 33))])
(.cond (.tmp 34)
(.ops [ o_m 35 8, o_m 36 9, o_e 37 (.row 3 1 [(.int .i64 (0))] [(0, 1, (.tmp 36))]), o_e 38 (.app 3 1 8 (.tmp 35) (.tmp 37)), o_m 8 38])
(.skip)))))
(.ops [ o_p 39 (.bin .add (.tmp 27) (.const (.int .i64 (1)))), o_m 27 39])))))))
(.seq (.ops [ o_m 40 8, o_m 6 40, o_p 7 (.mv (.const (.bool true)))])
(.ret))))),
[.tmp 6, .tmp 7]⟩
theorem r_spec_FoggyLinks : resFun Try.prog f_spec_FoggyLinks = some c_spec_FoggyLinks := by kernel_rfl

/- loop.example/g00940/impl.JoinedAt -/
abbrev f_impl_JoinedAt : Nat := 13
def c_impl_JoinedAt : MFun := ⟨32, .seq (.ops [ o_e 3 (.box 27 (.tmp 0)), o_e 4 (.box 28 (.tmp 1)), o_e 5 (.box 3 (.tmp 2)), o_p 6 (.mv (.const (.bool false))), o_p 7 (.mv (.const (.bool false)))])
(.seq (.seq (.ops [
.op ⟨(some 9), (.load (some 2) (.tmp 3)), none⟩, o_e 10 (.call 49 [(.tmp 9)]), o_p 11 (.bnot (.tmp 10)), o_m 12 11,
.split 12,
.op ⟨(some 13), (.load (some 2) (.tmp 3)), (some (12, false))⟩,
.op ⟨(some 14), (.load none (.tmp 4)), (some (12, false))⟩,
.op ⟨(some 15), (.eff (.call 50 [(.tmp 13), (.tmp 14)])), (some (12, false))⟩,
.op ⟨(some 16), (.pure (.bnot (.tmp 15))), (some (12, false))⟩, o_p 17 (.pick (.tmp 12) (.const (.bool true)) (.tmp 16)), o_m 18 17,
.split 18,
.op ⟨(some 19), (.load none (.tmp 5)), (some (18, false))⟩,
.op ⟨(some 20), (.eff (.call 43 [(.tmp 19), (.const (.int .i64 (0))), (.const (.int .i64 (10000)))])), (some (18, false))⟩,
.op ⟨(some 21), (.pure (.bnot (.tmp 20))), (some (18, false))⟩, o_p 22 (.pick (.tmp 18) (.const (.bool true)) (.tmp 21))])
(.cond (.tmp 22)
(.seq (.ops [ o_p 6 (.mv (.const (.bool false))), o_p 7 (.mv (.const (.bool false)))])
(.ret))
(.skip)))
(.seq (.ops [
.op ⟨(some 23), (.load (some 2) (.tmp 3)), none⟩, o_p 24 (.mkfn (.func 56) [] [(.tmp 4), (.tmp 5)]), o_e 25 (.call 55 [(.tmp 23), (.const (.int .i64 (0))), (.tmp 24)]), o_m 8 25])
(.seq (.ops [ o_m 26 8, o_p 27 (.len (.tmp 26)), o_p 28 (.fieldAddr 0 (.tmp 3)), o_l 29 28, o_p 30 (.len (.tmp 29)), o_p 31 (.bin .eql (.tmp 27) (.tmp 30)), o_m 6 31, o_p 7 (.mv (.const (.bool true)))])
(.ret)))),
[.tmp 6, .tmp 7]⟩
theorem r_impl_JoinedAt : resFun Try.prog f_impl_JoinedAt = some c_impl_JoinedAt := by kernel_rfl

/- loop.example/g00940/spec.JoinedAt -/
abbrev f_spec_JoinedAt : Nat := 14
def c_spec_JoinedAt : MFun := ⟨54, .seq (.ops [ o_e 3 (.box 27 (.tmp 0)), o_p 6 (.mv (.const (.bool false))), o_p 7 (.mv (.const (.bool false)))])
(.seq (.seq (.ops [
.op ⟨(some 11), (.load (some 2) (.tmp 3)), none⟩, o_e 12 (.call 52 [(.tmp 11)]), o_p 13 (.bnot (.tmp 12)), o_m 14 13,
.split 14,
.op ⟨(some 15), (.load (some 2) (.tmp 3)), (some (14, false))⟩,
.op ⟨(some 16), (.pure (.mv (.tmp 1))), (some (14, false))⟩,
.op ⟨(some 17), (.eff (.call 53 [(.tmp 15), (.tmp 16)])), (some (14, false))⟩,
.op ⟨(some 18), (.pure (.bnot (.tmp 17))), (some (14, false))⟩, o_p 19 (.pick (.tmp 14) (.const (.bool true)) (.tmp 18)), o_m 20 19,
.split 20,
.op ⟨(some 21), (.pure (.mv (.tmp 2))), (some (20, false))⟩,
.op ⟨(some 22), (.eff (.call 46 [(.tmp 21)])), (some (20, false))⟩,
.op ⟨(some 23), (.pure (.bnot (.tmp 22))), (some (20, false))⟩, o_p 24 (.pick (.tmp 20) (.const (.bool true)) (.tmp 23))])
(.cond (.tmp 24)
(.seq (.ops [ o_p 6 (.mv (.const (.bool false))), o_p 7 (.mv (.const (.bool false)))])
(.ret))
(.skip)))
(.seq (.ops [ o_p 25 (.fieldAddr 0 (.tmp 3)), o_l 26 25, o_p 27 (.build [(.slice none 0 0), (.slice none 0 0)] [(0, 1, (.tmp 26))]), o_e 8 (.new 27 [(.slice none 0 0), (.slice none 0 0)]),
.op ⟨none, (.eff (.store 2 (.tmp 8) (.tmp 27))), none⟩])
(.seq (.seq (.ops [ o_p 28 (.fieldAddr 1 (.tmp 3)), o_l 29 28, o_p 30 (.len (.tmp 29)), o_p 31 (.mv (.const (.int .i64 (0))))])
(.block 0 (.loop (.seq (.ops [ o_p 32 (.bin .lss (.tmp 31) (.tmp 30))])
(.seq (.cond (.tmp 32)
(.skip)
(.exit 0))
(.seq (.block 1 (.seq (.ops [ o_m 33 31, o_p 34 (.idx 3 (.tmp 29) (.tmp 31)),
.op ⟨(some 35), (.load (some 3) (.tmp 34)), none⟩, o_e 10 (.new 81 [(.int .i64 (0)), (.int .i64 (0)), (.int .i64 (0))]), o_m 9 33,
.op ⟨none, (.eff (.store 3 (.tmp 10) (.tmp 35))), none⟩])
(.seq (.ops [ o_m 36 1, o_m 37 9, o_m 38 2, o_e 39 (.call 54 [(.tmp 36), (.tmp 37), (.tmp 38)])])
(.cond (.tmp 39)
(.ops [ o_p 40 (.fieldAddr 1 (.tmp 8)), o_l 41 40,
.op ⟨(some 42), (.load (some 3) (.tmp 10)), none⟩, o_e 43 (.row 81 1 [(.int .i64 (0)), (.int .i64 (0)), (.int .i64 (0))] [(0, 3, (.tmp 42))]), o_e 44 (.app 81 3 24 (.tmp 41) (.tmp 43)), o_p 45 (.fieldAddr 1 (.tmp 8)),
.op ⟨none, (.eff (.store 1 (.tmp 45) (.tmp 44))), none⟩])
(.skip)))))
(.ops [ o_p 46 (.bin .add (.tmp 31) (.const (.int .i64 (1)))), o_m 31 46])))))))
(.seq (.draw true
(.take (t_p 50 (.fieldAddr 0 (.tmp 3)))
(.only false ⟨(some 47), (.load (some 2) (.tmp 8)), none⟩
(.take (t_l 51 50)
(.take (t_p 52 (.len (.tmp 51)))
(.only false (t_e 48 (.call 57 [(.tmp 47), (.const (.int .i64 (0)))]))
(.take (t_p 49 (.len (.tmp 48)))
(.take (t_p 53 (.bin .eql (.tmp 49) (.tmp 52)))
(.take (t_m 6 53)
(.take (t_p 7 (.mv (.const (.bool true))))
(.done)))))))))))
(.ret))))),
[.tmp 6, .tmp 7]⟩
theorem r_spec_JoinedAt : resFun Try.prog f_spec_JoinedAt = some c_spec_JoinedAt := by kernel_rfl

/- loop.example/g00940/laws.sameInts -/
abbrev f_laws_sameInts : Nat := 15
def c_laws_sameInts : MFun := ⟨26, .seq (.ops [ o_p 4 (.mv (.const (.bool false)))])
(.seq (.seq (.ops [ o_m 6 0, o_p 7 (.len (.tmp 6)), o_m 8 1, o_p 9 (.len (.tmp 8)), o_p 10 (.bin .neq (.tmp 7) (.tmp 9))])
(.cond (.tmp 10)
(.seq (.ops [ o_p 4 (.mv (.const (.bool false)))])
(.ret))
(.skip)))
(.seq (.seq (.ops [ o_m 11 0, o_p 12 (.len (.tmp 11)), o_p 13 (.mv (.const (.int .i64 (0))))])
(.block 0 (.loop (.seq (.ops [ o_p 14 (.bin .lss (.tmp 13) (.tmp 12))])
(.seq (.cond (.tmp 14)
(.skip)
(.exit 0))
(.seq (.block 1 (.seq (.ops [ o_m 15 13, o_m 5 15])
(.seq (.ops [ o_m 16 0, o_m 17 5, o_p 18 (.idx 1 (.tmp 16) (.tmp 17)), o_m 20 1, o_m 21 5, o_p 22 (.idx 1 (.tmp 20) (.tmp 21)), o_l 19 18, o_l 23 22, o_p 24 (.bin .neq (.tmp 19) (.tmp 23))])
(.cond (.tmp 24)
(.seq (.ops [ o_p 4 (.mv (.const (.bool false)))])
(.ret))
(.skip)))))
(.ops [ o_p 25 (.bin .add (.tmp 13) (.const (.int .i64 (1)))), o_m 13 25])))))))
(.seq (.ops [ o_p 4 (.mv (.const (.bool true)))])
(.ret)))),
[.tmp 4]⟩
theorem r_laws_sameInts : resFun Try.prog f_laws_sameInts = some c_laws_sameInts := by kernel_rfl

/- loop.example/g00940/impl.IsJoined -/
abbrev f_impl_IsJoined : Nat := 16
def c_impl_IsJoined : MFun := ⟨14, .seq (.ops [ o_e 1 (.box 27 (.tmp 0)), o_p 2 (.mv (.const (.bool false))), o_p 3 (.mv (.const (.bool false)))])
(.seq (.seq (.ops [
.op ⟨(some 4), (.load (some 2) (.tmp 1)), none⟩, o_e 5 (.call 49 [(.tmp 4)]), o_p 6 (.bnot (.tmp 5))])
(.cond (.tmp 6)
(.seq (.ops [ o_p 2 (.mv (.const (.bool false))), o_p 3 (.mv (.const (.bool false)))])
(.ret))
(.skip)))
(.seq (.draw true
(.take (t_p 10 (.fieldAddr 0 (.tmp 1)))
(.only false ⟨(some 7), (.load (some 2) (.tmp 1)), none⟩
(.take (t_l 11 10)
(.take (t_p 12 (.len (.tmp 11)))
(.only false (t_e 8 (.call 55 [(.tmp 7), (.const (.int .i64 (0))), (.func 58)]))
(.take (t_p 9 (.len (.tmp 8)))
(.take (t_p 13 (.bin .eql (.tmp 9) (.tmp 12)))
(.take (t_m 2 13)
(.take (t_p 3 (.mv (.const (.bool true))))
(.done)))))))))))
(.ret))),
[.tmp 2, .tmp 3]⟩
theorem r_impl_IsJoined : resFun Try.prog f_impl_IsJoined = some c_impl_IsJoined := by kernel_rfl

/- loop.example/g00940/impl.IsClear -/
abbrev f_impl_IsClear : Nat := 17
def c_impl_IsClear : MFun := ⟨21, .seq (.ops [ o_e 4 (.box 27 (.tmp 0)), o_p 8 (.mv (.const (.bool false))), o_p 9 (.mv (.const (.bool false)))])
(.seq (.seq (.ops [
.op ⟨(some 10), (.load (some 2) (.tmp 4)), none⟩, o_m 11 1, o_m 12 2, o_m 13 3, o_m 14 3, o_e 15 (.call 42 [(.tmp 10), (.tmp 11), (.tmp 12), (.tmp 13), (.tmp 14)]), o_p 16 (.bnot (.tmp 15))])
(.cond (.tmp 16)
(.seq (.ops [ o_p 8 (.mv (.const (.bool false))), o_p 9 (.mv (.const (.bool false)))])
(.ret))
(.skip)))
(.seq (.ops [ o_m 17 1, o_m 18 2, o_m 19 3, o_e 20 (.call 51 [(.tmp 17), (.tmp 18), (.tmp 19)]), o_m 8 20, o_p 9 (.mv (.const (.bool true)))])
(.ret))),
[.tmp 8, .tmp 9]⟩
theorem r_impl_IsClear : resFun Try.prog f_impl_IsClear = some c_impl_IsClear := by kernel_rfl

/- loop.example/g00940/laws.pIn -/
abbrev f_laws_pIn : Nat := 18
def c_laws_pIn : MFun := ⟨17, .seq (.ops [ o_p 4 (.mv (.const (.bool false)))])
(.seq (.seq (.ops [ o_m 7 0, o_p 8 (.len (.tmp 7)), o_p 9 (.mv (.const (.int .i64 (0))))])
(.block 0 (.loop (.seq (.ops [ o_p 10 (.bin .lss (.tmp 9) (.tmp 8))])
(.seq (.cond (.tmp 10)
(.skip)
(.exit 0))
(.seq (.block 1 (.seq (.ops [ o_p 11 (.idx 1 (.tmp 7) (.tmp 9)), o_l 12 11, o_m 6 12])
(.seq (.ops [ o_m 13 6, o_m 14 1, o_p 15 (.bin .eql (.tmp 13) (.tmp 14))])
(.cond (.tmp 15)
(.seq (.ops [ o_p 4 (.mv (.const (.bool true)))])
(.ret))
(.skip)))))
(.ops [ o_p 16 (.bin .add (.tmp 9) (.const (.int .i64 (1)))), o_m 9 16])))))))
(.seq (.ops [ o_p 4 (.mv (.const (.bool false)))])
(.ret))),
[.tmp 4]⟩
theorem r_laws_pIn : resFun Try.prog f_laws_pIn = some c_laws_pIn := by kernel_rfl

/- loop.example/g00940/spec.DrawFoggiestLink -/
abbrev f_spec_DrawFoggiestLink : Nat := 19
def c_spec_DrawFoggiestLink : MFun := ⟨8, .seq (.ops [ o_e 2 (.new 27 [(.slice none 0 0), (.slice none 0 0)]), o_p 3 (.mv (.const (.slice none 0 0)))])
(.seq (.ops [ o_m 4 0, o_e 5 (.call 22 [(.tmp 4)]), o_p 6 (.ext 0 (.tmp 5)), o_p 7 (.ext 1 (.tmp 5)),
.op ⟨none, (.eff (.store 2 (.tmp 2) (.tmp 6))), none⟩, o_m 3 7])
(.ret)),
[.cell 2 (some 2), .tmp 3]⟩
theorem r_spec_DrawFoggiestLink : resFun Try.prog f_spec_DrawFoggiestLink = some c_spec_DrawFoggiestLink := by kernel_rfl

/- loop.example/g00940/impl.FoggiestLink -/
abbrev f_impl_FoggiestLink : Nat := 20
def c_impl_FoggiestLink : MFun := ⟨55, .seq (.ops [ o_e 2 (.box 27 (.tmp 0)), o_p 4 (.mv (.const (.int .i64 (0)))), o_p 5 (.mv (.const (.int .i64 (0)))), o_p 6 (.mv (.const (.bool false)))])
(.seq (.seq (.ops [
.op ⟨(some 11), (.load (some 2) (.tmp 2)), none⟩, o_e 12 (.call 49 [(.tmp 11)]), o_p 13 (.bnot (.tmp 12)), o_m 14 13,
.split 14,
.op ⟨(some 15), (.load (some 2) (.tmp 2)), (some (14, false))⟩,
.op ⟨(some 16), (.pure (.mv (.tmp 1))), (some (14, false))⟩,
.op ⟨(some 17), (.eff (.call 50 [(.tmp 15), (.tmp 16)])), (some (14, false))⟩,
.op ⟨(some 18), (.pure (.bnot (.tmp 17))), (some (14, false))⟩, o_p 19 (.pick (.tmp 14) (.const (.bool true)) (.tmp 18)), o_m 20 19,
.split 20,
.op ⟨(some 21), (.pure (.fieldAddr 1 (.tmp 2))), (some (20, false))⟩,
.op ⟨(some 22), (.load none (.tmp 21)), (some (20, false))⟩,
.op ⟨(some 23), (.pure (.len (.tmp 22))), (some (20, false))⟩,
.op ⟨(some 24), (.pure (.bin .eql (.tmp 23) (.const (.int .i64 (0))))), (some (20, false))⟩, o_p 25 (.pick (.tmp 20) (.const (.bool true)) (.tmp 24))])
(.cond (.tmp 25)
(.seq (.ops [ o_p 4 (.mv (.const (.int .i64 (0)))), o_p 5 (.mv (.const (.int .i64 (0)))), o_p 6 (.mv (.const (.bool false)))])
(.ret))
(.skip)))
(.seq (.ops [ o_p 26 (.fieldAddr 1 (.tmp 2)), o_l 27 26, o_p 28 (.len (.tmp 27)), o_e 29 (.mk 3 1 8 [(.int .i64 (0))] (.tmp 28) (.tmp 28)), o_m 7 29])
(.seq (.seq (.ops [ o_m 30 1, o_p 31 (.len (.tmp 30)), o_p 32 (.mv (.const (.int .i64 (0))))])
(.block 0 (.loop (.seq (.ops [ o_p 33 (.bin .lss (.tmp 32) (.tmp 31))])
(.seq (.cond (.tmp 33)
(.skip)
(.exit 0))
(.seq (.block 1 (.seq (.ops [ o_p 34 (.idx 3 (.tmp 30) (.tmp 32)),
.op ⟨(some 35), (.load (some 3) (.tmp 34)), none⟩, o_e 9 (.new 57 [(.int .i64 (0)), (.int .i64 (0)), (.int .i64 (0))]),
.op ⟨none, (.eff (.store 3 (.tmp 9) (.tmp 35))), none⟩])
(.draw false
(.take (t_m 36 7)
(.take (t_p 37 (.fieldAddr 0 (.tmp 9)))
(.take (t_p 41 (.fieldAddr 2 (.tmp 9)))
(.take (t_p 43 (.fieldAddr 1 (.tmp 9)))
(.only false (t_l 38 37)
(.take (t_p 39 (.idx 1 (.tmp 36) (.tmp 38)))
(.only false (t_l 40 39)
(.only false (t_l 42 41)
(.only false (t_l 44 43)
(.take (t_p 45 (.bin .sub (.tmp 42) (.tmp 44)))
(.take (t_p 46 (.bin .add (.tmp 40) (.tmp 45)))
(.take (t_p 47 (.idx 1 (.tmp 36) (.tmp 38)))
(.only true ⟨none, (.eff (.store 1 (.tmp 47) (.tmp 46))), none⟩
(.done)))))))))))))))))
(.ops [ o_p 48 (.bin .add (.tmp 32) (.const (.int .i64 (1)))), o_m 32 48])))))))
(.seq (.ops [ o_m 49 7, o_e 50 (.call 59 [(.tmp 49)]), o_m 10 50])
(.seq (.ops [ o_m 51 7, o_m 52 10, o_e 53 (.call 60 [(.tmp 51), (.tmp 52)]), o_m 54 10, o_m 4 53, o_m 5 54, o_p 6 (.mv (.const (.bool true)))])
(.ret)))))),
[.tmp 4, .tmp 5, .tmp 6]⟩
theorem r_impl_FoggiestLink : resFun Try.prog f_impl_FoggiestLink = some c_impl_FoggiestLink := by kernel_rfl

/- loop.example/g00940/spec.FoggiestLink -/
abbrev f_spec_FoggiestLink : Nat := 21
def c_spec_FoggiestLink : MFun := ⟨43, .seq (.ops [ o_e 2 (.box 27 (.tmp 0)), o_p 4 (.mv (.const (.int .i64 (0)))), o_p 5 (.mv (.const (.int .i64 (0)))), o_p 6 (.mv (.const (.bool false)))])
(.seq (.seq (.ops [
.op ⟨(some 11), (.load (some 2) (.tmp 2)), none⟩, o_e 12 (.call 52 [(.tmp 11)]), o_p 13 (.bnot (.tmp 12)), o_m 14 13,
.split 14,
.op ⟨(some 15), (.load (some 2) (.tmp 2)), (some (14, false))⟩,
.op ⟨(some 16), (.pure (.mv (.tmp 1))), (some (14, false))⟩,
.op ⟨(some 17), (.eff (.call 53 [(.tmp 15), (.tmp 16)])), (some (14, false))⟩,
.op ⟨(some 18), (.pure (.bnot (.tmp 17))), (some (14, false))⟩, o_p 19 (.pick (.tmp 14) (.const (.bool true)) (.tmp 18)), o_m 20 19,
.split 20,
.op ⟨(some 21), (.pure (.fieldAddr 1 (.tmp 2))), (some (20, false))⟩,
.op ⟨(some 22), (.load none (.tmp 21)), (some (20, false))⟩,
.op ⟨(some 23), (.pure (.len (.tmp 22))), (some (20, false))⟩,
.op ⟨(some 24), (.pure (.bin .eql (.tmp 23) (.const (.int .i64 (0))))), (some (20, false))⟩, o_p 25 (.pick (.tmp 20) (.const (.bool true)) (.tmp 24))])
(.cond (.tmp 25)
(.seq (.ops [ o_p 4 (.mv (.const (.int .i64 (0)))), o_p 5 (.mv (.const (.int .i64 (0)))), o_p 6 (.mv (.const (.bool false)))])
(.ret))
(.skip)))
(.seq (.ops [ o_p 7 (.mv (.const (.int .i64 (0)))), o_p 8 (.mv (.const (.int .i64 (-1))))])
(.seq (.seq (.ops [ o_p 26 (.fieldAddr 1 (.tmp 2)), o_l 27 26, o_p 28 (.len (.tmp 27)), o_p 29 (.mv (.const (.int .i64 (0))))])
(.block 0 (.loop (.seq (.ops [ o_p 30 (.bin .lss (.tmp 29) (.tmp 28))])
(.seq (.cond (.tmp 30)
(.skip)
(.exit 0))
(.seq (.block 1 (.seq (.ops [ o_m 31 29, o_m 9 31])
(.seq (.ops [ o_m 32 1, o_m 33 9, o_e 34 (.call 61 [(.tmp 32), (.tmp 33), (.const (.int .i64 (0))), (.const (.int .i64 (10000)))]), o_m 10 34])
(.seq (.ops [ o_m 35 10, o_m 36 8, o_p 37 (.bin .gtr (.tmp 35) (.tmp 36))])
(.cond (.tmp 37)
(.seq (.ops [ o_m 38 9, o_m 7 38])
(.ops [ o_m 39 10, o_m 8 39]))
(.skip))))))
(.ops [ o_p 40 (.bin .add (.tmp 29) (.const (.int .i64 (1)))), o_m 29 40])))))))
(.seq (.ops [ o_m 41 7, o_m 42 8, o_m 4 41, o_m 5 42, o_p 6 (.mv (.const (.bool true)))])
(.ret))))),
[.tmp 4, .tmp 5, .tmp 6]⟩
theorem r_spec_FoggiestLink : resFun Try.prog f_spec_FoggiestLink = some c_spec_FoggiestLink := by kernel_rfl

/- loop.example/g00940/spec.DrawAreFogs -/
abbrev f_spec_DrawAreFogs : Nat := 22
def c_spec_DrawAreFogs : MFun := ⟨12, .seq (.ops [ o_e 2 (.new 27 [(.slice none 0 0), (.slice none 0 0)]), o_p 3 (.mv (.const (.slice none 0 0)))])
(.seq (.ops [ o_m 5 0, o_p 6 (.build [(.slice none 0 0), (.int .i64 (0)), (.int .u64 (0))] [(0, 1, (.tmp 5))]), o_e 7 (.box 66 (.tmp 6)), o_m 4 7])
(.seq (.ops [ o_m 8 4, o_e 9 (.call 38 [(.tmp 8)]), o_p 10 (.ext 0 (.tmp 9)), o_p 11 (.ext 1 (.tmp 9)),
.op ⟨none, (.eff (.store 2 (.tmp 2) (.tmp 10))), none⟩, o_m 3 11])
(.ret))),
[.cell 2 (some 2), .tmp 3]⟩
theorem r_spec_DrawAreFogs : resFun Try.prog f_spec_DrawAreFogs = some c_spec_DrawAreFogs := by kernel_rfl

/- loop.example/g00940/impl.AreFogs -/
abbrev f_impl_AreFogs : Nat := 23
def c_impl_AreFogs : MFun := ⟨12, .seq (.ops [ o_e 2 (.box 27 (.tmp 0)), o_p 4 (.mv (.const (.bool false))), o_p 5 (.mv (.const (.bool false)))])
(.seq (.seq (.ops [
.op ⟨(some 6), (.load (some 2) (.tmp 2)), none⟩, o_e 7 (.call 49 [(.tmp 6)]), o_p 8 (.bnot (.tmp 7))])
(.cond (.tmp 8)
(.seq (.ops [ o_p 4 (.mv (.const (.bool false))), o_p 5 (.mv (.const (.bool false)))])
(.ret))
(.skip)))
(.seq (.ops [
.op ⟨(some 9), (.load (some 2) (.tmp 2)), none⟩, o_m 10 1, o_e 11 (.call 50 [(.tmp 9), (.tmp 10)]), o_m 4 11, o_p 5 (.mv (.const (.bool true)))])
(.ret))),
[.tmp 4, .tmp 5]⟩
theorem r_impl_AreFogs : resFun Try.prog f_impl_AreFogs = some c_impl_AreFogs := by kernel_rfl

/- loop.example/g00940/spec.AreFogs -/
abbrev f_spec_AreFogs : Nat := 24
def c_spec_AreFogs : MFun := ⟨12, .seq (.ops [ o_e 2 (.box 27 (.tmp 0)), o_p 4 (.mv (.const (.bool false))), o_p 5 (.mv (.const (.bool false)))])
(.seq (.seq (.ops [
.op ⟨(some 6), (.load (some 2) (.tmp 2)), none⟩, o_e 7 (.call 52 [(.tmp 6)]), o_p 8 (.bnot (.tmp 7))])
(.cond (.tmp 8)
(.seq (.ops [ o_p 4 (.mv (.const (.bool false))), o_p 5 (.mv (.const (.bool false)))])
(.ret))
(.skip)))
(.seq (.ops [
.op ⟨(some 9), (.load (some 2) (.tmp 2)), none⟩, o_m 10 1, o_e 11 (.call 53 [(.tmp 9), (.tmp 10)]), o_m 4 11, o_p 5 (.mv (.const (.bool true)))])
(.ret))),
[.tmp 4, .tmp 5]⟩
theorem r_spec_AreFogs : resFun Try.prog f_spec_AreFogs = some c_spec_AreFogs := by kernel_rfl

/- loop.example/g00940/spec.DrawClearWindows -/
/- loop.example/g00940/impl.ClearWindows -/
/- loop.example/g00940/spec.ClearWindows -/
/- loop.example/g00940/spec.FogSeconds -/
/- loop.example/g00940/laws.sameLists -/
/- loop.example/g00940/spec.DrawNextClear -/
/- loop.example/g00940/impl.NextClear -/
/- loop.example/g00940/spec.NextClear -/
/- loop.example/g00940/spec.IsClear -/
/- loop.example/g00940/spec.DrawAddFog -/
/- loop.example/g00940/impl.AddFog -/
/- loop.example/g00940/spec.AddFog -/
/- loop.example/g00940/laws.pSameFogs -/
/- (*loop.example/g00940/spec.l1Cur).foggy -/
abbrev f_spec_l1Cur_foggy : Nat := 38
def c_spec_l1Cur_foggy : MFun := ⟨15, .seq (.ops [ o_e 2 (.new 27 [(.slice none 0 0), (.slice none 0 0)]), o_p 3 (.mv (.const (.slice none 0 0)))])
(.seq (.ops [ o_m 5 0, o_e 6 (.call 72 [(.tmp 5)]), o_e 4 (.new 27 [(.slice none 0 0), (.slice none 0 0)]),
.op ⟨none, (.eff (.store 2 (.tmp 4) (.tmp 6))), none⟩])
(.seq (.seq (.ops [ o_m 7 0, o_e 8 (.call 73 [(.tmp 7), (.const (.int .i64 (20)))])])
(.cond (.tmp 8)
(.ops [ o_m 9 0, o_e 10 (.call 74 [(.tmp 9)]),
.op ⟨none, (.eff (.store 2 (.tmp 4) (.tmp 10))), none⟩])
(.skip)))
(.seq (.draw true
(.take (t_m 12 0)
(.only false ⟨(some 13), (.load (some 2) (.tmp 4)), none⟩
(.take ⟨(some 11), (.load (some 2) (.tmp 4)), none⟩
(.only false (t_e 14 (.call 75 [(.tmp 12), (.tmp 13)]))
(.only true ⟨none, (.eff (.store 2 (.tmp 2) (.tmp 11))), none⟩
(.take (t_m 3 14)
(.done))))))))
(.ret)))),
[.cell 2 (some 2), .tmp 3]⟩
theorem r_spec_l1Cur_foggy : resFun Try.prog f_spec_l1Cur_foggy = some c_spec_l1Cur_foggy := by kernel_rfl

/- (*loop.example/g00940/spec.l1Cur).link -/
abbrev f_spec_l1Cur_link : Nat := 39
def c_spec_l1Cur_link : MFun := ⟨18, .seq (.ops [ o_e 3 (.box 27 (.tmp 1)), o_p 4 (.mv (.const (.int .i64 (0))))])
(.seq (.draw true
(.take (t_m 5 0)
(.take (t_p 6 (.fieldAddr 1 (.tmp 3)))
(.take (t_m 9 0)
(.take (t_m 14 0)
(.take (t_l 7 6)
(.take (t_p 8 (.len (.tmp 7)))
(.only false (t_e 10 (.call 76 [(.tmp 9), (.const (.int .i64 (16)))]))
(.take (t_p 11 (.bin .quo (.tmp 10) (.const (.int .i64 (15)))))
(.take (t_p 12 (.bin .add (.tmp 8) (.tmp 11)))
(.only true (t_e 13 (.call 76 [(.tmp 5), (.tmp 12)]))
(.only true (t_e 15 (.call 76 [(.tmp 14), (.const (.int .i64 (24)))]))
(.take (t_p 16 (.bin .quo (.tmp 15) (.const (.int .i64 (23)))))
(.take (t_p 17 (.bin .sub (.tmp 13) (.tmp 16)))
(.take (t_m 4 17)
(.done))))))))))))))))
(.ret)),
[.tmp 4]⟩
theorem r_spec_l1Cur_link : resFun Try.prog f_spec_l1Cur_link = some c_spec_l1Cur_link := by kernel_rfl
end Go.Proofs.Ytloicopmcagikaa

