/- The code of this seat's functions, resolved, written by a program of mine; each is held against the given program by the kernel. Condition: none. -/
import Derived.Test.YtloicopmcagikaaProg
import Derived.Test.YtloicopmcagikaaBase9
import Derived.KernelRfl
namespace Go.Proofs.Ytloicopmcagikaa
open Go.Vc

/- loop.example/g00940/impl.FoggyLinks -/
/- loop.example/g00940/spec.FoggyLinks -/
/- loop.example/g00940/impl.JoinedAt -/
/- loop.example/g00940/spec.JoinedAt -/
/- loop.example/g00940/laws.sameInts -/
abbrev f_laws_sameInts : Nat := 15
def c_laws_sameInts : MFun := ⟨26, .seq (.ops [ o_p 4 (.mv (.const (.bool false)))])
(.seq (.seq (.ops [ o_m 6 0, o_p 7 (.len (.tmp 6)), o_m 8 1, o_p 9 (.len (.tmp 8)), o_p 10 (.bin .neq (.tmp 7) (.tmp 9))])
(.cond (.tmp 10)
(.seq (.ops [ o_p 4 (.mv (.const (.bool false)))])
(.ret))
(.skip)))
(.seq (.seq (.ops [ o_m 11 0, o_p 12 (.len (.tmp 11)), o_p 13 (.mv (.const (.int .i64 (0))))])
(.block 0 (.loop (.seq (.ops [ o_p 14 (.bin .lss (.tmp 13) (.tmp 12))])
(.seq (.cond (.tmp 14)
(.skip)
(.exit 0))
(.seq (.block 1 (.seq (.ops [ o_m 15 13, o_m 5 15])
(.seq (.ops [ o_m 16 0, o_m 17 5, o_p 18 (.idx 1 (.tmp 16) (.tmp 17)), o_m 20 1, o_m 21 5, o_p 22 (.idx 1 (.tmp 20) (.tmp 21)), o_l 19 18, o_l 23 22, o_p 24 (.bin .neq (.tmp 19) (.tmp 23))])
(.cond (.tmp 24)
(.seq (.ops [ o_p 4 (.mv (.const (.bool false)))])
(.ret))
(.skip)))))
(.ops [ o_p 25 (.bin .add (.tmp 13) (.const (.int .i64 (1)))), o_m 13 25])))))))
(.seq (.ops [ o_p 4 (.mv (.const (.bool true)))])
(.ret)))),
[.tmp 4]⟩
theorem r_laws_sameInts : resFun Try.prog f_laws_sameInts = some c_laws_sameInts := by kernel_rfl

/- loop.example/g00940/impl.IsJoined -/
/- loop.example/g00940/impl.IsClear -/
abbrev f_impl_IsClear : Nat := 17
def c_impl_IsClear : MFun := ⟨21, .seq (.ops [ o_e 4 (.box 27 (.tmp 0)), o_p 8 (.mv (.const (.bool false))), o_p 9 (.mv (.const (.bool false)))])
(.seq (.seq (.ops [
.op ⟨(some 10), (.load (some 2) (.tmp 4)), none⟩, o_m 11 1, o_m 12 2, o_m 13 3, o_m 14 3, o_e 15 (.call 42 [(.tmp 10), (.tmp 11), (.tmp 12), (.tmp 13), (.tmp 14)]), o_p 16 (.bnot (.tmp 15))])
(.cond (.tmp 16)
(.seq (.ops [ o_p 8 (.mv (.const (.bool false))), o_p 9 (.mv (.const (.bool false)))])
(.ret))
(.skip)))
(.seq (.ops [ o_m 17 1, o_m 18 2, o_m 19 3, o_e 20 (.call 51 [(.tmp 17), (.tmp 18), (.tmp 19)]), o_m 8 20, o_p 9 (.mv (.const (.bool true)))])
(.ret))),
[.tmp 8, .tmp 9]⟩
theorem r_impl_IsClear : resFun Try.prog f_impl_IsClear = some c_impl_IsClear := by kernel_rfl

/- loop.example/g00940/laws.pIn -/
/- loop.example/g00940/spec.DrawFoggiestLink -/
/- loop.example/g00940/impl.FoggiestLink -/
/- loop.example/g00940/spec.FoggiestLink -/
/- loop.example/g00940/spec.DrawAreFogs -/
/- loop.example/g00940/impl.AreFogs -/
abbrev f_impl_AreFogs : Nat := 23
def c_impl_AreFogs : MFun := ⟨12, .seq (.ops [ o_e 2 (.box 27 (.tmp 0)), o_p 4 (.mv (.const (.bool false))), o_p 5 (.mv (.const (.bool false)))])
(.seq (.seq (.ops [
.op ⟨(some 6), (.load (some 2) (.tmp 2)), none⟩, o_e 7 (.call 49 [(.tmp 6)]), o_p 8 (.bnot (.tmp 7))])
(.cond (.tmp 8)
(.seq (.ops [ o_p 4 (.mv (.const (.bool false))), o_p 5 (.mv (.const (.bool false)))])
(.ret))
(.skip)))
(.seq (.ops [
.op ⟨(some 9), (.load (some 2) (.tmp 2)), none⟩, o_m 10 1, o_e 11 (.call 50 [(.tmp 9), (.tmp 10)]), o_m 4 11, o_p 5 (.mv (.const (.bool true)))])
(.ret))),
[.tmp 4, .tmp 5]⟩
theorem r_impl_AreFogs : resFun Try.prog f_impl_AreFogs = some c_impl_AreFogs := by kernel_rfl

/- loop.example/g00940/spec.AreFogs -/
/- loop.example/g00940/spec.DrawClearWindows -/
abbrev f_spec_DrawClearWindows : Nat := 25
def c_spec_DrawClearWindows : MFun := ⟨14, .seq (.ops [ o_e 2 (.new 27 [(.slice none 0 0), (.slice none 0 0)]), o_p 3 (.mv (.const (.slice none 0 0))), o_p 4 (.mv (.const (.int .i64 (0)))), o_p 5 (.mv (.const (.int .i64 (0)))), o_p 6 (.mv (.const (.int .i64 (0))))])
(.seq (.ops [ o_m 7 0, o_e 8 (.call 62 [(.tmp 7)]), o_p 9 (.ext 0 (.tmp 8)), o_p 10 (.ext 1 (.tmp 8)), o_p 11 (.ext 2 (.tmp 8)), o_p 12 (.ext 3 (.tmp 8)), o_p 13 (.ext 4 (.tmp 8)),
.op ⟨none, (.eff (.store 2 (.tmp 2) (.tmp 9))), none⟩, o_m 3 10, o_m 4 11, o_m 5 12, o_m 6 13])
(.ret)),
[.cell 2 (some 2), .tmp 3, .tmp 4, .tmp 5, .tmp 6]⟩
theorem r_spec_DrawClearWindows : resFun Try.prog f_spec_DrawClearWindows = some c_spec_DrawClearWindows := by kernel_rfl

/- loop.example/g00940/impl.ClearWindows -/
abbrev f_impl_ClearWindows : Nat := 26
def c_impl_ClearWindows : MFun := ⟨70, .seq (.ops [ o_e 5 (.box 27 (.tmp 0)), o_p 10 (.mv (.const (.slice none 0 0))), o_p 11 (.mv (.const (.bool false)))])
(.seq (.seq (.ops [
.op ⟨(some 16), (.load (some 2) (.tmp 5)), none⟩, o_m 17 1, o_m 18 2, o_m 19 3, o_m 20 4, o_e 21 (.call 42 [(.tmp 16), (.tmp 17), (.tmp 18), (.tmp 19), (.tmp 20)]), o_p 22 (.bnot (.tmp 21))])
(.cond (.tmp 22)
(.seq (.ops [ o_p 10 (.mv (.const (.slice none 0 0))), o_p 11 (.mv (.const (.bool false)))])
(.ret))
(.skip)))
(.seq (.ops [ o_p 12 (.mv (.const (.slice none 0 0)))])
(.seq (.ops [ o_m 23 3, o_m 13 23])
(.seq (.seq (.ops [ o_m 24 1, o_p 25 (.len (.tmp 24)), o_p 26 (.mv (.const (.int .i64 (0))))])
(.block 0 (.loop (.seq (.ops [ o_p 27 (.bin .lss (.tmp 26) (.tmp 25))])
(.seq (.cond (.tmp 27)
(.skip)
(.exit 0))
(.seq (.block 1 (.seq (.ops [ o_p 28 (.idx 3 (.tmp 24) (.tmp 26)),
.op ⟨(some 29), (.load (some 3) (.tmp 28)), none⟩, o_e 15 (.new 57 [(.int .i64 (0)), (.int .i64 (0)), (.int .i64 (0))]),
.op ⟨none, (.eff (.store 3 (.tmp 15) (.tmp 29))), none⟩])
(.seq (.seq (.ops [ o_p 30 (.fieldAddr 0 (.tmp 15)), o_l 31 30, o_m 32 2, o_p 33 (.bin .neq (.tmp 31) (.tmp 32)), o_m 34 33,
.split 34,
.op ⟨(some 35), (.pure (.fieldAddr 2 (.tmp 15))), (some (34, false))⟩,
.op ⟨(some 36), (.load none (.tmp 35)), (some (34, false))⟩,
.op ⟨(some 37), (.pure (.mv (.tmp 3))), (some (34, false))⟩,
.op ⟨(some 38), (.pure (.bin .leq (.tmp 36) (.tmp 37))), (some (34, false))⟩, o_p 39 (.pick (.tmp 34) (.const (.bool true)) (.tmp 38)), o_m 40 39,
.split 40,
.op ⟨(some 41), (.pure (.fieldAddr 1 (.tmp 15))), (some (40, false))⟩,
.op ⟨(some 42), (.load none (.tmp 41)), (some (40, false))⟩,
.op ⟨(some 43), (.pure (.mv (.tmp 4))), (some (40, false))⟩,
.op ⟨(some 44), (.pure (.bin .geq (.tmp 42) (.tmp 43))), (some (40, false))⟩, o_p 45 (.pick (.tmp 40) (.const (.bool true)) (.tmp 44))])
(.cond (.tmp 45)
(.exit 1)
(.skip)))
(.seq (.seq (.ops [ o_p 46 (.fieldAddr 1 (.tmp 15)), o_l 47 46, o_m 48 13, o_p 49 (.bin .gtr (.tmp 47) (.tmp 48))])
(.cond (.tmp 49)
(.ops [ o_m 50 12, o_m 51 13, o_p 52 (.fieldAddr 1 (.tmp 15)), o_l 53 52, o_e 54 (.row 3 2 [(.int .i64 (0)), (.int .i64 (0))] [(0, 1, (.tmp 51)), (1, 1, (.tmp 53))]), o_e 55 (.row 35 1 [(.slice none 0 0)] [(0, 1, (.tmp 54))]), o_e 56 (.app 35 1 24 (.tmp 50) (.tmp 55)), o_m 12 56])
(.skip)))
(.ops [ o_p 57 (.fieldAddr 2 (.tmp 15)), o_l 58 57, o_m 13 58])))))
(.ops [ o_p 59 (.bin .add (.tmp 26) (.const (.int .i64 (1)))), o_m 26 59])))))))
(.seq (.seq (.ops [ o_m 60 13, o_m 61 4, o_p 62 (.bin .lss (.tmp 60) (.tmp 61))])
(.cond (.tmp 62)
(.ops [ o_m 63 12, o_m 64 13, o_m 65 4, o_e 66 (.row 3 2 [(.int .i64 (0)), (.int .i64 (0))] [(0, 1, (.tmp 64)), (1, 1, (.tmp 65))]), o_e 67 (.row 35 1 [(.slice none 0 0)] [(0, 1, (.tmp 66))]), o_e 68 (.app 35 1 24 (.tmp 63) (.tmp 67)), o_m 12 68])
(.skip)))
(.seq (.ops [ o_m 69 12, o_m 10 69, o_p 11 (.mv (.const (.bool true)))])
(.ret))))))),
[.tmp 10, .tmp 11]⟩
theorem r_impl_ClearWindows : resFun Try.prog f_impl_ClearWindows = some c_impl_ClearWindows := by kernel_rfl

/- loop.example/g00940/spec.ClearWindows -/
abbrev f_spec_ClearWindows : Nat := 27
def c_spec_ClearWindows : MFun := ⟨65, .seq (.ops [ o_e 5 (.box 27 (.tmp 0)), o_p 10 (.mv (.const (.slice none 0 0))), o_p 11 (.mv (.const (.bool false)))])
(.seq (.seq (.ops [
.op ⟨(some 16), (.load (some 2) (.tmp 5)), none⟩, o_m 17 1, o_m 18 2, o_m 19 3, o_m 20 4, o_e 21 (.call 63 [(.tmp 16), (.tmp 17), (.tmp 18), (.tmp 19), (.tmp 20)]), o_p 22 (.bnot (.tmp 21))])
(.cond (.tmp 22)
(.seq (.ops [ o_p 10 (.mv (.const (.slice none 0 0))), o_p 11 (.mv (.const (.bool false)))])
(.ret))
(.skip)))
(.seq (.ops [ o_p 12 (.mv (.const (.slice none 0 0)))])
(.seq (.seq (.ops [ o_m 23 1, o_p 24 (.len (.tmp 23)), o_p 25 (.mv (.const (.int .i64 (0))))])
(.block 0 (.loop (.seq (.ops [ o_p 26 (.bin .lss (.tmp 25) (.tmp 24))])
(.seq (.cond (.tmp 26)
(.skip)
(.exit 0))
(.seq (.block 1 (.seq (.ops [ o_p 27 (.idx 3 (.tmp 23) (.tmp 25)),
.op ⟨(some 28), (.load (some 3) (.tmp 27)), none⟩, o_e 14 (.new 57 [(.int .i64 (0)), (.int .i64 (0)), (.int .i64 (0))]),
.op ⟨none, (.eff (.store 3 (.tmp 14) (.tmp 28))), none⟩])
(.seq (.seq (.ops [ o_p 29 (.fieldAddr 0 (.tmp 14)), o_l 30 29, o_m 31 2, o_p 32 (.bin .neq (.tmp 30) (.tmp 31)), o_m 33 32,
.split 33,
.op ⟨(some 34), (.pure (.fieldAddr 2 (.tmp 14))), (some (33, false))⟩,
.op ⟨(some 35), (.load none (.tmp 34)), (some (33, false))⟩,
.op ⟨(some 36), (.pure (.mv (.tmp 3))), (some (33, false))⟩,
.op ⟨(some 37), (.pure (.bin .leq (.tmp 35) (.tmp 36))), (some (33, false))⟩, o_p 38 (.pick (.tmp 33) (.const (.bool true)) (.tmp 37))])
(.cond (.tmp 38)
(.exit 1)
(.skip)))
(.seq (.seq (.ops [ o_p 39 (.fieldAddr 1 (.tmp 14)), o_l 40 39, o_m 41 4, o_e 42 (.call 64 [(.tmp 40), (.tmp 41)]), o_m 15 42])
(.seq (.ops [ o_m 43 3, o_m 44 15, o_p 45 (.bin .lss (.tmp 43) (.tmp 44))])
(.cond (.tmp 45)
(.ops [ o_m 46 12, o_m 47 3, o_m 48 15, o_e 49 (.row 3 2 [(.int .i64 (0)), (.int .i64 (0))] [(0, 1, (.tmp 47)), (1, 1, (.tmp 48))]), o_e 50 (.row 35 1 [(.slice none 0 0)] [(0, 1, (.tmp 49))]), o_e 51 (.app 35 1 24 (.tmp 46) (.tmp 50)), o_m 12 51])
(.skip))))
(.ops [ o_p 52 (.fieldAddr 2 (.tmp 14)), o_l 53 52, o_m 3 53])))))
(.ops [ o_p 54 (.bin .add (.tmp 25) (.const (.int .i64 (1)))), o_m 25 54])))))))
(.seq (.seq (.ops [ o_m 55 3, o_m 56 4, o_p 57 (.bin .lss (.tmp 55) (.tmp 56))])
(.cond (.tmp 57)
(.ops [ o_m 58 12, o_m 59 3, o_m 60 4, o_e 61 (.row 3 2 [(.int .i64 (0)), (.int .i64 (0))] [(0, 1, (.tmp 59)), (1, 1, (.tmp 60))]), o_e 62 (.row 35 1 [(.slice none 0 0)] [(0, 1, (.tmp 61))]), o_e 63 (.app 35 1 24 (.tmp 58) (.tmp 62)), o_m 12 63])
(.skip)))
(.seq (.ops [ o_m 64 12, o_m 10 64, o_p 11 (.mv (.const (.bool true)))])
(.ret)))))),
[.tmp 10, .tmp 11]⟩
theorem r_spec_ClearWindows : resFun Try.prog f_spec_ClearWindows = some c_spec_ClearWindows := by kernel_rfl

/- loop.example/g00940/spec.FogSeconds -/
abbrev f_spec_FogSeconds : Nat := 28
def c_spec_FogSeconds : MFun := ⟨24, .seq (.ops [ o_e 5 (.box 27 (.tmp 0)), o_p 10 (.mv (.const (.int .i64 (0)))), o_p 11 (.mv (.const (.bool false)))])
(.seq (.seq (.ops [
.op ⟨(some 12), (.load (some 2) (.tmp 5)), none⟩, o_m 13 1, o_m 14 2, o_m 15 3, o_m 16 4, o_e 17 (.call 63 [(.tmp 12), (.tmp 13), (.tmp 14), (.tmp 15), (.tmp 16)]), o_p 18 (.bnot (.tmp 17))])
(.cond (.tmp 18)
(.seq (.ops [ o_p 10 (.mv (.const (.int .i64 (0)))), o_p 11 (.mv (.const (.bool false)))])
(.ret))
(.skip)))
(.seq (.ops [ o_m 19 1, o_m 20 2, o_m 21 3, o_m 22 4, o_e 23 (.call 61 [(.tmp 19), (.tmp 20), (.tmp 21), (.tmp 22)]), o_m 10 23, o_p 11 (.mv (.const (.bool true)))])
(.ret))),
[.tmp 10, .tmp 11]⟩
theorem r_spec_FogSeconds : resFun Try.prog f_spec_FogSeconds = some c_spec_FogSeconds := by kernel_rfl

/- loop.example/g00940/laws.sameLists -/
abbrev f_laws_sameLists : Nat := 29
def c_laws_sameLists : MFun := ⟨27, .seq (.ops [ o_p 4 (.mv (.const (.bool false)))])
(.seq (.seq (.ops [ o_m 6 0, o_p 7 (.len (.tmp 6)), o_m 8 1, o_p 9 (.len (.tmp 8)), o_p 10 (.bin .neq (.tmp 7) (.tmp 9))])
(.cond (.tmp 10)
(.seq (.ops [ o_p 4 (.mv (.const (.bool false)))])
(.ret))
(.skip)))
(.seq (.seq (.ops [ o_m 11 0, o_p 12 (.len (.tmp 11)), o_p 13 (.mv (.const (.int .i64 (0))))])
(.block 0 (.loop (.seq (.ops [ o_p 14 (.bin .lss (.tmp 13) (.tmp 12))])
(.seq (.cond (.tmp 14)
(.skip)
(.exit 0))
(.seq (.block 1 (.seq (.ops [ o_m 15 13, o_m 5 15])
(.seq (.draw false
(.take (t_m 16 0)
(.take (t_m 17 5)
(.take (t_p 18 (.idx 1 (.tmp 16) (.tmp 17)))
(.take (t_m 20 1)
(.take (t_m 21 5)
(.take (t_p 22 (.idx 1 (.tmp 20) (.tmp 21)))
(.only false (t_l 19 18)
(.only false (t_l 23 22)
(.only true (t_e 24 (.call 15 [(.tmp 19), (.tmp 23)]))
(.take (t_p 25 (.bnot (.tmp 24)))
(.done))))))))))))
(.cond (.tmp 25)
(.seq (.ops [ o_p 4 (.mv (.const (.bool false)))])
(.ret))
(.skip)))))
(.ops [ o_p 26 (.bin .add (.tmp 13) (.const (.int .i64 (1)))), o_m 13 26])))))))
(.seq (.ops [ o_p 4 (.mv (.const (.bool true)))])
(.ret)))),
[.tmp 4]⟩
theorem r_laws_sameLists : resFun Try.prog f_laws_sameLists = some c_laws_sameLists := by kernel_rfl

/- loop.example/g00940/spec.DrawNextClear -/
abbrev f_spec_DrawNextClear : Nat := 30
def c_spec_DrawNextClear : MFun := ⟨12, .seq (.ops [ o_e 2 (.new 27 [(.slice none 0 0), (.slice none 0 0)]), o_p 3 (.mv (.const (.slice none 0 0))), o_p 4 (.mv (.const (.int .i64 (0)))), o_p 5 (.mv (.const (.int .i64 (0))))])
(.seq (.ops [ o_m 6 0, o_e 7 (.call 65 [(.tmp 6)]), o_p 8 (.ext 0 (.tmp 7)), o_p 9 (.ext 1 (.tmp 7)), o_p 10 (.ext 2 (.tmp 7)), o_p 11 (.ext 3 (.tmp 7)),
.op ⟨none, (.eff (.store 2 (.tmp 2) (.tmp 8))), none⟩, o_m 3 9, o_m 4 10, o_m 5 11])
(.ret)),
[.cell 2 (some 2), .tmp 3, .tmp 4, .tmp 5]⟩
theorem r_spec_DrawNextClear : resFun Try.prog f_spec_DrawNextClear = some c_spec_DrawNextClear := by kernel_rfl

/- loop.example/g00940/impl.NextClear -/
abbrev f_impl_NextClear : Nat := 31
def c_impl_NextClear : MFun := ⟨21, .seq (.ops [ o_e 4 (.box 27 (.tmp 0)), o_p 8 (.mv (.const (.int .i64 (0)))), o_p 9 (.mv (.const (.bool false)))])
(.seq (.seq (.ops [
.op ⟨(some 10), (.load (some 2) (.tmp 4)), none⟩, o_m 11 1, o_m 12 2, o_m 13 3, o_m 14 3, o_e 15 (.call 42 [(.tmp 10), (.tmp 11), (.tmp 12), (.tmp 13), (.tmp 14)]), o_p 16 (.bnot (.tmp 15))])
(.cond (.tmp 16)
(.seq (.ops [ o_p 8 (.mv (.const (.int .i64 (0)))), o_p 9 (.mv (.const (.bool false)))])
(.ret))
(.skip)))
(.seq (.ops [ o_m 17 1, o_m 18 2, o_m 19 3, o_e 20 (.call 44 [(.tmp 17), (.tmp 18), (.tmp 19), (.const (.int .i64 (1)))]), o_m 8 20, o_p 9 (.mv (.const (.bool true)))])
(.ret))),
[.tmp 8, .tmp 9]⟩
theorem r_impl_NextClear : resFun Try.prog f_impl_NextClear = some c_impl_NextClear := by kernel_rfl

/- loop.example/g00940/spec.NextClear -/
abbrev f_spec_NextClear : Nat := 32
def c_spec_NextClear : MFun := ⟨24, .seq (.ops [ o_e 4 (.box 27 (.tmp 0)), o_p 8 (.mv (.const (.int .i64 (0)))), o_p 9 (.mv (.const (.bool false)))])
(.seq (.seq (.ops [
.op ⟨(some 10), (.load (some 2) (.tmp 4)), none⟩, o_m 11 1, o_m 12 2, o_e 13 (.call 45 [(.tmp 10), (.tmp 11), (.tmp 12)]), o_p 14 (.bnot (.tmp 13)), o_m 15 14,
.split 15,
.op ⟨(some 16), (.pure (.mv (.tmp 3))), (some (15, false))⟩,
.op ⟨(some 17), (.eff (.call 46 [(.tmp 16)])), (some (15, false))⟩,
.op ⟨(some 18), (.pure (.bnot (.tmp 17))), (some (15, false))⟩, o_p 19 (.pick (.tmp 15) (.const (.bool true)) (.tmp 18))])
(.cond (.tmp 19)
(.seq (.ops [ o_p 8 (.mv (.const (.int .i64 (0)))), o_p 9 (.mv (.const (.bool false)))])
(.ret))
(.skip)))
(.seq (.ops [ o_m 20 1, o_m 21 2, o_m 22 3, o_e 23 (.call 66 [(.tmp 20), (.tmp 21), (.tmp 22)]), o_m 8 23, o_p 9 (.mv (.const (.bool true)))])
(.ret))),
[.tmp 8, .tmp 9]⟩
theorem r_spec_NextClear : resFun Try.prog f_spec_NextClear = some c_spec_NextClear := by kernel_rfl

/- loop.example/g00940/spec.IsClear -/
abbrev f_spec_IsClear : Nat := 33
def c_spec_IsClear : MFun := ⟨24, .seq (.ops [ o_e 4 (.box 27 (.tmp 0)), o_p 8 (.mv (.const (.bool false))), o_p 9 (.mv (.const (.bool false)))])
(.seq (.seq (.ops [
.op ⟨(some 10), (.load (some 2) (.tmp 4)), none⟩, o_m 11 1, o_m 12 2, o_e 13 (.call 45 [(.tmp 10), (.tmp 11), (.tmp 12)]), o_p 14 (.bnot (.tmp 13)), o_m 15 14,
.split 15,
.op ⟨(some 16), (.pure (.mv (.tmp 3))), (some (15, false))⟩,
.op ⟨(some 17), (.eff (.call 46 [(.tmp 16)])), (some (15, false))⟩,
.op ⟨(some 18), (.pure (.bnot (.tmp 17))), (some (15, false))⟩, o_p 19 (.pick (.tmp 15) (.const (.bool true)) (.tmp 18))])
(.cond (.tmp 19)
(.seq (.ops [ o_p 8 (.mv (.const (.bool false))), o_p 9 (.mv (.const (.bool false)))])
(.ret))
(.skip)))
(.seq (.ops [ o_m 20 1, o_m 21 2, o_m 22 3, o_e 23 (.call 54 [(.tmp 20), (.tmp 21), (.tmp 22)]), o_m 8 23, o_p 9 (.mv (.const (.bool true)))])
(.ret))),
[.tmp 8, .tmp 9]⟩
theorem r_spec_IsClear : resFun Try.prog f_spec_IsClear = some c_spec_IsClear := by kernel_rfl

/- loop.example/g00940/spec.DrawAddFog -/
abbrev f_spec_DrawAddFog : Nat := 34
def c_spec_DrawAddFog : MFun := ⟨31, .seq (.ops [ o_e 2 (.new 27 [(.slice none 0 0), (.slice none 0 0)]), o_p 3 (.mv (.const (.slice none 0 0))), o_e 4 (.new 57 [(.int .i64 (0)), (.int .i64 (0)), (.int .i64 (0))])])
(.seq (.ops [ o_m 9 0, o_p 10 (.build [(.slice none 0 0), (.int .i64 (0)), (.int .u64 (0))] [(0, 1, (.tmp 9))]), o_e 11 (.box 66 (.tmp 10)), o_m 5 11])
(.seq (.ops [ o_m 13 5, o_e 14 (.call 38 [(.tmp 13)]), o_m 12 14, o_p 15 (.ext 0 (.tmp 12)), o_p 16 (.ext 1 (.tmp 12)), o_e 6 (.new 27 [(.slice none 0 0), (.slice none 0 0)]),
.op ⟨none, (.eff (.store 2 (.tmp 6) (.tmp 15))), none⟩, o_m 7 16])
(.seq (.ops [ o_m 17 5, o_e 18 (.call 40 [(.tmp 17)]), o_m 8 18])
(.seq (.draw true
(.take (t_m 20 7)
(.take (t_m 21 5)
(.take (t_m 24 8)
(.take (t_m 25 8)
(.take (t_m 26 5)
(.take ⟨(some 19), (.load (some 2) (.tmp 6)), none⟩
(.take ⟨(some 22), (.load (some 2) (.tmp 6)), none⟩
(.fork
(.only false (t_e 23 (.call 39 [(.tmp 21), (.tmp 22)]))
(.only false (t_e 27 (.row 3 5 [(.int .i64 (0)), (.int .i64 (0)), (.int .i64 (0)), (.int .i64 (0)), (.int .i64 (0))] [(0, 1, (.const (.int .i64 (0)))), (1, 1, (.const (.int .i64 (1)))), (2, 1, (.const (.int .i64 (5)))), (3, 1, (.const (.int .i64 (30)))), (4, 1, (.const (.int .i64 (100))))]))
(.only false (t_e 28 (.call 41 [(.tmp 26), (.tmp 27)]))
(.take (t_p 29 (.bin .add (.tmp 25) (.tmp 28)))
(.take (t_p 30 (.build [(.int .i64 (0)), (.int .i64 (0)), (.int .i64 (0))] [(0, 1, (.tmp 23)), (1, 1, (.tmp 24)), (2, 1, (.tmp 29))]))
(.only true ⟨none, (.eff (.store 2 (.tmp 2) (.tmp 19))), none⟩
(.take (t_m 3 20)
(.only true ⟨none, (.eff (.store 3 (.tmp 4) (.tmp 30))), none⟩
(.done)))))))))
(.only false (t_e 27 (.row 3 5 [(.int .i64 (0)), (.int .i64 (0)), (.int .i64 (0)), (.int .i64 (0)), (.int .i64 (0))] [(0, 1, (.const (.int .i64 (0)))), (1, 1, (.const (.int .i64 (1)))), (2, 1, (.const (.int .i64 (5)))), (3, 1, (.const (.int .i64 (30)))), (4, 1, (.const (.int .i64 (100))))]))
(.only false (t_e 23 (.call 39 [(.tmp 21), (.tmp 22)]))
(.only false (t_e 28 (.call 41 [(.tmp 26), (.tmp 27)]))
(.take (t_p 29 (.bin .add (.tmp 25) (.tmp 28)))
(.take (t_p 30 (.build [(.int .i64 (0)), (.int .i64 (0)), (.int .i64 (0))] [(0, 1, (.tmp 23)), (1, 1, (.tmp 24)), (2, 1, (.tmp 29))]))
(.only true ⟨none, (.eff (.store 2 (.tmp 2) (.tmp 19))), none⟩
(.take (t_m 3 20)
(.only true ⟨none, (.eff (.store 3 (.tmp 4) (.tmp 30))), none⟩
(.done))))))))))))))))))
(.ret))))),
[.cell 2 (some 2), .tmp 3, .cell 4 (some 3)]⟩
theorem r_spec_DrawAddFog : resFun Try.prog f_spec_DrawAddFog = some c_spec_DrawAddFog := by kernel_rfl

/- loop.example/g00940/impl.AddFog -/
abbrev f_impl_AddFog : Nat := 35
def c_impl_AddFog : MFun := ⟨78, .seq (.ops [ o_e 3 (.box 27 (.tmp 0)), o_e 5 (.box 57 (.tmp 2)), o_p 6 (.mv (.const (.slice none 0 0))), o_p 7 (.mv (.const (.bool false)))])
(.seq (.seq (.ops [
.op ⟨(some 11), (.load (some 2) (.tmp 3)), none⟩, o_e 12 (.call 49 [(.tmp 11)]), o_p 13 (.bnot (.tmp 12)), o_m 14 13,
.split 14,
.op ⟨(some 15), (.load (some 2) (.tmp 3)), (some (14, false))⟩,
.op ⟨(some 16), (.pure (.mv (.tmp 1))), (some (14, false))⟩,
.op ⟨(some 17), (.eff (.call 50 [(.tmp 15), (.tmp 16)])), (some (14, false))⟩,
.op ⟨(some 18), (.pure (.bnot (.tmp 17))), (some (14, false))⟩, o_p 19 (.pick (.tmp 14) (.const (.bool true)) (.tmp 18)), o_m 20 19,
.split 20,
.op ⟨(some 21), (.load (some 2) (.tmp 3)), (some (20, false))⟩,
.op ⟨(some 22), (.load (some 3) (.tmp 5)), (some (20, false))⟩,
.op ⟨(some 23), (.eff (.call 67 [(.tmp 21), (.tmp 22)])), (some (20, false))⟩,
.op ⟨(some 24), (.pure (.bnot (.tmp 23))), (some (20, false))⟩, o_p 25 (.pick (.tmp 20) (.const (.bool true)) (.tmp 24))])
(.cond (.tmp 25)
(.seq (.ops [ o_p 6 (.mv (.const (.slice none 0 0))), o_p 7 (.mv (.const (.bool false)))])
(.ret))
(.skip)))
(.seq (.ops [ o_p 8 (.mv (.const (.slice none 0 0)))])
(.seq (.seq (.ops [ o_m 26 1, o_p 27 (.len (.tmp 26)), o_p 28 (.mv (.const (.int .i64 (0))))])
(.block 0 (.loop (.seq (.ops [ o_p 29 (.bin .lss (.tmp 28) (.tmp 27))])
(.seq (.cond (.tmp 29)
(.skip)
(.exit 0))
(.seq (.block 1 (.seq (.ops [ o_p 30 (.idx 3 (.tmp 26) (.tmp 28)),
.op ⟨(some 31), (.load (some 3) (.tmp 30)), none⟩, o_e 10 (.new 57 [(.int .i64 (0)), (.int .i64 (0)), (.int .i64 (0))]),
.op ⟨none, (.eff (.store 3 (.tmp 10) (.tmp 31))), none⟩])
(.seq (.ops [ o_p 32 (.fieldAddr 0 (.tmp 10)), o_l 33 32, o_p 34 (.fieldAddr 0 (.tmp 5)), o_l 35 34, o_p 36 (.bin .eql (.tmp 33) (.tmp 35)), o_m 37 36,
.split 37,
.op ⟨(some 38), (.pure (.fieldAddr 1 (.tmp 10))), (some (37, true))⟩,
.op ⟨(some 39), (.load none (.tmp 38)), (some (37, true))⟩,
.op ⟨(some 40), (.pure (.fieldAddr 2 (.tmp 5))), (some (37, true))⟩,
.op ⟨(some 41), (.load none (.tmp 40)), (some (37, true))⟩,
.op ⟨(some 42), (.pure (.bin .leq (.tmp 39) (.tmp 41))), (some (37, true))⟩, o_p 43 (.pick (.tmp 37) (.tmp 42) (.const (.bool false))), o_m 44 43,
.split 44,
.op ⟨(some 45), (.pure (.fieldAddr 1 (.tmp 5))), (some (44, true))⟩,
.op ⟨(some 46), (.load none (.tmp 45)), (some (44, true))⟩,
.op ⟨(some 47), (.pure (.fieldAddr 2 (.tmp 10))), (some (44, true))⟩,
.op ⟨(some 48), (.load none (.tmp 47)), (some (44, true))⟩,
.op ⟨(some 49), (.pure (.bin .leq (.tmp 46) (.tmp 48))), (some (44, true))⟩, o_p 50 (.pick (.tmp 44) (.tmp 49) (.const (.bool false)))])
(.cond (.tmp 50)
(.draw true
(.take (t_p 51 (.fieldAddr 1 (.tmp 5)))
(.take (t_p 53 (.fieldAddr 1 (.tmp 10)))
(.take (t_p 56 (.fieldAddr 2 (.tmp 5)))
(.take (t_p 58 (.fieldAddr 2 (.tmp 10)))
(.only false (t_l 52 51)
(.only false (t_l 54 53)
(.take (t_p 55 (.min2 (.tmp 52) (.tmp 54)))
(.only false (t_l 57 56)
(.take (t_p 61 (.fieldAddr 1 (.tmp 5)))
(.take (t_l 59 58)
(.take (t_p 60 (.max2 (.tmp 57) (.tmp 59)))
(.only false ⟨none, (.eff (.store 1 (.tmp 61) (.tmp 55))), none⟩
(.take (t_p 62 (.fieldAddr 2 (.tmp 5)))
(.only true ⟨none, (.eff (.store 1 (.tmp 62) (.tmp 60))), none⟩
(.done))))))))))))))))
(.ops [ o_m 63 8,
.op ⟨(some 64), (.load (some 3) (.tmp 10)), none⟩, o_e 65 (.row 57 1 [(.int .i64 (0)), (.int .i64 (0)), (.int .i64 (0))] [(0, 3, (.tmp 64))]), o_e 66 (.app 57 3 24 (.tmp 63) (.tmp 65)), o_m 8 66])))))
(.ops [ o_p 67 (.bin .add (.tmp 28) (.const (.int .i64 (1)))), o_m 28 67])))))))
(.seq (.ops [ o_m 68 8,
.op ⟨(some 69), (.load (some 3) (.tmp 5)), none⟩, o_e 70 (.row 57 1 [(.int .i64 (0)), (.int .i64 (0)), (.int .i64 (0))] [(0, 3, (.tmp 69))]), o_e 71 (.app 57 3 24 (.tmp 68) (.tmp 70)), o_m 8 71])
(.seq (.ops [ o_m 72 8, o_e 73 (.call 68 [(.tmp 72), (.func 69)])])
(.seq (.seq (.ops [ o_m 74 8, o_p 75 (.len (.tmp 74)), o_p 76 (.bin .gtr (.tmp 75) (.const (.int .i64 (60))))])
(.cond (.tmp 76)
(.seq (.ops [ o_p 6 (.mv (.const (.slice none 0 0))), o_p 7 (.mv (.const (.bool false)))])
(.ret))
(.skip)))
(.seq (.ops [ o_m 77 8, o_m 6 77, o_p 7 (.mv (.const (.bool true)))])
(.ret)))))))),
[.tmp 6, .tmp 7]⟩
theorem r_impl_AddFog : resFun Try.prog f_impl_AddFog = some c_impl_AddFog := by kernel_rfl

/- loop.example/g00940/spec.AddFog -/
abbrev f_spec_AddFog : Nat := 36
def c_spec_AddFog : MFun := ⟨34, .seq (.ops [ o_e 3 (.box 27 (.tmp 0)), o_e 5 (.box 57 (.tmp 2)), o_p 6 (.mv (.const (.slice none 0 0))), o_p 7 (.mv (.const (.bool false)))])
(.seq (.seq (.draw true
(.only false ⟨(some 8), (.load (some 2) (.tmp 3)), none⟩
(.only false (t_e 9 (.call 52 [(.tmp 8)]))
(.take (t_p 10 (.bnot (.tmp 9)))
(.take (t_m 11 10)
(.split 11
(.take ⟨(some 13), (.pure (.mv (.tmp 1))), (some (11, false))⟩
(.only false ⟨(some 12), (.load (some 2) (.tmp 3)), (some (11, false))⟩
(.only false ⟨(some 14), (.eff (.call 53 [(.tmp 12), (.tmp 13)])), (some (11, false))⟩
(.take ⟨(some 15), (.pure (.bnot (.tmp 14))), (some (11, false))⟩
(.take (t_p 16 (.pick (.tmp 11) (.const (.bool true)) (.tmp 15)))
(.take (t_m 17 16)
(.split 17
(.take ⟨(some 18), (.load (some 2) (.tmp 3)), (some (17, false))⟩
(.only false ⟨(some 19), (.load (some 3) (.tmp 5)), (some (17, false))⟩
(.only false ⟨(some 20), (.eff (.call 70 [(.tmp 18), (.tmp 19)])), (some (17, false))⟩
(.take ⟨(some 21), (.pure (.bnot (.tmp 20))), (some (17, false))⟩
(.take (t_p 22 (.pick (.tmp 17) (.const (.bool true)) (.tmp 21)))
(.take (t_m 23 22)
(.split 23
(.take ⟨(some 25), (.pure (.mv (.tmp 1))), (some (23, false))⟩
(.take ⟨(some 24), (.load (some 2) (.tmp 3)), (some (23, false))⟩
(.only false ⟨(some 26), (.load (some 3) (.tmp 5)), (some (23, false))⟩
(.only false ⟨(some 27), (.eff (.call 71 [(.tmp 25), (.tmp 26)])), (some (23, false))⟩
(.only true ⟨(some 28), (.eff (.call 53 [(.tmp 24), (.tmp 27)])), (some (23, false))⟩
(.take ⟨(some 29), (.pure (.bnot (.tmp 28))), (some (23, false))⟩
(.take (t_p 30 (.pick (.tmp 23) (.const (.bool true)) (.tmp 29)))
(.done))))))))))))))))))))))))))))
(.cond (.tmp 30)
(.seq (.ops [ o_p 6 (.mv (.const (.slice none 0 0))), o_p 7 (.mv (.const (.bool false)))])
(.ret))
(.skip)))
(.seq (.ops [ o_m 31 1,
.op ⟨(some 32), (.load (some 3) (.tmp 5)), none⟩, o_e 33 (.call 71 [(.tmp 31), (.tmp 32)]), o_m 6 33, o_p 7 (.mv (.const (.bool true)))])
(.ret))),
[.tmp 6, .tmp 7]⟩
theorem r_spec_AddFog : resFun Try.prog f_spec_AddFog = some c_spec_AddFog := by kernel_rfl

/- loop.example/g00940/laws.pSameFogs -/
abbrev f_laws_pSameFogs : Nat := 37
def c_laws_pSameFogs : MFun := ⟨26, .seq (.ops [ o_p 4 (.mv (.const (.bool false)))])
(.seq (.seq (.ops [ o_m 6 0, o_p 7 (.len (.tmp 6)), o_m 8 1, o_p 9 (.len (.tmp 8)), o_p 10 (.bin .neq (.tmp 7) (.tmp 9))])
(.cond (.tmp 10)
(.seq (.ops [ o_p 4 (.mv (.const (.bool false)))])
(.ret))
(.skip)))
(.seq (.seq (.ops [ o_m 11 0, o_p 12 (.len (.tmp 11)), o_p 13 (.mv (.const (.int .i64 (0))))])
(.block 0 (.loop (.seq (.ops [ o_p 14 (.bin .lss (.tmp 13) (.tmp 12))])
(.seq (.cond (.tmp 14)
(.skip)
(.exit 0))
(.seq (.block 1 (.seq (.ops [ o_m 15 13, o_m 5 15])
(.seq (.ops [ o_m 16 0, o_m 17 5, o_p 18 (.idx 3 (.tmp 16) (.tmp 17)), o_m 20 1, o_m 21 5, o_p 22 (.idx 3 (.tmp 20) (.tmp 21)),
.op ⟨(some 19), (.load (some 3) (.tmp 18)), none⟩,
.op ⟨(some 23), (.load (some 3) (.tmp 22)), none⟩, o_p 24 (.eqs true [true, true, true] (.tmp 19) (.tmp 23))])
(.cond (.tmp 24)
(.seq (.ops [ o_p 4 (.mv (.const (.bool false)))])
(.ret))
(.skip)))))
(.ops [ o_p 25 (.bin .add (.tmp 13) (.const (.int .i64 (1)))), o_m 13 25])))))))
(.seq (.ops [ o_p 4 (.mv (.const (.bool true)))])
(.ret)))),
[.tmp 4]⟩
theorem r_laws_pSameFogs : resFun Try.prog f_laws_pSameFogs = some c_laws_pSameFogs := by kernel_rfl

/- (*loop.example/g00940/spec.l1Cur).foggy -/
abbrev f_spec_l1Cur_foggy : Nat := 38
def c_spec_l1Cur_foggy : MFun := ⟨15, .seq (.ops [ o_e 2 (.new 27 [(.slice none 0 0), (.slice none 0 0)]), o_p 3 (.mv (.const (.slice none 0 0)))])
(.seq (.ops [ o_m 5 0, o_e 6 (.call 72 [(.tmp 5)]), o_e 4 (.new 27 [(.slice none 0 0), (.slice none 0 0)]),
.op ⟨none, (.eff (.store 2 (.tmp 4) (.tmp 6))), none⟩])
(.seq (.seq (.ops [ o_m 7 0, o_e 8 (.call 73 [(.tmp 7), (.const (.int .i64 (20)))])])
(.cond (.tmp 8)
(.ops [ o_m 9 0, o_e 10 (.call 74 [(.tmp 9)]),
.op ⟨none, (.eff (.store 2 (.tmp 4) (.tmp 10))), none⟩])
(.skip)))
(.seq (.draw true
(.take (t_m 12 0)
(.only false ⟨(some 13), (.load (some 2) (.tmp 4)), none⟩
(.take ⟨(some 11), (.load (some 2) (.tmp 4)), none⟩
(.only false (t_e 14 (.call 75 [(.tmp 12), (.tmp 13)]))
(.only true ⟨none, (.eff (.store 2 (.tmp 2) (.tmp 11))), none⟩
(.take (t_m 3 14)
(.done))))))))
(.ret)))),
[.cell 2 (some 2), .tmp 3]⟩
theorem r_spec_l1Cur_foggy : resFun Try.prog f_spec_l1Cur_foggy = some c_spec_l1Cur_foggy := by kernel_rfl

/- (*loop.example/g00940/spec.l1Cur).link -/
abbrev f_spec_l1Cur_link : Nat := 39
def c_spec_l1Cur_link : MFun := ⟨18, .seq (.ops [ o_e 3 (.box 27 (.tmp 1)), o_p 4 (.mv (.const (.int .i64 (0))))])
(.seq (.draw true
(.take (t_m 5 0)
(.take (t_p 6 (.fieldAddr 1 (.tmp 3)))
(.take (t_m 9 0)
(.take (t_m 14 0)
(.take (t_l 7 6)
(.take (t_p 8 (.len (.tmp 7)))
(.only false (t_e 10 (.call 76 [(.tmp 9), (.const (.int .i64 (16)))]))
(.take (t_p 11 (.bin .quo (.tmp 10) (.const (.int .i64 (15)))))
(.take (t_p 12 (.bin .add (.tmp 8) (.tmp 11)))
(.only true (t_e 13 (.call 76 [(.tmp 5), (.tmp 12)]))
(.only true (t_e 15 (.call 76 [(.tmp 14), (.const (.int .i64 (24)))]))
(.take (t_p 16 (.bin .quo (.tmp 15) (.const (.int .i64 (23)))))
(.take (t_p 17 (.bin .sub (.tmp 13) (.tmp 16)))
(.take (t_m 4 17)
(.done))))))))))))))))
(.ret)),
[.tmp 4]⟩
theorem r_spec_l1Cur_link : resFun Try.prog f_spec_l1Cur_link = some c_spec_l1Cur_link := by kernel_rfl
end Go.Proofs.Ytloicopmcagikaa

