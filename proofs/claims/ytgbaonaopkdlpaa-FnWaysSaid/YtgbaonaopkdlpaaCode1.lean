/- The code of this seat's functions, resolved, written by a program of mine; each is held against the given program by the kernel. Condition: none. -/
import Derived.Test.YtgbaonaopkdlpaaProg
import Derived.Test.YtgbaonaopkdlpaaBase9
import Derived.KernelRfl
namespace Go.Proofs.Ytgbaonaopkdlpaa
open Go.Vc

/- loop.example/g00940/spec.WaitsAlong -/
abbrev f_spec_WaitsAlong : Nat := 7
def c_spec_WaitsAlong : MFun := ⟨24, .seq (.ops [ o_e 4 (.box 26 (.tmp 0)), o_p 8 (.mv (.const (.slice none 0 0))), o_p 9 (.mv (.const (.bool false)))])
(.seq (.ops [
.op ⟨(some 14), (.load (some 2) (.tmp 4)), none⟩, o_m 15 1, o_m 16 2, o_m 17 3, o_e 18 (.call 42 [(.tmp 14), (.tmp 15), (.tmp 16), (.tmp 17)]), o_m 13 18, o_p 19 (.ext 0 (.tmp 13)), o_p 20 (.ext 1 (.tmp 13)), o_p 21 (.ext 2 (.tmp 13)), o_m 10 19, o_m 11 20, o_m 12 21])
(.seq (.ops [ o_m 22 11, o_m 23 12, o_m 8 22, o_m 9 23])
(.ret))),
[.tmp 8, .tmp 9]⟩
theorem r_spec_WaitsAlong : resFun Try.prog f_spec_WaitsAlong = some c_spec_WaitsAlong := by kernel_rfl

/- loop.example/g00940/impl.ArrivalAlong -/
abbrev f_impl_ArrivalAlong : Nat := 8
def c_impl_ArrivalAlong : MFun := ⟨53, .seq (.ops [ o_e 4 (.box 26 (.tmp 0)), o_p 8 (.mv (.const (.int .i64 (0)))), o_p 9 (.mv (.const (.bool false)))])
(.seq (.ops [
.op ⟨(some 15), (.load (some 2) (.tmp 4)), none⟩, o_m 16 1, o_m 17 2, o_m 18 3, o_e 19 (.call 6 [(.tmp 15), (.tmp 16), (.tmp 17), (.tmp 18)]), o_m 14 19, o_p 20 (.ext 0 (.tmp 14)), o_p 21 (.ext 1 (.tmp 14)), o_m 10 20, o_m 11 21])
(.seq (.seq (.ops [ o_m 22 11, o_p 23 (.bnot (.tmp 22))])
(.cond (.tmp 23)
(.seq (.ops [ o_p 8 (.mv (.const (.int .i64 (0)))), o_p 9 (.mv (.const (.bool false)))])
(.ret))
(.skip)))
(.seq (.seq (.ops [ o_m 24 10, o_p 25 (.len (.tmp 24)), o_p 26 (.mv (.const (.int .i64 (0))))])
(.block 0 (.loop (.seq (.ops [ o_p 27 (.bin .lss (.tmp 26) (.tmp 25))])
(.seq (.cond (.tmp 27)
(.skip)
(.exit 0))
(.seq (.block 1 (.seq (.ops [ o_m 28 26, o_p 29 (.idx 1 (.tmp 24) (.tmp 26)), o_l 30 29, o_m 12 28, o_m 13 30])
(.draw true
(.take (t_m 31 3)
(.take (t_m 32 13)
(.take (t_p 33 (.fieldAddr 1 (.tmp 4)))
(.take (t_m 36 2)
(.take (t_m 37 12)
(.take (t_p 38 (.idx 1 (.tmp 36) (.tmp 37)))
(.take (t_m 40 2)
(.take (t_m 41 12)
(.take (t_p 42 (.bin .add (.tmp 41) (.const (.int .i64 (1)))))
(.take (t_p 43 (.idx 1 (.tmp 40) (.tmp 42)))
(.only false ⟨(some 35), (.load (some 2) (.tmp 4)), none⟩
(.only false (t_l 39 38)
(.only false (t_l 44 43)
(.take (t_l 34 33)
(.only false (t_e 45 (.call 40 [(.tmp 35), (.tmp 39), (.tmp 44)]))
(.take (t_p 46 (.idx 3 (.tmp 34) (.tmp 45)))
(.take (t_p 47 (.fieldAddr 2 (.tmp 46)))
(.only false (t_l 48 47)
(.take (t_p 49 (.bin .add (.tmp 32) (.tmp 48)))
(.take (t_p 50 (.bin .add (.tmp 31) (.tmp 49)))
(.take (t_m 3 50)
(.done)))))))))))))))))))))))))
(.ops [ o_p 51 (.bin .add (.tmp 26) (.const (.int .i64 (1)))), o_m 26 51])))))))
(.seq (.ops [ o_m 52 3, o_m 8 52, o_p 9 (.mv (.const (.bool true)))])
(.ret))))),
[.tmp 8, .tmp 9]⟩
theorem r_impl_ArrivalAlong : resFun Try.prog f_impl_ArrivalAlong = some c_impl_ArrivalAlong := by kernel_rfl

/- loop.example/g00940/spec.ArrivalAlong -/
abbrev f_spec_ArrivalAlong : Nat := 9
def c_spec_ArrivalAlong : MFun := ⟨24, .seq (.ops [ o_e 4 (.box 26 (.tmp 0)), o_p 8 (.mv (.const (.int .i64 (0)))), o_p 9 (.mv (.const (.bool false)))])
(.seq (.ops [
.op ⟨(some 14), (.load (some 2) (.tmp 4)), none⟩, o_m 15 1, o_m 16 2, o_m 17 3, o_e 18 (.call 42 [(.tmp 14), (.tmp 15), (.tmp 16), (.tmp 17)]), o_m 13 18, o_p 19 (.ext 0 (.tmp 13)), o_p 20 (.ext 1 (.tmp 13)), o_p 21 (.ext 2 (.tmp 13)), o_m 10 19, o_m 11 20, o_m 12 21])
(.seq (.ops [ o_m 22 10, o_m 23 12, o_m 8 22, o_m 9 23])
(.ret))),
[.tmp 8, .tmp 9]⟩
theorem r_spec_ArrivalAlong : resFun Try.prog f_spec_ArrivalAlong = some c_spec_ArrivalAlong := by kernel_rfl

/- loop.example/g00940/spec.DrawLinksThatMatter -/
abbrev f_spec_DrawLinksThatMatter : Nat := 10
def c_spec_DrawLinksThatMatter : MFun := ⟨10, .seq (.ops [ o_e 2 (.new 26 [(.slice none 0 0), (.slice none 0 0)]), o_p 3 (.mv (.const (.int .i64 (0)))), o_p 4 (.mv (.const (.int .i64 (0))))])
(.seq (.ops [ o_m 5 0, o_e 6 (.call 43 [(.tmp 5)]), o_p 7 (.ext 0 (.tmp 6)), o_p 8 (.ext 1 (.tmp 6)), o_p 9 (.ext 2 (.tmp 6)),
.op ⟨none, (.eff (.store 2 (.tmp 2) (.tmp 7))), none⟩, o_m 3 8, o_m 4 9])
(.ret)),
[.cell 2 (some 2), .tmp 3, .tmp 4]⟩
theorem r_spec_DrawLinksThatMatter : resFun Try.prog f_spec_DrawLinksThatMatter = some c_spec_DrawLinksThatMatter := by kernel_rfl

/- loop.example/g00940/impl.LinksThatMatter -/
abbrev f_impl_LinksThatMatter : Nat := 11
def c_impl_LinksThatMatter : MFun := ⟨51, .seq (.ops [ o_e 3 (.box 26 (.tmp 0)), o_p 6 (.mv (.const (.slice none 0 0))), o_p 7 (.mv (.const (.bool false)))])
(.seq (.ops [
.op ⟨(some 15), (.load (some 2) (.tmp 3)), none⟩, o_m 16 1, o_m 17 2, o_e 18 (.call 13 [(.tmp 15), (.tmp 16), (.tmp 17)]), o_m 14 18, o_p 19 (.ext 0 (.tmp 14)), o_p 20 (.ext 1 (.tmp 14)), o_m 8 19, o_m 9 20])
(.seq (.seq (.ops [ o_m 21 9, o_p 22 (.bnot (.tmp 21))])
(.cond (.tmp 22)
(.seq (.ops [ o_p 6 (.mv (.const (.slice none 0 0))), o_p 7 (.mv (.const (.bool false)))])
(.ret))
(.skip)))
(.seq (.ops [ o_p 10 (.mv (.const (.slice none 0 0)))])
(.seq (.seq (.ops [ o_p 23 (.fieldAddr 1 (.tmp 3)), o_l 24 23, o_p 25 (.len (.tmp 24)), o_p 26 (.mv (.const (.int .i64 (0))))])
(.block 0 (.loop (.seq (.ops [ o_p 27 (.bin .lss (.tmp 26) (.tmp 25))])
(.seq (.cond (.tmp 27)
(.skip)
(.exit 0))
(.seq (.block 1 (.seq (.ops [ o_m 28 26, o_m 11 28])
(.seq (.ops [
.op ⟨(some 30), (.load (some 2) (.tmp 3)), none⟩, o_m 31 11, o_e 32 (.call 45 [(.tmp 30), (.tmp 31)]), o_m 33 1, o_m 34 2, o_e 35 (.call 44 [(.tmp 32), (.tmp 33), (.tmp 34)]), o_m 29 35, o_p 36 (.ext 0 (.tmp 29)), o_p 37 (.ext 1 (.tmp 29)), o_m 12 36, o_m 13 37])
(.seq (.ops [ o_m 38 13, o_p 39 (.bnot (.tmp 38)), o_m 40 39,
.split 40,
.op ⟨(some 41), (.pure (.mv (.tmp 12))), (some (40, false))⟩,
.op ⟨(some 42), (.pure (.mv (.tmp 8))), (some (40, false))⟩,
.op ⟨(some 43), (.pure (.bin .gtr (.tmp 41) (.tmp 42))), (some (40, false))⟩, o_p 44 (.pick (.tmp 40) (.const (.bool true)) (.tmp 43))])
(.cond (.tmp 44)
(.ops [ o_m 45 10, o_m 46 11, o_e 47 (.row 3 1 [(.int .i64 (0))] [(0, 1, (.tmp 46))]), o_e 48 (.app 3 1 8 (.tmp 45) (.tmp 47)), o_m 10 48])
(.skip))))))
(.ops [ o_p 49 (.bin .add (.tmp 26) (.const (.int .i64 (1)))), o_m 26 49])))))))
(.seq (.ops [ o_m 50 10, o_m 6 50, o_p 7 (.mv (.const (.bool true)))])
(.ret)))))),
[.tmp 6, .tmp 7]⟩
theorem r_impl_LinksThatMatter : resFun Try.prog f_impl_LinksThatMatter = some c_impl_LinksThatMatter := by kernel_rfl

/- loop.example/g00940/spec.LinksThatMatter -/
abbrev f_spec_LinksThatMatter : Nat := 12
def c_spec_LinksThatMatter : MFun := ⟨51, .seq (.ops [ o_e 3 (.box 26 (.tmp 0)), o_p 6 (.mv (.const (.slice none 0 0))), o_p 7 (.mv (.const (.bool false)))])
(.seq (.ops [
.op ⟨(some 15), (.load (some 2) (.tmp 3)), none⟩, o_m 16 1, o_m 17 2, o_e 18 (.call 14 [(.tmp 15), (.tmp 16), (.tmp 17)]), o_m 14 18, o_p 19 (.ext 0 (.tmp 14)), o_p 20 (.ext 1 (.tmp 14)), o_m 8 19, o_m 9 20])
(.seq (.seq (.ops [ o_m 21 9, o_p 22 (.bnot (.tmp 21))])
(.cond (.tmp 22)
(.seq (.ops [ o_p 6 (.mv (.const (.slice none 0 0))), o_p 7 (.mv (.const (.bool false)))])
(.ret))
(.skip)))
(.seq (.ops [ o_p 10 (.mv (.const (.slice none 0 0)))])
(.seq (.seq (.ops [ o_p 23 (.fieldAddr 1 (.tmp 3)), o_l 24 23, o_p 25 (.len (.tmp 24)), o_p 26 (.mv (.const (.int .i64 (0))))])
(.block 0 (.loop (.seq (.ops [ o_p 27 (.bin .lss (.tmp 26) (.tmp 25))])
(.seq (.cond (.tmp 27)
(.skip)
(.exit 0))
(.seq (.block 1 (.seq (.ops [ o_m 28 26, o_m 11 28])
(.seq (.ops [
.op ⟨(some 30), (.load (some 2) (.tmp 3)), none⟩, o_m 31 11, o_e 32 (.call 46 [(.tmp 30), (.tmp 31)]), o_m 33 1, o_m 34 2, o_e 35 (.call 14 [(.tmp 32), (.tmp 33), (.tmp 34)]), o_m 29 35, o_p 36 (.ext 0 (.tmp 29)), o_p 37 (.ext 1 (.tmp 29)), o_m 12 36, o_m 13 37])
(.seq (.ops [ o_m 38 13, o_p 39 (.bnot (.tmp 38)), o_m 40 39,
.split 40,
.op ⟨(some 41), (.pure (.mv (.tmp 12))), (some (40, false))⟩,
.op ⟨(some 42), (.pure (.mv (.tmp 8))), (some (40, false))⟩,
.op ⟨(some 43), (.pure (.bin .gtr (.tmp 41) (.tmp 42))), (some (40, false))⟩, o_p 44 (.pick (.tmp 40) (.const (.bool true)) (.tmp 43))])
(.cond (.tmp 44)
(.ops [ o_m 45 10, o_m 46 11, o_e 47 (.row 3 1 [(.int .i64 (0))] [(0, 1, (.tmp 46))]), o_e 48 (.app 3 1 8 (.tmp 45) (.tmp 47)), o_m 10 48])
(.skip))))))
(.ops [ o_p 49 (.bin .add (.tmp 26) (.const (.int .i64 (1)))), o_m 26 49])))))))
(.seq (.ops [ o_m 50 10, o_m 6 50, o_p 7 (.mv (.const (.bool true)))])
(.ret)))))),
[.tmp 6, .tmp 7]⟩
theorem r_spec_LinksThatMatter : resFun Try.prog f_spec_LinksThatMatter = some c_spec_LinksThatMatter := by kernel_rfl

/- loop.example/g00940/impl.PlainDelay -/
abbrev f_impl_PlainDelay : Nat := 13
def c_impl_PlainDelay : MFun := ⟨24, .seq (.ops [ o_e 3 (.box 26 (.tmp 0)), o_p 6 (.mv (.const (.int .i64 (0)))), o_p 7 (.mv (.const (.bool false)))])
(.seq (.seq (.ops [
.op ⟨(some 8), (.load (some 2) (.tmp 3)), none⟩, o_m 9 1, o_e 10 (.call 47 [(.tmp 8), (.tmp 9)]), o_p 11 (.bnot (.tmp 10)), o_m 12 11,
.split 12,
.op ⟨(some 13), (.load (some 2) (.tmp 3)), (some (12, false))⟩,
.op ⟨(some 14), (.pure (.mv (.tmp 2))), (some (12, false))⟩,
.op ⟨(some 15), (.eff (.call 47 [(.tmp 13), (.tmp 14)])), (some (12, false))⟩,
.op ⟨(some 16), (.pure (.bnot (.tmp 15))), (some (12, false))⟩, o_p 17 (.pick (.tmp 12) (.const (.bool true)) (.tmp 16))])
(.cond (.tmp 17)
(.seq (.ops [ o_p 6 (.mv (.const (.int .i64 (0)))), o_p 7 (.mv (.const (.bool false)))])
(.ret))
(.skip)))
(.seq (.ops [
.op ⟨(some 18), (.load (some 2) (.tmp 3)), none⟩, o_m 19 1, o_m 20 2, o_e 21 (.call 44 [(.tmp 18), (.tmp 19), (.tmp 20)]), o_p 22 (.ext 0 (.tmp 21)), o_p 23 (.ext 1 (.tmp 21)), o_m 6 22, o_m 7 23])
(.ret))),
[.tmp 6, .tmp 7]⟩
theorem r_impl_PlainDelay : resFun Try.prog f_impl_PlainDelay = some c_impl_PlainDelay := by kernel_rfl

/- loop.example/g00940/spec.PlainDelay -/
abbrev f_spec_PlainDelay : Nat := 14
def c_spec_PlainDelay : MFun := ⟨14, .seq (.ops [ o_e 3 (.box 26 (.tmp 0)), o_p 6 (.mv (.const (.int .i64 (0)))), o_p 7 (.mv (.const (.bool false)))])
(.seq (.ops [
.op ⟨(some 8), (.load (some 2) (.tmp 3)), none⟩, o_m 9 1, o_m 10 2, o_e 11 (.call 25 [(.tmp 8), (.const (.slice none 0 0)), (.tmp 9), (.tmp 10), (.const (.int .i64 (0)))]), o_p 12 (.ext 0 (.tmp 11)), o_p 13 (.ext 1 (.tmp 11)), o_m 6 12, o_m 7 13])
(.ret)),
[.tmp 6, .tmp 7]⟩
theorem r_spec_PlainDelay : resFun Try.prog f_spec_PlainDelay = some c_spec_PlainDelay := by kernel_rfl

/- loop.example/g00940/spec.DrawDelayWithout -/
abbrev f_spec_DrawDelayWithout : Nat := 15
def c_spec_DrawDelayWithout : MFun := ⟨23, .seq (.ops [ o_e 2 (.new 26 [(.slice none 0 0), (.slice none 0 0)]), o_p 3 (.mv (.const (.int .i64 (0)))), o_p 4 (.mv (.const (.int .i64 (0)))), o_p 5 (.mv (.const (.int .i64 (0))))])
(.seq (.ops [ o_m 8 0, o_p 9 (.build [(.slice none 0 0), (.int .i64 (0)), (.int .u64 (0))] [(0, 1, (.tmp 8))]), o_e 10 (.box 68 (.tmp 9)), o_m 6 10])
(.seq (.ops [ o_m 11 6, o_e 12 (.call 48 [(.tmp 11)]), o_e 7 (.new 26 [(.slice none 0 0), (.slice none 0 0)]),
.op ⟨none, (.eff (.store 2 (.tmp 7) (.tmp 12))), none⟩])
(.seq (.draw true
(.take (t_m 14 6)
(.take (t_m 17 6)
(.take (t_m 20 6)
(.only false ⟨(some 15), (.load (some 2) (.tmp 7)), none⟩
(.take ⟨(some 13), (.load (some 2) (.tmp 7)), none⟩
(.take ⟨(some 18), (.load (some 2) (.tmp 7)), none⟩
(.take ⟨(some 21), (.load (some 2) (.tmp 7)), none⟩
(.only false (t_e 16 (.call 49 [(.tmp 14), (.tmp 15)]))
(.only false (t_e 19 (.call 50 [(.tmp 17), (.tmp 18)]))
(.only false (t_e 22 (.call 50 [(.tmp 20), (.tmp 21)]))
(.only true ⟨none, (.eff (.store 2 (.tmp 2) (.tmp 13))), none⟩
(.take (t_m 3 16)
(.take (t_m 4 19)
(.take (t_m 5 22)
(.done))))))))))))))))
(.ret)))),
[.cell 2 (some 2), .tmp 3, .tmp 4, .tmp 5]⟩
theorem r_spec_DrawDelayWithout : resFun Try.prog f_spec_DrawDelayWithout = some c_spec_DrawDelayWithout := by kernel_rfl

/- loop.example/g00940/impl.DelayWithout -/
abbrev f_impl_DelayWithout : Nat := 16
def c_impl_DelayWithout : MFun := ⟨34, .seq (.ops [ o_e 4 (.box 26 (.tmp 0)), o_p 8 (.mv (.const (.int .i64 (0)))), o_p 9 (.mv (.const (.bool false)))])
(.seq (.seq (.ops [
.op ⟨(some 10), (.load (some 2) (.tmp 4)), none⟩, o_m 11 1, o_e 12 (.call 51 [(.tmp 10), (.tmp 11)]), o_p 13 (.bnot (.tmp 12)), o_m 14 13,
.split 14,
.op ⟨(some 15), (.load (some 2) (.tmp 4)), (some (14, false))⟩,
.op ⟨(some 16), (.pure (.mv (.tmp 2))), (some (14, false))⟩,
.op ⟨(some 17), (.eff (.call 47 [(.tmp 15), (.tmp 16)])), (some (14, false))⟩,
.op ⟨(some 18), (.pure (.bnot (.tmp 17))), (some (14, false))⟩, o_p 19 (.pick (.tmp 14) (.const (.bool true)) (.tmp 18)), o_m 20 19,
.split 20,
.op ⟨(some 21), (.load (some 2) (.tmp 4)), (some (20, false))⟩,
.op ⟨(some 22), (.pure (.mv (.tmp 3))), (some (20, false))⟩,
.op ⟨(some 23), (.eff (.call 47 [(.tmp 21), (.tmp 22)])), (some (20, false))⟩,
.op ⟨(some 24), (.pure (.bnot (.tmp 23))), (some (20, false))⟩, o_p 25 (.pick (.tmp 20) (.const (.bool true)) (.tmp 24))])
(.cond (.tmp 25)
(.seq (.ops [ o_p 8 (.mv (.const (.int .i64 (0)))), o_p 9 (.mv (.const (.bool false)))])
(.ret))
(.skip)))
(.seq (.ops [
.op ⟨(some 26), (.load (some 2) (.tmp 4)), none⟩, o_m 27 1, o_e 28 (.call 45 [(.tmp 26), (.tmp 27)]), o_m 29 2, o_m 30 3, o_e 31 (.call 44 [(.tmp 28), (.tmp 29), (.tmp 30)]), o_p 32 (.ext 0 (.tmp 31)), o_p 33 (.ext 1 (.tmp 31)), o_m 8 32, o_m 9 33])
(.ret))),
[.tmp 8, .tmp 9]⟩
theorem r_impl_DelayWithout : resFun Try.prog f_impl_DelayWithout = some c_impl_DelayWithout := by kernel_rfl

/- loop.example/g00940/spec.DelayWithout -/
abbrev f_spec_DelayWithout : Nat := 17
def c_spec_DelayWithout : MFun := ⟨30, .seq (.ops [ o_e 4 (.box 26 (.tmp 0)), o_p 8 (.mv (.const (.int .i64 (0)))), o_p 9 (.mv (.const (.bool false)))])
(.seq (.seq (.ops [
.op ⟨(some 10), (.load (some 2) (.tmp 4)), none⟩, o_e 11 (.call 52 [(.tmp 10)]), o_p 12 (.bnot (.tmp 11)), o_m 13 12,
.split 13,
.op ⟨(some 14), (.pure (.mv (.tmp 1))), (some (13, false))⟩,
.op ⟨(some 15), (.pure (.fieldAddr 1 (.tmp 4))), (some (13, false))⟩,
.op ⟨(some 16), (.load none (.tmp 15)), (some (13, false))⟩,
.op ⟨(some 17), (.pure (.len (.tmp 16))), (some (13, false))⟩,
.op ⟨(some 18), (.pure (.bin .sub (.tmp 17) (.const (.int .i64 (1))))), (some (13, false))⟩,
.op ⟨(some 19), (.eff (.call 53 [(.tmp 14), (.const (.int .i64 (0))), (.tmp 18)])), (some (13, false))⟩,
.op ⟨(some 20), (.pure (.bnot (.tmp 19))), (some (13, false))⟩, o_p 21 (.pick (.tmp 13) (.const (.bool true)) (.tmp 20))])
(.cond (.tmp 21)
(.seq (.ops [ o_p 8 (.mv (.const (.int .i64 (0)))), o_p 9 (.mv (.const (.bool false)))])
(.ret))
(.skip)))
(.seq (.ops [
.op ⟨(some 22), (.load (some 2) (.tmp 4)), none⟩, o_m 23 1, o_e 24 (.call 46 [(.tmp 22), (.tmp 23)]), o_m 25 2, o_m 26 3, o_e 27 (.call 14 [(.tmp 24), (.tmp 25), (.tmp 26)]), o_p 28 (.ext 0 (.tmp 27)), o_p 29 (.ext 1 (.tmp 27)), o_m 8 28, o_m 9 29])
(.ret))),
[.tmp 8, .tmp 9]⟩
theorem r_spec_DelayWithout : resFun Try.prog f_spec_DelayWithout = some c_spec_DelayWithout := by kernel_rfl

/- loop.example/g00940/laws.qInts -/
abbrev f_laws_qInts : Nat := 18
def c_laws_qInts : MFun := ⟨26, .seq (.ops [ o_p 4 (.mv (.const (.bool false)))])
(.seq (.seq (.ops [ o_m 6 0, o_p 7 (.len (.tmp 6)), o_m 8 1, o_p 9 (.len (.tmp 8)), o_p 10 (.bin .neq (.tmp 7) (.tmp 9))])
(.cond (.tmp 10)
(.seq (.ops [ o_p 4 (.mv (.const (.bool false)))])
(.ret))
(.skip)))
(.seq (.seq (.ops [ o_m 11 0, o_p 12 (.len (.tmp 11)), o_p 13 (.mv (.const (.int .i64 (0))))])
(.block 0 (.loop (.seq (.ops [ o_p 14 (.bin .lss (.tmp 13) (.tmp 12))])
(.seq (.cond (.tmp 14)
(.skip)
(.exit 0))
(.seq (.block 1 (.seq (.ops [ o_m 15 13, o_m 5 15])
(.seq (.ops [ o_m 16 0, o_m 17 5, o_p 18 (.idx 1 (.tmp 16) (.tmp 17)), o_m 20 1, o_m 21 5, o_p 22 (.idx 1 (.tmp 20) (.tmp 21)), o_l 19 18, o_l 23 22, o_p 24 (.bin .neq (.tmp 19) (.tmp 23))])
(.cond (.tmp 24)
(.seq (.ops [ o_p 4 (.mv (.const (.bool false)))])
(.ret))
(.skip)))))
(.ops [ o_p 25 (.bin .add (.tmp 13) (.const (.int .i64 (1)))), o_m 13 25])))))))
(.seq (.ops [ o_p 4 (.mv (.const (.bool true)))])
(.ret)))),
[.tmp 4]⟩
theorem r_laws_qInts : resFun Try.prog f_laws_qInts = some c_laws_qInts := by kernel_rfl

/- loop.example/g00940/laws.qHas -/
abbrev f_laws_qHas : Nat := 19
def c_laws_qHas : MFun := ⟨17, .seq (.ops [ o_p 4 (.mv (.const (.bool false)))])
(.seq (.seq (.ops [ o_m 7 0, o_p 8 (.len (.tmp 7)), o_p 9 (.mv (.const (.int .i64 (0))))])
(.block 0 (.loop (.seq (.ops [ o_p 10 (.bin .lss (.tmp 9) (.tmp 8))])
(.seq (.cond (.tmp 10)
(.skip)
(.exit 0))
(.seq (.block 1 (.seq (.ops [ o_p 11 (.idx 1 (.tmp 7) (.tmp 9)), o_l 12 11, o_m 6 12])
(.seq (.ops [ o_m 13 6, o_m 14 1, o_p 15 (.bin .eql (.tmp 13) (.tmp 14))])
(.cond (.tmp 15)
(.seq (.ops [ o_p 4 (.mv (.const (.bool true)))])
(.ret))
(.skip)))))
(.ops [ o_p 16 (.bin .add (.tmp 9) (.const (.int .i64 (1)))), o_m 9 16])))))))
(.seq (.ops [ o_p 4 (.mv (.const (.bool false)))])
(.ret))),
[.tmp 4]⟩
theorem r_laws_qHas : resFun Try.prog f_laws_qHas = some c_laws_qHas := by kernel_rfl

/- loop.example/g00940/spec.LinkBetween -/
abbrev f_spec_LinkBetween : Nat := 20
def c_spec_LinkBetween : MFun := ⟨29, .seq (.ops [ o_e 3 (.box 26 (.tmp 0)), o_p 6 (.mv (.const (.int .i64 (0)))), o_p 7 (.mv (.const (.bool false)))])
(.seq (.seq (.ops [
.op ⟨(some 8), (.load (some 2) (.tmp 3)), none⟩, o_m 9 1, o_e 10 (.call 54 [(.tmp 8), (.tmp 9)]), o_p 11 (.bnot (.tmp 10)), o_m 12 11,
.split 12,
.op ⟨(some 13), (.load (some 2) (.tmp 3)), (some (12, false))⟩,
.op ⟨(some 14), (.pure (.mv (.tmp 2))), (some (12, false))⟩,
.op ⟨(some 15), (.eff (.call 54 [(.tmp 13), (.tmp 14)])), (some (12, false))⟩,
.op ⟨(some 16), (.pure (.bnot (.tmp 15))), (some (12, false))⟩, o_p 17 (.pick (.tmp 12) (.const (.bool true)) (.tmp 16)), o_m 18 17,
.split 18,
.op ⟨(some 19), (.load (some 2) (.tmp 3)), (some (18, false))⟩,
.op ⟨(some 20), (.pure (.mv (.tmp 1))), (some (18, false))⟩,
.op ⟨(some 21), (.pure (.mv (.tmp 2))), (some (18, false))⟩,
.op ⟨(some 22), (.eff (.call 55 [(.tmp 19), (.tmp 20), (.tmp 21)])), (some (18, false))⟩,
.op ⟨(some 23), (.pure (.bin .lss (.tmp 22) (.const (.int .i64 (0))))), (some (18, false))⟩, o_p 24 (.pick (.tmp 18) (.const (.bool true)) (.tmp 23))])
(.cond (.tmp 24)
(.seq (.ops [ o_p 6 (.mv (.const (.int .i64 (0)))), o_p 7 (.mv (.const (.bool false)))])
(.ret))
(.skip)))
(.seq (.ops [
.op ⟨(some 25), (.load (some 2) (.tmp 3)), none⟩, o_m 26 1, o_m 27 2, o_e 28 (.call 55 [(.tmp 25), (.tmp 26), (.tmp 27)]), o_m 6 28, o_p 7 (.mv (.const (.bool true)))])
(.ret))),
[.tmp 6, .tmp 7]⟩
theorem r_spec_LinkBetween : resFun Try.prog f_spec_LinkBetween = some c_spec_LinkBetween := by kernel_rfl

/- loop.example/g00940/impl.FirstArrival -/
abbrev f_impl_FirstArrival : Nat := 21
def c_impl_FirstArrival : MFun := ⟨31, .seq (.ops [ o_e 5 (.box 26 (.tmp 0)), o_p 10 (.mv (.const (.int .i64 (0)))), o_p 11 (.mv (.const (.bool false)))])
(.seq (.seq (.ops [
.op ⟨(some 13), (.load (some 2) (.tmp 5)), none⟩, o_m 14 1, o_m 15 2, o_m 16 3, o_m 17 4, o_e 18 (.call 56 [(.tmp 13), (.tmp 14), (.tmp 15), (.tmp 16), (.tmp 17)]), o_p 19 (.bnot (.tmp 18))])
(.cond (.tmp 19)
(.seq (.ops [ o_p 10 (.mv (.const (.int .i64 (0)))), o_p 11 (.mv (.const (.bool false)))])
(.ret))
(.skip)))
(.seq (.ops [
.op ⟨(some 20), (.load (some 2) (.tmp 5)), none⟩, o_m 21 1, o_m 22 2, o_m 23 4, o_e 24 (.call 57 [(.tmp 20), (.tmp 21), (.tmp 22), (.tmp 23)]), o_m 25 3, o_p 26 (.idx 1 (.tmp 24) (.tmp 25)), o_l 27 26, o_m 12 27])
(.seq (.seq (.ops [ o_m 28 12, o_p 29 (.bin .lss (.tmp 28) (.const (.int .i64 (0))))])
(.cond (.tmp 29)
(.seq (.ops [ o_p 10 (.mv (.const (.int .i64 (0)))), o_p 11 (.mv (.const (.bool false)))])
(.ret))
(.skip)))
(.seq (.ops [ o_m 30 12, o_m 10 30, o_p 11 (.mv (.const (.bool true)))])
(.ret))))),
[.tmp 10, .tmp 11]⟩
theorem r_impl_FirstArrival : resFun Try.prog f_impl_FirstArrival = some c_impl_FirstArrival := by kernel_rfl

/- loop.example/g00940/spec.DrawWayThrough -/
/- loop.example/g00940/impl.WayThrough -/
/- loop.example/g00940/spec.WayThrough -/
/- loop.example/g00940/spec.FirstArrival -/
abbrev f_spec_FirstArrival : Nat := 25
def c_spec_FirstArrival : MFun := ⟨32, .seq (.ops [ o_e 5 (.box 26 (.tmp 0)), o_p 10 (.mv (.const (.int .i64 (0)))), o_p 11 (.mv (.const (.bool false)))])
(.seq (.seq (.ops [
.op ⟨(some 13), (.load (some 2) (.tmp 5)), none⟩, o_m 14 1, o_m 15 2, o_m 16 3, o_m 17 4, o_e 18 (.call 60 [(.tmp 13), (.tmp 14), (.tmp 15), (.tmp 16), (.tmp 17)]), o_p 19 (.bnot (.tmp 18))])
(.cond (.tmp 19)
(.seq (.ops [ o_p 10 (.mv (.const (.int .i64 (0)))), o_p 11 (.mv (.const (.bool false)))])
(.ret))
(.skip)))
(.seq (.ops [
.op ⟨(some 20), (.load (some 2) (.tmp 5)), none⟩, o_m 21 1, o_m 22 2, o_m 23 4, o_e 24 (.call 61 [(.tmp 20), (.tmp 21), (.tmp 22), (.tmp 23)]), o_m 25 3, o_p 26 (.idx 1 (.tmp 24) (.tmp 25)), o_l 27 26, o_m 12 27])
(.seq (.ops [ o_m 28 12, o_e 29 (.call 63 [(.tmp 28), (.const (.int .i64 (0)))]), o_m 30 12, o_p 31 (.bin .geq (.tmp 30) (.const (.int .i64 (0)))), o_m 10 29, o_m 11 31])
(.ret)))),
[.tmp 10, .tmp 11]⟩
theorem r_spec_FirstArrival : resFun Try.prog f_spec_FirstArrival = some c_spec_FirstArrival := by kernel_rfl

/- loop.example/g00940/impl.FogDelay -/
/- loop.example/g00940/spec.FogDelay -/
/- loop.example/g00940/spec.DrawLatestStart -/
/- loop.example/g00940/impl.LatestStart -/
/- loop.example/g00940/spec.LatestStart -/
/- loop.example/g00940/spec.DrawArrivalsFrom -/
/- loop.example/g00940/impl.ArrivalsFrom -/
/- loop.example/g00940/spec.ArrivalsFrom -/
/- loop.example/g00940/laws.qSum -/
/- loop.example/g00940/spec.DrawArrivalAlong -/
abbrev f_spec_DrawArrivalAlong : Nat := 35
def c_spec_DrawArrivalAlong : MFun := ⟨110, .seq (.ops [ o_e 2 (.new 26 [(.slice none 0 0), (.slice none 0 0)]), o_p 3 (.mv (.const (.slice none 0 0))), o_p 4 (.mv (.const (.slice none 0 0))), o_p 5 (.mv (.const (.int .i64 (0))))])
(.seq (.ops [ o_m 16 0, o_p 17 (.build [(.slice none 0 0), (.int .i64 (0)), (.int .u64 (0))] [(0, 1, (.tmp 16))]), o_e 18 (.box 68 (.tmp 17)), o_m 6 18])
(.seq (.ops [ o_m 20 6, o_e 21 (.call 66 [(.tmp 20)]), o_m 19 21, o_p 22 (.ext 0 (.tmp 19)), o_p 23 (.ext 1 (.tmp 19)), o_e 7 (.new 26 [(.slice none 0 0), (.slice none 0 0)]),
.op ⟨none, (.eff (.store 2 (.tmp 7) (.tmp 22))), none⟩, o_m 8 23])
(.seq (.ops [ o_m 24 6, o_e 25 (.call 67 [(.tmp 24)]), o_m 9 25])
(.seq (.seq (.ops [
.op ⟨(some 26), (.load (some 2) (.tmp 7)), none⟩, o_m 27 8, o_e 28 (.call 68 [(.tmp 26), (.tmp 27), (.const (.int .i64 (0)))]), o_p 29 (.bnot (.tmp 28))])
(.cond (.tmp 29)
(.seq (.ops [
.op ⟨(some 30), (.load (some 2) (.tmp 7)), none⟩, o_m 31 8, o_e 32 (.row 3 1 [(.int .i64 (0))] [(0, 1, (.const (.int .i64 (0))))]), o_m 33 9,
.op ⟨none, (.eff (.store 2 (.tmp 2) (.tmp 30))), none⟩, o_m 3 31, o_m 4 32, o_m 5 33])
(.ret))
(.skip)))
(.seq (.ops [ o_m 34 6, o_p 35 (.fieldAddr 0 (.tmp 7)), o_l 36 35, o_p 37 (.len (.tmp 36)), o_e 38 (.call 65 [(.tmp 34), (.tmp 37)]), o_e 39 (.row 3 1 [(.int .i64 (0))] [(0, 1, (.tmp 38))]), o_m 10 39])
(.seq (.seq (.ops [ o_m 40 6, o_e 41 (.call 65 [(.tmp 40), (.const (.int .i64 (5)))]), o_m 11 41])
(.block 0 (.loop (.seq (.seq (.ops [ o_m 42 11, o_p 43 (.bin .gtr (.tmp 42) (.const (.int .i64 (0))))])
(.cond (.tmp 43)
(.skip)
(.exit 0)))
(.seq (.block 1 (.seq (.ops [ o_p 12 (.mv (.const (.slice none 0 0)))])
(.seq (.seq (.ops [ o_p 46 (.fieldAddr 1 (.tmp 7)), o_l 47 46, o_p 48 (.len (.tmp 47)), o_p 49 (.mv (.const (.int .i64 (0))))])
(.block 2 (.loop (.seq (.ops [ o_p 50 (.bin .lss (.tmp 49) (.tmp 48))])
(.seq (.cond (.tmp 50)
(.skip)
(.exit 2))
(.seq (.block 3 (.seq (.ops [ o_p 51 (.idx 3 (.tmp 47) (.tmp 49)),
.op ⟨(some 52), (.load (some 3) (.tmp 51)), none⟩, o_e 14 (.new 45 [(.int .i64 (0)), (.int .i64 (0)), (.int .i64 (0))]),
.op ⟨none, (.eff (.store 3 (.tmp 14) (.tmp 52))), none⟩])
(.seq (.draw false
(.take (t_m 54 10)
(.take (t_m 55 10)
(.take (t_p 56 (.len (.tmp 55)))
(.take (t_p 57 (.bin .sub (.tmp 56) (.const (.int .i64 (1)))))
(.take (t_p 58 (.idx 1 (.tmp 54) (.tmp 57)))
(.only false ⟨(some 53), (.load (some 3) (.tmp 14)), none⟩
(.only false (t_l 59 58)
(.only true (t_e 60 (.call 70 [(.tmp 53), (.tmp 59)]))
(.take (t_m 15 60)
(.done)))))))))))
(.seq (.ops [ o_m 61 15, o_p 62 (.bin .geq (.tmp 61) (.const (.int .i64 (0)))), o_m 63 62,
.split 63,
.op ⟨(some 64), (.pure (.mv (.tmp 10))), (some (63, true))⟩,
.op ⟨(some 65), (.pure (.mv (.tmp 15))), (some (63, true))⟩,
.op ⟨(some 66), (.eff (.call 71 [(.tmp 64), (.tmp 65)])), (some (63, true))⟩,
.op ⟨(some 67), (.pure (.bnot (.tmp 66))), (some (63, true))⟩,
.op ⟨(some 68), (.pure (.mv (.tmp 67))), (some (63, true))⟩,
.split 68,
.op ⟨(some 69), (.pure (.mv (.tmp 6))), (some (68, false))⟩,
.op ⟨(some 70), (.eff (.call 64 [(.tmp 69), (.const (.int .i64 (16)))])), (some (68, false))⟩,
.op ⟨(some 71), (.pure (.pick (.tmp 68) (.const (.bool true)) (.tmp 70))), (some (63, true))⟩, o_p 72 (.pick (.tmp 63) (.tmp 71) (.const (.bool false)))])
(.cond (.tmp 72)
(.ops [ o_m 73 12, o_m 74 15, o_e 75 (.row 3 1 [(.int .i64 (0))] [(0, 1, (.tmp 74))]), o_e 76 (.app 3 1 8 (.tmp 73) (.tmp 75)), o_m 12 76])
(.skip))))))
(.ops [ o_p 77 (.bin .add (.tmp 49) (.const (.int .i64 (1)))), o_m 49 77])))))))
(.seq (.seq (.ops [ o_m 78 12, o_p 79 (.len (.tmp 78)), o_p 80 (.bin .eql (.tmp 79) (.const (.int .i64 (0))))])
(.cond (.tmp 80)
(.exit 0)
(.skip)))
(.ops [ o_m 81 10, o_m 82 12, o_m 83 6, o_m 84 12, o_p 85 (.len (.tmp 84)), o_e 86 (.call 65 [(.tmp 83), (.tmp 85)]), o_p 87 (.idx 1 (.tmp 82) (.tmp 86)), o_l 88 87, o_e 89 (.row 3 1 [(.int .i64 (0))] [(0, 1, (.tmp 88))]), o_e 90 (.app 3 1 8 (.tmp 81) (.tmp 89)), o_m 10 90])))))
(.ops [ o_m 44 11, o_p 45 (.bin .sub (.tmp 44) (.const (.int .i64 (1)))), o_m 11 45]))))))
(.seq (.seq (.ops [ o_m 91 6, o_e 92 (.call 65 [(.tmp 91), (.const (.int .i64 (20)))])])
(.block 4 (.seq (.ops [ o_p 94 (.bin .eql (.tmp 92) (.const (.int .i64 (0)))), o_m 93 94])
(.cond (.tmp 93)
(.ops [ o_m 95 10, o_m 96 6, o_p 97 (.fieldAddr 0 (.tmp 7)), o_l 98 97, o_p 99 (.len (.tmp 98)), o_e 100 (.row 3 3 [(.int .i64 (0)), (.int .i64 (0)), (.int .i64 (0))] [(0, 1, (.const (.int .i64 (-1)))), (1, 1, (.const (.int .i64 (0)))), (2, 1, (.tmp 99))]), o_e 101 (.call 72 [(.tmp 96), (.tmp 100)]), o_e 102 (.row 3 1 [(.int .i64 (0))] [(0, 1, (.tmp 101))]), o_e 103 (.app 3 1 8 (.tmp 95) (.tmp 102)), o_m 10 103])
(.seq (.ops [ o_p 105 (.bin .eql (.tmp 92) (.const (.int .i64 (1)))), o_m 104 105])
(.cond (.tmp 104)
(.ops [ o_p 10 (.mv (.const (.slice none 0 0)))])
(.skip)))))))
(.seq (.ops [
.op ⟨(some 106), (.load (some 2) (.tmp 7)), none⟩, o_m 107 8, o_m 108 10, o_m 109 9,
.op ⟨none, (.eff (.store 2 (.tmp 2) (.tmp 106))), none⟩, o_m 3 107, o_m 4 108, o_m 5 109])
(.ret))))))))),
[.cell 2 (some 2), .tmp 3, .tmp 4, .tmp 5]⟩
theorem r_spec_DrawArrivalAlong : resFun Try.prog f_spec_DrawArrivalAlong = some c_spec_DrawArrivalAlong := by kernel_rfl
end Go.Proofs.Ytgbaonaopkdlpaa

