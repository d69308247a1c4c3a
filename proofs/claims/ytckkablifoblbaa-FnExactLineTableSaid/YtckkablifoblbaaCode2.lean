/- The code of this seat's functions, resolved, written by a program of mine; each is held against the given program by the kernel. Condition: none. -/
import Derived.Test.YtckkablifoblbaaProg
import Derived.Test.YtckkablifoblbaaBase9
import Derived.KernelRfl
namespace Go.Proofs.Ytckkablifoblbaa
open Go.Vc

/- loop.example/g00940/impl.lineAsked -/
abbrev f_impl_lineAsked : Nat := 64
def c_impl_lineAsked : MFun := ⟨22, .seq (.ops [
.op ⟨(some 3), (.eff (.box 25 (.tmp 0))), none⟩,
.op ⟨(some 6), (.pure (.mv (.const (.bool false)))), none⟩])
(.seq (.ops [
.op ⟨(some 7), (.load (some 2) (.tmp 3)), none⟩,
.op ⟨(some 8), (.eff (.call 17 [(.tmp 7)])), none⟩,
.op ⟨(some 9), (.pure (.mv (.tmp 8))), none⟩,
.split 9,
.op ⟨(some 10), (.pure (.mv (.tmp 1))), (some (9, true))⟩,
.op ⟨(some 11), (.pure (.len (.tmp 10))), (some (9, true))⟩,
.op ⟨(some 12), (.pure (.bin .leq (.tmp 11) (.const (.int .i64 (20))))), (some (9, true))⟩,
.op ⟨(some 13), (.pure (.pick (.tmp 9) (.tmp 12) (.const (.bool false)))), none⟩,
.op ⟨(some 14), (.pure (.mv (.tmp 13))), none⟩,
.split 14,
.op ⟨(some 15), (.pure (.mv (.tmp 1))), (some (14, true))⟩,
.op ⟨(some 16), (.eff (.call 76 [(.tmp 15), (.const (.int .i64 (0))), (.const (.int .i64 (63)))])), (some (14, true))⟩,
.op ⟨(some 17), (.pure (.pick (.tmp 14) (.tmp 16) (.const (.bool false)))), none⟩,
.op ⟨(some 18), (.pure (.mv (.tmp 17))), none⟩,
.split 18,
.op ⟨(some 19), (.pure (.mv (.tmp 2))), (some (18, true))⟩,
.op ⟨(some 20), (.eff (.call 60 [(.tmp 19)])), (some (18, true))⟩,
.op ⟨(some 21), (.pure (.pick (.tmp 18) (.tmp 20) (.const (.bool false)))), none⟩,
.op ⟨(some 6), (.pure (.mv (.tmp 21))), none⟩])
(.ret)),
[.tmp 6]⟩
theorem r_impl_lineAsked : resFun Try.prog f_impl_lineAsked = some c_impl_lineAsked := by kernel_rfl

/- loop.example/g00940/impl.passLine -/
abbrev f_impl_passLine : Nat := 65
def c_impl_passLine : MFun := ⟨80, .seq (.ops [
.op ⟨(some 3), (.eff (.box 25 (.tmp 0))), none⟩,
.op ⟨(some 5), (.eff (.box 31 (.tmp 2))), none⟩,
.op ⟨(some 6), (.eff (.new 75 [(.slice none 0 0), (.int .i64 (0)), (.int .i64 (0)), (.int .i64 (0))])), none⟩])
(.seq (.ops [
.op ⟨(some 14), (.pure (.fieldAddr 0 (.tmp 3))), none⟩,
.op ⟨(some 15), (.load none (.tmp 14)), none⟩,
.op ⟨(some 16), (.eff (.mk 31 1 24 [(.slice none 0 0)] (.tmp 15) (.tmp 15))), none⟩,
.op ⟨(some 17), (.pure (.build [(.slice none 0 0), (.int .i64 (0)), (.int .i64 (0)), (.int .i64 (0))] [(0, 1, (.tmp 16)), (2, 1, (.const (.int .i64 (-1))))])), none⟩,
.op ⟨(some 7), (.eff (.new 75 [(.slice none 0 0), (.int .i64 (0)), (.int .i64 (0)), (.int .i64 (0))])), none⟩,
.op ⟨none, (.eff (.store 4 (.tmp 7) (.tmp 17))), none⟩])
(.seq (.ops [
.op ⟨(some 18), (.pure (.mkfn (.func 79) [] [(.tmp 7), (.tmp 5)])), none⟩,
.op ⟨(some 8), (.pure (.mv (.tmp 18))), none⟩])
(.seq (.seq (.ops [
.op ⟨(some 19), (.pure (.mv (.tmp 1))), none⟩,
.op ⟨(some 20), (.pure (.len (.tmp 19))), none⟩,
.op ⟨(some 21), (.pure (.mv (.const (.int .i64 (0))))), none⟩])
(.block 0 (.loop (.seq (.ops [
.op ⟨(some 22), (.pure (.bin .lss (.tmp 21) (.tmp 20))), none⟩])
(.seq (.cond (.tmp 22)
(.skip)
(.exit 0))
(.seq (.block 1 (.seq (.ops [
.op ⟨(some 23), (.pure (.mv (.tmp 21))), none⟩,
.op ⟨(some 24), (.pure (.idx 1 (.tmp 19) (.tmp 21))), none⟩,
.op ⟨(some 25), (.load none (.tmp 24)), none⟩,
.op ⟨(some 9), (.pure (.mv (.tmp 23))), none⟩,
.op ⟨(some 10), (.pure (.mv (.tmp 25))), none⟩])
(.seq (.draw true
(.take ⟨(some 26), (.pure (.fieldAddr 0 (.tmp 7))), none⟩
(.take ⟨(some 28), (.pure (.fieldAddr 0 (.tmp 7))), none⟩
(.take ⟨(some 32), (.pure (.mv (.tmp 10))), none⟩
(.take ⟨(some 27), (.load none (.tmp 26)), none⟩
(.take ⟨(some 29), (.load none (.tmp 28)), none⟩
(.take ⟨(some 30), (.pure (.idx 1 (.tmp 29) (.const (.int .i64 (0))))), none⟩
(.take ⟨(some 31), (.load none (.tmp 30)), none⟩
(.only false ⟨(some 33), (.eff (.row 3 1 [(.int .i64 (0))] [(0, 1, (.tmp 32))])), none⟩
(.only false ⟨(some 34), (.eff (.app 3 1 8 (.tmp 31) (.tmp 33))), none⟩
(.take ⟨(some 35), (.pure (.idx 1 (.tmp 27) (.const (.int .i64 (0))))), none⟩
(.only true ⟨none, (.eff (.store 1 (.tmp 35) (.tmp 34))), none⟩
(.done)))))))))))))
(.seq (.ops [
.op ⟨(some 36), (.pure (.fieldAddr 0 (.tmp 3))), none⟩,
.op ⟨(some 37), (.load none (.tmp 36)), none⟩,
.op ⟨(some 38), (.pure (.bin .sub (.tmp 37) (.const (.int .i64 (1))))), none⟩,
.op ⟨(some 39), (.pure (.mv (.const (.int .i64 (0))))), none⟩])
(.block 2 (.loop (.seq (.ops [
.op ⟨(some 40), (.pure (.bin .lss (.tmp 39) (.tmp 38))), none⟩])
(.seq (.cond (.tmp 40)
(.skip)
(.exit 2))
(.seq (.block 3 (.seq (.ops [
.op ⟨(some 41), (.pure (.mv (.tmp 39))), none⟩,
.op ⟨(some 11), (.pure (.mv (.tmp 41))), none⟩])
(.seq (.ops [
.op ⟨(some 12), (.pure (.mv (.const (.bool false)))), none⟩])
(.seq (.seq (.ops [
.op ⟨(some 42), (.pure (.fieldAddr 1 (.tmp 3))), none⟩,
.op ⟨(some 43), (.load none (.tmp 42)), none⟩,
.op ⟨(some 44), (.pure (.mv (.const (.int .i64 (0))))), none⟩])
(.block 4 (.loop (.seq (.ops [
.op ⟨(some 45), (.pure (.bin .lss (.tmp 44) (.tmp 43))), none⟩])
(.seq (.cond (.tmp 45)
(.skip)
(.exit 4))
(.seq (.block 5 (.seq (.ops [
.op ⟨(some 46), (.pure (.mv (.tmp 8))), none⟩,
.op ⟨(some 47), (.pure (.mv (.tmp 10))), none⟩,
.op ⟨(some 48), (.eff (.callv (.tmp 46) [(.tmp 47)])), none⟩,
.op ⟨(some 13), (.pure (.mv (.tmp 48))), none⟩])
(.seq (.ops [
.op ⟨(some 49), (.pure (.mv (.tmp 8))), none⟩,
.op ⟨(some 50), (.pure (.mv (.tmp 13))), none⟩,
.op ⟨(some 51), (.eff (.callv (.tmp 49) [(.tmp 50)])), none⟩,
.op ⟨(some 52), (.pure (.mv (.tmp 10))), none⟩,
.op ⟨(some 53), (.pure (.bin .eql (.tmp 51) (.tmp 52))), none⟩])
(.cond (.tmp 53)
(.seq (.ops [
.op ⟨(some 54), (.pure (.mv (.tmp 13))), none⟩,
.op ⟨(some 10), (.pure (.mv (.tmp 54))), none⟩,
.op ⟨(some 12), (.pure (.mv (.const (.bool true)))), none⟩])
(.exit 4))
(.skip)))))
(.ops [
.op ⟨(some 55), (.pure (.bin .add (.tmp 44) (.const (.int .i64 (1))))), none⟩,
.op ⟨(some 44), (.pure (.mv (.tmp 55))), none⟩])))))))
(.seq (.seq (.ops [
.op ⟨(some 56), (.pure (.mv (.tmp 12))), none⟩,
.op ⟨(some 57), (.pure (.bnot (.tmp 56))), none⟩])
(.cond (.tmp 57)
(.seq (.ops [
.op ⟨(some 58), (.pure (.mv (.tmp 9))), none⟩,
.op ⟨(some 59), (.pure (.mv (.tmp 11))), none⟩,
.op ⟨(some 60), (.pure (.fieldAddr 2 (.tmp 7))), none⟩,
.op ⟨none, (.eff (.store 1 (.tmp 60) (.tmp 58))), none⟩,
.op ⟨(some 61), (.pure (.fieldAddr 3 (.tmp 7))), none⟩,
.op ⟨none, (.eff (.store 1 (.tmp 61) (.tmp 59))), none⟩])
(.seq (.ops [
.op ⟨(some 62), (.load (some 4) (.tmp 7)), none⟩,
.op ⟨none, (.eff (.store 4 (.tmp 6) (.tmp 62))), none⟩])
(.ret)))
(.skip)))
(.draw true
(.take ⟨(some 63), (.pure (.fieldAddr 0 (.tmp 7))), none⟩
(.take ⟨(some 65), (.pure (.mv (.tmp 11))), none⟩
(.take ⟨(some 66), (.pure (.bin .add (.tmp 65) (.const (.int .i64 (1))))), none⟩
(.take ⟨(some 67), (.pure (.fieldAddr 0 (.tmp 7))), none⟩
(.take ⟨(some 69), (.pure (.mv (.tmp 11))), none⟩
(.take ⟨(some 70), (.pure (.bin .add (.tmp 69) (.const (.int .i64 (1))))), none⟩
(.take ⟨(some 73), (.pure (.mv (.tmp 10))), none⟩
(.take ⟨(some 64), (.load none (.tmp 63)), none⟩
(.take ⟨(some 68), (.load none (.tmp 67)), none⟩
(.take ⟨(some 71), (.pure (.idx 1 (.tmp 68) (.tmp 70))), none⟩
(.take ⟨(some 72), (.load none (.tmp 71)), none⟩
(.only false ⟨(some 74), (.eff (.row 3 1 [(.int .i64 (0))] [(0, 1, (.tmp 73))])), none⟩
(.only false ⟨(some 75), (.eff (.app 3 1 8 (.tmp 72) (.tmp 74))), none⟩
(.take ⟨(some 76), (.pure (.idx 1 (.tmp 64) (.tmp 66))), none⟩
(.only true ⟨none, (.eff (.store 1 (.tmp 76) (.tmp 75))), none⟩
(.done))))))))))))))))))))))
(.ops [
.op ⟨(some 77), (.pure (.bin .add (.tmp 39) (.const (.int .i64 (1))))), none⟩,
.op ⟨(some 39), (.pure (.mv (.tmp 77))), none⟩]))))))))))
(.ops [
.op ⟨(some 78), (.pure (.bin .add (.tmp 21) (.const (.int .i64 (1))))), none⟩,
.op ⟨(some 21), (.pure (.mv (.tmp 78))), none⟩])))))))
(.seq (.ops [
.op ⟨(some 79), (.load (some 4) (.tmp 7)), none⟩,
.op ⟨none, (.eff (.store 4 (.tmp 6) (.tmp 79))), none⟩])
(.ret))))),
[.cell 6 (some 4)]⟩
theorem r_impl_passLine : resFun Try.prog f_impl_passLine = some c_impl_passLine := by kernel_rfl

/- loop.example/g00940/spec.liWrong -/
abbrev f_spec_liWrong : Nat := 66
def c_spec_liWrong : MFun := ⟨27, .seq (.ops [
.op ⟨(some 4), (.pure (.mv (.const (.slice none 0 0)))), none⟩])
(.seq (.ops [
.op ⟨(some 5), (.pure (.mv (.const (.slice none 0 0)))), none⟩])
(.seq (.seq (.ops [
.op ⟨(some 8), (.pure (.mv (.tmp 1))), none⟩,
.op ⟨(some 9), (.pure (.len (.tmp 8))), none⟩,
.op ⟨(some 10), (.pure (.mv (.const (.int .i64 (0))))), none⟩])
(.block 0 (.loop (.seq (.ops [
.op ⟨(some 11), (.pure (.bin .lss (.tmp 10) (.tmp 9))), none⟩])
(.seq (.cond (.tmp 11)
(.skip)
(.exit 0))
(.seq (.block 1 (.seq (.ops [
.op ⟨(some 12), (.pure (.mv (.tmp 10))), none⟩,
.op ⟨(some 13), (.pure (.idx 1 (.tmp 8) (.tmp 10))), none⟩,
.op ⟨(some 14), (.load none (.tmp 13)), none⟩,
.op ⟨(some 6), (.pure (.mv (.tmp 12))), none⟩,
.op ⟨(some 7), (.pure (.mv (.tmp 14))), none⟩])
(.seq (.ops [
.op ⟨(some 15), (.pure (.mv (.tmp 7))), none⟩,
.op ⟨(some 16), (.pure (.mv (.tmp 0))), none⟩,
.op ⟨(some 17), (.pure (.mv (.tmp 6))), none⟩,
.op ⟨(some 18), (.pure (.idx 1 (.tmp 16) (.tmp 17))), none⟩,
.op ⟨(some 19), (.load none (.tmp 18)), none⟩,
.op ⟨(some 20), (.pure (.bin .neq (.tmp 15) (.tmp 19))), none⟩])
(.cond (.tmp 20)
(.ops [
.op ⟨(some 21), (.pure (.mv (.tmp 5))), none⟩,
.op ⟨(some 22), (.pure (.mv (.tmp 6))), none⟩,
.op ⟨(some 23), (.eff (.row 3 1 [(.int .i64 (0))] [(0, 1, (.tmp 22))])), none⟩,
.op ⟨(some 24), (.eff (.app 3 1 8 (.tmp 21) (.tmp 23))), none⟩,
.op ⟨(some 5), (.pure (.mv (.tmp 24))), none⟩])
(.skip)))))
(.ops [
.op ⟨(some 25), (.pure (.bin .add (.tmp 10) (.const (.int .i64 (1))))), none⟩,
.op ⟨(some 10), (.pure (.mv (.tmp 25))), none⟩])))))))
(.seq (.ops [
.op ⟨(some 26), (.pure (.mv (.tmp 5))), none⟩,
.op ⟨(some 4), (.pure (.mv (.tmp 26))), none⟩])
(.ret)))),
[.tmp 4]⟩
theorem r_spec_liWrong : resFun Try.prog f_spec_liWrong = some c_spec_liWrong := by kernel_rfl

/- loop.example/g00940/impl.wrongSignals -/
abbrev f_impl_wrongSignals : Nat := 67
def c_impl_wrongSignals : MFun := ⟨27, .seq (.ops [
.op ⟨(some 4), (.pure (.mv (.const (.slice none 0 0)))), none⟩])
(.seq (.ops [
.op ⟨(some 5), (.pure (.mv (.const (.slice none 0 0)))), none⟩])
(.seq (.seq (.ops [
.op ⟨(some 8), (.pure (.mv (.tmp 0))), none⟩,
.op ⟨(some 9), (.pure (.len (.tmp 8))), none⟩,
.op ⟨(some 10), (.pure (.mv (.const (.int .i64 (0))))), none⟩])
(.block 0 (.loop (.seq (.ops [
.op ⟨(some 11), (.pure (.bin .lss (.tmp 10) (.tmp 9))), none⟩])
(.seq (.cond (.tmp 11)
(.skip)
(.exit 0))
(.seq (.block 1 (.seq (.ops [
.op ⟨(some 12), (.pure (.mv (.tmp 10))), none⟩,
.op ⟨(some 13), (.pure (.idx 1 (.tmp 8) (.tmp 10))), none⟩,
.op ⟨(some 14), (.load none (.tmp 13)), none⟩,
.op ⟨(some 6), (.pure (.mv (.tmp 12))), none⟩,
.op ⟨(some 7), (.pure (.mv (.tmp 14))), none⟩])
(.seq (.ops [
.op ⟨(some 15), (.pure (.mv (.tmp 7))), none⟩,
.op ⟨(some 16), (.pure (.mv (.tmp 1))), none⟩,
.op ⟨(some 17), (.pure (.mv (.tmp 6))), none⟩,
.op ⟨(some 18), (.pure (.idx 1 (.tmp 16) (.tmp 17))), none⟩,
.op ⟨(some 19), (.load none (.tmp 18)), none⟩,
.op ⟨(some 20), (.pure (.bin .neq (.tmp 15) (.tmp 19))), none⟩])
(.cond (.tmp 20)
(.ops [
.op ⟨(some 21), (.pure (.mv (.tmp 5))), none⟩,
.op ⟨(some 22), (.pure (.mv (.tmp 6))), none⟩,
.op ⟨(some 23), (.eff (.row 3 1 [(.int .i64 (0))] [(0, 1, (.tmp 22))])), none⟩,
.op ⟨(some 24), (.eff (.app 3 1 8 (.tmp 21) (.tmp 23))), none⟩,
.op ⟨(some 5), (.pure (.mv (.tmp 24))), none⟩])
(.skip)))))
(.ops [
.op ⟨(some 25), (.pure (.bin .add (.tmp 10) (.const (.int .i64 (1))))), none⟩,
.op ⟨(some 10), (.pure (.mv (.tmp 25))), none⟩])))))))
(.seq (.ops [
.op ⟨(some 26), (.pure (.mv (.tmp 5))), none⟩,
.op ⟨(some 4), (.pure (.mv (.tmp 26))), none⟩])
(.ret)))),
[.tmp 4]⟩
theorem r_impl_wrongSignals : resFun Try.prog f_impl_wrongSignals = some c_impl_wrongSignals := by kernel_rfl

/- loop.example/g00940/laws.szIntS -/
abbrev f_laws_szIntS : Nat := 68
def c_laws_szIntS : MFun := ⟨12, .seq (.ops [
.op ⟨(some 4), (.pure (.mv (.const (.int .i64 (0))))), none⟩])
(.seq (.ops [
.op ⟨(some 5), (.pure (.mv (.tmp 1))), none⟩,
.op ⟨(some 6), (.pure (.mv (.tmp 0))), none⟩,
.op ⟨(some 7), (.pure (.len (.tmp 6))), none⟩,
.op ⟨(some 8), (.pure (.bin .sub (.tmp 5) (.tmp 7))), none⟩,
.op ⟨(some 1), (.pure (.mv (.tmp 8))), none⟩])
(.seq (.seq (.ops [
.op ⟨(some 9), (.pure (.mv (.tmp 1))), none⟩,
.op ⟨(some 10), (.pure (.bin .lss (.tmp 9) (.const (.int .i64 (0))))), none⟩])
(.cond (.tmp 10)
(.seq (.ops [
.op ⟨(some 4), (.pure (.mv (.const (.int .i64 (-1))))), none⟩])
(.ret))
(.skip)))
(.seq (.ops [
.op ⟨(some 11), (.pure (.mv (.tmp 1))), none⟩,
.op ⟨(some 4), (.pure (.mv (.tmp 11))), none⟩])
(.ret)))),
[.tmp 4]⟩
theorem r_laws_szIntS : resFun Try.prog f_laws_szIntS = some c_laws_szIntS := by kernel_rfl

/- loop.example/g00940/spec.l1All -/
abbrev f_spec_l1All : Nat := 75
def c_spec_l1All : MFun := ⟨21, .seq (.ops [
.op ⟨(some 6), (.pure (.mv (.const (.bool false)))), none⟩])
(.seq (.seq (.ops [
.op ⟨(some 9), (.pure (.mv (.tmp 0))), none⟩,
.op ⟨(some 10), (.pure (.len (.tmp 9))), none⟩,
.op ⟨(some 11), (.pure (.mv (.const (.int .i64 (0))))), none⟩])
(.block 0 (.loop (.seq (.ops [
.op ⟨(some 12), (.pure (.bin .lss (.tmp 11) (.tmp 10))), none⟩])
(.seq (.cond (.tmp 12)
(.skip)
(.exit 0))
(.seq (.block 1 (.seq (.ops [
.op ⟨(some 13), (.pure (.idx 1 (.tmp 9) (.tmp 11))), none⟩,
.op ⟨(some 14), (.load none (.tmp 13)), none⟩,
.op ⟨(some 8), (.pure (.mv (.tmp 14))), none⟩])
(.seq (.ops [
.op ⟨(some 15), (.pure (.mv (.tmp 8))), none⟩,
.op ⟨(some 16), (.pure (.mv (.tmp 1))), none⟩,
.op ⟨(some 17), (.pure (.mv (.tmp 2))), none⟩,
.op ⟨(some 18), (.eff (.call 56 [(.tmp 15), (.tmp 16), (.tmp 17)])), none⟩,
.op ⟨(some 19), (.pure (.bnot (.tmp 18))), none⟩])
(.cond (.tmp 19)
(.seq (.ops [
.op ⟨(some 6), (.pure (.mv (.const (.bool false)))), none⟩])
(.ret))
(.skip)))))
(.ops [
.op ⟨(some 20), (.pure (.bin .add (.tmp 11) (.const (.int .i64 (1))))), none⟩,
.op ⟨(some 11), (.pure (.mv (.tmp 20))), none⟩])))))))
(.seq (.ops [
.op ⟨(some 6), (.pure (.mv (.const (.bool true)))), none⟩])
(.ret))),
[.tmp 6]⟩
theorem r_spec_l1All : resFun Try.prog f_spec_l1All = some c_spec_l1All := by kernel_rfl

/- loop.example/g00940/impl.allWithin -/
abbrev f_impl_allWithin : Nat := 76
def c_impl_allWithin : MFun := ⟨21, .seq (.ops [
.op ⟨(some 6), (.pure (.mv (.const (.bool false)))), none⟩])
(.seq (.seq (.ops [
.op ⟨(some 9), (.pure (.mv (.tmp 0))), none⟩,
.op ⟨(some 10), (.pure (.len (.tmp 9))), none⟩,
.op ⟨(some 11), (.pure (.mv (.const (.int .i64 (0))))), none⟩])
(.block 0 (.loop (.seq (.ops [
.op ⟨(some 12), (.pure (.bin .lss (.tmp 11) (.tmp 10))), none⟩])
(.seq (.cond (.tmp 12)
(.skip)
(.exit 0))
(.seq (.block 1 (.seq (.ops [
.op ⟨(some 13), (.pure (.idx 1 (.tmp 9) (.tmp 11))), none⟩,
.op ⟨(some 14), (.load none (.tmp 13)), none⟩,
.op ⟨(some 8), (.pure (.mv (.tmp 14))), none⟩])
(.seq (.ops [
.op ⟨(some 15), (.pure (.mv (.tmp 8))), none⟩,
.op ⟨(some 16), (.pure (.mv (.tmp 1))), none⟩,
.op ⟨(some 17), (.pure (.mv (.tmp 2))), none⟩,
.op ⟨(some 18), (.eff (.call 55 [(.tmp 15), (.tmp 16), (.tmp 17)])), none⟩,
.op ⟨(some 19), (.pure (.bnot (.tmp 18))), none⟩])
(.cond (.tmp 19)
(.seq (.ops [
.op ⟨(some 6), (.pure (.mv (.const (.bool false)))), none⟩])
(.ret))
(.skip)))))
(.ops [
.op ⟨(some 20), (.pure (.bin .add (.tmp 11) (.const (.int .i64 (1))))), none⟩,
.op ⟨(some 11), (.pure (.mv (.tmp 20))), none⟩])))))))
(.seq (.ops [
.op ⟨(some 6), (.pure (.mv (.const (.bool true)))), none⟩])
(.ret))),
[.tmp 6]⟩
theorem r_impl_allWithin : resFun Try.prog f_impl_allWithin = some c_impl_allWithin := by kernel_rfl

/- loop.example/g00940/spec.liSignals -/
abbrev f_spec_liSignals : Nat := 77
def c_spec_liSignals : MFun := ⟨10, .seq (.ops [
.op ⟨(some 2), (.pure (.mv (.const (.bool false)))), none⟩])
(.seq (.ops [
.op ⟨(some 3), (.pure (.mv (.tmp 0))), none⟩,
.op ⟨(some 4), (.pure (.len (.tmp 3))), none⟩,
.op ⟨(some 5), (.pure (.bin .leq (.tmp 4) (.const (.int .i64 (20))))), none⟩,
.op ⟨(some 6), (.pure (.mv (.tmp 5))), none⟩,
.split 6,
.op ⟨(some 7), (.pure (.mv (.tmp 0))), (some (6, true))⟩,
.op ⟨(some 8), (.eff (.call 75 [(.tmp 7), (.const (.int .i64 (0))), (.const (.int .i64 (63)))])), (some (6, true))⟩,
.op ⟨(some 9), (.pure (.pick (.tmp 6) (.tmp 8) (.const (.bool false)))), none⟩,
.op ⟨(some 2), (.pure (.mv (.tmp 9))), none⟩])
(.ret)),
[.tmp 2]⟩
theorem r_spec_liSignals : resFun Try.prog f_spec_liSignals = some c_spec_liSignals := by kernel_rfl

/- (*loop.example/g00940/spec.liState).hop -/
abbrev f_spec_liState_hop : Nat := 78
def c_spec_liState_hop : MFun := ⟨22, .seq (.ops [
.op ⟨(some 6), (.pure (.mv (.const (.int .i64 (0))))), none⟩,
.op ⟨(some 7), (.pure (.mv (.const (.bool false)))), none⟩])
(.seq (.block 0 (.loop (.seq (.seq (.ops [
.op ⟨(some 9), (.pure (.mv (.tmp 2))), none⟩,
.op ⟨(some 10), (.pure (.bin .gtr (.tmp 9) (.const (.int .i64 (0))))), none⟩])
(.cond (.tmp 10)
(.skip)
(.exit 0)))
(.seq (.block 1 (.seq (.ops [
.op ⟨(some 13), (.pure (.mv (.tmp 0))), none⟩,
.op ⟨(some 14), (.pure (.mv (.tmp 1))), none⟩,
.op ⟨(some 15), (.eff (.call 82 [(.tmp 13), (.tmp 14)])), none⟩,
.op ⟨(some 8), (.pure (.mv (.tmp 15))), none⟩])
(.seq (.ops [
.op ⟨(some 16), (.pure (.mv (.tmp 0))), none⟩,
.op ⟨(some 17), (.pure (.mv (.tmp 8))), none⟩,
.op ⟨(some 18), (.eff (.call 82 [(.tmp 16), (.tmp 17)])), none⟩,
.op ⟨(some 19), (.pure (.mv (.tmp 1))), none⟩,
.op ⟨(some 20), (.pure (.bin .eql (.tmp 18) (.tmp 19))), none⟩])
(.cond (.tmp 20)
(.seq (.ops [
.op ⟨(some 21), (.pure (.mv (.tmp 8))), none⟩,
.op ⟨(some 6), (.pure (.mv (.tmp 21))), none⟩,
.op ⟨(some 7), (.pure (.mv (.const (.bool true)))), none⟩])
(.ret))
(.skip)))))
(.ops [
.op ⟨(some 11), (.pure (.mv (.tmp 2))), none⟩,
.op ⟨(some 12), (.pure (.bin .sub (.tmp 11) (.const (.int .i64 (1))))), none⟩,
.op ⟨(some 2), (.pure (.mv (.tmp 12))), none⟩])))))
(.seq (.ops [
.op ⟨(some 6), (.pure (.mv (.const (.int .i64 (0))))), none⟩,
.op ⟨(some 7), (.pure (.mv (.const (.bool false)))), none⟩])
(.ret))),
[.tmp 6, .tmp 7]⟩
theorem r_spec_liState_hop : resFun Try.prog f_spec_liState_hop = some c_spec_liState_hop := by kernel_rfl

/- loop.example/g00940/impl.passLine$1 -/
abbrev f_impl_passLine_1 : Nat := 79
def c_impl_passLine_1 : MFun := ⟨22, .seq (.ops [
.op ⟨(some 4), (.pure (.mv (.const (.int .i64 (0))))), none⟩])
(.seq (.seq (.ops [
.op ⟨(some 5), (.pure (.fieldAddr 1 (.tmp 1))), none⟩,
.op ⟨(some 6), (.load none (.tmp 5)), none⟩,
.op ⟨(some 7), (.load none (.tmp 2)), none⟩,
.op ⟨(some 8), (.pure (.len (.tmp 7))), none⟩,
.op ⟨(some 9), (.pure (.bin .lss (.tmp 6) (.tmp 8))), none⟩])
(.cond (.tmp 9)
(.ops [
.op ⟨(some 10), (.pure (.mv (.tmp 0))), none⟩,
.op ⟨(some 11), (.load none (.tmp 2)), none⟩,
.op ⟨(some 12), (.pure (.fieldAddr 1 (.tmp 1))), none⟩,
.op ⟨(some 13), (.load none (.tmp 12)), none⟩,
.op ⟨(some 14), (.pure (.idx 1 (.tmp 11) (.tmp 13))), none⟩,
.op ⟨(some 15), (.load none (.tmp 14)), none⟩,
.op ⟨(some 16), (.pure (.bin .xor (.tmp 10) (.tmp 15))), none⟩,
.op ⟨(some 0), (.pure (.mv (.tmp 16))), none⟩])
(.skip)))
(.seq (.ops [
.op ⟨(some 17), (.pure (.fieldAddr 1 (.tmp 1))), none⟩,
.op ⟨(some 18), (.load none (.tmp 17)), none⟩,
.op ⟨(some 19), (.pure (.bin .add (.tmp 18) (.const (.int .i64 (1))))), none⟩,
.op ⟨(some 20), (.pure (.fieldAddr 1 (.tmp 1))), none⟩,
.op ⟨none, (.eff (.store 1 (.tmp 20) (.tmp 19))), none⟩])
(.seq (.ops [
.op ⟨(some 21), (.pure (.mv (.tmp 0))), none⟩,
.op ⟨(some 4), (.pure (.mv (.tmp 21))), none⟩])
(.ret)))),
[.tmp 4]⟩
theorem r_impl_passLine_1 : resFun Try.prog f_impl_passLine_1 = some c_impl_passLine_1 := by kernel_rfl

/- (*loop.example/g00940/spec.liState).see -/
abbrev f_spec_liState_see : Nat := 82
def c_spec_liState_see : MFun := ⟨36, .seq (.ops [
.op ⟨(some 4), (.pure (.mv (.const (.int .i64 (0))))), none⟩])
(.seq (.ops [
.op ⟨(some 5), (.pure (.mv (.const (.int .i64 (0))))), none⟩])
(.seq (.seq (.ops [
.op ⟨(some 6), (.pure (.mv (.tmp 0))), none⟩,
.op ⟨(some 7), (.pure (.nilc (.tmp 6))), none⟩,
.op ⟨(some 8), (.pure (.fieldAddr 1 (.tmp 7))), none⟩,
.op ⟨(some 10), (.pure (.mv (.tmp 0))), none⟩,
.op ⟨(some 11), (.pure (.nilc (.tmp 10))), none⟩,
.op ⟨(some 12), (.pure (.fieldAddr 0 (.tmp 11))), none⟩,
.op ⟨(some 9), (.load none (.tmp 8)), none⟩,
.op ⟨(some 13), (.load none (.tmp 12)), none⟩,
.op ⟨(some 14), (.pure (.len (.tmp 13))), none⟩,
.op ⟨(some 15), (.pure (.bin .lss (.tmp 9) (.tmp 14))), none⟩])
(.cond (.tmp 15)
(.ops [
.op ⟨(some 16), (.pure (.mv (.tmp 0))), none⟩,
.op ⟨(some 17), (.pure (.nilc (.tmp 16))), none⟩,
.op ⟨(some 18), (.pure (.fieldAddr 0 (.tmp 17))), none⟩,
.op ⟨(some 20), (.pure (.mv (.tmp 0))), none⟩,
.op ⟨(some 21), (.pure (.nilc (.tmp 20))), none⟩,
.op ⟨(some 22), (.pure (.fieldAddr 1 (.tmp 21))), none⟩,
.op ⟨(some 19), (.load none (.tmp 18)), none⟩,
.op ⟨(some 23), (.load none (.tmp 22)), none⟩,
.op ⟨(some 24), (.pure (.idx 1 (.tmp 19) (.tmp 23))), none⟩,
.op ⟨(some 25), (.load none (.tmp 24)), none⟩,
.op ⟨(some 5), (.pure (.mv (.tmp 25))), none⟩])
(.skip)))
(.seq (.ops [
.op ⟨(some 26), (.pure (.mv (.tmp 0))), none⟩,
.op ⟨(some 27), (.pure (.nilc (.tmp 26))), none⟩,
.op ⟨(some 28), (.pure (.fieldAddr 1 (.tmp 27))), none⟩,
.op ⟨(some 29), (.load none (.tmp 28)), none⟩,
.op ⟨(some 30), (.pure (.bin .add (.tmp 29) (.const (.int .i64 (1))))), none⟩,
.op ⟨(some 31), (.pure (.nilc (.tmp 26))), none⟩,
.op ⟨(some 32), (.pure (.fieldAddr 1 (.tmp 31))), none⟩,
.op ⟨none, (.eff (.store 1 (.tmp 32) (.tmp 30))), none⟩])
(.seq (.ops [
.op ⟨(some 33), (.pure (.mv (.tmp 1))), none⟩,
.op ⟨(some 34), (.pure (.mv (.tmp 5))), none⟩,
.op ⟨(some 35), (.pure (.bin .xor (.tmp 33) (.tmp 34))), none⟩,
.op ⟨(some 4), (.pure (.mv (.tmp 35))), none⟩])
(.ret))))),
[.tmp 4]⟩
theorem r_spec_liState_see : resFun Try.prog f_spec_liState_see = some c_spec_liState_see := by kernel_rfl
end Go.Proofs.Ytckkablifoblbaa
