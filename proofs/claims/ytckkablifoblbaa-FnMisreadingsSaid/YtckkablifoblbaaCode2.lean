/- The code of this seat's functions, resolved, written by a program of mine; each is held against the given program by the kernel. Condition: none. -/
import Derived.Test.YtckkablifoblbaaProg
import Derived.Test.YtckkablifoblbaaBase9
import Derived.KernelRfl
namespace Go.Proofs.Ytckkablifoblbaa
open Go.Vc

/- loop.example/g00940/impl.WrongSignals -/
abbrev f_impl_WrongSignals : Nat := 37
def c_impl_WrongSignals : MFun := ⟨25, .seq (.ops [
.op ⟨(some 3), (.eff (.box 25 (.tmp 0))), none⟩,
.op ⟨(some 6), (.pure (.mv (.const (.slice none 0 0)))), none⟩,
.op ⟨(some 7), (.pure (.mv (.const (.bool false)))), none⟩])
(.seq (.seq (.ops [
.op ⟨(some 8), (.load (some 2) (.tmp 3)), none⟩,
.op ⟨(some 9), (.pure (.mv (.tmp 1))), none⟩,
.op ⟨(some 10), (.pure (.mv (.tmp 2))), none⟩,
.op ⟨(some 11), (.eff (.call 64 [(.tmp 8), (.tmp 9), (.tmp 10)])), none⟩,
.op ⟨(some 12), (.pure (.bnot (.tmp 11))), none⟩])
(.cond (.tmp 12)
(.seq (.ops [
.op ⟨(some 6), (.pure (.mv (.const (.slice none 0 0)))), none⟩,
.op ⟨(some 7), (.pure (.mv (.const (.bool false)))), none⟩])
(.ret))
(.skip)))
(.seq (.draw true
(.take ⟨(some 14), (.pure (.mv (.tmp 1))), none⟩
(.take ⟨(some 15), (.pure (.mv (.tmp 2))), none⟩
(.take ⟨(some 18), (.pure (.fieldAddr 0 (.tmp 3))), none⟩
(.take ⟨(some 23), (.pure (.mv (.tmp 1))), none⟩
(.only false ⟨(some 13), (.load (some 2) (.tmp 3)), none⟩
(.take ⟨(some 19), (.load none (.tmp 18)), none⟩
(.take ⟨(some 20), (.pure (.bin .sub (.tmp 19) (.const (.int .i64 (1))))), none⟩
(.only false ⟨(some 16), (.eff (.call 65 [(.tmp 13), (.tmp 14), (.tmp 15)])), none⟩
(.take ⟨(some 17), (.pure (.field 0 none (.tmp 16))), none⟩
(.take ⟨(some 21), (.pure (.idx 1 (.tmp 17) (.tmp 20))), none⟩
(.only false ⟨(some 22), (.load none (.tmp 21)), none⟩
(.only true ⟨(some 24), (.eff (.call 67 [(.tmp 22), (.tmp 23)])), none⟩
(.take ⟨(some 6), (.pure (.mv (.tmp 24))), none⟩
(.take ⟨(some 7), (.pure (.mv (.const (.bool true)))), none⟩
(.done))))))))))))))))
(.ret))),
[.tmp 6, .tmp 7]⟩
theorem r_impl_WrongSignals : resFun Try.prog f_impl_WrongSignals = some c_impl_WrongSignals := by kernel_rfl

/- loop.example/g00940/laws.szIntSS -/
abbrev f_laws_szIntSS : Nat := 38
def c_laws_szIntSS : MFun := ⟨27, .seq (.ops [
.op ⟨(some 4), (.pure (.mv (.const (.int .i64 (0))))), none⟩])
(.seq (.ops [
.op ⟨(some 6), (.pure (.mv (.tmp 1))), none⟩,
.op ⟨(some 7), (.pure (.mv (.tmp 0))), none⟩,
.op ⟨(some 8), (.pure (.len (.tmp 7))), none⟩,
.op ⟨(some 9), (.pure (.bin .sub (.tmp 6) (.tmp 8))), none⟩,
.op ⟨(some 1), (.pure (.mv (.tmp 9))), none⟩])
(.seq (.seq (.ops [
.op ⟨(some 10), (.pure (.mv (.tmp 1))), none⟩,
.op ⟨(some 11), (.pure (.bin .lss (.tmp 10) (.const (.int .i64 (0))))), none⟩])
(.cond (.tmp 11)
(.seq (.ops [
.op ⟨(some 4), (.pure (.mv (.const (.int .i64 (-1))))), none⟩])
(.ret))
(.skip)))
(.seq (.seq (.ops [
.op ⟨(some 5), (.pure (.mv (.const (.int .i64 (0))))), none⟩])
(.block 0 (.loop (.seq (.seq (.ops [
.op ⟨(some 12), (.pure (.mv (.tmp 5))), none⟩,
.op ⟨(some 13), (.pure (.mv (.tmp 0))), none⟩,
.op ⟨(some 14), (.pure (.len (.tmp 13))), none⟩,
.op ⟨(some 15), (.pure (.bin .lss (.tmp 12) (.tmp 14))), none⟩])
(.cond (.tmp 15)
(.skip)
(.exit 0)))
(.seq (.block 1 (.seq (.ops [
.op ⟨(some 18), (.pure (.mv (.tmp 0))), none⟩,
.op ⟨(some 19), (.pure (.mv (.tmp 5))), none⟩,
.op ⟨(some 20), (.pure (.idx 1 (.tmp 18) (.tmp 19))), none⟩,
.op ⟨(some 21), (.load none (.tmp 20)), none⟩,
.op ⟨(some 22), (.pure (.mv (.tmp 1))), none⟩,
.op ⟨(some 23), (.eff (.call 68 [(.tmp 21), (.tmp 22)])), none⟩,
.op ⟨(some 1), (.pure (.mv (.tmp 23))), none⟩])
(.seq (.ops [
.op ⟨(some 24), (.pure (.mv (.tmp 1))), none⟩,
.op ⟨(some 25), (.pure (.bin .lss (.tmp 24) (.const (.int .i64 (0))))), none⟩])
(.cond (.tmp 25)
(.seq (.ops [
.op ⟨(some 4), (.pure (.mv (.const (.int .i64 (-1))))), none⟩])
(.ret))
(.skip)))))
(.ops [
.op ⟨(some 16), (.pure (.mv (.tmp 5))), none⟩,
.op ⟨(some 17), (.pure (.bin .add (.tmp 16) (.const (.int .i64 (1))))), none⟩,
.op ⟨(some 5), (.pure (.mv (.tmp 17))), none⟩]))))))
(.seq (.ops [
.op ⟨(some 26), (.pure (.mv (.tmp 1))), none⟩,
.op ⟨(some 4), (.pure (.mv (.tmp 26))), none⟩])
(.ret))))),
[.tmp 4]⟩
theorem r_laws_szIntSS : resFun Try.prog f_laws_szIntSS = some c_laws_szIntSS := by kernel_rfl

/- loop.example/g00940/spec.LineTable -/
abbrev f_spec_LineTable : Nat := 39
def c_spec_LineTable : MFun := ⟨71, .seq (.ops [
.op ⟨(some 3), (.eff (.box 25 (.tmp 0))), none⟩,
.op ⟨(some 6), (.pure (.mv (.const (.slice none 0 0)))), none⟩,
.op ⟨(some 7), (.pure (.mv (.const (.bool false)))), none⟩])
(.seq (.seq (.ops [
.op ⟨(some 12), (.pure (.mv (.tmp 2))), none⟩,
.op ⟨(some 13), (.pure (.len (.tmp 12))), none⟩,
.op ⟨(some 14), (.pure (.bin .gtr (.tmp 13) (.const (.int .i64 (10))))), none⟩,
.op ⟨(some 15), (.pure (.mv (.tmp 14))), none⟩,
.split 15,
.op ⟨(some 16), (.load (some 2) (.tmp 3)), (some (15, false))⟩,
.op ⟨(some 17), (.pure (.mv (.tmp 1))), (some (15, false))⟩,
.op ⟨(some 18), (.eff (.call 62 [(.tmp 16), (.tmp 17), (.const (.slice none 0 0))])), (some (15, false))⟩,
.op ⟨(some 19), (.pure (.bnot (.tmp 18))), (some (15, false))⟩,
.op ⟨(some 20), (.pure (.pick (.tmp 15) (.const (.bool true)) (.tmp 19))), none⟩])
(.cond (.tmp 20)
(.seq (.ops [
.op ⟨(some 6), (.pure (.mv (.const (.slice none 0 0)))), none⟩,
.op ⟨(some 7), (.pure (.mv (.const (.bool false)))), none⟩])
(.ret))
(.skip)))
(.seq (.ops [
.op ⟨(some 21), (.eff (.mk 3 1 8 [(.int .i64 (0))] (.const (.int .i64 (3))) (.const (.int .i64 (3))))), none⟩,
.op ⟨(some 8), (.pure (.mv (.tmp 21))), none⟩])
(.seq (.seq (.ops [
.op ⟨(some 22), (.pure (.mv (.tmp 2))), none⟩,
.op ⟨(some 23), (.pure (.len (.tmp 22))), none⟩,
.op ⟨(some 24), (.pure (.mv (.const (.int .i64 (0))))), none⟩])
(.block 0 (.loop (.seq (.ops [
.op ⟨(some 25), (.pure (.bin .lss (.tmp 24) (.tmp 23))), none⟩])
(.seq (.cond (.tmp 25)
(.skip)
(.exit 0))
(.seq (.block 1 (.seq (.ops [
.op ⟨(some 26), (.pure (.idx 1 (.tmp 22) (.tmp 24))), none⟩,
.op ⟨(some 27), (.load none (.tmp 26)), none⟩,
.op ⟨(some 10), (.pure (.mv (.tmp 27))), none⟩])
(.seq (.seq (.ops [
.op ⟨(some 28), (.pure (.mv (.tmp 10))), none⟩,
.op ⟨(some 29), (.eff (.call 57 [(.tmp 28)])), none⟩,
.op ⟨(some 30), (.pure (.bnot (.tmp 29))), none⟩])
(.cond (.tmp 30)
(.seq (.ops [
.op ⟨(some 6), (.pure (.mv (.const (.slice none 0 0)))), none⟩,
.op ⟨(some 7), (.pure (.mv (.const (.bool false)))), none⟩])
(.ret))
(.skip)))
(.seq (.ops [
.op ⟨(some 31), (.load (some 2) (.tmp 3)), none⟩,
.op ⟨(some 32), (.pure (.mv (.tmp 1))), none⟩,
.op ⟨(some 33), (.pure (.mv (.tmp 10))), none⟩,
.op ⟨(some 34), (.eff (.call 63 [(.tmp 31), (.tmp 32), (.tmp 33)])), none⟩,
.op ⟨(some 11), (.pure (.mv (.tmp 34))), none⟩])
(.block 2 (.seq (.ops [
.op ⟨(some 41), (.pure (.mv (.tmp 11))), none⟩,
.op ⟨(some 42), (.pure (.nilc (.tmp 41))), none⟩,
.op ⟨(some 43), (.pure (.fieldAddr 5 (.tmp 42))), none⟩,
.op ⟨(some 44), (.load none (.tmp 43)), none⟩,
.op ⟨(some 40), (.pure (.mv (.tmp 44))), none⟩])
(.cond (.tmp 40)
(.ops [
.op ⟨(some 45), (.pure (.mv (.tmp 8))), none⟩,
.op ⟨(some 46), (.pure (.idx 1 (.tmp 45) (.const (.int .i64 (2))))), none⟩,
.op ⟨(some 47), (.load none (.tmp 46)), none⟩,
.op ⟨(some 48), (.pure (.bin .add (.tmp 47) (.const (.int .i64 (1))))), none⟩,
.op ⟨(some 49), (.pure (.idx 1 (.tmp 45) (.const (.int .i64 (2))))), none⟩,
.op ⟨none, (.eff (.store 1 (.tmp 49) (.tmp 48))), none⟩])
(.seq (.draw false
(.take ⟨(some 51), (.pure (.mv (.tmp 1))), none⟩
(.take ⟨(some 52), (.pure (.mv (.tmp 11))), none⟩
(.take ⟨(some 53), (.pure (.nilc (.tmp 52))), none⟩
(.take ⟨(some 54), (.pure (.fieldAddr 2 (.tmp 53))), none⟩
(.take ⟨(some 56), (.pure (.fieldAddr 0 (.tmp 3))), none⟩
(.only false ⟨(some 55), (.load none (.tmp 54)), none⟩
(.only false ⟨(some 57), (.load none (.tmp 56)), none⟩
(.take ⟨(some 58), (.pure (.bin .sub (.tmp 57) (.const (.int .i64 (1))))), none⟩
(.take ⟨(some 59), (.pure (.idx 1 (.tmp 55) (.tmp 58))), none⟩
(.only false ⟨(some 60), (.load none (.tmp 59)), none⟩
(.only true ⟨(some 61), (.eff (.call 66 [(.tmp 51), (.tmp 60)])), none⟩
(.take ⟨(some 62), (.pure (.len (.tmp 61))), none⟩
(.take ⟨(some 63), (.pure (.bin .gtr (.tmp 62) (.const (.int .i64 (0))))), none⟩
(.take ⟨(some 50), (.pure (.mv (.tmp 63))), none⟩
(.done))))))))))))))))
(.cond (.tmp 50)
(.ops [
.op ⟨(some 64), (.pure (.mv (.tmp 8))), none⟩,
.op ⟨(some 65), (.pure (.idx 1 (.tmp 64) (.const (.int .i64 (1))))), none⟩,
.op ⟨(some 66), (.load none (.tmp 65)), none⟩,
.op ⟨(some 67), (.pure (.bin .add (.tmp 66) (.const (.int .i64 (1))))), none⟩,
.op ⟨(some 68), (.pure (.idx 1 (.tmp 64) (.const (.int .i64 (1))))), none⟩,
.op ⟨none, (.eff (.store 1 (.tmp 68) (.tmp 67))), none⟩])
(.ops [
.op ⟨(some 35), (.pure (.mv (.tmp 8))), none⟩,
.op ⟨(some 36), (.pure (.idx 1 (.tmp 35) (.const (.int .i64 (0))))), none⟩,
.op ⟨(some 37), (.load none (.tmp 36)), none⟩,
.op ⟨(some 38), (.pure (.bin .add (.tmp 37) (.const (.int .i64 (1))))), none⟩,
.op ⟨(some 39), (.pure (.idx 1 (.tmp 35) (.const (.int .i64 (0))))), none⟩,
.op ⟨none, (.eff (.store 1 (.tmp 39) (.tmp 38))), none⟩]))))))))))
(.ops [
.op ⟨(some 69), (.pure (.bin .add (.tmp 24) (.const (.int .i64 (1))))), none⟩,
.op ⟨(some 24), (.pure (.mv (.tmp 69))), none⟩])))))))
(.seq (.ops [
.op ⟨(some 70), (.pure (.mv (.tmp 8))), none⟩,
.op ⟨(some 6), (.pure (.mv (.tmp 70))), none⟩,
.op ⟨(some 7), (.pure (.mv (.const (.bool true)))), none⟩])
(.ret))))),
[.tmp 6, .tmp 7]⟩
theorem r_spec_LineTable : resFun Try.prog f_spec_LineTable = some c_spec_LineTable := by kernel_rfl

/- loop.example/g00940/laws.toIntSS -/
abbrev f_laws_toIntSS : Nat := 40
def c_laws_toIntSS : MFun := ⟨23, .seq (.ops [
.op ⟨(some 2), (.pure (.mv (.const (.slice none 0 0)))), none⟩])
(.seq (.ops [
.op ⟨(some 5), (.pure (.mv (.tmp 0))), none⟩,
.op ⟨(some 6), (.pure (.len (.tmp 5))), none⟩,
.op ⟨(some 7), (.eff (.mk 31 1 24 [(.slice none 0 0)] (.tmp 6) (.tmp 6))), none⟩,
.op ⟨(some 3), (.pure (.mv (.tmp 7))), none⟩])
(.seq (.seq (.ops [
.op ⟨(some 4), (.pure (.mv (.const (.int .i64 (0))))), none⟩])
(.block 0 (.loop (.seq (.seq (.ops [
.op ⟨(some 8), (.pure (.mv (.tmp 4))), none⟩,
.op ⟨(some 9), (.pure (.mv (.tmp 0))), none⟩,
.op ⟨(some 10), (.pure (.len (.tmp 9))), none⟩,
.op ⟨(some 11), (.pure (.bin .lss (.tmp 8) (.tmp 10))), none⟩])
(.cond (.tmp 11)
(.skip)
(.exit 0)))
(.seq (.block 1 (.ops [
.op ⟨(some 14), (.pure (.mv (.tmp 3))), none⟩,
.op ⟨(some 15), (.pure (.mv (.tmp 4))), none⟩,
.op ⟨(some 16), (.pure (.mv (.tmp 0))), none⟩,
.op ⟨(some 17), (.pure (.mv (.tmp 4))), none⟩,
.op ⟨(some 18), (.pure (.idx 1 (.tmp 16) (.tmp 17))), none⟩,
.op ⟨(some 19), (.load none (.tmp 18)), none⟩,
.op ⟨(some 20), (.eff (.call 21 [(.tmp 19)])), none⟩,
.op ⟨(some 21), (.pure (.idx 1 (.tmp 14) (.tmp 15))), none⟩,
.op ⟨none, (.eff (.store 1 (.tmp 21) (.tmp 20))), none⟩]))
(.ops [
.op ⟨(some 12), (.pure (.mv (.tmp 4))), none⟩,
.op ⟨(some 13), (.pure (.bin .add (.tmp 12) (.const (.int .i64 (1))))), none⟩,
.op ⟨(some 4), (.pure (.mv (.tmp 13))), none⟩]))))))
(.seq (.ops [
.op ⟨(some 22), (.pure (.mv (.tmp 3))), none⟩,
.op ⟨(some 2), (.pure (.mv (.tmp 22))), none⟩])
(.ret)))),
[.tmp 2]⟩
theorem r_laws_toIntSS : resFun Try.prog f_laws_toIntSS = some c_laws_toIntSS := by kernel_rfl

/- loop.example/g00940/impl.LineTable -/
abbrev f_impl_LineTable : Nat := 41
def c_impl_LineTable : MFun := ⟨68, .seq (.ops [
.op ⟨(some 3), (.eff (.box 25 (.tmp 0))), none⟩,
.op ⟨(some 6), (.pure (.mv (.const (.slice none 0 0)))), none⟩,
.op ⟨(some 7), (.pure (.mv (.const (.bool false)))), none⟩])
(.seq (.seq (.ops [
.op ⟨(some 12), (.pure (.mv (.tmp 2))), none⟩,
.op ⟨(some 13), (.pure (.len (.tmp 12))), none⟩,
.op ⟨(some 14), (.pure (.bin .gtr (.tmp 13) (.const (.int .i64 (10))))), none⟩,
.op ⟨(some 15), (.pure (.mv (.tmp 14))), none⟩,
.split 15,
.op ⟨(some 16), (.load (some 2) (.tmp 3)), (some (15, false))⟩,
.op ⟨(some 17), (.pure (.mv (.tmp 1))), (some (15, false))⟩,
.op ⟨(some 18), (.eff (.call 64 [(.tmp 16), (.tmp 17), (.const (.slice none 0 0))])), (some (15, false))⟩,
.op ⟨(some 19), (.pure (.bnot (.tmp 18))), (some (15, false))⟩,
.op ⟨(some 20), (.pure (.pick (.tmp 15) (.const (.bool true)) (.tmp 19))), none⟩])
(.cond (.tmp 20)
(.seq (.ops [
.op ⟨(some 6), (.pure (.mv (.const (.slice none 0 0)))), none⟩,
.op ⟨(some 7), (.pure (.mv (.const (.bool false)))), none⟩])
(.ret))
(.skip)))
(.seq (.ops [
.op ⟨(some 21), (.eff (.mk 3 1 8 [(.int .i64 (0))] (.const (.int .i64 (3))) (.const (.int .i64 (3))))), none⟩,
.op ⟨(some 8), (.pure (.mv (.tmp 21))), none⟩])
(.seq (.seq (.ops [
.op ⟨(some 22), (.pure (.mv (.tmp 2))), none⟩,
.op ⟨(some 23), (.pure (.len (.tmp 22))), none⟩,
.op ⟨(some 24), (.pure (.mv (.const (.int .i64 (0))))), none⟩])
(.block 0 (.loop (.seq (.ops [
.op ⟨(some 25), (.pure (.bin .lss (.tmp 24) (.tmp 23))), none⟩])
(.seq (.cond (.tmp 25)
(.skip)
(.exit 0))
(.seq (.block 1 (.seq (.ops [
.op ⟨(some 26), (.pure (.idx 1 (.tmp 22) (.tmp 24))), none⟩,
.op ⟨(some 27), (.load none (.tmp 26)), none⟩,
.op ⟨(some 10), (.pure (.mv (.tmp 27))), none⟩])
(.seq (.seq (.ops [
.op ⟨(some 28), (.pure (.mv (.tmp 10))), none⟩,
.op ⟨(some 29), (.eff (.call 60 [(.tmp 28)])), none⟩,
.op ⟨(some 30), (.pure (.bnot (.tmp 29))), none⟩])
(.cond (.tmp 30)
(.seq (.ops [
.op ⟨(some 6), (.pure (.mv (.const (.slice none 0 0)))), none⟩,
.op ⟨(some 7), (.pure (.mv (.const (.bool false)))), none⟩])
(.ret))
(.skip)))
(.seq (.ops [
.op ⟨(some 31), (.load (some 2) (.tmp 3)), none⟩,
.op ⟨(some 32), (.pure (.mv (.tmp 1))), none⟩,
.op ⟨(some 33), (.pure (.mv (.tmp 10))), none⟩,
.op ⟨(some 34), (.eff (.call 65 [(.tmp 31), (.tmp 32), (.tmp 33)])), none⟩,
.op ⟨(some 11), (.eff (.new 75 [(.slice none 0 0), (.int .i64 (0)), (.int .i64 (0)), (.int .i64 (0))])), none⟩,
.op ⟨none, (.eff (.store 4 (.tmp 11) (.tmp 34))), none⟩])
(.block 2 (.seq (.ops [
.op ⟨(some 41), (.pure (.fieldAddr 2 (.tmp 11))), none⟩,
.op ⟨(some 42), (.load none (.tmp 41)), none⟩,
.op ⟨(some 43), (.pure (.bin .geq (.tmp 42) (.const (.int .i64 (0))))), none⟩,
.op ⟨(some 40), (.pure (.mv (.tmp 43))), none⟩])
(.cond (.tmp 40)
(.ops [
.op ⟨(some 44), (.pure (.mv (.tmp 8))), none⟩,
.op ⟨(some 45), (.pure (.idx 1 (.tmp 44) (.const (.int .i64 (2))))), none⟩,
.op ⟨(some 46), (.load none (.tmp 45)), none⟩,
.op ⟨(some 47), (.pure (.bin .add (.tmp 46) (.const (.int .i64 (1))))), none⟩,
.op ⟨(some 48), (.pure (.idx 1 (.tmp 44) (.const (.int .i64 (2))))), none⟩,
.op ⟨none, (.eff (.store 1 (.tmp 48) (.tmp 47))), none⟩])
(.seq (.ops [
.op ⟨(some 50), (.pure (.fieldAddr 0 (.tmp 11))), none⟩,
.op ⟨(some 51), (.load none (.tmp 50)), none⟩,
.op ⟨(some 52), (.pure (.fieldAddr 0 (.tmp 3))), none⟩,
.op ⟨(some 53), (.load none (.tmp 52)), none⟩,
.op ⟨(some 54), (.pure (.bin .sub (.tmp 53) (.const (.int .i64 (1))))), none⟩,
.op ⟨(some 55), (.pure (.idx 1 (.tmp 51) (.tmp 54))), none⟩,
.op ⟨(some 56), (.load none (.tmp 55)), none⟩,
.op ⟨(some 57), (.pure (.mv (.tmp 1))), none⟩,
.op ⟨(some 58), (.eff (.call 67 [(.tmp 56), (.tmp 57)])), none⟩,
.op ⟨(some 59), (.pure (.len (.tmp 58))), none⟩,
.op ⟨(some 60), (.pure (.bin .gtr (.tmp 59) (.const (.int .i64 (0))))), none⟩,
.op ⟨(some 49), (.pure (.mv (.tmp 60))), none⟩])
(.cond (.tmp 49)
(.ops [
.op ⟨(some 61), (.pure (.mv (.tmp 8))), none⟩,
.op ⟨(some 62), (.pure (.idx 1 (.tmp 61) (.const (.int .i64 (1))))), none⟩,
.op ⟨(some 63), (.load none (.tmp 62)), none⟩,
.op ⟨(some 64), (.pure (.bin .add (.tmp 63) (.const (.int .i64 (1))))), none⟩,
.op ⟨(some 65), (.pure (.idx 1 (.tmp 61) (.const (.int .i64 (1))))), none⟩,
.op ⟨none, (.eff (.store 1 (.tmp 65) (.tmp 64))), none⟩])
(.ops [
.op ⟨(some 35), (.pure (.mv (.tmp 8))), none⟩,
.op ⟨(some 36), (.pure (.idx 1 (.tmp 35) (.const (.int .i64 (0))))), none⟩,
.op ⟨(some 37), (.load none (.tmp 36)), none⟩,
.op ⟨(some 38), (.pure (.bin .add (.tmp 37) (.const (.int .i64 (1))))), none⟩,
.op ⟨(some 39), (.pure (.idx 1 (.tmp 35) (.const (.int .i64 (0))))), none⟩,
.op ⟨none, (.eff (.store 1 (.tmp 39) (.tmp 38))), none⟩]))))))))))
(.ops [
.op ⟨(some 66), (.pure (.bin .add (.tmp 24) (.const (.int .i64 (1))))), none⟩,
.op ⟨(some 24), (.pure (.mv (.tmp 66))), none⟩])))))))
(.seq (.ops [
.op ⟨(some 67), (.pure (.mv (.tmp 8))), none⟩,
.op ⟨(some 6), (.pure (.mv (.tmp 67))), none⟩,
.op ⟨(some 7), (.pure (.mv (.const (.bool true)))), none⟩])
(.ret))))),
[.tmp 6, .tmp 7]⟩
theorem r_impl_LineTable : resFun Try.prog f_impl_LineTable = some c_impl_LineTable := by kernel_rfl

/- loop.example/g00940/laws.eqIntSS -/
abbrev f_laws_eqIntSS : Nat := 42
def c_laws_eqIntSS : MFun := ⟨27, .seq (.ops [
.op ⟨(some 4), (.pure (.mv (.const (.bool false)))), none⟩])
(.seq (.seq (.ops [
.op ⟨(some 6), (.pure (.mv (.tmp 0))), none⟩,
.op ⟨(some 7), (.pure (.len (.tmp 6))), none⟩,
.op ⟨(some 8), (.pure (.mv (.tmp 1))), none⟩,
.op ⟨(some 9), (.pure (.len (.tmp 8))), none⟩,
.op ⟨(some 10), (.pure (.bin .neq (.tmp 7) (.tmp 9))), none⟩])
(.cond (.tmp 10)
(.seq (.ops [
.op ⟨(some 4), (.pure (.mv (.const (.bool false)))), none⟩])
(.ret))
(.skip)))
(.seq (.seq (.ops [
.op ⟨(some 5), (.pure (.mv (.const (.int .i64 (0))))), none⟩])
(.block 0 (.loop (.seq (.seq (.ops [
.op ⟨(some 11), (.pure (.mv (.tmp 5))), none⟩,
.op ⟨(some 12), (.pure (.mv (.tmp 0))), none⟩,
.op ⟨(some 13), (.pure (.len (.tmp 12))), none⟩,
.op ⟨(some 14), (.pure (.bin .lss (.tmp 11) (.tmp 13))), none⟩])
(.cond (.tmp 14)
(.skip)
(.exit 0)))
(.seq (.block 1 (.seq (.draw false
(.take ⟨(some 17), (.pure (.mv (.tmp 0))), none⟩
(.take ⟨(some 18), (.pure (.mv (.tmp 5))), none⟩
(.take ⟨(some 19), (.pure (.idx 1 (.tmp 17) (.tmp 18))), none⟩
(.take ⟨(some 21), (.pure (.mv (.tmp 1))), none⟩
(.take ⟨(some 22), (.pure (.mv (.tmp 5))), none⟩
(.take ⟨(some 23), (.pure (.idx 1 (.tmp 21) (.tmp 22))), none⟩
(.only false ⟨(some 20), (.load none (.tmp 19)), none⟩
(.only false ⟨(some 24), (.load none (.tmp 23)), none⟩
(.only true ⟨(some 25), (.eff (.call 23 [(.tmp 20), (.tmp 24)])), none⟩
(.take ⟨(some 26), (.pure (.bnot (.tmp 25))), none⟩
(.done))))))))))))
(.cond (.tmp 26)
(.seq (.ops [
.op ⟨(some 4), (.pure (.mv (.const (.bool false)))), none⟩])
(.ret))
(.skip))))
(.ops [
.op ⟨(some 15), (.pure (.mv (.tmp 5))), none⟩,
.op ⟨(some 16), (.pure (.bin .add (.tmp 15) (.const (.int .i64 (1))))), none⟩,
.op ⟨(some 5), (.pure (.mv (.tmp 16))), none⟩]))))))
(.seq (.ops [
.op ⟨(some 4), (.pure (.mv (.const (.bool true)))), none⟩])
(.ret)))),
[.tmp 4]⟩
theorem r_laws_eqIntSS : resFun Try.prog f_laws_eqIntSS = some c_laws_eqIntSS := by kernel_rfl

/- loop.example/g00940/laws.markIntSS -/
abbrev f_laws_markIntSS : Nat := 43
def c_laws_markIntSS : MFun := ⟨19, .seq (.ops [
.op ⟨(some 4), (.pure (.mv (.const (.int .i64 (0))))), none⟩])
(.seq (.seq (.ops [
.op ⟨(some 5), (.pure (.mv (.const (.int .i64 (0))))), none⟩])
(.block 0 (.loop (.seq (.seq (.ops [
.op ⟨(some 6), (.pure (.mv (.tmp 5))), none⟩,
.op ⟨(some 7), (.pure (.mv (.tmp 0))), none⟩,
.op ⟨(some 8), (.pure (.len (.tmp 7))), none⟩,
.op ⟨(some 9), (.pure (.bin .lss (.tmp 6) (.tmp 8))), none⟩])
(.cond (.tmp 9)
(.skip)
(.exit 0)))
(.seq (.block 1 (.ops [
.op ⟨(some 12), (.pure (.mv (.tmp 0))), none⟩,
.op ⟨(some 13), (.pure (.mv (.tmp 5))), none⟩,
.op ⟨(some 14), (.pure (.idx 1 (.tmp 12) (.tmp 13))), none⟩,
.op ⟨(some 15), (.load none (.tmp 14)), none⟩,
.op ⟨(some 16), (.pure (.mv (.tmp 1))), none⟩,
.op ⟨(some 17), (.eff (.call 24 [(.tmp 15), (.tmp 16)])), none⟩,
.op ⟨(some 1), (.pure (.mv (.tmp 17))), none⟩]))
(.ops [
.op ⟨(some 10), (.pure (.mv (.tmp 5))), none⟩,
.op ⟨(some 11), (.pure (.bin .add (.tmp 10) (.const (.int .i64 (1))))), none⟩,
.op ⟨(some 5), (.pure (.mv (.tmp 11))), none⟩]))))))
(.seq (.ops [
.op ⟨(some 18), (.pure (.mv (.tmp 1))), none⟩,
.op ⟨(some 4), (.pure (.mv (.tmp 18))), none⟩])
(.ret))),
[.tmp 4]⟩
theorem r_laws_markIntSS : resFun Try.prog f_laws_markIntSS = some c_laws_markIntSS := by kernel_rfl

/- loop.example/g00940/laws.big -/
abbrev f_laws_big : Nat := 44
def c_laws_big : MFun := ⟨16, .seq (.ops [
.op ⟨(some 4), (.pure (.mv (.const (.bool false)))), none⟩])
(.seq (.ops [
.op ⟨(some 5), (.pure (.mv (.tmp 0))), none⟩,
.op ⟨(some 6), (.pure (.len (.tmp 5))), none⟩,
.op ⟨(some 7), (.pure (.bin .gtr (.tmp 6) (.const (.int .i64 (1048576))))), none⟩,
.op ⟨(some 8), (.pure (.mv (.tmp 7))), none⟩,
.split 8,
.op ⟨(some 9), (.pure (.mv (.tmp 1))), (some (8, false))⟩,
.op ⟨(some 10), (.pure (.len (.tmp 9))), (some (8, false))⟩,
.op ⟨(some 11), (.pure (.mv (.tmp 0))), (some (8, false))⟩,
.op ⟨(some 12), (.pure (.len (.tmp 11))), (some (8, false))⟩,
.op ⟨(some 13), (.pure (.bin .sub (.const (.int .i64 (1048576))) (.tmp 12))), (some (8, false))⟩,
.op ⟨(some 14), (.pure (.bin .gtr (.tmp 10) (.tmp 13))), (some (8, false))⟩,
.op ⟨(some 15), (.pure (.pick (.tmp 8) (.const (.bool true)) (.tmp 14))), none⟩,
.op ⟨(some 4), (.pure (.mv (.tmp 15))), none⟩])
(.ret)),
[.tmp 4]⟩
theorem r_laws_big : resFun Try.prog f_laws_big = some c_laws_big := by kernel_rfl

/- loop.example/g00940/spec.DrawPassLine -/
abbrev f_spec_DrawPassLine : Nat := 45
def c_spec_DrawPassLine : MFun := ⟨15, .seq (.ops [
.op ⟨(some 2), (.eff (.new 25 [(.int .i64 (0)), (.int .i64 (0))])), none⟩,
.op ⟨(some 3), (.pure (.mv (.const (.slice none 0 0)))), none⟩,
.op ⟨(some 4), (.pure (.mv (.const (.slice none 0 0)))), none⟩])
(.seq (.ops [
.op ⟨(some 6), (.pure (.mv (.tmp 0))), none⟩,
.op ⟨(some 7), (.pure (.build [(.slice none 0 0), (.int .i64 (0)), (.int .u64 (0))] [(0, 1, (.tmp 6))])), none⟩,
.op ⟨(some 8), (.eff (.box 81 (.tmp 7))), none⟩,
.op ⟨(some 5), (.pure (.mv (.tmp 8))), none⟩])
(.seq (.ops [
.op ⟨(some 9), (.pure (.mv (.tmp 5))), none⟩,
.op ⟨(some 10), (.eff (.call 69 [(.tmp 9)])), none⟩,
.op ⟨(some 11), (.pure (.mv (.tmp 5))), none⟩,
.op ⟨(some 12), (.eff (.call 70 [(.tmp 11)])), none⟩,
.op ⟨(some 13), (.pure (.mv (.tmp 5))), none⟩,
.op ⟨(some 14), (.eff (.call 71 [(.tmp 13)])), none⟩,
.op ⟨none, (.eff (.store 2 (.tmp 2) (.tmp 10))), none⟩,
.op ⟨(some 3), (.pure (.mv (.tmp 12))), none⟩,
.op ⟨(some 4), (.pure (.mv (.tmp 14))), none⟩])
(.ret))),
[.cell 2 (some 2), .tmp 3, .tmp 4]⟩
theorem r_spec_DrawPassLine : resFun Try.prog f_spec_DrawPassLine = some c_spec_DrawPassLine := by kernel_rfl

/- loop.example/g00940/laws.sameInts -/
abbrev f_laws_sameInts : Nat := 46
def c_laws_sameInts : MFun := ⟨26, .seq (.ops [
.op ⟨(some 4), (.pure (.mv (.const (.bool false)))), none⟩])
(.seq (.seq (.ops [
.op ⟨(some 6), (.pure (.mv (.tmp 0))), none⟩,
.op ⟨(some 7), (.pure (.len (.tmp 6))), none⟩,
.op ⟨(some 8), (.pure (.mv (.tmp 1))), none⟩,
.op ⟨(some 9), (.pure (.len (.tmp 8))), none⟩,
.op ⟨(some 10), (.pure (.bin .neq (.tmp 7) (.tmp 9))), none⟩])
(.cond (.tmp 10)
(.seq (.ops [
.op ⟨(some 4), (.pure (.mv (.const (.bool false)))), none⟩])
(.ret))
(.skip)))
(.seq (.seq (.ops [
.op ⟨(some 11), (.pure (.mv (.tmp 0))), none⟩,
.op ⟨(some 12), (.pure (.len (.tmp 11))), none⟩,
.op ⟨(some 13), (.pure (.mv (.const (.int .i64 (0))))), none⟩])
(.block 0 (.loop (.seq (.ops [
.op ⟨(some 14), (.pure (.bin .lss (.tmp 13) (.tmp 12))), none⟩])
(.seq (.cond (.tmp 14)
(.skip)
(.exit 0))
(.seq (.block 1 (.seq (.ops [
.op ⟨(some 15), (.pure (.mv (.tmp 13))), none⟩,
.op ⟨(some 5), (.pure (.mv (.tmp 15))), none⟩])
(.seq (.ops [
.op ⟨(some 16), (.pure (.mv (.tmp 0))), none⟩,
.op ⟨(some 17), (.pure (.mv (.tmp 5))), none⟩,
.op ⟨(some 18), (.pure (.idx 1 (.tmp 16) (.tmp 17))), none⟩,
.op ⟨(some 20), (.pure (.mv (.tmp 1))), none⟩,
.op ⟨(some 21), (.pure (.mv (.tmp 5))), none⟩,
.op ⟨(some 22), (.pure (.idx 1 (.tmp 20) (.tmp 21))), none⟩,
.op ⟨(some 19), (.load none (.tmp 18)), none⟩,
.op ⟨(some 23), (.load none (.tmp 22)), none⟩,
.op ⟨(some 24), (.pure (.bin .neq (.tmp 19) (.tmp 23))), none⟩])
(.cond (.tmp 24)
(.seq (.ops [
.op ⟨(some 4), (.pure (.mv (.const (.bool false)))), none⟩])
(.ret))
(.skip)))))
(.ops [
.op ⟨(some 25), (.pure (.bin .add (.tmp 13) (.const (.int .i64 (1))))), none⟩,
.op ⟨(some 13), (.pure (.mv (.tmp 25))), none⟩])))))))
(.seq (.ops [
.op ⟨(some 4), (.pure (.mv (.const (.bool true)))), none⟩])
(.ret)))),
[.tmp 4]⟩
theorem r_laws_sameInts : resFun Try.prog f_laws_sameInts = some c_laws_sameInts := by kernel_rfl

/- loop.example/g00940/spec.DrawPlainCount -/
abbrev f_spec_DrawPlainCount : Nat := 47
def c_spec_DrawPlainCount : MFun := ⟨16, .seq (.ops [
.op ⟨(some 2), (.eff (.new 25 [(.int .i64 (0)), (.int .i64 (0))])), none⟩,
.op ⟨(some 3), (.pure (.mv (.const (.int .i64 (0))))), none⟩])
(.seq (.ops [
.op ⟨(some 5), (.pure (.mv (.tmp 0))), none⟩,
.op ⟨(some 6), (.pure (.build [(.slice none 0 0), (.int .i64 (0)), (.int .u64 (0))] [(0, 1, (.tmp 5))])), none⟩,
.op ⟨(some 7), (.eff (.box 81 (.tmp 6))), none⟩,
.op ⟨(some 4), (.pure (.mv (.tmp 7))), none⟩])
(.seq (.ops [
.op ⟨(some 8), (.pure (.mv (.tmp 4))), none⟩,
.op ⟨(some 9), (.eff (.call 69 [(.tmp 8)])), none⟩,
.op ⟨(some 10), (.pure (.mv (.tmp 4))), none⟩,
.op ⟨(some 11), (.pure (.mv (.tmp 4))), none⟩,
.op ⟨(some 12), (.eff (.row 3 2 [(.int .i64 (0)), (.int .i64 (0))] [(0, 1, (.const (.int .i64 (21)))), (1, 1, (.const (.int .i64 (-1))))])), none⟩,
.op ⟨(some 13), (.eff (.call 72 [(.tmp 11), (.tmp 12)])), none⟩,
.op ⟨(some 14), (.eff (.row 3 6 [(.int .i64 (0)), (.int .i64 (0)), (.int .i64 (0)), (.int .i64 (0)), (.int .i64 (0)), (.int .i64 (0))] [(0, 1, (.const (.int .i64 (0)))), (1, 1, (.const (.int .i64 (1)))), (2, 1, (.const (.int .i64 (2)))), (3, 1, (.const (.int .i64 (5)))), (4, 1, (.const (.int .i64 (20)))), (5, 1, (.tmp 13))])), none⟩,
.op ⟨(some 15), (.eff (.call 72 [(.tmp 10), (.tmp 14)])), none⟩,
.op ⟨none, (.eff (.store 2 (.tmp 2) (.tmp 9))), none⟩,
.op ⟨(some 3), (.pure (.mv (.tmp 15))), none⟩])
(.ret))),
[.cell 2 (some 2), .tmp 3]⟩
theorem r_spec_DrawPlainCount : resFun Try.prog f_spec_DrawPlainCount = some c_spec_DrawPlainCount := by kernel_rfl

/- loop.example/g00940/spec.DrawHeldAtTower -/
abbrev f_spec_DrawHeldAtTower : Nat := 48
def c_spec_DrawHeldAtTower : MFun := ⟨30, .seq (.ops [
.op ⟨(some 2), (.eff (.new 25 [(.int .i64 (0)), (.int .i64 (0))])), none⟩,
.op ⟨(some 3), (.pure (.mv (.const (.slice none 0 0)))), none⟩,
.op ⟨(some 4), (.pure (.mv (.const (.slice none 0 0)))), none⟩,
.op ⟨(some 5), (.pure (.mv (.const (.int .i64 (0))))), none⟩])
(.seq (.ops [
.op ⟨(some 8), (.pure (.mv (.tmp 0))), none⟩,
.op ⟨(some 9), (.pure (.build [(.slice none 0 0), (.int .i64 (0)), (.int .u64 (0))] [(0, 1, (.tmp 8))])), none⟩,
.op ⟨(some 10), (.eff (.box 81 (.tmp 9))), none⟩,
.op ⟨(some 6), (.pure (.mv (.tmp 10))), none⟩])
(.seq (.ops [
.op ⟨(some 11), (.pure (.mv (.tmp 6))), none⟩,
.op ⟨(some 12), (.eff (.call 69 [(.tmp 11)])), none⟩,
.op ⟨(some 7), (.eff (.new 25 [(.int .i64 (0)), (.int .i64 (0))])), none⟩,
.op ⟨none, (.eff (.store 2 (.tmp 7) (.tmp 12))), none⟩])
(.seq (.draw true
(.take ⟨(some 14), (.pure (.mv (.tmp 6))), none⟩
(.take ⟨(some 16), (.pure (.mv (.tmp 6))), none⟩
(.take ⟨(some 18), (.pure (.mv (.tmp 6))), none⟩
(.take ⟨(some 19), (.pure (.fieldAddr 0 (.tmp 7))), none⟩
(.take ⟨(some 21), (.pure (.mv (.tmp 6))), none⟩
(.take ⟨(some 26), (.pure (.mv (.tmp 6))), none⟩
(.take ⟨(some 13), (.load (some 2) (.tmp 7)), none⟩
(.take ⟨(some 20), (.load none (.tmp 19)), none⟩
(.only false ⟨(some 15), (.eff (.call 70 [(.tmp 14)])), none⟩
(.only false ⟨(some 17), (.eff (.call 71 [(.tmp 16)])), none⟩
(.only false ⟨(some 22), (.eff (.call 73 [(.tmp 21), (.const (.int .i64 (16)))])), none⟩
(.take ⟨(some 23), (.pure (.bin .quo (.tmp 22) (.const (.int .i64 (15))))), none⟩
(.take ⟨(some 24), (.pure (.bin .add (.tmp 20) (.tmp 23))), none⟩
(.only false ⟨(some 25), (.eff (.call 73 [(.tmp 18), (.tmp 24)])), none⟩
(.only false ⟨(some 27), (.eff (.call 73 [(.tmp 26), (.const (.int .i64 (24)))])), none⟩
(.take ⟨(some 28), (.pure (.bin .quo (.tmp 27) (.const (.int .i64 (23))))), none⟩
(.take ⟨(some 29), (.pure (.bin .sub (.tmp 25) (.tmp 28))), none⟩
(.only true ⟨none, (.eff (.store 2 (.tmp 2) (.tmp 13))), none⟩
(.take ⟨(some 3), (.pure (.mv (.tmp 15))), none⟩
(.take ⟨(some 4), (.pure (.mv (.tmp 17))), none⟩
(.take ⟨(some 5), (.pure (.mv (.tmp 29))), none⟩
(.done)))))))))))))))))))))))
(.ret)))),
[.cell 2 (some 2), .tmp 3, .tmp 4, .tmp 5]⟩
theorem r_spec_DrawHeldAtTower : resFun Try.prog f_spec_DrawHeldAtTower = some c_spec_DrawHeldAtTower := by kernel_rfl

/- loop.example/g00940/spec.DrawStuckAt -/
abbrev f_spec_DrawStuckAt : Nat := 49
def c_spec_DrawStuckAt : MFun := ⟨10, .seq (.ops [
.op ⟨(some 2), (.eff (.new 25 [(.int .i64 (0)), (.int .i64 (0))])), none⟩,
.op ⟨(some 3), (.pure (.mv (.const (.slice none 0 0)))), none⟩,
.op ⟨(some 4), (.pure (.mv (.const (.slice none 0 0)))), none⟩])
(.seq (.ops [
.op ⟨(some 5), (.pure (.mv (.tmp 0))), none⟩,
.op ⟨(some 6), (.eff (.call 45 [(.tmp 5)])), none⟩,
.op ⟨(some 7), (.pure (.ext 0 (.tmp 6))), none⟩,
.op ⟨(some 8), (.pure (.ext 1 (.tmp 6))), none⟩,
.op ⟨(some 9), (.pure (.ext 2 (.tmp 6))), none⟩,
.op ⟨none, (.eff (.store 2 (.tmp 2) (.tmp 7))), none⟩,
.op ⟨(some 3), (.pure (.mv (.tmp 8))), none⟩,
.op ⟨(some 4), (.pure (.mv (.tmp 9))), none⟩])
(.ret)),
[.cell 2 (some 2), .tmp 3, .tmp 4]⟩
theorem r_spec_DrawStuckAt : resFun Try.prog f_spec_DrawStuckAt = some c_spec_DrawStuckAt := by kernel_rfl

/- loop.example/g00940/spec.DrawLeastLineTries -/
abbrev f_spec_DrawLeastLineTries : Nat := 50
def c_spec_DrawLeastLineTries : MFun := ⟨10, .seq (.ops [
.op ⟨(some 2), (.eff (.new 25 [(.int .i64 (0)), (.int .i64 (0))])), none⟩,
.op ⟨(some 3), (.pure (.mv (.const (.slice none 0 0)))), none⟩,
.op ⟨(some 4), (.pure (.mv (.const (.slice none 0 0)))), none⟩])
(.seq (.ops [
.op ⟨(some 5), (.pure (.mv (.tmp 0))), none⟩,
.op ⟨(some 6), (.eff (.call 45 [(.tmp 5)])), none⟩,
.op ⟨(some 7), (.pure (.ext 0 (.tmp 6))), none⟩,
.op ⟨(some 8), (.pure (.ext 1 (.tmp 6))), none⟩,
.op ⟨(some 9), (.pure (.ext 2 (.tmp 6))), none⟩,
.op ⟨none, (.eff (.store 2 (.tmp 2) (.tmp 7))), none⟩,
.op ⟨(some 3), (.pure (.mv (.tmp 8))), none⟩,
.op ⟨(some 4), (.pure (.mv (.tmp 9))), none⟩])
(.ret)),
[.cell 2 (some 2), .tmp 3, .tmp 4]⟩
theorem r_spec_DrawLeastLineTries : resFun Try.prog f_spec_DrawLeastLineTries = some c_spec_DrawLeastLineTries := by kernel_rfl

/- loop.example/g00940/spec.DrawWithPattern -/
abbrev f_spec_DrawWithPattern : Nat := 51
def c_spec_DrawWithPattern : MFun := ⟨27, .seq (.ops [
.op ⟨(some 2), (.pure (.mv (.const (.slice none 0 0)))), none⟩,
.op ⟨(some 3), (.pure (.mv (.const (.int .i64 (0))))), none⟩,
.op ⟨(some 4), (.pure (.mv (.const (.int .i64 (0))))), none⟩])
(.seq (.ops [
.op ⟨(some 7), (.pure (.mv (.tmp 0))), none⟩,
.op ⟨(some 8), (.pure (.build [(.slice none 0 0), (.int .i64 (0)), (.int .u64 (0))] [(0, 1, (.tmp 7))])), none⟩,
.op ⟨(some 9), (.eff (.box 81 (.tmp 8))), none⟩,
.op ⟨(some 5), (.pure (.mv (.tmp 9))), none⟩])
(.seq (.ops [
.op ⟨(some 10), (.pure (.mv (.tmp 5))), none⟩,
.op ⟨(some 11), (.eff (.call 71 [(.tmp 10)])), none⟩,
.op ⟨(some 6), (.pure (.mv (.tmp 11))), none⟩])
(.seq (.ops [
.op ⟨(some 12), (.pure (.mv (.tmp 6))), none⟩,
.op ⟨(some 13), (.pure (.mv (.tmp 5))), none⟩,
.op ⟨(some 14), (.pure (.mv (.tmp 6))), none⟩,
.op ⟨(some 15), (.pure (.len (.tmp 14))), none⟩,
.op ⟨(some 16), (.pure (.mv (.tmp 5))), none⟩,
.op ⟨(some 17), (.eff (.row 3 2 [(.int .i64 (0)), (.int .i64 (0))] [(0, 1, (.const (.int .i64 (200)))), (1, 1, (.const (.int .i64 (-1))))])), none⟩,
.op ⟨(some 18), (.eff (.call 72 [(.tmp 16), (.tmp 17)])), none⟩,
.op ⟨(some 19), (.eff (.row 3 6 [(.int .i64 (0)), (.int .i64 (0)), (.int .i64 (0)), (.int .i64 (0)), (.int .i64 (0)), (.int .i64 (0))] [(0, 1, (.const (.int .i64 (0)))), (1, 1, (.const (.int .i64 (1)))), (2, 1, (.const (.int .i64 (5)))), (3, 1, (.tmp 15)), (4, 1, (.const (.int .i64 (199)))), (5, 1, (.tmp 18))])), none⟩,
.op ⟨(some 20), (.eff (.call 72 [(.tmp 13), (.tmp 19)])), none⟩,
.op ⟨(some 21), (.pure (.mv (.tmp 5))), none⟩,
.op ⟨(some 22), (.pure (.mv (.tmp 5))), none⟩,
.op ⟨(some 23), (.eff (.row 3 2 [(.int .i64 (0)), (.int .i64 (0))] [(0, 1, (.const (.int .i64 (64)))), (1, 1, (.const (.int .i64 (-1))))])), none⟩,
.op ⟨(some 24), (.eff (.call 72 [(.tmp 22), (.tmp 23)])), none⟩,
.op ⟨(some 25), (.eff (.row 3 4 [(.int .i64 (0)), (.int .i64 (0)), (.int .i64 (0)), (.int .i64 (0))] [(0, 1, (.const (.int .i64 (0)))), (1, 1, (.const (.int .i64 (1)))), (2, 1, (.const (.int .i64 (63)))), (3, 1, (.tmp 24))])), none⟩,
.op ⟨(some 26), (.eff (.call 72 [(.tmp 21), (.tmp 25)])), none⟩,
.op ⟨(some 2), (.pure (.mv (.tmp 12))), none⟩,
.op ⟨(some 3), (.pure (.mv (.tmp 20))), none⟩,
.op ⟨(some 4), (.pure (.mv (.tmp 26))), none⟩])
(.ret)))),
[.tmp 2, .tmp 3, .tmp 4]⟩
theorem r_spec_DrawWithPattern : resFun Try.prog f_spec_DrawWithPattern = some c_spec_DrawWithPattern := by kernel_rfl

/- loop.example/g00940/spec.DrawLineTable -/
abbrev f_spec_DrawLineTable : Nat := 52
def c_spec_DrawLineTable : MFun := ⟨36, .seq (.ops [
.op ⟨(some 2), (.eff (.new 25 [(.int .i64 (0)), (.int .i64 (0))])), none⟩,
.op ⟨(some 3), (.pure (.mv (.const (.slice none 0 0)))), none⟩,
.op ⟨(some 4), (.pure (.mv (.const (.slice none 0 0)))), none⟩])
(.seq (.ops [
.op ⟨(some 10), (.pure (.mv (.tmp 0))), none⟩,
.op ⟨(some 11), (.pure (.build [(.slice none 0 0), (.int .i64 (0)), (.int .u64 (0))] [(0, 1, (.tmp 10))])), none⟩,
.op ⟨(some 12), (.eff (.box 81 (.tmp 11))), none⟩,
.op ⟨(some 5), (.pure (.mv (.tmp 12))), none⟩])
(.seq (.ops [
.op ⟨(some 13), (.pure (.mv (.tmp 5))), none⟩,
.op ⟨(some 14), (.eff (.call 69 [(.tmp 13)])), none⟩,
.op ⟨(some 15), (.pure (.mv (.tmp 5))), none⟩,
.op ⟨(some 16), (.eff (.call 70 [(.tmp 15)])), none⟩,
.op ⟨(some 6), (.eff (.new 25 [(.int .i64 (0)), (.int .i64 (0))])), none⟩,
.op ⟨none, (.eff (.store 2 (.tmp 6) (.tmp 14))), none⟩,
.op ⟨(some 7), (.pure (.mv (.tmp 16))), none⟩])
(.seq (.ops [
.op ⟨(some 8), (.pure (.mv (.const (.slice none 0 0)))), none⟩])
(.seq (.ops [
.op ⟨(some 17), (.pure (.mv (.tmp 5))), none⟩,
.op ⟨(some 18), (.eff (.call 73 [(.tmp 17), (.const (.int .i64 (5)))])), none⟩,
.op ⟨(some 9), (.pure (.mv (.tmp 18))), none⟩])
(.seq (.seq (.ops [
.op ⟨(some 19), (.pure (.mv (.tmp 5))), none⟩,
.op ⟨(some 20), (.eff (.call 74 [(.tmp 19), (.const (.int .i64 (20)))])), none⟩])
(.cond (.tmp 20)
(.ops [
.op ⟨(some 21), (.pure (.mv (.tmp 5))), none⟩,
.op ⟨(some 22), (.eff (.call 73 [(.tmp 21), (.const (.int .i64 (2)))])), none⟩,
.op ⟨(some 23), (.pure (.bin .add (.const (.int .i64 (10))) (.tmp 22))), none⟩,
.op ⟨(some 9), (.pure (.mv (.tmp 23))), none⟩])
(.skip)))
(.seq (.block 0 (.loop (.seq (.seq (.ops [
.op ⟨(some 24), (.pure (.mv (.tmp 8))), none⟩,
.op ⟨(some 25), (.pure (.len (.tmp 24))), none⟩,
.op ⟨(some 26), (.pure (.mv (.tmp 9))), none⟩,
.op ⟨(some 27), (.pure (.bin .lss (.tmp 25) (.tmp 26))), none⟩])
(.cond (.tmp 27)
(.skip)
(.exit 0)))
(.block 1 (.ops [
.op ⟨(some 28), (.pure (.mv (.tmp 8))), none⟩,
.op ⟨(some 29), (.pure (.mv (.tmp 5))), none⟩,
.op ⟨(some 30), (.eff (.call 71 [(.tmp 29)])), none⟩,
.op ⟨(some 31), (.eff (.row 31 1 [(.slice none 0 0)] [(0, 1, (.tmp 30))])), none⟩,
.op ⟨(some 32), (.eff (.app 31 1 24 (.tmp 28) (.tmp 31))), none⟩,
.op ⟨(some 8), (.pure (.mv (.tmp 32))), none⟩])))))
(.seq (.ops [
.op ⟨(some 33), (.load (some 2) (.tmp 6)), none⟩,
.op ⟨(some 34), (.pure (.mv (.tmp 7))), none⟩,
.op ⟨(some 35), (.pure (.mv (.tmp 8))), none⟩,
.op ⟨none, (.eff (.store 2 (.tmp 2) (.tmp 33))), none⟩,
.op ⟨(some 3), (.pure (.mv (.tmp 34))), none⟩,
.op ⟨(some 4), (.pure (.mv (.tmp 35))), none⟩])
(.ret)))))))),
[.cell 2 (some 2), .tmp 3, .tmp 4]⟩
theorem r_spec_DrawLineTable : resFun Try.prog f_spec_DrawLineTable = some c_spec_DrawLineTable := by kernel_rfl

/- loop.example/g00940/laws.pSum -/
abbrev f_laws_pSum : Nat := 53
def c_laws_pSum : MFun := ⟨17, .seq (.ops [
.op ⟨(some 2), (.pure (.mv (.const (.int .i64 (0))))), none⟩])
(.seq (.ops [
.op ⟨(some 3), (.pure (.mv (.const (.int .i64 (0))))), none⟩])
(.seq (.seq (.ops [
.op ⟨(some 6), (.pure (.mv (.tmp 0))), none⟩,
.op ⟨(some 7), (.pure (.len (.tmp 6))), none⟩,
.op ⟨(some 8), (.pure (.mv (.const (.int .i64 (0))))), none⟩])
(.block 0 (.loop (.seq (.ops [
.op ⟨(some 9), (.pure (.bin .lss (.tmp 8) (.tmp 7))), none⟩])
(.seq (.cond (.tmp 9)
(.skip)
(.exit 0))
(.seq (.block 1 (.seq (.ops [
.op ⟨(some 10), (.pure (.idx 1 (.tmp 6) (.tmp 8))), none⟩,
.op ⟨(some 11), (.load none (.tmp 10)), none⟩,
.op ⟨(some 5), (.pure (.mv (.tmp 11))), none⟩])
(.ops [
.op ⟨(some 12), (.pure (.mv (.tmp 3))), none⟩,
.op ⟨(some 13), (.pure (.mv (.tmp 5))), none⟩,
.op ⟨(some 14), (.pure (.bin .add (.tmp 12) (.tmp 13))), none⟩,
.op ⟨(some 3), (.pure (.mv (.tmp 14))), none⟩])))
(.ops [
.op ⟨(some 15), (.pure (.bin .add (.tmp 8) (.const (.int .i64 (1))))), none⟩,
.op ⟨(some 8), (.pure (.mv (.tmp 15))), none⟩])))))))
(.seq (.ops [
.op ⟨(some 16), (.pure (.mv (.tmp 3))), none⟩,
.op ⟨(some 2), (.pure (.mv (.tmp 16))), none⟩])
(.ret)))),
[.tmp 2]⟩
theorem r_laws_pSum : resFun Try.prog f_laws_pSum = some c_laws_pSum := by kernel_rfl

/- loop.example/g00940/spec.liLine -/
abbrev f_spec_liLine : Nat := 54
def c_spec_liLine : MFun := ⟨11, .seq (.ops [
.op ⟨(some 1), (.eff (.box 25 (.tmp 0))), none⟩,
.op ⟨(some 2), (.pure (.mv (.const (.bool false)))), none⟩])
(.seq (.ops [
.op ⟨(some 3), (.pure (.fieldAddr 0 (.tmp 1))), none⟩,
.op ⟨(some 4), (.load none (.tmp 3)), none⟩,
.op ⟨(some 5), (.eff (.call 56 [(.tmp 4), (.const (.int .i64 (2))), (.const (.int .i64 (10)))])), none⟩,
.op ⟨(some 6), (.pure (.mv (.tmp 5))), none⟩,
.split 6,
.op ⟨(some 7), (.pure (.fieldAddr 1 (.tmp 1))), (some (6, true))⟩,
.op ⟨(some 8), (.load none (.tmp 7)), (some (6, true))⟩,
.op ⟨(some 9), (.eff (.call 56 [(.tmp 8), (.const (.int .i64 (1))), (.const (.int .i64 (5)))])), (some (6, true))⟩,
.op ⟨(some 10), (.pure (.pick (.tmp 6) (.tmp 9) (.const (.bool false)))), none⟩,
.op ⟨(some 2), (.pure (.mv (.tmp 10))), none⟩])
(.ret)),
[.tmp 2]⟩
theorem r_spec_liLine : resFun Try.prog f_spec_liLine = some c_spec_liLine := by kernel_rfl

/- loop.example/g00940/impl.within -/
abbrev f_impl_within : Nat := 55
def c_impl_within : MFun := ⟨15, .seq (.ops [
.op ⟨(some 6), (.pure (.mv (.const (.bool false)))), none⟩])
(.seq (.ops [
.op ⟨(some 7), (.pure (.mv (.tmp 0))), none⟩,
.op ⟨(some 8), (.pure (.mv (.tmp 1))), none⟩,
.op ⟨(some 9), (.pure (.bin .geq (.tmp 7) (.tmp 8))), none⟩,
.op ⟨(some 10), (.pure (.mv (.tmp 9))), none⟩,
.split 10,
.op ⟨(some 11), (.pure (.mv (.tmp 0))), (some (10, true))⟩,
.op ⟨(some 12), (.pure (.mv (.tmp 2))), (some (10, true))⟩,
.op ⟨(some 13), (.pure (.bin .leq (.tmp 11) (.tmp 12))), (some (10, true))⟩,
.op ⟨(some 14), (.pure (.pick (.tmp 10) (.tmp 13) (.const (.bool false)))), none⟩,
.op ⟨(some 6), (.pure (.mv (.tmp 14))), none⟩])
(.ret)),
[.tmp 6]⟩
theorem r_impl_within : resFun Try.prog f_impl_within = some c_impl_within := by kernel_rfl

/- loop.example/g00940/spec.l1In -/
abbrev f_spec_l1In : Nat := 56
def c_spec_l1In : MFun := ⟨15, .seq (.ops [
.op ⟨(some 6), (.pure (.mv (.const (.bool false)))), none⟩])
(.seq (.ops [
.op ⟨(some 7), (.pure (.mv (.tmp 0))), none⟩,
.op ⟨(some 8), (.pure (.mv (.tmp 1))), none⟩,
.op ⟨(some 9), (.pure (.bin .geq (.tmp 7) (.tmp 8))), none⟩,
.op ⟨(some 10), (.pure (.mv (.tmp 9))), none⟩,
.split 10,
.op ⟨(some 11), (.pure (.mv (.tmp 0))), (some (10, true))⟩,
.op ⟨(some 12), (.pure (.mv (.tmp 2))), (some (10, true))⟩,
.op ⟨(some 13), (.pure (.bin .leq (.tmp 11) (.tmp 12))), (some (10, true))⟩,
.op ⟨(some 14), (.pure (.pick (.tmp 10) (.tmp 13) (.const (.bool false)))), none⟩,
.op ⟨(some 6), (.pure (.mv (.tmp 14))), none⟩])
(.ret)),
[.tmp 6]⟩
theorem r_spec_l1In : resFun Try.prog f_spec_l1In = some c_spec_l1In := by kernel_rfl

/- loop.example/g00940/spec.liScript -/
abbrev f_spec_liScript : Nat := 57
def c_spec_liScript : MFun := ⟨10, .seq (.ops [
.op ⟨(some 2), (.pure (.mv (.const (.bool false)))), none⟩])
(.seq (.ops [
.op ⟨(some 3), (.pure (.mv (.tmp 0))), none⟩,
.op ⟨(some 4), (.pure (.len (.tmp 3))), none⟩,
.op ⟨(some 5), (.pure (.bin .leq (.tmp 4) (.const (.int .i64 (200))))), none⟩,
.op ⟨(some 6), (.pure (.mv (.tmp 5))), none⟩,
.split 6,
.op ⟨(some 7), (.pure (.mv (.tmp 0))), (some (6, true))⟩,
.op ⟨(some 8), (.eff (.call 75 [(.tmp 7), (.const (.int .i64 (0))), (.const (.int .i64 (63)))])), (some (6, true))⟩,
.op ⟨(some 9), (.pure (.pick (.tmp 6) (.tmp 8) (.const (.bool false)))), none⟩,
.op ⟨(some 2), (.pure (.mv (.tmp 9))), none⟩])
(.ret)),
[.tmp 2]⟩
theorem r_spec_liScript : resFun Try.prog f_spec_liScript = some c_spec_liScript := by kernel_rfl

/- loop.example/g00940/spec.sgGood -/
abbrev f_spec_sgGood : Nat := 58
def c_spec_sgGood : MFun := ⟨5, .seq (.ops [
.op ⟨(some 2), (.pure (.mv (.const (.bool false)))), none⟩])
(.seq (.ops [
.op ⟨(some 3), (.pure (.mv (.tmp 0))), none⟩,
.op ⟨(some 4), (.eff (.call 56 [(.tmp 3), (.const (.int .i64 (0))), (.const (.int .i64 (63)))])), none⟩,
.op ⟨(some 2), (.pure (.mv (.tmp 4))), none⟩])
(.ret)),
[.tmp 2]⟩
theorem r_spec_sgGood : resFun Try.prog f_spec_sgGood = some c_spec_sgGood := by kernel_rfl

/- loop.example/g00940/spec.l1Own -/
abbrev f_spec_l1Own : Nat := 59
def c_spec_l1Own : MFun := ⟨6, .seq (.ops [
.op ⟨(some 2), (.pure (.mv (.const (.slice none 0 0)))), none⟩])
(.seq (.ops [
.op ⟨(some 3), (.eff (.row 3 0 [] [])), none⟩,
.op ⟨(some 4), (.pure (.mv (.tmp 0))), none⟩,
.op ⟨(some 5), (.eff (.app 3 1 8 (.tmp 3) (.tmp 4))), none⟩,
.op ⟨(some 2), (.pure (.mv (.tmp 5))), none⟩])
(.ret)),
[.tmp 2]⟩
theorem r_spec_l1Own : resFun Try.prog f_spec_l1Own = some c_spec_l1Own := by kernel_rfl

/- loop.example/g00940/impl.isScript -/
abbrev f_impl_isScript : Nat := 60
def c_impl_isScript : MFun := ⟨10, .seq (.ops [
.op ⟨(some 2), (.pure (.mv (.const (.bool false)))), none⟩])
(.seq (.ops [
.op ⟨(some 3), (.pure (.mv (.tmp 0))), none⟩,
.op ⟨(some 4), (.pure (.len (.tmp 3))), none⟩,
.op ⟨(some 5), (.pure (.bin .leq (.tmp 4) (.const (.int .i64 (200))))), none⟩,
.op ⟨(some 6), (.pure (.mv (.tmp 5))), none⟩,
.split 6,
.op ⟨(some 7), (.pure (.mv (.tmp 0))), (some (6, true))⟩,
.op ⟨(some 8), (.eff (.call 76 [(.tmp 7), (.const (.int .i64 (0))), (.const (.int .i64 (63)))])), (some (6, true))⟩,
.op ⟨(some 9), (.pure (.pick (.tmp 6) (.tmp 8) (.const (.bool false)))), none⟩,
.op ⟨(some 2), (.pure (.mv (.tmp 9))), none⟩])
(.ret)),
[.tmp 2]⟩
theorem r_impl_isScript : resFun Try.prog f_impl_isScript = some c_impl_isScript := by kernel_rfl

/- loop.example/g00940/impl.isSignal -/
abbrev f_impl_isSignal : Nat := 61
def c_impl_isSignal : MFun := ⟨5, .seq (.ops [
.op ⟨(some 2), (.pure (.mv (.const (.bool false)))), none⟩])
(.seq (.ops [
.op ⟨(some 3), (.pure (.mv (.tmp 0))), none⟩,
.op ⟨(some 4), (.eff (.call 55 [(.tmp 3), (.const (.int .i64 (0))), (.const (.int .i64 (63)))])), none⟩,
.op ⟨(some 2), (.pure (.mv (.tmp 4))), none⟩])
(.ret)),
[.tmp 2]⟩
theorem r_impl_isSignal : resFun Try.prog f_impl_isSignal = some c_impl_isSignal := by kernel_rfl

/- loop.example/g00940/spec.liAsked -/
abbrev f_spec_liAsked : Nat := 62
def c_spec_liAsked : MFun := ⟨17, .seq (.ops [
.op ⟨(some 3), (.eff (.box 25 (.tmp 0))), none⟩,
.op ⟨(some 6), (.pure (.mv (.const (.bool false)))), none⟩])
(.seq (.ops [
.op ⟨(some 7), (.load (some 2) (.tmp 3)), none⟩,
.op ⟨(some 8), (.eff (.call 54 [(.tmp 7)])), none⟩,
.op ⟨(some 9), (.pure (.mv (.tmp 8))), none⟩,
.split 9,
.op ⟨(some 10), (.pure (.mv (.tmp 1))), (some (9, true))⟩,
.op ⟨(some 11), (.eff (.call 77 [(.tmp 10)])), (some (9, true))⟩,
.op ⟨(some 12), (.pure (.pick (.tmp 9) (.tmp 11) (.const (.bool false)))), none⟩,
.op ⟨(some 13), (.pure (.mv (.tmp 12))), none⟩,
.split 13,
.op ⟨(some 14), (.pure (.mv (.tmp 2))), (some (13, true))⟩,
.op ⟨(some 15), (.eff (.call 57 [(.tmp 14)])), (some (13, true))⟩,
.op ⟨(some 16), (.pure (.pick (.tmp 13) (.tmp 15) (.const (.bool false)))), none⟩,
.op ⟨(some 6), (.pure (.mv (.tmp 16))), none⟩])
(.ret)),
[.tmp 6]⟩
theorem r_spec_liAsked : resFun Try.prog f_spec_liAsked = some c_spec_liAsked := by kernel_rfl

/- loop.example/g00940/spec.liRun -/
abbrev f_spec_liRun : Nat := 63
def c_spec_liRun : MFun := ⟨90, .seq (.ops [
.op ⟨(some 3), (.eff (.box 25 (.tmp 0))), none⟩,
.op ⟨(some 6), (.pure (.mv (.const (.pointer none)))), none⟩])
(.seq (.ops [
.op ⟨(some 13), (.pure (.mv (.tmp 2))), none⟩,
.op ⟨(some 14), (.pure (.fieldAddr 0 (.tmp 3))), none⟩,
.op ⟨(some 15), (.load none (.tmp 14)), none⟩,
.op ⟨(some 16), (.eff (.mk 31 1 24 [(.slice none 0 0)] (.tmp 15) (.tmp 15))), none⟩,
.op ⟨(some 17), (.pure (.build [(.slice none 0 0), (.int .i64 (0)), (.slice none 0 0), (.int .i64 (0)), (.int .i64 (0)), (.bool false)] [(0, 1, (.tmp 13)), (2, 1, (.tmp 16))])), none⟩,
.op ⟨(some 18), (.eff (.box 71 (.tmp 17))), none⟩,
.op ⟨(some 7), (.pure (.mv (.tmp 18))), none⟩])
(.seq (.seq (.ops [
.op ⟨(some 19), (.pure (.mv (.tmp 1))), none⟩,
.op ⟨(some 20), (.pure (.len (.tmp 19))), none⟩,
.op ⟨(some 21), (.pure (.mv (.const (.int .i64 (0))))), none⟩])
(.block 0 (.loop (.seq (.ops [
.op ⟨(some 22), (.pure (.bin .lss (.tmp 21) (.tmp 20))), none⟩])
(.seq (.cond (.tmp 22)
(.skip)
(.exit 0))
(.seq (.block 1 (.seq (.ops [
.op ⟨(some 23), (.pure (.mv (.tmp 21))), none⟩,
.op ⟨(some 24), (.pure (.idx 1 (.tmp 19) (.tmp 21))), none⟩,
.op ⟨(some 25), (.load none (.tmp 24)), none⟩,
.op ⟨(some 8), (.pure (.mv (.tmp 23))), none⟩,
.op ⟨(some 9), (.pure (.mv (.tmp 25))), none⟩])
(.seq (.draw true
(.take ⟨(some 26), (.pure (.mv (.tmp 7))), none⟩
(.take ⟨(some 27), (.pure (.nilc (.tmp 26))), none⟩
(.take ⟨(some 28), (.pure (.fieldAddr 2 (.tmp 27))), none⟩
(.take ⟨(some 30), (.pure (.mv (.tmp 7))), none⟩
(.take ⟨(some 31), (.pure (.nilc (.tmp 30))), none⟩
(.take ⟨(some 32), (.pure (.fieldAddr 2 (.tmp 31))), none⟩
(.take ⟨(some 36), (.pure (.mv (.tmp 9))), none⟩
(.take ⟨(some 29), (.load none (.tmp 28)), none⟩
(.take ⟨(some 33), (.load none (.tmp 32)), none⟩
(.take ⟨(some 34), (.pure (.idx 1 (.tmp 33) (.const (.int .i64 (0))))), none⟩
(.take ⟨(some 35), (.load none (.tmp 34)), none⟩
(.only false ⟨(some 37), (.eff (.row 3 1 [(.int .i64 (0))] [(0, 1, (.tmp 36))])), none⟩
(.only false ⟨(some 38), (.eff (.app 3 1 8 (.tmp 35) (.tmp 37))), none⟩
(.take ⟨(some 39), (.pure (.idx 1 (.tmp 29) (.const (.int .i64 (0))))), none⟩
(.only true ⟨none, (.eff (.store 1 (.tmp 39) (.tmp 38))), none⟩
(.done)))))))))))))))))
(.seq (.ops [
.op ⟨(some 10), (.pure (.mv (.const (.int .i64 (0))))), none⟩])
(.block 2 (.loop (.seq (.seq (.ops [
.op ⟨(some 40), (.pure (.mv (.tmp 10))), none⟩,
.op ⟨(some 41), (.pure (.bin .add (.tmp 40) (.const (.int .i64 (1))))), none⟩,
.op ⟨(some 42), (.pure (.fieldAddr 0 (.tmp 3))), none⟩,
.op ⟨(some 43), (.load none (.tmp 42)), none⟩,
.op ⟨(some 44), (.pure (.bin .lss (.tmp 41) (.tmp 43))), none⟩])
(.cond (.tmp 44)
(.skip)
(.exit 2)))
(.seq (.block 3 (.seq (.ops [
.op ⟨(some 48), (.pure (.mv (.tmp 7))), none⟩,
.op ⟨(some 49), (.pure (.mv (.tmp 9))), none⟩,
.op ⟨(some 50), (.pure (.fieldAddr 1 (.tmp 3))), none⟩,
.op ⟨(some 51), (.load none (.tmp 50)), none⟩,
.op ⟨(some 52), (.eff (.call 78 [(.tmp 48), (.tmp 49), (.tmp 51)])), none⟩,
.op ⟨(some 47), (.pure (.mv (.tmp 52))), none⟩,
.op ⟨(some 53), (.pure (.ext 0 (.tmp 47))), none⟩,
.op ⟨(some 54), (.pure (.ext 1 (.tmp 47))), none⟩,
.op ⟨(some 11), (.pure (.mv (.tmp 53))), none⟩,
.op ⟨(some 12), (.pure (.mv (.tmp 54))), none⟩])
(.seq (.seq (.ops [
.op ⟨(some 55), (.pure (.mv (.tmp 12))), none⟩,
.op ⟨(some 56), (.pure (.bnot (.tmp 55))), none⟩])
(.cond (.tmp 56)
(.seq (.ops [
.op ⟨(some 57), (.pure (.mv (.tmp 7))), none⟩,
.op ⟨(some 58), (.pure (.mv (.tmp 8))), none⟩,
.op ⟨(some 59), (.pure (.nilc (.tmp 57))), none⟩,
.op ⟨(some 60), (.pure (.fieldAddr 3 (.tmp 59))), none⟩,
.op ⟨none, (.eff (.store 1 (.tmp 60) (.tmp 58))), none⟩])
(.seq (.ops [
.op ⟨(some 61), (.pure (.mv (.tmp 7))), none⟩,
.op ⟨(some 62), (.pure (.mv (.tmp 10))), none⟩,
.op ⟨(some 63), (.pure (.nilc (.tmp 61))), none⟩,
.op ⟨(some 64), (.pure (.fieldAddr 4 (.tmp 63))), none⟩,
.op ⟨none, (.eff (.store 1 (.tmp 64) (.tmp 62))), none⟩])
(.seq (.ops [
.op ⟨(some 65), (.pure (.mv (.tmp 7))), none⟩,
.op ⟨(some 66), (.pure (.nilc (.tmp 65))), none⟩,
.op ⟨(some 67), (.pure (.fieldAddr 5 (.tmp 66))), none⟩,
.op ⟨none, (.eff (.store 1 (.tmp 67) (.const (.bool true)))), none⟩])
(.seq (.ops [
.op ⟨(some 68), (.pure (.mv (.tmp 7))), none⟩,
.op ⟨(some 6), (.pure (.mv (.tmp 68))), none⟩])
(.ret)))))
(.skip)))
(.seq (.ops [
.op ⟨(some 69), (.pure (.mv (.tmp 11))), none⟩,
.op ⟨(some 9), (.pure (.mv (.tmp 69))), none⟩])
(.draw true
(.take ⟨(some 70), (.pure (.mv (.tmp 7))), none⟩
(.take ⟨(some 71), (.pure (.nilc (.tmp 70))), none⟩
(.take ⟨(some 72), (.pure (.fieldAddr 2 (.tmp 71))), none⟩
(.take ⟨(some 74), (.pure (.mv (.tmp 10))), none⟩
(.take ⟨(some 75), (.pure (.bin .add (.tmp 74) (.const (.int .i64 (1))))), none⟩
(.take ⟨(some 76), (.pure (.mv (.tmp 7))), none⟩
(.take ⟨(some 77), (.pure (.nilc (.tmp 76))), none⟩
(.take ⟨(some 78), (.pure (.fieldAddr 2 (.tmp 77))), none⟩
(.take ⟨(some 80), (.pure (.mv (.tmp 10))), none⟩
(.take ⟨(some 81), (.pure (.bin .add (.tmp 80) (.const (.int .i64 (1))))), none⟩
(.take ⟨(some 84), (.pure (.mv (.tmp 9))), none⟩
(.take ⟨(some 73), (.load none (.tmp 72)), none⟩
(.take ⟨(some 79), (.load none (.tmp 78)), none⟩
(.take ⟨(some 82), (.pure (.idx 1 (.tmp 79) (.tmp 81))), none⟩
(.take ⟨(some 83), (.load none (.tmp 82)), none⟩
(.only false ⟨(some 85), (.eff (.row 3 1 [(.int .i64 (0))] [(0, 1, (.tmp 84))])), none⟩
(.only false ⟨(some 86), (.eff (.app 3 1 8 (.tmp 83) (.tmp 85))), none⟩
(.take ⟨(some 87), (.pure (.idx 1 (.tmp 73) (.tmp 75))), none⟩
(.only true ⟨none, (.eff (.store 1 (.tmp 87) (.tmp 86))), none⟩
(.done)))))))))))))))))))))))))
(.ops [
.op ⟨(some 45), (.pure (.mv (.tmp 10))), none⟩,
.op ⟨(some 46), (.pure (.bin .add (.tmp 45) (.const (.int .i64 (1))))), none⟩,
.op ⟨(some 10), (.pure (.mv (.tmp 46))), none⟩])))))))))
(.ops [
.op ⟨(some 88), (.pure (.bin .add (.tmp 21) (.const (.int .i64 (1))))), none⟩,
.op ⟨(some 21), (.pure (.mv (.tmp 88))), none⟩])))))))
(.seq (.ops [
.op ⟨(some 89), (.pure (.mv (.tmp 7))), none⟩,
.op ⟨(some 6), (.pure (.mv (.tmp 89))), none⟩])
(.ret)))),
[.tmp 6]⟩
theorem r_spec_liRun : resFun Try.prog f_spec_liRun = some c_spec_liRun := by kernel_rfl

/- loop.example/g00940/impl.lineAsked -/
abbrev f_impl_lineAsked : Nat := 64
def c_impl_lineAsked : MFun := ⟨22, .seq (.ops [
.op ⟨(some 3), (.eff (.box 25 (.tmp 0))), none⟩,
.op ⟨(some 6), (.pure (.mv (.const (.bool false)))), none⟩])
(.seq (.ops [
.op ⟨(some 7), (.load (some 2) (.tmp 3)), none⟩,
.op ⟨(some 8), (.eff (.call 17 [(.tmp 7)])), none⟩,
.op ⟨(some 9), (.pure (.mv (.tmp 8))), none⟩,
.split 9,
.op ⟨(some 10), (.pure (.mv (.tmp 1))), (some (9, true))⟩,
.op ⟨(some 11), (.pure (.len (.tmp 10))), (some (9, true))⟩,
.op ⟨(some 12), (.pure (.bin .leq (.tmp 11) (.const (.int .i64 (20))))), (some (9, true))⟩,
.op ⟨(some 13), (.pure (.pick (.tmp 9) (.tmp 12) (.const (.bool false)))), none⟩,
.op ⟨(some 14), (.pure (.mv (.tmp 13))), none⟩,
.split 14,
.op ⟨(some 15), (.pure (.mv (.tmp 1))), (some (14, true))⟩,
.op ⟨(some 16), (.eff (.call 76 [(.tmp 15), (.const (.int .i64 (0))), (.const (.int .i64 (63)))])), (some (14, true))⟩,
.op ⟨(some 17), (.pure (.pick (.tmp 14) (.tmp 16) (.const (.bool false)))), none⟩,
.op ⟨(some 18), (.pure (.mv (.tmp 17))), none⟩,
.split 18,
.op ⟨(some 19), (.pure (.mv (.tmp 2))), (some (18, true))⟩,
.op ⟨(some 20), (.eff (.call 60 [(.tmp 19)])), (some (18, true))⟩,
.op ⟨(some 21), (.pure (.pick (.tmp 18) (.tmp 20) (.const (.bool false)))), none⟩,
.op ⟨(some 6), (.pure (.mv (.tmp 21))), none⟩])
(.ret)),
[.tmp 6]⟩
theorem r_impl_lineAsked : resFun Try.prog f_impl_lineAsked = some c_impl_lineAsked := by kernel_rfl

/- loop.example/g00940/impl.passLine -/
abbrev f_impl_passLine : Nat := 65
def c_impl_passLine : MFun := ⟨80, .seq (.ops [
.op ⟨(some 3), (.eff (.box 25 (.tmp 0))), none⟩,
.op ⟨(some 5), (.eff (.box 31 (.tmp 2))), none⟩,
.op ⟨(some 6), (.eff (.new 75 [(.slice none 0 0), (.int .i64 (0)), (.int .i64 (0)), (.int .i64 (0))])), none⟩])
(.seq (.ops [
.op ⟨(some 14), (.pure (.fieldAddr 0 (.tmp 3))), none⟩,
.op ⟨(some 15), (.load none (.tmp 14)), none⟩,
.op ⟨(some 16), (.eff (.mk 31 1 24 [(.slice none 0 0)] (.tmp 15) (.tmp 15))), none⟩,
.op ⟨(some 17), (.pure (.build [(.slice none 0 0), (.int .i64 (0)), (.int .i64 (0)), (.int .i64 (0))] [(0, 1, (.tmp 16)), (2, 1, (.const (.int .i64 (-1))))])), none⟩,
.op ⟨(some 7), (.eff (.new 75 [(.slice none 0 0), (.int .i64 (0)), (.int .i64 (0)), (.int .i64 (0))])), none⟩,
.op ⟨none, (.eff (.store 4 (.tmp 7) (.tmp 17))), none⟩])
(.seq (.ops [
.op ⟨(some 18), (.pure (.mkfn (.func 79) [] [(.tmp 7), (.tmp 5)])), none⟩,
.op ⟨(some 8), (.pure (.mv (.tmp 18))), none⟩])
(.seq (.seq (.ops [
.op ⟨(some 19), (.pure (.mv (.tmp 1))), none⟩,
.op ⟨(some 20), (.pure (.len (.tmp 19))), none⟩,
.op ⟨(some 21), (.pure (.mv (.const (.int .i64 (0))))), none⟩])
(.block 0 (.loop (.seq (.ops [
.op ⟨(some 22), (.pure (.bin .lss (.tmp 21) (.tmp 20))), none⟩])
(.seq (.cond (.tmp 22)
(.skip)
(.exit 0))
(.seq (.block 1 (.seq (.ops [
.op ⟨(some 23), (.pure (.mv (.tmp 21))), none⟩,
.op ⟨(some 24), (.pure (.idx 1 (.tmp 19) (.tmp 21))), none⟩,
.op ⟨(some 25), (.load none (.tmp 24)), none⟩,
.op ⟨(some 9), (.pure (.mv (.tmp 23))), none⟩,
.op ⟨(some 10), (.pure (.mv (.tmp 25))), none⟩])
(.seq (.draw true
(.take ⟨(some 26), (.pure (.fieldAddr 0 (.tmp 7))), none⟩
(.take ⟨(some 28), (.pure (.fieldAddr 0 (.tmp 7))), none⟩
(.take ⟨(some 32), (.pure (.mv (.tmp 10))), none⟩
(.take ⟨(some 27), (.load none (.tmp 26)), none⟩
(.take ⟨(some 29), (.load none (.tmp 28)), none⟩
(.take ⟨(some 30), (.pure (.idx 1 (.tmp 29) (.const (.int .i64 (0))))), none⟩
(.take ⟨(some 31), (.load none (.tmp 30)), none⟩
(.only false ⟨(some 33), (.eff (.row 3 1 [(.int .i64 (0))] [(0, 1, (.tmp 32))])), none⟩
(.only false ⟨(some 34), (.eff (.app 3 1 8 (.tmp 31) (.tmp 33))), none⟩
(.take ⟨(some 35), (.pure (.idx 1 (.tmp 27) (.const (.int .i64 (0))))), none⟩
(.only true ⟨none, (.eff (.store 1 (.tmp 35) (.tmp 34))), none⟩
(.done)))))))))))))
(.seq (.ops [
.op ⟨(some 36), (.pure (.fieldAddr 0 (.tmp 3))), none⟩,
.op ⟨(some 37), (.load none (.tmp 36)), none⟩,
.op ⟨(some 38), (.pure (.bin .sub (.tmp 37) (.const (.int .i64 (1))))), none⟩,
.op ⟨(some 39), (.pure (.mv (.const (.int .i64 (0))))), none⟩])
(.block 2 (.loop (.seq (.ops [
.op ⟨(some 40), (.pure (.bin .lss (.tmp 39) (.tmp 38))), none⟩])
(.seq (.cond (.tmp 40)
(.skip)
(.exit 2))
(.seq (.block 3 (.seq (.ops [
.op ⟨(some 41), (.pure (.mv (.tmp 39))), none⟩,
.op ⟨(some 11), (.pure (.mv (.tmp 41))), none⟩])
(.seq (.ops [
.op ⟨(some 12), (.pure (.mv (.const (.bool false)))), none⟩])
(.seq (.seq (.ops [
.op ⟨(some 42), (.pure (.fieldAddr 1 (.tmp 3))), none⟩,
.op ⟨(some 43), (.load none (.tmp 42)), none⟩,
.op ⟨(some 44), (.pure (.mv (.const (.int .i64 (0))))), none⟩])
(.block 4 (.loop (.seq (.ops [
.op ⟨(some 45), (.pure (.bin .lss (.tmp 44) (.tmp 43))), none⟩])
(.seq (.cond (.tmp 45)
(.skip)
(.exit 4))
(.seq (.block 5 (.seq (.ops [
.op ⟨(some 46), (.pure (.mv (.tmp 8))), none⟩,
.op ⟨(some 47), (.pure (.mv (.tmp 10))), none⟩,
.op ⟨(some 48), (.eff (.callv (.tmp 46) [(.tmp 47)])), none⟩,
.op ⟨(some 13), (.pure (.mv (.tmp 48))), none⟩])
(.seq (.ops [
.op ⟨(some 49), (.pure (.mv (.tmp 8))), none⟩,
.op ⟨(some 50), (.pure (.mv (.tmp 13))), none⟩,
.op ⟨(some 51), (.eff (.callv (.tmp 49) [(.tmp 50)])), none⟩,
.op ⟨(some 52), (.pure (.mv (.tmp 10))), none⟩,
.op ⟨(some 53), (.pure (.bin .eql (.tmp 51) (.tmp 52))), none⟩])
(.cond (.tmp 53)
(.seq (.ops [
.op ⟨(some 54), (.pure (.mv (.tmp 13))), none⟩,
.op ⟨(some 10), (.pure (.mv (.tmp 54))), none⟩,
.op ⟨(some 12), (.pure (.mv (.const (.bool true)))), none⟩])
(.exit 4))
(.skip)))))
(.ops [
.op ⟨(some 55), (.pure (.bin .add (.tmp 44) (.const (.int .i64 (1))))), none⟩,
.op ⟨(some 44), (.pure (.mv (.tmp 55))), none⟩])))))))
(.seq (.seq (.ops [
.op ⟨(some 56), (.pure (.mv (.tmp 12))), none⟩,
.op ⟨(some 57), (.pure (.bnot (.tmp 56))), none⟩])
(.cond (.tmp 57)
(.seq (.ops [
.op ⟨(some 58), (.pure (.mv (.tmp 9))), none⟩,
.op ⟨(some 59), (.pure (.mv (.tmp 11))), none⟩,
.op ⟨(some 60), (.pure (.fieldAddr 2 (.tmp 7))), none⟩,
.op ⟨none, (.eff (.store 1 (.tmp 60) (.tmp 58))), none⟩,
.op ⟨(some 61), (.pure (.fieldAddr 3 (.tmp 7))), none⟩,
.op ⟨none, (.eff (.store 1 (.tmp 61) (.tmp 59))), none⟩])
(.seq (.ops [
.op ⟨(some 62), (.load (some 4) (.tmp 7)), none⟩,
.op ⟨none, (.eff (.store 4 (.tmp 6) (.tmp 62))), none⟩])
(.ret)))
(.skip)))
(.draw true
(.take ⟨(some 63), (.pure (.fieldAddr 0 (.tmp 7))), none⟩
(.take ⟨(some 65), (.pure (.mv (.tmp 11))), none⟩
(.take ⟨(some 66), (.pure (.bin .add (.tmp 65) (.const (.int .i64 (1))))), none⟩
(.take ⟨(some 67), (.pure (.fieldAddr 0 (.tmp 7))), none⟩
(.take ⟨(some 69), (.pure (.mv (.tmp 11))), none⟩
(.take ⟨(some 70), (.pure (.bin .add (.tmp 69) (.const (.int .i64 (1))))), none⟩
(.take ⟨(some 73), (.pure (.mv (.tmp 10))), none⟩
(.take ⟨(some 64), (.load none (.tmp 63)), none⟩
(.take ⟨(some 68), (.load none (.tmp 67)), none⟩
(.take ⟨(some 71), (.pure (.idx 1 (.tmp 68) (.tmp 70))), none⟩
(.take ⟨(some 72), (.load none (.tmp 71)), none⟩
(.only false ⟨(some 74), (.eff (.row 3 1 [(.int .i64 (0))] [(0, 1, (.tmp 73))])), none⟩
(.only false ⟨(some 75), (.eff (.app 3 1 8 (.tmp 72) (.tmp 74))), none⟩
(.take ⟨(some 76), (.pure (.idx 1 (.tmp 64) (.tmp 66))), none⟩
(.only true ⟨none, (.eff (.store 1 (.tmp 76) (.tmp 75))), none⟩
(.done))))))))))))))))))))))
(.ops [
.op ⟨(some 77), (.pure (.bin .add (.tmp 39) (.const (.int .i64 (1))))), none⟩,
.op ⟨(some 39), (.pure (.mv (.tmp 77))), none⟩]))))))))))
(.ops [
.op ⟨(some 78), (.pure (.bin .add (.tmp 21) (.const (.int .i64 (1))))), none⟩,
.op ⟨(some 21), (.pure (.mv (.tmp 78))), none⟩])))))))
(.seq (.ops [
.op ⟨(some 79), (.load (some 4) (.tmp 7)), none⟩,
.op ⟨none, (.eff (.store 4 (.tmp 6) (.tmp 79))), none⟩])
(.ret))))),
[.cell 6 (some 4)]⟩
theorem r_impl_passLine : resFun Try.prog f_impl_passLine = some c_impl_passLine := by kernel_rfl

/- loop.example/g00940/spec.liWrong -/
abbrev f_spec_liWrong : Nat := 66
def c_spec_liWrong : MFun := ⟨27, .seq (.ops [
.op ⟨(some 4), (.pure (.mv (.const (.slice none 0 0)))), none⟩])
(.seq (.ops [
.op ⟨(some 5), (.pure (.mv (.const (.slice none 0 0)))), none⟩])
(.seq (.seq (.ops [
.op ⟨(some 8), (.pure (.mv (.tmp 1))), none⟩,
.op ⟨(some 9), (.pure (.len (.tmp 8))), none⟩,
.op ⟨(some 10), (.pure (.mv (.const (.int .i64 (0))))), none⟩])
(.block 0 (.loop (.seq (.ops [
.op ⟨(some 11), (.pure (.bin .lss (.tmp 10) (.tmp 9))), none⟩])
(.seq (.cond (.tmp 11)
(.skip)
(.exit 0))
(.seq (.block 1 (.seq (.ops [
.op ⟨(some 12), (.pure (.mv (.tmp 10))), none⟩,
.op ⟨(some 13), (.pure (.idx 1 (.tmp 8) (.tmp 10))), none⟩,
.op ⟨(some 14), (.load none (.tmp 13)), none⟩,
.op ⟨(some 6), (.pure (.mv (.tmp 12))), none⟩,
.op ⟨(some 7), (.pure (.mv (.tmp 14))), none⟩])
(.seq (.ops [
.op ⟨(some 15), (.pure (.mv (.tmp 7))), none⟩,
.op ⟨(some 16), (.pure (.mv (.tmp 0))), none⟩,
.op ⟨(some 17), (.pure (.mv (.tmp 6))), none⟩,
.op ⟨(some 18), (.pure (.idx 1 (.tmp 16) (.tmp 17))), none⟩,
.op ⟨(some 19), (.load none (.tmp 18)), none⟩,
.op ⟨(some 20), (.pure (.bin .neq (.tmp 15) (.tmp 19))), none⟩])
(.cond (.tmp 20)
(.ops [
.op ⟨(some 21), (.pure (.mv (.tmp 5))), none⟩,
.op ⟨(some 22), (.pure (.mv (.tmp 6))), none⟩,
.op ⟨(some 23), (.eff (.row 3 1 [(.int .i64 (0))] [(0, 1, (.tmp 22))])), none⟩,
.op ⟨(some 24), (.eff (.app 3 1 8 (.tmp 21) (.tmp 23))), none⟩,
.op ⟨(some 5), (.pure (.mv (.tmp 24))), none⟩])
(.skip)))))
(.ops [
.op ⟨(some 25), (.pure (.bin .add (.tmp 10) (.const (.int .i64 (1))))), none⟩,
.op ⟨(some 10), (.pure (.mv (.tmp 25))), none⟩])))))))
(.seq (.ops [
.op ⟨(some 26), (.pure (.mv (.tmp 5))), none⟩,
.op ⟨(some 4), (.pure (.mv (.tmp 26))), none⟩])
(.ret)))),
[.tmp 4]⟩
theorem r_spec_liWrong : resFun Try.prog f_spec_liWrong = some c_spec_liWrong := by kernel_rfl

/- loop.example/g00940/impl.wrongSignals -/
abbrev f_impl_wrongSignals : Nat := 67
def c_impl_wrongSignals : MFun := ⟨27, .seq (.ops [
.op ⟨(some 4), (.pure (.mv (.const (.slice none 0 0)))), none⟩])
(.seq (.ops [
.op ⟨(some 5), (.pure (.mv (.const (.slice none 0 0)))), none⟩])
(.seq (.seq (.ops [
.op ⟨(some 8), (.pure (.mv (.tmp 0))), none⟩,
.op ⟨(some 9), (.pure (.len (.tmp 8))), none⟩,
.op ⟨(some 10), (.pure (.mv (.const (.int .i64 (0))))), none⟩])
(.block 0 (.loop (.seq (.ops [
.op ⟨(some 11), (.pure (.bin .lss (.tmp 10) (.tmp 9))), none⟩])
(.seq (.cond (.tmp 11)
(.skip)
(.exit 0))
(.seq (.block 1 (.seq (.ops [
.op ⟨(some 12), (.pure (.mv (.tmp 10))), none⟩,
.op ⟨(some 13), (.pure (.idx 1 (.tmp 8) (.tmp 10))), none⟩,
.op ⟨(some 14), (.load none (.tmp 13)), none⟩,
.op ⟨(some 6), (.pure (.mv (.tmp 12))), none⟩,
.op ⟨(some 7), (.pure (.mv (.tmp 14))), none⟩])
(.seq (.ops [
.op ⟨(some 15), (.pure (.mv (.tmp 7))), none⟩,
.op ⟨(some 16), (.pure (.mv (.tmp 1))), none⟩,
.op ⟨(some 17), (.pure (.mv (.tmp 6))), none⟩,
.op ⟨(some 18), (.pure (.idx 1 (.tmp 16) (.tmp 17))), none⟩,
.op ⟨(some 19), (.load none (.tmp 18)), none⟩,
.op ⟨(some 20), (.pure (.bin .neq (.tmp 15) (.tmp 19))), none⟩])
(.cond (.tmp 20)
(.ops [
.op ⟨(some 21), (.pure (.mv (.tmp 5))), none⟩,
.op ⟨(some 22), (.pure (.mv (.tmp 6))), none⟩,
.op ⟨(some 23), (.eff (.row 3 1 [(.int .i64 (0))] [(0, 1, (.tmp 22))])), none⟩,
.op ⟨(some 24), (.eff (.app 3 1 8 (.tmp 21) (.tmp 23))), none⟩,
.op ⟨(some 5), (.pure (.mv (.tmp 24))), none⟩])
(.skip)))))
(.ops [
.op ⟨(some 25), (.pure (.bin .add (.tmp 10) (.const (.int .i64 (1))))), none⟩,
.op ⟨(some 10), (.pure (.mv (.tmp 25))), none⟩])))))))
(.seq (.ops [
.op ⟨(some 26), (.pure (.mv (.tmp 5))), none⟩,
.op ⟨(some 4), (.pure (.mv (.tmp 26))), none⟩])
(.ret)))),
[.tmp 4]⟩
theorem r_impl_wrongSignals : resFun Try.prog f_impl_wrongSignals = some c_impl_wrongSignals := by kernel_rfl

/- loop.example/g00940/laws.szIntS -/
abbrev f_laws_szIntS : Nat := 68
def c_laws_szIntS : MFun := ⟨12, .seq (.ops [
.op ⟨(some 4), (.pure (.mv (.const (.int .i64 (0))))), none⟩])
(.seq (.ops [
.op ⟨(some 5), (.pure (.mv (.tmp 1))), none⟩,
.op ⟨(some 6), (.pure (.mv (.tmp 0))), none⟩,
.op ⟨(some 7), (.pure (.len (.tmp 6))), none⟩,
.op ⟨(some 8), (.pure (.bin .sub (.tmp 5) (.tmp 7))), none⟩,
.op ⟨(some 1), (.pure (.mv (.tmp 8))), none⟩])
(.seq (.seq (.ops [
.op ⟨(some 9), (.pure (.mv (.tmp 1))), none⟩,
.op ⟨(some 10), (.pure (.bin .lss (.tmp 9) (.const (.int .i64 (0))))), none⟩])
(.cond (.tmp 10)
(.seq (.ops [
.op ⟨(some 4), (.pure (.mv (.const (.int .i64 (-1))))), none⟩])
(.ret))
(.skip)))
(.seq (.ops [
.op ⟨(some 11), (.pure (.mv (.tmp 1))), none⟩,
.op ⟨(some 4), (.pure (.mv (.tmp 11))), none⟩])
(.ret)))),
[.tmp 4]⟩
theorem r_laws_szIntS : resFun Try.prog f_laws_szIntS = some c_laws_szIntS := by kernel_rfl

/- (*loop.example/g00940/spec.l1Cur).line -/
abbrev f_spec_l1Cur_line : Nat := 69
def c_spec_l1Cur_line : MFun := ⟨26, .seq (.ops [
.op ⟨(some 2), (.eff (.new 25 [(.int .i64 (0)), (.int .i64 (0))])), none⟩])
(.seq (.ops [
.op ⟨(some 4), (.pure (.mv (.tmp 0))), none⟩,
.op ⟨(some 5), (.eff (.row 3 5 [(.int .i64 (0)), (.int .i64 (0)), (.int .i64 (0)), (.int .i64 (0)), (.int .i64 (0))] [(0, 1, (.const (.int .i64 (2)))), (1, 1, (.const (.int .i64 (3)))), (2, 1, (.const (.int .i64 (3)))), (3, 1, (.const (.int .i64 (4)))), (4, 1, (.const (.int .i64 (10))))])), none⟩,
.op ⟨(some 6), (.eff (.call 72 [(.tmp 4), (.tmp 5)])), none⟩,
.op ⟨(some 7), (.pure (.mv (.tmp 0))), none⟩,
.op ⟨(some 8), (.eff (.row 3 4 [(.int .i64 (0)), (.int .i64 (0)), (.int .i64 (0)), (.int .i64 (0))] [(0, 1, (.const (.int .i64 (1)))), (1, 1, (.const (.int .i64 (2)))), (2, 1, (.const (.int .i64 (3)))), (3, 1, (.const (.int .i64 (5))))])), none⟩,
.op ⟨(some 9), (.eff (.call 72 [(.tmp 7), (.tmp 8)])), none⟩,
.op ⟨(some 10), (.pure (.build [(.int .i64 (0)), (.int .i64 (0))] [(0, 1, (.tmp 6)), (1, 1, (.tmp 9))])), none⟩,
.op ⟨(some 3), (.eff (.new 25 [(.int .i64 (0)), (.int .i64 (0))])), none⟩,
.op ⟨none, (.eff (.store 2 (.tmp 3) (.tmp 10))), none⟩])
(.seq (.seq (.ops [
.op ⟨(some 11), (.pure (.mv (.tmp 0))), none⟩,
.op ⟨(some 12), (.eff (.call 73 [(.tmp 11), (.const (.int .i64 (30)))])), none⟩])
(.block 0 (.seq (.ops [
.op ⟨(some 14), (.pure (.bin .eql (.tmp 12) (.const (.int .i64 (0))))), none⟩,
.op ⟨(some 13), (.pure (.mv (.tmp 14))), none⟩])
(.cond (.tmp 13)
(.ops [
.op ⟨(some 15), (.pure (.mv (.tmp 0))), none⟩,
.op ⟨(some 16), (.eff (.row 3 2 [(.int .i64 (0)), (.int .i64 (0))] [(0, 1, (.const (.int .i64 (1)))), (1, 1, (.const (.int .i64 (11))))])), none⟩,
.op ⟨(some 17), (.eff (.call 72 [(.tmp 15), (.tmp 16)])), none⟩,
.op ⟨(some 18), (.pure (.fieldAddr 0 (.tmp 3))), none⟩,
.op ⟨none, (.eff (.store 1 (.tmp 18) (.tmp 17))), none⟩])
(.seq (.ops [
.op ⟨(some 20), (.pure (.bin .eql (.tmp 12) (.const (.int .i64 (1))))), none⟩,
.op ⟨(some 19), (.pure (.mv (.tmp 20))), none⟩])
(.cond (.tmp 19)
(.ops [
.op ⟨(some 21), (.pure (.mv (.tmp 0))), none⟩,
.op ⟨(some 22), (.eff (.row 3 2 [(.int .i64 (0)), (.int .i64 (0))] [(0, 1, (.const (.int .i64 (0)))), (1, 1, (.const (.int .i64 (6))))])), none⟩,
.op ⟨(some 23), (.eff (.call 72 [(.tmp 21), (.tmp 22)])), none⟩,
.op ⟨(some 24), (.pure (.fieldAddr 1 (.tmp 3))), none⟩,
.op ⟨none, (.eff (.store 1 (.tmp 24) (.tmp 23))), none⟩])
(.skip)))))))
(.seq (.ops [
.op ⟨(some 25), (.load (some 2) (.tmp 3)), none⟩,
.op ⟨none, (.eff (.store 2 (.tmp 2) (.tmp 25))), none⟩])
(.ret)))),
[.cell 2 (some 2)]⟩
theorem r_spec_l1Cur_line : resFun Try.prog f_spec_l1Cur_line = some c_spec_l1Cur_line := by kernel_rfl

/- (*loop.example/g00940/spec.l1Cur).passed -/
abbrev f_spec_l1Cur_passed : Nat := 70
def c_spec_l1Cur_passed : MFun := ⟨28, .seq (.ops [
.op ⟨(some 2), (.pure (.mv (.const (.slice none 0 0)))), none⟩])
(.seq (.ops [
.op ⟨(some 4), (.pure (.mv (.tmp 0))), none⟩,
.op ⟨(some 5), (.pure (.mv (.tmp 0))), none⟩,
.op ⟨(some 6), (.eff (.call 73 [(.tmp 5), (.const (.int .i64 (6)))])), none⟩,
.op ⟨(some 7), (.eff (.call 80 [(.tmp 4), (.tmp 6)])), none⟩,
.op ⟨(some 3), (.pure (.mv (.tmp 7))), none⟩])
(.seq (.seq (.ops [
.op ⟨(some 8), (.pure (.mv (.tmp 0))), none⟩,
.op ⟨(some 9), (.eff (.call 74 [(.tmp 8), (.const (.int .i64 (20)))])), none⟩])
(.cond (.tmp 9)
(.ops [
.op ⟨(some 10), (.pure (.mv (.tmp 0))), none⟩,
.op ⟨(some 11), (.pure (.mv (.tmp 0))), none⟩,
.op ⟨(some 12), (.eff (.call 73 [(.tmp 11), (.const (.int .i64 (2)))])), none⟩,
.op ⟨(some 13), (.pure (.bin .add (.const (.int .i64 (20))) (.tmp 12))), none⟩,
.op ⟨(some 14), (.eff (.call 80 [(.tmp 10), (.tmp 13)])), none⟩,
.op ⟨(some 3), (.pure (.mv (.tmp 14))), none⟩])
(.skip)))
(.seq (.seq (.ops [
.op ⟨(some 15), (.pure (.mv (.tmp 3))), none⟩,
.op ⟨(some 16), (.pure (.len (.tmp 15))), none⟩,
.op ⟨(some 17), (.pure (.bin .gtr (.tmp 16) (.const (.int .i64 (0))))), none⟩,
.op ⟨(some 18), (.pure (.mv (.tmp 17))), none⟩,
.split 18,
.op ⟨(some 19), (.pure (.mv (.tmp 0))), (some (18, true))⟩,
.op ⟨(some 20), (.eff (.call 74 [(.tmp 19), (.const (.int .i64 (24)))])), (some (18, true))⟩,
.op ⟨(some 21), (.pure (.pick (.tmp 18) (.tmp 20) (.const (.bool false)))), none⟩])
(.cond (.tmp 21)
(.ops [
.op ⟨(some 22), (.pure (.mv (.tmp 3))), none⟩,
.op ⟨(some 23), (.pure (.mv (.tmp 0))), none⟩,
.op ⟨(some 24), (.eff (.row 3 4 [(.int .i64 (0)), (.int .i64 (0)), (.int .i64 (0)), (.int .i64 (0))] [(0, 1, (.const (.int .i64 (0)))), (1, 1, (.const (.int .i64 (63)))), (2, 1, (.const (.int .i64 (64)))), (3, 1, (.const (.int .i64 (-1))))])), none⟩,
.op ⟨(some 25), (.eff (.call 72 [(.tmp 23), (.tmp 24)])), none⟩,
.op ⟨(some 26), (.pure (.idx 1 (.tmp 22) (.const (.int .i64 (0))))), none⟩,
.op ⟨none, (.eff (.store 1 (.tmp 26) (.tmp 25))), none⟩])
(.skip)))
(.seq (.ops [
.op ⟨(some 27), (.pure (.mv (.tmp 3))), none⟩,
.op ⟨(some 2), (.pure (.mv (.tmp 27))), none⟩])
(.ret))))),
[.tmp 2]⟩
theorem r_spec_l1Cur_passed : resFun Try.prog f_spec_l1Cur_passed = some c_spec_l1Cur_passed := by kernel_rfl

/- (*loop.example/g00940/spec.l1Cur).patterns -/
abbrev f_spec_l1Cur_patterns : Nat := 71
def c_spec_l1Cur_patterns : MFun := ⟨62, .seq (.ops [
.op ⟨(some 2), (.pure (.mv (.const (.slice none 0 0)))), none⟩])
(.seq (.ops [
.op ⟨(some 3), (.pure (.mv (.const (.slice none 0 0)))), none⟩])
(.seq (.ops [
.op ⟨(some 8), (.pure (.mv (.tmp 0))), none⟩,
.op ⟨(some 9), (.eff (.call 73 [(.tmp 8), (.const (.int .i64 (20)))])), none⟩,
.op ⟨(some 4), (.pure (.mv (.tmp 9))), none⟩])
(.seq (.seq (.ops [
.op ⟨(some 10), (.pure (.mv (.tmp 0))), none⟩,
.op ⟨(some 11), (.eff (.call 74 [(.tmp 10), (.const (.int .i64 (24)))])), none⟩])
(.cond (.tmp 11)
(.ops [
.op ⟨(some 12), (.pure (.mv (.tmp 0))), none⟩,
.op ⟨(some 13), (.eff (.call 73 [(.tmp 12), (.const (.int .i64 (2)))])), none⟩,
.op ⟨(some 14), (.pure (.bin .add (.const (.int .i64 (200))) (.tmp 13))), none⟩,
.op ⟨(some 4), (.pure (.mv (.tmp 14))), none⟩])
(.skip)))
(.seq (.ops [
.op ⟨(some 15), (.pure (.mv (.tmp 0))), none⟩,
.op ⟨(some 16), (.eff (.row 3 3 [(.int .i64 (0)), (.int .i64 (0)), (.int .i64 (0))] [(0, 1, (.const (.int .i64 (2)))), (1, 1, (.const (.int .i64 (4)))), (2, 1, (.const (.int .i64 (8))))])), none⟩,
.op ⟨(some 17), (.eff (.call 72 [(.tmp 15), (.tmp 16)])), none⟩,
.op ⟨(some 5), (.pure (.mv (.tmp 17))), none⟩])
(.seq (.block 0 (.loop (.seq (.seq (.ops [
.op ⟨(some 18), (.pure (.mv (.tmp 3))), none⟩,
.op ⟨(some 19), (.pure (.len (.tmp 18))), none⟩,
.op ⟨(some 20), (.pure (.mv (.tmp 4))), none⟩,
.op ⟨(some 21), (.pure (.bin .lss (.tmp 19) (.tmp 20))), none⟩])
(.cond (.tmp 21)
(.skip)
(.exit 0)))
(.block 1 (.seq (.ops [
.op ⟨(some 6), (.pure (.mv (.const (.int .i64 (0))))), none⟩])
(.seq (.seq (.ops [
.op ⟨(some 22), (.pure (.mv (.tmp 0))), none⟩,
.op ⟨(some 23), (.pure (.mv (.tmp 5))), none⟩,
.op ⟨(some 24), (.eff (.call 74 [(.tmp 22), (.tmp 23)])), none⟩])
(.cond (.tmp 24)
(.ops [
.op ⟨(some 25), (.pure (.mv (.tmp 0))), none⟩,
.op ⟨(some 26), (.pure (.mv (.tmp 0))), none⟩,
.op ⟨(some 27), (.eff (.call 73 [(.tmp 26), (.const (.int .i64 (64)))])), none⟩,
.op ⟨(some 28), (.eff (.row 3 7 [(.int .i64 (0)), (.int .i64 (0)), (.int .i64 (0)), (.int .i64 (0)), (.int .i64 (0)), (.int .i64 (0)), (.int .i64 (0))] [(0, 1, (.const (.int .i64 (1)))), (1, 1, (.const (.int .i64 (2)))), (2, 1, (.const (.int .i64 (4)))), (3, 1, (.const (.int .i64 (8)))), (4, 1, (.const (.int .i64 (32)))), (5, 1, (.const (.int .i64 (3)))), (6, 1, (.tmp 27))])), none⟩,
.op ⟨(some 29), (.eff (.call 72 [(.tmp 25), (.tmp 28)])), none⟩,
.op ⟨(some 6), (.pure (.mv (.tmp 29))), none⟩])
(.skip)))
(.seq (.seq (.ops [
.op ⟨(some 30), (.pure (.mv (.tmp 3))), none⟩,
.op ⟨(some 31), (.pure (.len (.tmp 30))), none⟩,
.op ⟨(some 7), (.pure (.mv (.tmp 31))), none⟩])
(.seq (.ops [
.op ⟨(some 32), (.pure (.mv (.tmp 7))), none⟩,
.op ⟨(some 33), (.pure (.bin .gtr (.tmp 32) (.const (.int .i64 (0))))), none⟩,
.op ⟨(some 34), (.pure (.mv (.tmp 33))), none⟩,
.split 34,
.op ⟨(some 35), (.pure (.mv (.tmp 0))), (some (34, true))⟩,
.op ⟨(some 36), (.eff (.call 74 [(.tmp 35), (.const (.int .i64 (6)))])), (some (34, true))⟩,
.op ⟨(some 37), (.pure (.pick (.tmp 34) (.tmp 36) (.const (.bool false)))), none⟩])
(.cond (.tmp 37)
(.ops [
.op ⟨(some 38), (.pure (.mv (.tmp 3))), none⟩,
.op ⟨(some 39), (.pure (.mv (.tmp 7))), none⟩,
.op ⟨(some 40), (.pure (.bin .sub (.tmp 39) (.const (.int .i64 (1))))), none⟩,
.op ⟨(some 41), (.pure (.idx 1 (.tmp 38) (.tmp 40))), none⟩,
.op ⟨(some 42), (.load none (.tmp 41)), none⟩,
.op ⟨(some 6), (.pure (.mv (.tmp 42))), none⟩])
(.skip))))
(.ops [
.op ⟨(some 43), (.pure (.mv (.tmp 3))), none⟩,
.op ⟨(some 44), (.pure (.mv (.tmp 6))), none⟩,
.op ⟨(some 45), (.eff (.row 3 1 [(.int .i64 (0))] [(0, 1, (.tmp 44))])), none⟩,
.op ⟨(some 46), (.eff (.app 3 1 8 (.tmp 43) (.tmp 45))), none⟩,
.op ⟨(some 3), (.pure (.mv (.tmp 46))), none⟩]))))))))
(.seq (.seq (.ops [
.op ⟨(some 47), (.pure (.mv (.tmp 4))), none⟩,
.op ⟨(some 48), (.pure (.bin .gtr (.tmp 47) (.const (.int .i64 (0))))), none⟩,
.op ⟨(some 49), (.pure (.mv (.tmp 48))), none⟩,
.split 49,
.op ⟨(some 50), (.pure (.mv (.tmp 0))), (some (49, true))⟩,
.op ⟨(some 51), (.eff (.call 74 [(.tmp 50), (.const (.int .i64 (24)))])), (some (49, true))⟩,
.op ⟨(some 52), (.pure (.pick (.tmp 49) (.tmp 51) (.const (.bool false)))), none⟩])
(.cond (.tmp 52)
(.ops [
.op ⟨(some 53), (.pure (.mv (.tmp 3))), none⟩,
.op ⟨(some 54), (.pure (.mv (.tmp 0))), none⟩,
.op ⟨(some 55), (.pure (.mv (.tmp 4))), none⟩,
.op ⟨(some 56), (.eff (.call 73 [(.tmp 54), (.tmp 55)])), none⟩,
.op ⟨(some 57), (.pure (.mv (.tmp 0))), none⟩,
.op ⟨(some 58), (.eff (.row 3 2 [(.int .i64 (0)), (.int .i64 (0))] [(0, 1, (.const (.int .i64 (-1)))), (1, 1, (.const (.int .i64 (64))))])), none⟩,
.op ⟨(some 59), (.eff (.call 72 [(.tmp 57), (.tmp 58)])), none⟩,
.op ⟨(some 60), (.pure (.idx 1 (.tmp 53) (.tmp 56))), none⟩,
.op ⟨none, (.eff (.store 1 (.tmp 60) (.tmp 59))), none⟩])
(.skip)))
(.seq (.ops [
.op ⟨(some 61), (.pure (.mv (.tmp 3))), none⟩,
.op ⟨(some 2), (.pure (.mv (.tmp 61))), none⟩])
(.ret)))))))),
[.tmp 2]⟩
theorem r_spec_l1Cur_patterns : resFun Try.prog f_spec_l1Cur_patterns = some c_spec_l1Cur_patterns := by kernel_rfl
end Go.Proofs.Ytckkablifoblbaa
