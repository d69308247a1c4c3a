/- Code1. Condition: none. -/
import Derived.Test.YtjmcijcdncgaiaaProg
import Derived.Test.YtjmcijcdncgaiaaBase9
import Derived.KernelRfl
/- The code of this seat's functions, resolved, written by a program of mine; each is held against the given program by the kernel. Condition: none. -/
namespace Go.Proofs.Ytjmcijcdncgaiaa
open Go.Vc

/- loop.example/g00940/laws.FnExactSortPackets -/
/- loop.example/g00940/laws.FnExactMessagesIn -/
/- loop.example/g00940/laws.szPacket -/
/- loop.example/g00940/spec.IsPacket -/
/- loop.example/g00940/laws.toPacket -/
/- loop.example/g00940/impl.IsPacket -/
abbrev f_impl_IsPacket : Nat := 16
def c_impl_IsPacket : MFun := ⟨30, .seq (.ops [
.op ⟨(some 1), (.eff (.box 27 (.tmp 0))), none⟩,
.op ⟨(some 2), (.pure (.mv (.const (.bool false)))), none⟩])
(.seq (.ops [
.op ⟨(some 3), (.pure (.fieldAddr 0 (.tmp 1))), none⟩,
.op ⟨(some 4), (.load none (.tmp 3)), none⟩,
.op ⟨(some 5), (.eff (.call 54 [(.tmp 4), (.const (.int .i64 (1))), (.const (.int .i64 (999)))])), none⟩,
.op ⟨(some 6), (.pure (.mv (.tmp 5))), none⟩,
.split 6,
.op ⟨(some 7), (.pure (.fieldAddr 2 (.tmp 1))), (some (6, true))⟩,
.op ⟨(some 8), (.load none (.tmp 7)), (some (6, true))⟩,
.op ⟨(some 9), (.eff (.call 54 [(.tmp 8), (.const (.int .i64 (1))), (.const (.int .i64 (9)))])), (some (6, true))⟩,
.op ⟨(some 10), (.pure (.pick (.tmp 6) (.tmp 9) (.const (.bool false)))), none⟩,
.op ⟨(some 11), (.pure (.mv (.tmp 10))), none⟩,
.split 11,
.op ⟨(some 12), (.pure (.fieldAddr 1 (.tmp 1))), (some (11, true))⟩,
.op ⟨(some 13), (.load none (.tmp 12)), (some (11, true))⟩,
.op ⟨(some 14), (.pure (.fieldAddr 2 (.tmp 1))), (some (11, true))⟩,
.op ⟨(some 15), (.load none (.tmp 14)), (some (11, true))⟩,
.op ⟨(some 16), (.pure (.bin .sub (.tmp 15) (.const (.int .i64 (1))))), (some (11, true))⟩,
.op ⟨(some 17), (.eff (.call 54 [(.tmp 13), (.const (.int .i64 (0))), (.tmp 16)])), (some (11, true))⟩,
.op ⟨(some 18), (.pure (.pick (.tmp 11) (.tmp 17) (.const (.bool false)))), none⟩,
.op ⟨(some 19), (.pure (.mv (.tmp 18))), none⟩,
.split 19,
.op ⟨(some 20), (.pure (.fieldAddr 3 (.tmp 1))), (some (19, true))⟩,
.op ⟨(some 21), (.load none (.tmp 20)), (some (19, true))⟩,
.op ⟨(some 22), (.pure (.len (.tmp 21))), (some (19, true))⟩,
.op ⟨(some 23), (.eff (.call 54 [(.tmp 22), (.const (.int .i64 (1))), (.const (.int .i64 (8)))])), (some (19, true))⟩,
.op ⟨(some 24), (.pure (.pick (.tmp 19) (.tmp 23) (.const (.bool false)))), none⟩,
.op ⟨(some 25), (.pure (.mv (.tmp 24))), none⟩,
.split 25,
.op ⟨(some 26), (.pure (.fieldAddr 3 (.tmp 1))), (some (25, true))⟩,
.op ⟨(some 27), (.load none (.tmp 26)), (some (25, true))⟩,
.op ⟨(some 28), (.eff (.call 55 [(.tmp 27), (.const (.int .i64 (1))), (.const (.int .i64 (60)))])), (some (25, true))⟩,
.op ⟨(some 29), (.pure (.pick (.tmp 25) (.tmp 28) (.const (.bool false)))), none⟩,
.op ⟨(some 2), (.pure (.mv (.tmp 29))), none⟩])
(.ret)),
[.tmp 2]⟩
theorem r_impl_IsPacket : resFun Try.prog f_impl_IsPacket = some c_impl_IsPacket := by kernel_rfl

/- loop.example/g00940/laws.eqPacket -/
/- loop.example/g00940/laws.szPacketS -/
/- loop.example/g00940/spec.ArePackets -/
/- loop.example/g00940/laws.toPacketS -/
/- loop.example/g00940/impl.ArePackets -/
abbrev f_impl_ArePackets : Nat := 21
def c_impl_ArePackets : MFun := ⟨11, .seq (.ops [
.op ⟨(some 2), (.pure (.mv (.const (.bool false)))), none⟩])
(.seq (.ops [
.op ⟨(some 3), (.pure (.mv (.tmp 0))), none⟩,
.op ⟨(some 4), (.pure (.len (.tmp 3))), none⟩,
.op ⟨(some 5), (.pure (.bin .leq (.tmp 4) (.const (.int .i64 (40))))), none⟩,
.op ⟨(some 6), (.pure (.mv (.tmp 5))), none⟩,
.split 6,
.op ⟨(some 7), (.pure (.mv (.tmp 0))), (some (6, true))⟩,
.op ⟨(some 8), (.eff (.call 57 [(.tmp 7), (.func 58)])), (some (6, true))⟩,
.op ⟨(some 9), (.pure (.bnot (.tmp 8))), (some (6, true))⟩,
.op ⟨(some 10), (.pure (.pick (.tmp 6) (.tmp 9) (.const (.bool false)))), none⟩,
.op ⟨(some 2), (.pure (.mv (.tmp 10))), none⟩])
(.ret)),
[.tmp 2]⟩
theorem r_impl_ArePackets : resFun Try.prog f_impl_ArePackets = some c_impl_ArePackets := by kernel_rfl

/- loop.example/g00940/laws.eqPacketS -/
/- loop.example/g00940/laws.big -/
abbrev f_laws_big : Nat := 23
def c_laws_big : MFun := ⟨16, .seq (.ops [
.op ⟨(some 4), (.pure (.mv (.const (.bool false)))), none⟩])
(.seq (.ops [
.op ⟨(some 5), (.pure (.mv (.tmp 0))), none⟩,
.op ⟨(some 6), (.pure (.len (.tmp 5))), none⟩,
.op ⟨(some 7), (.pure (.bin .gtr (.tmp 6) (.const (.int .i64 (1048576))))), none⟩,
.op ⟨(some 8), (.pure (.mv (.tmp 7))), none⟩,
.split 8,
.op ⟨(some 9), (.pure (.mv (.tmp 1))), (some (8, false))⟩,
.op ⟨(some 10), (.pure (.len (.tmp 9))), (some (8, false))⟩,
.op ⟨(some 11), (.pure (.mv (.tmp 0))), (some (8, false))⟩,
.op ⟨(some 12), (.pure (.len (.tmp 11))), (some (8, false))⟩,
.op ⟨(some 13), (.pure (.bin .sub (.const (.int .i64 (1048576))) (.tmp 12))), (some (8, false))⟩,
.op ⟨(some 14), (.pure (.bin .gtr (.tmp 10) (.tmp 13))), (some (8, false))⟩,
.op ⟨(some 15), (.pure (.pick (.tmp 8) (.const (.bool true)) (.tmp 14))), none⟩,
.op ⟨(some 4), (.pure (.mv (.tmp 15))), none⟩])
(.ret)),
[.tmp 4]⟩
theorem r_laws_big : resFun Try.prog f_laws_big = some c_laws_big := by kernel_rfl

/- loop.example/g00940/spec.DrawWithoutDoubles -/
abbrev f_spec_DrawWithoutDoubles : Nat := 24
def c_spec_DrawWithoutDoubles : MFun := ⟨5, .seq (.ops [
.op ⟨(some 2), (.pure (.mv (.const (.slice none 0 0)))), none⟩])
(.seq (.ops [
.op ⟨(some 3), (.pure (.mv (.tmp 0))), none⟩,
.op ⟨(some 4), (.eff (.call 59 [(.tmp 3)])), none⟩,
.op ⟨(some 2), (.pure (.mv (.tmp 4))), none⟩])
(.ret)),
[.tmp 2]⟩
theorem r_spec_DrawWithoutDoubles : resFun Try.prog f_spec_DrawWithoutDoubles = some c_spec_DrawWithoutDoubles := by kernel_rfl

/- loop.example/g00940/impl.WithoutDoubles -/
abbrev f_impl_WithoutDoubles : Nat := 25
def c_impl_WithoutDoubles : MFun := ⟨27, .seq (.ops [
.op ⟨(some 2), (.pure (.mv (.const (.slice none 0 0)))), none⟩,
.op ⟨(some 3), (.pure (.mv (.const (.bool false)))), none⟩])
(.seq (.seq (.ops [
.op ⟨(some 7), (.pure (.mv (.tmp 0))), none⟩,
.op ⟨(some 8), (.eff (.call 21 [(.tmp 7)])), none⟩,
.op ⟨(some 9), (.pure (.bnot (.tmp 8))), none⟩])
(.cond (.tmp 9)
(.seq (.ops [
.op ⟨(some 2), (.pure (.mv (.const (.slice none 0 0)))), none⟩,
.op ⟨(some 3), (.pure (.mv (.const (.bool false)))), none⟩])
(.ret))
(.skip)))
(.seq (.ops [
.op ⟨(some 4), (.pure (.mv (.const (.slice none 0 0)))), none⟩])
(.seq (.seq (.ops [
.op ⟨(some 10), (.pure (.mv (.tmp 0))), none⟩,
.op ⟨(some 11), (.pure (.len (.tmp 10))), none⟩,
.op ⟨(some 12), (.pure (.mv (.const (.int .i64 (0))))), none⟩])
(.block 0 (.loop (.seq (.ops [
.op ⟨(some 13), (.pure (.bin .lss (.tmp 12) (.tmp 11))), none⟩])
(.seq (.cond (.tmp 13)
(.skip)
(.exit 0))
(.seq (.block 1 (.seq (.ops [
.op ⟨(some 14), (.pure (.idx 4 (.tmp 10) (.tmp 12))), none⟩,
.op ⟨(some 15), (.load (some 4) (.tmp 14)), none⟩,
.op ⟨(some 6), (.eff (.new 27 [(.int .i64 (0)), (.int .i64 (0)), (.int .i64 (0)), (.slice none 0 0)])), none⟩,
.op ⟨none, (.eff (.store 4 (.tmp 6) (.tmp 15))), none⟩])
(.seq (.ops [
.op ⟨(some 16), (.pure (.mv (.tmp 4))), none⟩,
.op ⟨(some 17), (.pure (.mkfn (.func 60) [] [(.tmp 6)])), none⟩,
.op ⟨(some 18), (.eff (.call 57 [(.tmp 16), (.tmp 17)])), none⟩,
.op ⟨(some 19), (.pure (.bnot (.tmp 18))), none⟩])
(.cond (.tmp 19)
(.ops [
.op ⟨(some 20), (.pure (.mv (.tmp 4))), none⟩,
.op ⟨(some 21), (.load (some 4) (.tmp 6)), none⟩,
.op ⟨(some 22), (.eff (.call 62 [(.tmp 21)])), none⟩,
.op ⟨(some 23), (.eff (.row 27 1 [(.int .i64 (0)), (.int .i64 (0)), (.int .i64 (0)), (.slice none 0 0)] [(0, 4, (.tmp 22))])), none⟩,
.op ⟨(some 24), (.eff (.app 27 4 48 (.tmp 20) (.tmp 23))), none⟩,
.op ⟨(some 4), (.pure (.mv (.tmp 24))), none⟩])
(.skip)))))
(.ops [
.op ⟨(some 25), (.pure (.bin .add (.tmp 12) (.const (.int .i64 (1))))), none⟩,
.op ⟨(some 12), (.pure (.mv (.tmp 25))), none⟩])))))))
(.seq (.ops [
.op ⟨(some 26), (.pure (.mv (.tmp 4))), none⟩,
.op ⟨(some 2), (.pure (.mv (.tmp 26))), none⟩,
.op ⟨(some 3), (.pure (.mv (.const (.bool true)))), none⟩])
(.ret))))),
[.tmp 2, .tmp 3]⟩
theorem r_impl_WithoutDoubles : resFun Try.prog f_impl_WithoutDoubles = some c_impl_WithoutDoubles := by kernel_rfl

/- loop.example/g00940/spec.WithoutDoubles -/
abbrev f_spec_WithoutDoubles : Nat := 26
def c_spec_WithoutDoubles : MFun := ⟨41, .seq (.ops [
.op ⟨(some 2), (.pure (.mv (.const (.slice none 0 0)))), none⟩,
.op ⟨(some 3), (.pure (.mv (.const (.bool false)))), none⟩])
(.seq (.seq (.ops [
.op ⟨(some 10), (.pure (.mv (.tmp 0))), none⟩,
.op ⟨(some 11), (.eff (.call 56 [(.tmp 10)])), none⟩,
.op ⟨(some 12), (.pure (.bnot (.tmp 11))), none⟩])
(.cond (.tmp 12)
(.seq (.ops [
.op ⟨(some 2), (.pure (.mv (.const (.slice none 0 0)))), none⟩,
.op ⟨(some 3), (.pure (.mv (.const (.bool false)))), none⟩])
(.ret))
(.skip)))
(.seq (.ops [
.op ⟨(some 4), (.pure (.mv (.const (.slice none 0 0)))), none⟩])
(.seq (.seq (.ops [
.op ⟨(some 13), (.pure (.mv (.tmp 0))), none⟩,
.op ⟨(some 14), (.pure (.len (.tmp 13))), none⟩,
.op ⟨(some 15), (.pure (.mv (.const (.int .i64 (0))))), none⟩])
(.block 0 (.loop (.seq (.ops [
.op ⟨(some 16), (.pure (.bin .lss (.tmp 15) (.tmp 14))), none⟩])
(.seq (.cond (.tmp 16)
(.skip)
(.exit 0))
(.seq (.block 1 (.seq (.ops [
.op ⟨(some 17), (.pure (.idx 4 (.tmp 13) (.tmp 15))), none⟩,
.op ⟨(some 18), (.load (some 4) (.tmp 17)), none⟩,
.op ⟨(some 6), (.eff (.new 27 [(.int .i64 (0)), (.int .i64 (0)), (.int .i64 (0)), (.slice none 0 0)])), none⟩,
.op ⟨none, (.eff (.store 4 (.tmp 6) (.tmp 18))), none⟩])
(.seq (.ops [
.op ⟨(some 7), (.pure (.mv (.const (.bool false)))), none⟩])
(.seq (.seq (.ops [
.op ⟨(some 19), (.pure (.mv (.tmp 4))), none⟩,
.op ⟨(some 20), (.pure (.len (.tmp 19))), none⟩,
.op ⟨(some 21), (.pure (.mv (.const (.int .i64 (0))))), none⟩])
(.block 2 (.loop (.seq (.ops [
.op ⟨(some 22), (.pure (.bin .lss (.tmp 21) (.tmp 20))), none⟩])
(.seq (.cond (.tmp 22)
(.skip)
(.exit 2))
(.seq (.block 3 (.seq (.ops [
.op ⟨(some 23), (.pure (.idx 4 (.tmp 19) (.tmp 21))), none⟩,
.op ⟨(some 24), (.load (some 4) (.tmp 23)), none⟩,
.op ⟨(some 9), (.eff (.new 27 [(.int .i64 (0)), (.int .i64 (0)), (.int .i64 (0)), (.slice none 0 0)])), none⟩,
.op ⟨none, (.eff (.store 4 (.tmp 9) (.tmp 24))), none⟩])
(.ops [
.op ⟨(some 25), (.pure (.mv (.tmp 7))), none⟩,
.op ⟨(some 26), (.pure (.mv (.tmp 25))), none⟩,
.split 26,
.op ⟨(some 27), (.load (some 4) (.tmp 6)), (some (26, false))⟩,
.op ⟨(some 28), (.load (some 4) (.tmp 9)), (some (26, false))⟩,
.op ⟨(some 29), (.eff (.call 63 [(.tmp 27), (.tmp 28)])), (some (26, false))⟩,
.op ⟨(some 30), (.pure (.pick (.tmp 26) (.const (.bool true)) (.tmp 29))), none⟩,
.op ⟨(some 7), (.pure (.mv (.tmp 30))), none⟩])))
(.ops [
.op ⟨(some 31), (.pure (.bin .add (.tmp 21) (.const (.int .i64 (1))))), none⟩,
.op ⟨(some 21), (.pure (.mv (.tmp 31))), none⟩])))))))
(.seq (.ops [
.op ⟨(some 32), (.pure (.mv (.tmp 7))), none⟩,
.op ⟨(some 33), (.pure (.bnot (.tmp 32))), none⟩])
(.cond (.tmp 33)
(.ops [
.op ⟨(some 34), (.pure (.mv (.tmp 4))), none⟩,
.op ⟨(some 35), (.load (some 4) (.tmp 6)), none⟩,
.op ⟨(some 36), (.eff (.call 64 [(.tmp 35)])), none⟩,
.op ⟨(some 37), (.eff (.row 27 1 [(.int .i64 (0)), (.int .i64 (0)), (.int .i64 (0)), (.slice none 0 0)] [(0, 4, (.tmp 36))])), none⟩,
.op ⟨(some 38), (.eff (.app 27 4 48 (.tmp 34) (.tmp 37))), none⟩,
.op ⟨(some 4), (.pure (.mv (.tmp 38))), none⟩])
(.skip)))))))
(.ops [
.op ⟨(some 39), (.pure (.bin .add (.tmp 15) (.const (.int .i64 (1))))), none⟩,
.op ⟨(some 15), (.pure (.mv (.tmp 39))), none⟩])))))))
(.seq (.ops [
.op ⟨(some 40), (.pure (.mv (.tmp 4))), none⟩,
.op ⟨(some 2), (.pure (.mv (.tmp 40))), none⟩,
.op ⟨(some 3), (.pure (.mv (.const (.bool true)))), none⟩])
(.ret))))),
[.tmp 2, .tmp 3]⟩
theorem r_spec_WithoutDoubles : resFun Try.prog f_spec_WithoutDoubles = some c_spec_WithoutDoubles := by kernel_rfl

/- loop.example/g00940/impl.SortPackets -/
abbrev f_impl_SortPackets : Nat := 27
def c_impl_SortPackets : MFun := ⟨25, .seq (.ops [
.op ⟨(some 2), (.pure (.mv (.const (.slice none 0 0)))), none⟩,
.op ⟨(some 3), (.pure (.mv (.const (.bool false)))), none⟩])
(.seq (.seq (.ops [
.op ⟨(some 7), (.pure (.mv (.tmp 0))), none⟩,
.op ⟨(some 8), (.eff (.call 21 [(.tmp 7)])), none⟩,
.op ⟨(some 9), (.pure (.bnot (.tmp 8))), none⟩])
(.cond (.tmp 9)
(.seq (.ops [
.op ⟨(some 2), (.pure (.mv (.const (.slice none 0 0)))), none⟩,
.op ⟨(some 3), (.pure (.mv (.const (.bool false)))), none⟩])
(.ret))
(.skip)))
(.seq (.ops [
.op ⟨(some 4), (.pure (.mv (.const (.slice none 0 0)))), none⟩])
(.seq (.seq (.ops [
.op ⟨(some 10), (.pure (.mv (.tmp 0))), none⟩,
.op ⟨(some 11), (.pure (.len (.tmp 10))), none⟩,
.op ⟨(some 12), (.pure (.mv (.const (.int .i64 (0))))), none⟩])
(.block 0 (.loop (.seq (.ops [
.op ⟨(some 13), (.pure (.bin .lss (.tmp 12) (.tmp 11))), none⟩])
(.seq (.cond (.tmp 13)
(.skip)
(.exit 0))
(.seq (.block 1 (.seq (.ops [
.op ⟨(some 14), (.pure (.idx 4 (.tmp 10) (.tmp 12))), none⟩,
.op ⟨(some 15), (.load (some 4) (.tmp 14)), none⟩,
.op ⟨(some 6), (.eff (.new 27 [(.int .i64 (0)), (.int .i64 (0)), (.int .i64 (0)), (.slice none 0 0)])), none⟩,
.op ⟨none, (.eff (.store 4 (.tmp 6) (.tmp 15))), none⟩])
(.ops [
.op ⟨(some 16), (.pure (.mv (.tmp 4))), none⟩,
.op ⟨(some 17), (.load (some 4) (.tmp 6)), none⟩,
.op ⟨(some 18), (.eff (.call 62 [(.tmp 17)])), none⟩,
.op ⟨(some 19), (.eff (.row 27 1 [(.int .i64 (0)), (.int .i64 (0)), (.int .i64 (0)), (.slice none 0 0)] [(0, 4, (.tmp 18))])), none⟩,
.op ⟨(some 20), (.eff (.app 27 4 48 (.tmp 16) (.tmp 19))), none⟩,
.op ⟨(some 4), (.pure (.mv (.tmp 20))), none⟩])))
(.ops [
.op ⟨(some 21), (.pure (.bin .add (.tmp 12) (.const (.int .i64 (1))))), none⟩,
.op ⟨(some 12), (.pure (.mv (.tmp 21))), none⟩])))))))
(.seq (.ops [
.op ⟨(some 22), (.pure (.mv (.tmp 4))), none⟩,
.op ⟨(some 23), (.eff (.call 65 [(.tmp 22), (.func 66)])), none⟩])
(.seq (.ops [
.op ⟨(some 24), (.pure (.mv (.tmp 4))), none⟩,
.op ⟨(some 2), (.pure (.mv (.tmp 24))), none⟩,
.op ⟨(some 3), (.pure (.mv (.const (.bool true)))), none⟩])
(.ret)))))),
[.tmp 2, .tmp 3]⟩
theorem r_impl_SortPackets : resFun Try.prog f_impl_SortPackets = some c_impl_SortPackets := by kernel_rfl

/- loop.example/g00940/spec.SortPackets -/
abbrev f_spec_SortPackets : Nat := 28
def c_spec_SortPackets : MFun := ⟨71, .seq (.ops [
.op ⟨(some 2), (.pure (.mv (.const (.slice none 0 0)))), none⟩,
.op ⟨(some 3), (.pure (.mv (.const (.bool false)))), none⟩])
(.seq (.seq (.ops [
.op ⟨(some 8), (.pure (.mv (.tmp 0))), none⟩,
.op ⟨(some 9), (.eff (.call 56 [(.tmp 8)])), none⟩,
.op ⟨(some 10), (.pure (.bnot (.tmp 9))), none⟩])
(.cond (.tmp 10)
(.seq (.ops [
.op ⟨(some 2), (.pure (.mv (.const (.slice none 0 0)))), none⟩,
.op ⟨(some 3), (.pure (.mv (.const (.bool false)))), none⟩])
(.ret))
(.skip)))
(.seq (.ops [
.op ⟨(some 4), (.pure (.mv (.const (.slice none 0 0)))), none⟩])
(.seq (.seq (.ops [
.op ⟨(some 11), (.pure (.mv (.tmp 0))), none⟩,
.op ⟨(some 12), (.pure (.len (.tmp 11))), none⟩,
.op ⟨(some 13), (.pure (.mv (.const (.int .i64 (0))))), none⟩])
(.block 0 (.loop (.seq (.ops [
.op ⟨(some 14), (.pure (.bin .lss (.tmp 13) (.tmp 12))), none⟩])
(.seq (.cond (.tmp 14)
(.skip)
(.exit 0))
(.seq (.block 1 (.seq (.ops [
.op ⟨(some 15), (.pure (.idx 4 (.tmp 11) (.tmp 13))), none⟩,
.op ⟨(some 16), (.load (some 4) (.tmp 15)), none⟩,
.op ⟨(some 6), (.eff (.new 27 [(.int .i64 (0)), (.int .i64 (0)), (.int .i64 (0)), (.slice none 0 0)])), none⟩,
.op ⟨none, (.eff (.store 4 (.tmp 6) (.tmp 16))), none⟩])
(.seq (.ops [
.op ⟨(some 17), (.pure (.mv (.tmp 4))), none⟩,
.op ⟨(some 18), (.pure (.len (.tmp 17))), none⟩,
.op ⟨(some 7), (.pure (.mv (.tmp 18))), none⟩])
(.seq (.block 2 (.loop (.seq (.seq (.ops [
.op ⟨(some 19), (.pure (.mv (.tmp 7))), none⟩,
.op ⟨(some 20), (.pure (.bin .gtr (.tmp 19) (.const (.int .i64 (0))))), none⟩,
.op ⟨(some 21), (.pure (.mv (.tmp 20))), none⟩,
.split 21,
.op ⟨(some 22), (.pure (.mv (.tmp 4))), (some (21, true))⟩,
.op ⟨(some 23), (.pure (.mv (.tmp 7))), (some (21, true))⟩,
.op ⟨(some 24), (.pure (.bin .sub (.tmp 23) (.const (.int .i64 (1))))), (some (21, true))⟩,
.op ⟨(some 25), (.pure (.idx 4 (.tmp 22) (.tmp 24))), (some (21, true))⟩,
.op ⟨(some 26), (.pure (.fieldAddr 0 (.tmp 25))), (some (21, true))⟩,
.op ⟨(some 28), (.pure (.fieldAddr 0 (.tmp 6))), (some (21, true))⟩,
.op ⟨(some 27), (.load none (.tmp 26)), (some (21, true))⟩,
.op ⟨(some 29), (.load none (.tmp 28)), (some (21, true))⟩,
.op ⟨(some 30), (.pure (.bin .gtr (.tmp 27) (.tmp 29))), (some (21, true))⟩,
.op ⟨(some 31), (.pure (.mv (.tmp 30))), (some (21, true))⟩,
.split 31,
.op ⟨(some 32), (.pure (.mv (.tmp 4))), (some (31, false))⟩,
.op ⟨(some 33), (.pure (.mv (.tmp 7))), (some (31, false))⟩,
.op ⟨(some 34), (.pure (.bin .sub (.tmp 33) (.const (.int .i64 (1))))), (some (31, false))⟩,
.op ⟨(some 35), (.pure (.idx 4 (.tmp 32) (.tmp 34))), (some (31, false))⟩,
.op ⟨(some 36), (.pure (.fieldAddr 0 (.tmp 35))), (some (31, false))⟩,
.op ⟨(some 38), (.pure (.fieldAddr 0 (.tmp 6))), (some (31, false))⟩,
.op ⟨(some 37), (.load none (.tmp 36)), (some (31, false))⟩,
.op ⟨(some 39), (.load none (.tmp 38)), (some (31, false))⟩,
.op ⟨(some 40), (.pure (.bin .eql (.tmp 37) (.tmp 39))), (some (31, false))⟩,
.op ⟨(some 41), (.pure (.mv (.tmp 40))), (some (31, false))⟩,
.split 41,
.op ⟨(some 42), (.pure (.mv (.tmp 4))), (some (41, true))⟩,
.op ⟨(some 43), (.pure (.mv (.tmp 7))), (some (41, true))⟩,
.op ⟨(some 44), (.pure (.bin .sub (.tmp 43) (.const (.int .i64 (1))))), (some (41, true))⟩,
.op ⟨(some 45), (.pure (.idx 4 (.tmp 42) (.tmp 44))), (some (41, true))⟩,
.op ⟨(some 46), (.pure (.fieldAddr 1 (.tmp 45))), (some (41, true))⟩,
.op ⟨(some 48), (.pure (.fieldAddr 1 (.tmp 6))), (some (41, true))⟩,
.op ⟨(some 47), (.load none (.tmp 46)), (some (41, true))⟩,
.op ⟨(some 49), (.load none (.tmp 48)), (some (41, true))⟩,
.op ⟨(some 50), (.pure (.bin .gtr (.tmp 47) (.tmp 49))), (some (41, true))⟩,
.op ⟨(some 51), (.pure (.pick (.tmp 41) (.tmp 50) (.const (.bool false)))), (some (31, false))⟩,
.op ⟨(some 52), (.pure (.pick (.tmp 31) (.const (.bool true)) (.tmp 51))), (some (21, true))⟩,
.op ⟨(some 53), (.pure (.pick (.tmp 21) (.tmp 52) (.const (.bool false)))), none⟩])
(.cond (.tmp 53)
(.skip)
(.exit 2)))
(.block 3 (.ops [
.op ⟨(some 54), (.pure (.mv (.tmp 7))), none⟩,
.op ⟨(some 55), (.pure (.bin .sub (.tmp 54) (.const (.int .i64 (1))))), none⟩,
.op ⟨(some 7), (.pure (.mv (.tmp 55))), none⟩])))))
(.draw true
(.take ⟨(some 57), (.pure (.mv (.tmp 4))), none⟩
(.take ⟨(some 58), (.pure (.mv (.tmp 7))), none⟩
(.take ⟨(some 59), (.pure (.slc 4 (.tmp 57) none (some (.tmp 58)) none)), none⟩
(.take ⟨(some 65), (.pure (.mv (.tmp 4))), none⟩
(.take ⟨(some 66), (.pure (.mv (.tmp 7))), none⟩
(.take ⟨(some 67), (.pure (.slc 4 (.tmp 65) (some (.tmp 66)) none none)), none⟩
(.take ⟨(some 61), (.load (some 4) (.tmp 6)), none⟩
(.only false ⟨(some 56), (.eff (.row 27 0 [] [])), none⟩
(.only false ⟨(some 60), (.eff (.app 27 4 48 (.tmp 56) (.tmp 59))), none⟩
(.only true ⟨(some 62), (.eff (.call 64 [(.tmp 61)])), none⟩
(.only true ⟨(some 63), (.eff (.row 27 1 [(.int .i64 (0)), (.int .i64 (0)), (.int .i64 (0)), (.slice none 0 0)] [(0, 4, (.tmp 62))])), none⟩
(.only true ⟨(some 64), (.eff (.app 27 4 48 (.tmp 60) (.tmp 63))), none⟩
(.only true ⟨(some 68), (.eff (.app 27 4 48 (.tmp 64) (.tmp 67))), none⟩
(.take ⟨(some 4), (.pure (.mv (.tmp 68))), none⟩
(.done))))))))))))))))))))
(.ops [
.op ⟨(some 69), (.pure (.bin .add (.tmp 13) (.const (.int .i64 (1))))), none⟩,
.op ⟨(some 13), (.pure (.mv (.tmp 69))), none⟩])))))))
(.seq (.ops [
.op ⟨(some 70), (.pure (.mv (.tmp 4))), none⟩,
.op ⟨(some 2), (.pure (.mv (.tmp 70))), none⟩,
.op ⟨(some 3), (.pure (.mv (.const (.bool true)))), none⟩])
(.ret))))),
[.tmp 2, .tmp 3]⟩
theorem r_spec_SortPackets : resFun Try.prog f_spec_SortPackets = some c_spec_SortPackets := by kernel_rfl

/- loop.example/g00940/impl.MessagesIn -/
abbrev f_impl_MessagesIn : Nat := 29
def c_impl_MessagesIn : MFun := ⟨26, .seq (.ops [
.op ⟨(some 2), (.pure (.mv (.const (.slice none 0 0)))), none⟩,
.op ⟨(some 3), (.pure (.mv (.const (.bool false)))), none⟩])
(.seq (.seq (.ops [
.op ⟨(some 7), (.pure (.mv (.tmp 0))), none⟩,
.op ⟨(some 8), (.eff (.call 21 [(.tmp 7)])), none⟩,
.op ⟨(some 9), (.pure (.bnot (.tmp 8))), none⟩])
(.cond (.tmp 9)
(.seq (.ops [
.op ⟨(some 2), (.pure (.mv (.const (.slice none 0 0)))), none⟩,
.op ⟨(some 3), (.pure (.mv (.const (.bool false)))), none⟩])
(.ret))
(.skip)))
(.seq (.ops [
.op ⟨(some 4), (.pure (.mv (.const (.slice none 0 0)))), none⟩])
(.seq (.seq (.ops [
.op ⟨(some 10), (.pure (.mv (.tmp 0))), none⟩,
.op ⟨(some 11), (.pure (.len (.tmp 10))), none⟩,
.op ⟨(some 12), (.pure (.mv (.const (.int .i64 (0))))), none⟩])
(.block 0 (.loop (.seq (.ops [
.op ⟨(some 13), (.pure (.bin .lss (.tmp 12) (.tmp 11))), none⟩])
(.seq (.cond (.tmp 13)
(.skip)
(.exit 0))
(.seq (.block 1 (.seq (.ops [
.op ⟨(some 14), (.pure (.idx 4 (.tmp 10) (.tmp 12))), none⟩,
.op ⟨(some 15), (.load (some 4) (.tmp 14)), none⟩,
.op ⟨(some 6), (.eff (.new 27 [(.int .i64 (0)), (.int .i64 (0)), (.int .i64 (0)), (.slice none 0 0)])), none⟩,
.op ⟨none, (.eff (.store 4 (.tmp 6) (.tmp 15))), none⟩])
(.ops [
.op ⟨(some 16), (.pure (.mv (.tmp 4))), none⟩,
.op ⟨(some 17), (.pure (.fieldAddr 0 (.tmp 6))), none⟩,
.op ⟨(some 18), (.load none (.tmp 17)), none⟩,
.op ⟨(some 19), (.eff (.row 3 1 [(.int .i64 (0))] [(0, 1, (.tmp 18))])), none⟩,
.op ⟨(some 20), (.eff (.app 3 1 8 (.tmp 16) (.tmp 19))), none⟩,
.op ⟨(some 4), (.pure (.mv (.tmp 20))), none⟩])))
(.ops [
.op ⟨(some 21), (.pure (.bin .add (.tmp 12) (.const (.int .i64 (1))))), none⟩,
.op ⟨(some 12), (.pure (.mv (.tmp 21))), none⟩])))))))
(.seq (.ops [
.op ⟨(some 22), (.pure (.mv (.tmp 4))), none⟩,
.op ⟨(some 23), (.eff (.call 69 [(.tmp 22)])), none⟩])
(.seq (.ops [
.op ⟨(some 24), (.pure (.mv (.tmp 4))), none⟩,
.op ⟨(some 25), (.eff (.call 70 [(.tmp 24)])), none⟩,
.op ⟨(some 2), (.pure (.mv (.tmp 25))), none⟩,
.op ⟨(some 3), (.pure (.mv (.const (.bool true)))), none⟩])
(.ret)))))),
[.tmp 2, .tmp 3]⟩
theorem r_impl_MessagesIn : resFun Try.prog f_impl_MessagesIn = some c_impl_MessagesIn := by kernel_rfl

/- loop.example/g00940/spec.MessagesIn -/
abbrev f_spec_MessagesIn : Nat := 30
def c_spec_MessagesIn : MFun := ⟨22, .seq (.ops [
.op ⟨(some 2), (.pure (.mv (.const (.slice none 0 0)))), none⟩,
.op ⟨(some 3), (.pure (.mv (.const (.bool false)))), none⟩])
(.seq (.seq (.ops [
.op ⟨(some 7), (.pure (.mv (.tmp 0))), none⟩,
.op ⟨(some 8), (.eff (.call 56 [(.tmp 7)])), none⟩,
.op ⟨(some 9), (.pure (.bnot (.tmp 8))), none⟩])
(.cond (.tmp 9)
(.seq (.ops [
.op ⟨(some 2), (.pure (.mv (.const (.slice none 0 0)))), none⟩,
.op ⟨(some 3), (.pure (.mv (.const (.bool false)))), none⟩])
(.ret))
(.skip)))
(.seq (.ops [
.op ⟨(some 4), (.pure (.mv (.const (.slice none 0 0)))), none⟩])
(.seq (.seq (.ops [
.op ⟨(some 10), (.pure (.mv (.tmp 0))), none⟩,
.op ⟨(some 11), (.pure (.len (.tmp 10))), none⟩,
.op ⟨(some 12), (.pure (.mv (.const (.int .i64 (0))))), none⟩])
(.block 0 (.loop (.seq (.ops [
.op ⟨(some 13), (.pure (.bin .lss (.tmp 12) (.tmp 11))), none⟩])
(.seq (.cond (.tmp 13)
(.skip)
(.exit 0))
(.seq (.block 1 (.seq (.ops [
.op ⟨(some 14), (.pure (.idx 4 (.tmp 10) (.tmp 12))), none⟩,
.op ⟨(some 15), (.load (some 4) (.tmp 14)), none⟩,
.op ⟨(some 6), (.eff (.new 27 [(.int .i64 (0)), (.int .i64 (0)), (.int .i64 (0)), (.slice none 0 0)])), none⟩,
.op ⟨none, (.eff (.store 4 (.tmp 6) (.tmp 15))), none⟩])
(.ops [
.op ⟨(some 16), (.pure (.mv (.tmp 4))), none⟩,
.op ⟨(some 17), (.pure (.fieldAddr 0 (.tmp 6))), none⟩,
.op ⟨(some 18), (.load none (.tmp 17)), none⟩,
.op ⟨(some 19), (.eff (.call 71 [(.tmp 16), (.tmp 18)])), none⟩,
.op ⟨(some 4), (.pure (.mv (.tmp 19))), none⟩])))
(.ops [
.op ⟨(some 20), (.pure (.bin .add (.tmp 12) (.const (.int .i64 (1))))), none⟩,
.op ⟨(some 12), (.pure (.mv (.tmp 20))), none⟩])))))))
(.seq (.ops [
.op ⟨(some 21), (.pure (.mv (.tmp 4))), none⟩,
.op ⟨(some 2), (.pure (.mv (.tmp 21))), none⟩,
.op ⟨(some 3), (.pure (.mv (.const (.bool true)))), none⟩])
(.ret))))),
[.tmp 2, .tmp 3]⟩
theorem r_spec_MessagesIn : resFun Try.prog f_spec_MessagesIn = some c_spec_MessagesIn := by kernel_rfl

/- loop.example/g00940/impl.ConflictsIn -/
abbrev f_impl_ConflictsIn : Nat := 31
def c_impl_ConflictsIn : MFun := ⟨40, .seq (.ops [
.op ⟨(some 2), (.pure (.mv (.const (.slice none 0 0)))), none⟩,
.op ⟨(some 3), (.pure (.mv (.const (.bool false)))), none⟩])
(.seq (.seq (.ops [
.op ⟨(some 7), (.pure (.mv (.tmp 0))), none⟩,
.op ⟨(some 8), (.eff (.call 21 [(.tmp 7)])), none⟩,
.op ⟨(some 9), (.pure (.bnot (.tmp 8))), none⟩])
(.cond (.tmp 9)
(.seq (.ops [
.op ⟨(some 2), (.pure (.mv (.const (.slice none 0 0)))), none⟩,
.op ⟨(some 3), (.pure (.mv (.const (.bool false)))), none⟩])
(.ret))
(.skip)))
(.seq (.ops [
.op ⟨(some 4), (.pure (.mv (.const (.slice none 0 0)))), none⟩])
(.seq (.seq (.ops [
.op ⟨(some 10), (.pure (.mv (.tmp 0))), none⟩,
.op ⟨(some 11), (.pure (.len (.tmp 10))), none⟩,
.op ⟨(some 12), (.pure (.mv (.const (.int .i64 (0))))), none⟩])
(.block 0 (.loop (.seq (.ops [
.op ⟨(some 13), (.pure (.bin .lss (.tmp 12) (.tmp 11))), none⟩])
(.seq (.cond (.tmp 13)
(.skip)
(.exit 0))
(.seq (.block 1 (.seq (.ops [
.op ⟨(some 14), (.pure (.mv (.tmp 12))), none⟩,
.op ⟨(some 5), (.pure (.mv (.tmp 14))), none⟩])
(.seq (.ops [
.op ⟨(some 15), (.pure (.mv (.tmp 5))), none⟩,
.op ⟨(some 16), (.pure (.bin .add (.tmp 15) (.const (.int .i64 (1))))), none⟩,
.op ⟨(some 6), (.pure (.mv (.tmp 16))), none⟩])
(.block 2 (.loop (.seq (.seq (.ops [
.op ⟨(some 17), (.pure (.mv (.tmp 6))), none⟩,
.op ⟨(some 18), (.pure (.mv (.tmp 0))), none⟩,
.op ⟨(some 19), (.pure (.len (.tmp 18))), none⟩,
.op ⟨(some 20), (.pure (.bin .lss (.tmp 17) (.tmp 19))), none⟩])
(.cond (.tmp 20)
(.skip)
(.exit 2)))
(.seq (.block 3 (.seq (.draw false
(.take ⟨(some 23), (.pure (.mv (.tmp 0))), none⟩
(.take ⟨(some 24), (.pure (.mv (.tmp 5))), none⟩
(.take ⟨(some 25), (.pure (.idx 4 (.tmp 23) (.tmp 24))), none⟩
(.take ⟨(some 27), (.pure (.mv (.tmp 0))), none⟩
(.take ⟨(some 28), (.pure (.mv (.tmp 6))), none⟩
(.take ⟨(some 29), (.pure (.idx 4 (.tmp 27) (.tmp 28))), none⟩
(.only false ⟨(some 26), (.load (some 4) (.tmp 25)), none⟩
(.only false ⟨(some 30), (.load (some 4) (.tmp 29)), none⟩
(.only true ⟨(some 31), (.eff (.call 72 [(.tmp 26), (.tmp 30)])), none⟩
(.done)))))))))))
(.cond (.tmp 31)
(.ops [
.op ⟨(some 32), (.pure (.mv (.tmp 4))), none⟩,
.op ⟨(some 33), (.pure (.mv (.tmp 5))), none⟩,
.op ⟨(some 34), (.pure (.mv (.tmp 6))), none⟩,
.op ⟨(some 35), (.eff (.row 3 2 [(.int .i64 (0)), (.int .i64 (0))] [(0, 1, (.tmp 33)), (1, 1, (.tmp 34))])), none⟩,
.op ⟨(some 36), (.eff (.row 22 1 [(.slice none 0 0)] [(0, 1, (.tmp 35))])), none⟩,
.op ⟨(some 37), (.eff (.app 22 1 24 (.tmp 32) (.tmp 36))), none⟩,
.op ⟨(some 4), (.pure (.mv (.tmp 37))), none⟩])
(.skip))))
(.ops [
.op ⟨(some 21), (.pure (.mv (.tmp 6))), none⟩,
.op ⟨(some 22), (.pure (.bin .add (.tmp 21) (.const (.int .i64 (1))))), none⟩,
.op ⟨(some 6), (.pure (.mv (.tmp 22))), none⟩]))))))))
(.ops [
.op ⟨(some 38), (.pure (.bin .add (.tmp 12) (.const (.int .i64 (1))))), none⟩,
.op ⟨(some 12), (.pure (.mv (.tmp 38))), none⟩])))))))
(.seq (.ops [
.op ⟨(some 39), (.pure (.mv (.tmp 4))), none⟩,
.op ⟨(some 2), (.pure (.mv (.tmp 39))), none⟩,
.op ⟨(some 3), (.pure (.mv (.const (.bool true)))), none⟩])
(.ret))))),
[.tmp 2, .tmp 3]⟩
theorem r_impl_ConflictsIn : resFun Try.prog f_impl_ConflictsIn = some c_impl_ConflictsIn := by kernel_rfl

/- loop.example/g00940/spec.ConflictsIn -/
abbrev f_spec_ConflictsIn : Nat := 32
def c_spec_ConflictsIn : MFun := ⟨40, .seq (.ops [
.op ⟨(some 2), (.pure (.mv (.const (.slice none 0 0)))), none⟩,
.op ⟨(some 3), (.pure (.mv (.const (.bool false)))), none⟩])
(.seq (.seq (.ops [
.op ⟨(some 8), (.pure (.mv (.tmp 0))), none⟩,
.op ⟨(some 9), (.eff (.call 56 [(.tmp 8)])), none⟩,
.op ⟨(some 10), (.pure (.bnot (.tmp 9))), none⟩])
(.cond (.tmp 10)
(.seq (.ops [
.op ⟨(some 2), (.pure (.mv (.const (.slice none 0 0)))), none⟩,
.op ⟨(some 3), (.pure (.mv (.const (.bool false)))), none⟩])
(.ret))
(.skip)))
(.seq (.ops [
.op ⟨(some 4), (.pure (.mv (.const (.slice none 0 0)))), none⟩])
(.seq (.seq (.ops [
.op ⟨(some 11), (.pure (.mv (.tmp 0))), none⟩,
.op ⟨(some 12), (.pure (.len (.tmp 11))), none⟩,
.op ⟨(some 13), (.pure (.mv (.const (.int .i64 (0))))), none⟩])
(.block 0 (.loop (.seq (.ops [
.op ⟨(some 14), (.pure (.bin .lss (.tmp 13) (.tmp 12))), none⟩])
(.seq (.cond (.tmp 14)
(.skip)
(.exit 0))
(.seq (.block 1 (.seq (.ops [
.op ⟨(some 15), (.pure (.mv (.tmp 13))), none⟩,
.op ⟨(some 16), (.pure (.idx 4 (.tmp 11) (.tmp 13))), none⟩,
.op ⟨(some 17), (.load (some 4) (.tmp 16)), none⟩,
.op ⟨(some 6), (.eff (.new 27 [(.int .i64 (0)), (.int .i64 (0)), (.int .i64 (0)), (.slice none 0 0)])), none⟩,
.op ⟨(some 5), (.pure (.mv (.tmp 15))), none⟩,
.op ⟨none, (.eff (.store 4 (.tmp 6) (.tmp 17))), none⟩])
(.seq (.ops [
.op ⟨(some 18), (.pure (.mv (.tmp 5))), none⟩,
.op ⟨(some 19), (.pure (.bin .add (.tmp 18) (.const (.int .i64 (1))))), none⟩,
.op ⟨(some 7), (.pure (.mv (.tmp 19))), none⟩])
(.block 2 (.loop (.seq (.seq (.ops [
.op ⟨(some 20), (.pure (.mv (.tmp 7))), none⟩,
.op ⟨(some 21), (.pure (.mv (.tmp 0))), none⟩,
.op ⟨(some 22), (.pure (.len (.tmp 21))), none⟩,
.op ⟨(some 23), (.pure (.bin .lss (.tmp 20) (.tmp 22))), none⟩])
(.cond (.tmp 23)
(.skip)
(.exit 2)))
(.seq (.block 3 (.seq (.draw false
(.take ⟨(some 27), (.pure (.mv (.tmp 0))), none⟩
(.take ⟨(some 28), (.pure (.mv (.tmp 7))), none⟩
(.take ⟨(some 29), (.pure (.idx 4 (.tmp 27) (.tmp 28))), none⟩
(.only false ⟨(some 26), (.load (some 4) (.tmp 6)), none⟩
(.only false ⟨(some 30), (.load (some 4) (.tmp 29)), none⟩
(.only true ⟨(some 31), (.eff (.call 73 [(.tmp 26), (.tmp 30)])), none⟩
(.done))))))))
(.cond (.tmp 31)
(.ops [
.op ⟨(some 32), (.pure (.mv (.tmp 4))), none⟩,
.op ⟨(some 33), (.pure (.mv (.tmp 5))), none⟩,
.op ⟨(some 34), (.pure (.mv (.tmp 7))), none⟩,
.op ⟨(some 35), (.eff (.row 3 2 [(.int .i64 (0)), (.int .i64 (0))] [(0, 1, (.tmp 33)), (1, 1, (.tmp 34))])), none⟩,
.op ⟨(some 36), (.eff (.row 22 1 [(.slice none 0 0)] [(0, 1, (.tmp 35))])), none⟩,
.op ⟨(some 37), (.eff (.app 22 1 24 (.tmp 32) (.tmp 36))), none⟩,
.op ⟨(some 4), (.pure (.mv (.tmp 37))), none⟩])
(.skip))))
(.ops [
.op ⟨(some 24), (.pure (.mv (.tmp 7))), none⟩,
.op ⟨(some 25), (.pure (.bin .add (.tmp 24) (.const (.int .i64 (1))))), none⟩,
.op ⟨(some 7), (.pure (.mv (.tmp 25))), none⟩]))))))))
(.ops [
.op ⟨(some 38), (.pure (.bin .add (.tmp 13) (.const (.int .i64 (1))))), none⟩,
.op ⟨(some 13), (.pure (.mv (.tmp 38))), none⟩])))))))
(.seq (.ops [
.op ⟨(some 39), (.pure (.mv (.tmp 4))), none⟩,
.op ⟨(some 2), (.pure (.mv (.tmp 39))), none⟩,
.op ⟨(some 3), (.pure (.mv (.const (.bool true)))), none⟩])
(.ret))))),
[.tmp 2, .tmp 3]⟩
theorem r_spec_ConflictsIn : resFun Try.prog f_spec_ConflictsIn = some c_spec_ConflictsIn := by kernel_rfl

/- loop.example/g00940/laws.pSamePackets -/
abbrev f_laws_pSamePackets : Nat := 33
def c_laws_pSamePackets : MFun := ⟨27, .seq (.ops [
.op ⟨(some 4), (.pure (.mv (.const (.bool false)))), none⟩])
(.seq (.seq (.ops [
.op ⟨(some 6), (.pure (.mv (.tmp 0))), none⟩,
.op ⟨(some 7), (.pure (.len (.tmp 6))), none⟩,
.op ⟨(some 8), (.pure (.mv (.tmp 1))), none⟩,
.op ⟨(some 9), (.pure (.len (.tmp 8))), none⟩,
.op ⟨(some 10), (.pure (.bin .neq (.tmp 7) (.tmp 9))), none⟩])
(.cond (.tmp 10)
(.seq (.ops [
.op ⟨(some 4), (.pure (.mv (.const (.bool false)))), none⟩])
(.ret))
(.skip)))
(.seq (.seq (.ops [
.op ⟨(some 11), (.pure (.mv (.tmp 0))), none⟩,
.op ⟨(some 12), (.pure (.len (.tmp 11))), none⟩,
.op ⟨(some 13), (.pure (.mv (.const (.int .i64 (0))))), none⟩])
(.block 0 (.loop (.seq (.ops [
.op ⟨(some 14), (.pure (.bin .lss (.tmp 13) (.tmp 12))), none⟩])
(.seq (.cond (.tmp 14)
(.skip)
(.exit 0))
(.seq (.block 1 (.seq (.ops [
.op ⟨(some 15), (.pure (.mv (.tmp 13))), none⟩,
.op ⟨(some 5), (.pure (.mv (.tmp 15))), none⟩])
(.seq (.draw false
(.take ⟨(some 16), (.pure (.mv (.tmp 0))), none⟩
(.take ⟨(some 17), (.pure (.mv (.tmp 5))), none⟩
(.take ⟨(some 18), (.pure (.idx 4 (.tmp 16) (.tmp 17))), none⟩
(.take ⟨(some 20), (.pure (.mv (.tmp 1))), none⟩
(.take ⟨(some 21), (.pure (.mv (.tmp 5))), none⟩
(.take ⟨(some 22), (.pure (.idx 4 (.tmp 20) (.tmp 21))), none⟩
(.only false ⟨(some 19), (.load (some 4) (.tmp 18)), none⟩
(.only false ⟨(some 23), (.load (some 4) (.tmp 22)), none⟩
(.only true ⟨(some 24), (.eff (.call 36 [(.tmp 19), (.tmp 23)])), none⟩
(.take ⟨(some 25), (.pure (.bnot (.tmp 24))), none⟩
(.done))))))))))))
(.cond (.tmp 25)
(.seq (.ops [
.op ⟨(some 4), (.pure (.mv (.const (.bool false)))), none⟩])
(.ret))
(.skip)))))
(.ops [
.op ⟨(some 26), (.pure (.bin .add (.tmp 13) (.const (.int .i64 (1))))), none⟩,
.op ⟨(some 13), (.pure (.mv (.tmp 26))), none⟩])))))))
(.seq (.ops [
.op ⟨(some 4), (.pure (.mv (.const (.bool true)))), none⟩])
(.ret)))),
[.tmp 4]⟩
theorem r_laws_pSamePackets : resFun Try.prog f_laws_pSamePackets = some c_laws_pSamePackets := by kernel_rfl

/- loop.example/g00940/laws.sameInts -/
abbrev f_laws_sameInts : Nat := 34
def c_laws_sameInts : MFun := ⟨26, .seq (.ops [
.op ⟨(some 4), (.pure (.mv (.const (.bool false)))), none⟩])
(.seq (.seq (.ops [
.op ⟨(some 6), (.pure (.mv (.tmp 0))), none⟩,
.op ⟨(some 7), (.pure (.len (.tmp 6))), none⟩,
.op ⟨(some 8), (.pure (.mv (.tmp 1))), none⟩,
.op ⟨(some 9), (.pure (.len (.tmp 8))), none⟩,
.op ⟨(some 10), (.pure (.bin .neq (.tmp 7) (.tmp 9))), none⟩])
(.cond (.tmp 10)
(.seq (.ops [
.op ⟨(some 4), (.pure (.mv (.const (.bool false)))), none⟩])
(.ret))
(.skip)))
(.seq (.seq (.ops [
.op ⟨(some 11), (.pure (.mv (.tmp 0))), none⟩,
.op ⟨(some 12), (.pure (.len (.tmp 11))), none⟩,
.op ⟨(some 13), (.pure (.mv (.const (.int .i64 (0))))), none⟩])
(.block 0 (.loop (.seq (.ops [
.op ⟨(some 14), (.pure (.bin .lss (.tmp 13) (.tmp 12))), none⟩])
(.seq (.cond (.tmp 14)
(.skip)
(.exit 0))
(.seq (.block 1 (.seq (.ops [
.op ⟨(some 15), (.pure (.mv (.tmp 13))), none⟩,
.op ⟨(some 5), (.pure (.mv (.tmp 15))), none⟩])
(.seq (.ops [
.op ⟨(some 16), (.pure (.mv (.tmp 0))), none⟩,
.op ⟨(some 17), (.pure (.mv (.tmp 5))), none⟩,
.op ⟨(some 18), (.pure (.idx 1 (.tmp 16) (.tmp 17))), none⟩,
.op ⟨(some 20), (.pure (.mv (.tmp 1))), none⟩,
.op ⟨(some 21), (.pure (.mv (.tmp 5))), none⟩,
.op ⟨(some 22), (.pure (.idx 1 (.tmp 20) (.tmp 21))), none⟩,
.op ⟨(some 19), (.load none (.tmp 18)), none⟩,
.op ⟨(some 23), (.load none (.tmp 22)), none⟩,
.op ⟨(some 24), (.pure (.bin .neq (.tmp 19) (.tmp 23))), none⟩])
(.cond (.tmp 24)
(.seq (.ops [
.op ⟨(some 4), (.pure (.mv (.const (.bool false)))), none⟩])
(.ret))
(.skip)))))
(.ops [
.op ⟨(some 25), (.pure (.bin .add (.tmp 13) (.const (.int .i64 (1))))), none⟩,
.op ⟨(some 13), (.pure (.mv (.tmp 25))), none⟩])))))))
(.seq (.ops [
.op ⟨(some 4), (.pure (.mv (.const (.bool true)))), none⟩])
(.ret)))),
[.tmp 4]⟩
theorem r_laws_sameInts : resFun Try.prog f_laws_sameInts = some c_laws_sameInts := by kernel_rfl

/- loop.example/g00940/laws.sameLists -/
abbrev f_laws_sameLists : Nat := 35
def c_laws_sameLists : MFun := ⟨27, .seq (.ops [
.op ⟨(some 4), (.pure (.mv (.const (.bool false)))), none⟩])
(.seq (.seq (.ops [
.op ⟨(some 6), (.pure (.mv (.tmp 0))), none⟩,
.op ⟨(some 7), (.pure (.len (.tmp 6))), none⟩,
.op ⟨(some 8), (.pure (.mv (.tmp 1))), none⟩,
.op ⟨(some 9), (.pure (.len (.tmp 8))), none⟩,
.op ⟨(some 10), (.pure (.bin .neq (.tmp 7) (.tmp 9))), none⟩])
(.cond (.tmp 10)
(.seq (.ops [
.op ⟨(some 4), (.pure (.mv (.const (.bool false)))), none⟩])
(.ret))
(.skip)))
(.seq (.seq (.ops [
.op ⟨(some 11), (.pure (.mv (.tmp 0))), none⟩,
.op ⟨(some 12), (.pure (.len (.tmp 11))), none⟩,
.op ⟨(some 13), (.pure (.mv (.const (.int .i64 (0))))), none⟩])
(.block 0 (.loop (.seq (.ops [
.op ⟨(some 14), (.pure (.bin .lss (.tmp 13) (.tmp 12))), none⟩])
(.seq (.cond (.tmp 14)
(.skip)
(.exit 0))
(.seq (.block 1 (.seq (.ops [
.op ⟨(some 15), (.pure (.mv (.tmp 13))), none⟩,
.op ⟨(some 5), (.pure (.mv (.tmp 15))), none⟩])
(.seq (.draw false
(.take ⟨(some 16), (.pure (.mv (.tmp 0))), none⟩
(.take ⟨(some 17), (.pure (.mv (.tmp 5))), none⟩
(.take ⟨(some 18), (.pure (.idx 1 (.tmp 16) (.tmp 17))), none⟩
(.take ⟨(some 20), (.pure (.mv (.tmp 1))), none⟩
(.take ⟨(some 21), (.pure (.mv (.tmp 5))), none⟩
(.take ⟨(some 22), (.pure (.idx 1 (.tmp 20) (.tmp 21))), none⟩
(.only false ⟨(some 19), (.load none (.tmp 18)), none⟩
(.only false ⟨(some 23), (.load none (.tmp 22)), none⟩
(.only true ⟨(some 24), (.eff (.call 34 [(.tmp 19), (.tmp 23)])), none⟩
(.take ⟨(some 25), (.pure (.bnot (.tmp 24))), none⟩
(.done))))))))))))
(.cond (.tmp 25)
(.seq (.ops [
.op ⟨(some 4), (.pure (.mv (.const (.bool false)))), none⟩])
(.ret))
(.skip)))))
(.ops [
.op ⟨(some 26), (.pure (.bin .add (.tmp 13) (.const (.int .i64 (1))))), none⟩,
.op ⟨(some 13), (.pure (.mv (.tmp 26))), none⟩])))))))
(.seq (.ops [
.op ⟨(some 4), (.pure (.mv (.const (.bool true)))), none⟩])
(.ret)))),
[.tmp 4]⟩
theorem r_laws_sameLists : resFun Try.prog f_laws_sameLists = some c_laws_sameLists := by kernel_rfl

/- loop.example/g00940/laws.pSamePacket -/
abbrev f_laws_pSamePacket : Nat := 36
def c_laws_pSamePacket : MFun := ⟨31, .seq (.ops [
.op ⟨(some 2), (.eff (.box 27 (.tmp 0))), none⟩,
.op ⟨(some 3), (.eff (.box 27 (.tmp 1))), none⟩,
.op ⟨(some 4), (.pure (.mv (.const (.bool false)))), none⟩])
(.seq (.ops [
.op ⟨(some 5), (.pure (.fieldAddr 0 (.tmp 2))), none⟩,
.op ⟨(some 6), (.load none (.tmp 5)), none⟩,
.op ⟨(some 7), (.pure (.fieldAddr 0 (.tmp 3))), none⟩,
.op ⟨(some 8), (.load none (.tmp 7)), none⟩,
.op ⟨(some 9), (.pure (.bin .eql (.tmp 6) (.tmp 8))), none⟩,
.op ⟨(some 10), (.pure (.mv (.tmp 9))), none⟩,
.split 10,
.op ⟨(some 11), (.pure (.fieldAddr 1 (.tmp 2))), (some (10, true))⟩,
.op ⟨(some 12), (.load none (.tmp 11)), (some (10, true))⟩,
.op ⟨(some 13), (.pure (.fieldAddr 1 (.tmp 3))), (some (10, true))⟩,
.op ⟨(some 14), (.load none (.tmp 13)), (some (10, true))⟩,
.op ⟨(some 15), (.pure (.bin .eql (.tmp 12) (.tmp 14))), (some (10, true))⟩,
.op ⟨(some 16), (.pure (.pick (.tmp 10) (.tmp 15) (.const (.bool false)))), none⟩,
.op ⟨(some 17), (.pure (.mv (.tmp 16))), none⟩,
.split 17,
.op ⟨(some 18), (.pure (.fieldAddr 2 (.tmp 2))), (some (17, true))⟩,
.op ⟨(some 19), (.load none (.tmp 18)), (some (17, true))⟩,
.op ⟨(some 20), (.pure (.fieldAddr 2 (.tmp 3))), (some (17, true))⟩,
.op ⟨(some 21), (.load none (.tmp 20)), (some (17, true))⟩,
.op ⟨(some 22), (.pure (.bin .eql (.tmp 19) (.tmp 21))), (some (17, true))⟩,
.op ⟨(some 23), (.pure (.pick (.tmp 17) (.tmp 22) (.const (.bool false)))), none⟩,
.op ⟨(some 24), (.pure (.mv (.tmp 23))), none⟩,
.split 24,
.op ⟨(some 25), (.pure (.fieldAddr 3 (.tmp 2))), (some (24, true))⟩,
.op ⟨(some 26), (.load none (.tmp 25)), (some (24, true))⟩,
.op ⟨(some 27), (.pure (.fieldAddr 3 (.tmp 3))), (some (24, true))⟩,
.op ⟨(some 28), (.load none (.tmp 27)), (some (24, true))⟩,
.op ⟨(some 29), (.eff (.call 34 [(.tmp 26), (.tmp 28)])), (some (24, true))⟩,
.op ⟨(some 30), (.pure (.pick (.tmp 24) (.tmp 29) (.const (.bool false)))), none⟩,
.op ⟨(some 4), (.pure (.mv (.tmp 30))), none⟩])
(.ret)),
[.tmp 4]⟩
theorem r_laws_pSamePacket : resFun Try.prog f_laws_pSamePacket = some c_laws_pSamePacket := by kernel_rfl

/- loop.example/g00940/impl.JoinMessage -/
abbrev f_impl_JoinMessage : Nat := 37
def c_impl_JoinMessage : MFun := ⟨44, .seq (.ops [
.op ⟨(some 4), (.pure (.mv (.const (.slice none 0 0)))), none⟩,
.op ⟨(some 5), (.pure (.mv (.const (.bool false)))), none⟩])
(.seq (.ops [
.op ⟨(some 12), (.pure (.mv (.tmp 0))), none⟩,
.op ⟨(some 13), (.pure (.mv (.tmp 1))), none⟩,
.op ⟨(some 14), (.eff (.call 74 [(.tmp 12), (.tmp 13)])), none⟩,
.op ⟨(some 11), (.pure (.mv (.tmp 14))), none⟩,
.op ⟨(some 15), (.pure (.ext 0 (.tmp 11))), none⟩,
.op ⟨(some 16), (.pure (.ext 1 (.tmp 11))), none⟩,
.op ⟨(some 6), (.pure (.mv (.tmp 15))), none⟩,
.op ⟨(some 7), (.pure (.mv (.tmp 16))), none⟩])
(.seq (.seq (.ops [
.op ⟨(some 17), (.pure (.mv (.tmp 7))), none⟩,
.op ⟨(some 18), (.pure (.bnot (.tmp 17))), none⟩,
.op ⟨(some 19), (.pure (.mv (.tmp 18))), none⟩,
.split 19,
.op ⟨(some 20), (.pure (.mv (.tmp 6))), (some (19, false))⟩,
.op ⟨(some 21), (.eff (.call 75 [(.tmp 20)])), (some (19, false))⟩,
.op ⟨(some 22), (.pure (.len (.tmp 21))), (some (19, false))⟩,
.op ⟨(some 23), (.pure (.bin .gtr (.tmp 22) (.const (.int .i64 (0))))), (some (19, false))⟩,
.op ⟨(some 24), (.pure (.pick (.tmp 19) (.const (.bool true)) (.tmp 23))), none⟩])
(.cond (.tmp 24)
(.seq (.ops [
.op ⟨(some 4), (.pure (.mv (.const (.slice none 0 0)))), none⟩,
.op ⟨(some 5), (.pure (.mv (.const (.bool false)))), none⟩])
(.ret))
(.skip)))
(.seq (.ops [
.op ⟨(some 8), (.pure (.mv (.const (.slice none 0 0)))), none⟩])
(.seq (.seq (.ops [
.op ⟨(some 25), (.pure (.mv (.tmp 6))), none⟩,
.op ⟨(some 26), (.pure (.idx 4 (.tmp 25) (.const (.int .i64 (0))))), none⟩,
.op ⟨(some 27), (.pure (.fieldAddr 2 (.tmp 26))), none⟩,
.op ⟨(some 28), (.load none (.tmp 27)), none⟩,
.op ⟨(some 29), (.pure (.mv (.const (.int .i64 (0))))), none⟩])
(.block 0 (.loop (.seq (.ops [
.op ⟨(some 30), (.pure (.bin .lss (.tmp 29) (.tmp 28))), none⟩])
(.seq (.cond (.tmp 30)
(.skip)
(.exit 0))
(.seq (.block 1 (.seq (.ops [
.op ⟨(some 31), (.pure (.mv (.tmp 29))), none⟩,
.op ⟨(some 9), (.eff (.new 3 [(.int .i64 (0))])), none⟩,
.op ⟨none, (.eff (.store 1 (.tmp 9) (.tmp 31))), none⟩])
(.seq (.ops [
.op ⟨(some 32), (.pure (.mv (.tmp 6))), none⟩,
.op ⟨(some 33), (.pure (.mkfn (.func 77) [] [(.tmp 9)])), none⟩,
.op ⟨(some 34), (.eff (.call 76 [(.tmp 32), (.tmp 33)])), none⟩,
.op ⟨(some 10), (.pure (.mv (.tmp 34))), none⟩])
(.ops [
.op ⟨(some 35), (.pure (.mv (.tmp 8))), none⟩,
.op ⟨(some 36), (.pure (.mv (.tmp 6))), none⟩,
.op ⟨(some 37), (.pure (.mv (.tmp 10))), none⟩,
.op ⟨(some 38), (.pure (.idx 4 (.tmp 36) (.tmp 37))), none⟩,
.op ⟨(some 39), (.pure (.fieldAddr 3 (.tmp 38))), none⟩,
.op ⟨(some 40), (.load none (.tmp 39)), none⟩,
.op ⟨(some 41), (.eff (.app 3 1 8 (.tmp 35) (.tmp 40))), none⟩,
.op ⟨(some 8), (.pure (.mv (.tmp 41))), none⟩]))))
(.ops [
.op ⟨(some 42), (.pure (.bin .add (.tmp 29) (.const (.int .i64 (1))))), none⟩,
.op ⟨(some 29), (.pure (.mv (.tmp 42))), none⟩])))))))
(.seq (.ops [
.op ⟨(some 43), (.pure (.mv (.tmp 8))), none⟩,
.op ⟨(some 4), (.pure (.mv (.tmp 43))), none⟩,
.op ⟨(some 5), (.pure (.mv (.const (.bool true)))), none⟩])
(.ret)))))),
[.tmp 4, .tmp 5]⟩
theorem r_impl_JoinMessage : resFun Try.prog f_impl_JoinMessage = some c_impl_JoinMessage := by kernel_rfl
end Go.Proofs.Ytjmcijcdncgaiaa

