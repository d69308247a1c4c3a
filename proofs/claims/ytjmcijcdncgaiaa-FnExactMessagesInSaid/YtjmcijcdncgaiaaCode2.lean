/- The code of this seat's functions, resolved, written by a program of mine; each is held against the given program by the kernel. Condition: none. -/
import Derived.Test.YtjmcijcdncgaiaaProg
import Derived.Test.YtjmcijcdncgaiaaBase9
import Derived.KernelRfl
namespace Go.Proofs.Ytjmcijcdncgaiaa
open Go.Vc

/- loop.example/g00940/laws.szIntS -/
abbrev f_laws_szIntS : Nat := 52
def c_laws_szIntS : MFun := ⟨12, .seq (.ops [
.op ⟨(some 4), (.pure (.mv (.const (.int .i64 (0))))), none⟩])
(.seq (.ops [
.op ⟨(some 5), (.pure (.mv (.tmp 1))), none⟩,
.op ⟨(some 6), (.pure (.mv (.tmp 0))), none⟩,
.op ⟨(some 7), (.pure (.len (.tmp 6))), none⟩,
.op ⟨(some 8), (.pure (.bin .sub (.tmp 5) (.tmp 7))), none⟩,
.op ⟨(some 1), (.pure (.mv (.tmp 8))), none⟩])
(.seq (.seq (.ops [
.op ⟨(some 9), (.pure (.mv (.tmp 1))), none⟩,
.op ⟨(some 10), (.pure (.bin .lss (.tmp 9) (.const (.int .i64 (0))))), none⟩])
(.cond (.tmp 10)
(.seq (.ops [
.op ⟨(some 4), (.pure (.mv (.const (.int .i64 (-1))))), none⟩])
(.ret))
(.skip)))
(.seq (.ops [
.op ⟨(some 11), (.pure (.mv (.tmp 1))), none⟩,
.op ⟨(some 4), (.pure (.mv (.tmp 11))), none⟩])
(.ret)))),
[.tmp 4]⟩
theorem r_laws_szIntS : resFun Try.prog f_laws_szIntS = some c_laws_szIntS := by kernel_rfl

/- loop.example/g00940/spec.pkGood -/
abbrev f_spec_pkGood : Nat := 53
def c_spec_pkGood : MFun := ⟨30, .seq (.ops [
.op ⟨(some 1), (.eff (.box 27 (.tmp 0))), none⟩,
.op ⟨(some 2), (.pure (.mv (.const (.bool false)))), none⟩])
(.seq (.ops [
.op ⟨(some 3), (.pure (.fieldAddr 0 (.tmp 1))), none⟩,
.op ⟨(some 4), (.load none (.tmp 3)), none⟩,
.op ⟨(some 5), (.eff (.call 80 [(.tmp 4), (.const (.int .i64 (1))), (.const (.int .i64 (999)))])), none⟩,
.op ⟨(some 6), (.pure (.mv (.tmp 5))), none⟩,
.split 6,
.op ⟨(some 7), (.pure (.fieldAddr 2 (.tmp 1))), (some (6, true))⟩,
.op ⟨(some 8), (.load none (.tmp 7)), (some (6, true))⟩,
.op ⟨(some 9), (.eff (.call 80 [(.tmp 8), (.const (.int .i64 (1))), (.const (.int .i64 (9)))])), (some (6, true))⟩,
.op ⟨(some 10), (.pure (.pick (.tmp 6) (.tmp 9) (.const (.bool false)))), none⟩,
.op ⟨(some 11), (.pure (.mv (.tmp 10))), none⟩,
.split 11,
.op ⟨(some 12), (.pure (.fieldAddr 1 (.tmp 1))), (some (11, true))⟩,
.op ⟨(some 13), (.load none (.tmp 12)), (some (11, true))⟩,
.op ⟨(some 14), (.pure (.fieldAddr 2 (.tmp 1))), (some (11, true))⟩,
.op ⟨(some 15), (.load none (.tmp 14)), (some (11, true))⟩,
.op ⟨(some 16), (.pure (.bin .sub (.tmp 15) (.const (.int .i64 (1))))), (some (11, true))⟩,
.op ⟨(some 17), (.eff (.call 80 [(.tmp 13), (.const (.int .i64 (0))), (.tmp 16)])), (some (11, true))⟩,
.op ⟨(some 18), (.pure (.pick (.tmp 11) (.tmp 17) (.const (.bool false)))), none⟩,
.op ⟨(some 19), (.pure (.mv (.tmp 18))), none⟩,
.split 19,
.op ⟨(some 20), (.pure (.fieldAddr 3 (.tmp 1))), (some (19, true))⟩,
.op ⟨(some 21), (.load none (.tmp 20)), (some (19, true))⟩,
.op ⟨(some 22), (.pure (.len (.tmp 21))), (some (19, true))⟩,
.op ⟨(some 23), (.eff (.call 80 [(.tmp 22), (.const (.int .i64 (1))), (.const (.int .i64 (8)))])), (some (19, true))⟩,
.op ⟨(some 24), (.pure (.pick (.tmp 19) (.tmp 23) (.const (.bool false)))), none⟩,
.op ⟨(some 25), (.pure (.mv (.tmp 24))), none⟩,
.split 25,
.op ⟨(some 26), (.pure (.fieldAddr 3 (.tmp 1))), (some (25, true))⟩,
.op ⟨(some 27), (.load none (.tmp 26)), (some (25, true))⟩,
.op ⟨(some 28), (.eff (.call 81 [(.tmp 27), (.const (.int .i64 (1))), (.const (.int .i64 (60)))])), (some (25, true))⟩,
.op ⟨(some 29), (.pure (.pick (.tmp 25) (.tmp 28) (.const (.bool false)))), none⟩,
.op ⟨(some 2), (.pure (.mv (.tmp 29))), none⟩])
(.ret)),
[.tmp 2]⟩
theorem r_spec_pkGood : resFun Try.prog f_spec_pkGood = some c_spec_pkGood := by kernel_rfl

/- loop.example/g00940/impl.within -/
abbrev f_impl_within : Nat := 54
def c_impl_within : MFun := ⟨15, .seq (.ops [
.op ⟨(some 6), (.pure (.mv (.const (.bool false)))), none⟩])
(.seq (.ops [
.op ⟨(some 7), (.pure (.mv (.tmp 0))), none⟩,
.op ⟨(some 8), (.pure (.mv (.tmp 1))), none⟩,
.op ⟨(some 9), (.pure (.bin .geq (.tmp 7) (.tmp 8))), none⟩,
.op ⟨(some 10), (.pure (.mv (.tmp 9))), none⟩,
.split 10,
.op ⟨(some 11), (.pure (.mv (.tmp 0))), (some (10, true))⟩,
.op ⟨(some 12), (.pure (.mv (.tmp 2))), (some (10, true))⟩,
.op ⟨(some 13), (.pure (.bin .leq (.tmp 11) (.tmp 12))), (some (10, true))⟩,
.op ⟨(some 14), (.pure (.pick (.tmp 10) (.tmp 13) (.const (.bool false)))), none⟩,
.op ⟨(some 6), (.pure (.mv (.tmp 14))), none⟩])
(.ret)),
[.tmp 6]⟩
theorem r_impl_within : resFun Try.prog f_impl_within = some c_impl_within := by kernel_rfl

/- loop.example/g00940/impl.allWithin -/
abbrev f_impl_allWithin : Nat := 55
def c_impl_allWithin : MFun := ⟨21, .seq (.ops [
.op ⟨(some 6), (.pure (.mv (.const (.bool false)))), none⟩])
(.seq (.seq (.ops [
.op ⟨(some 9), (.pure (.mv (.tmp 0))), none⟩,
.op ⟨(some 10), (.pure (.len (.tmp 9))), none⟩,
.op ⟨(some 11), (.pure (.mv (.const (.int .i64 (0))))), none⟩])
(.block 0 (.loop (.seq (.ops [
.op ⟨(some 12), (.pure (.bin .lss (.tmp 11) (.tmp 10))), none⟩])
(.seq (.cond (.tmp 12)
(.skip)
(.exit 0))
(.seq (.block 1 (.seq (.ops [
.op ⟨(some 13), (.pure (.idx 1 (.tmp 9) (.tmp 11))), none⟩,
.op ⟨(some 14), (.load none (.tmp 13)), none⟩,
.op ⟨(some 8), (.pure (.mv (.tmp 14))), none⟩])
(.seq (.ops [
.op ⟨(some 15), (.pure (.mv (.tmp 8))), none⟩,
.op ⟨(some 16), (.pure (.mv (.tmp 1))), none⟩,
.op ⟨(some 17), (.pure (.mv (.tmp 2))), none⟩,
.op ⟨(some 18), (.eff (.call 54 [(.tmp 15), (.tmp 16), (.tmp 17)])), none⟩,
.op ⟨(some 19), (.pure (.bnot (.tmp 18))), none⟩])
(.cond (.tmp 19)
(.seq (.ops [
.op ⟨(some 6), (.pure (.mv (.const (.bool false)))), none⟩])
(.ret))
(.skip)))))
(.ops [
.op ⟨(some 20), (.pure (.bin .add (.tmp 11) (.const (.int .i64 (1))))), none⟩,
.op ⟨(some 11), (.pure (.mv (.tmp 20))), none⟩])))))))
(.seq (.ops [
.op ⟨(some 6), (.pure (.mv (.const (.bool true)))), none⟩])
(.ret))),
[.tmp 6]⟩
theorem r_impl_allWithin : resFun Try.prog f_impl_allWithin = some c_impl_allWithin := by kernel_rfl

/- loop.example/g00940/spec.pkAll -/
abbrev f_spec_pkAll : Nat := 56
def c_spec_pkAll : MFun := ⟨18, .seq (.ops [
.op ⟨(some 2), (.pure (.mv (.const (.bool false)))), none⟩])
(.seq (.seq (.ops [
.op ⟨(some 5), (.pure (.mv (.tmp 0))), none⟩,
.op ⟨(some 6), (.pure (.len (.tmp 5))), none⟩,
.op ⟨(some 7), (.pure (.mv (.const (.int .i64 (0))))), none⟩])
(.block 0 (.loop (.seq (.ops [
.op ⟨(some 8), (.pure (.bin .lss (.tmp 7) (.tmp 6))), none⟩])
(.seq (.cond (.tmp 8)
(.skip)
(.exit 0))
(.seq (.block 1 (.seq (.ops [
.op ⟨(some 9), (.pure (.idx 4 (.tmp 5) (.tmp 7))), none⟩,
.op ⟨(some 10), (.load (some 4) (.tmp 9)), none⟩,
.op ⟨(some 4), (.eff (.new 27 [(.int .i64 (0)), (.int .i64 (0)), (.int .i64 (0)), (.slice none 0 0)])), none⟩,
.op ⟨none, (.eff (.store 4 (.tmp 4) (.tmp 10))), none⟩])
(.seq (.ops [
.op ⟨(some 11), (.load (some 4) (.tmp 4)), none⟩,
.op ⟨(some 12), (.eff (.call 53 [(.tmp 11)])), none⟩,
.op ⟨(some 13), (.pure (.bnot (.tmp 12))), none⟩])
(.cond (.tmp 13)
(.seq (.ops [
.op ⟨(some 2), (.pure (.mv (.const (.bool false)))), none⟩])
(.ret))
(.skip)))))
(.ops [
.op ⟨(some 14), (.pure (.bin .add (.tmp 7) (.const (.int .i64 (1))))), none⟩,
.op ⟨(some 7), (.pure (.mv (.tmp 14))), none⟩])))))))
(.seq (.ops [
.op ⟨(some 15), (.pure (.mv (.tmp 0))), none⟩,
.op ⟨(some 16), (.pure (.len (.tmp 15))), none⟩,
.op ⟨(some 17), (.pure (.bin .leq (.tmp 16) (.const (.int .i64 (40))))), none⟩,
.op ⟨(some 2), (.pure (.mv (.tmp 17))), none⟩])
(.ret))),
[.tmp 2]⟩
theorem r_spec_pkAll : resFun Try.prog f_spec_pkAll = some c_spec_pkAll := by kernel_rfl

/- slices.ContainsFunc[[]loop.example/g00940/impl.Packet,loop.example/g00940/impl.Packet] -/
abbrev f_slices_ContainsFunc_Limpl_Packet_impl_Packet : Nat := 57
def c_slices_ContainsFunc_Limpl_Packet_impl_Packet : MFun := ⟨9, .seq (.ops [
.op ⟨(some 4), (.pure (.mv (.const (.bool false)))), none⟩])
(.seq (.ops [
.op ⟨(some 5), (.pure (.mv (.tmp 0))), none⟩,
.op ⟨(some 6), (.pure (.mv (.tmp 1))), none⟩,
.op ⟨(some 7), (.eff (.call 76 [(.tmp 5), (.tmp 6)])), none⟩,
.op ⟨(some 8), (.pure (.bin .geq (.tmp 7) (.const (.int .i64 (0))))), none⟩,
.op ⟨(some 4), (.pure (.mv (.tmp 8))), none⟩])
(.ret)),
[.tmp 4]⟩
theorem r_slices_ContainsFunc_Limpl_Packet_impl_Packet : resFun Try.prog f_slices_ContainsFunc_Limpl_Packet_impl_Packet = some c_slices_ContainsFunc_Limpl_Packet_impl_Packet := by kernel_rfl

/- loop.example/g00940/impl.ArePackets$1 -/
abbrev f_impl_ArePackets_1 : Nat := 58
def c_impl_ArePackets_1 : MFun := ⟨6, .seq (.ops [
.op ⟨(some 1), (.eff (.box 27 (.tmp 0))), none⟩,
.op ⟨(some 2), (.pure (.mv (.const (.bool false)))), none⟩])
(.seq (.ops [
.op ⟨(some 3), (.load (some 4) (.tmp 1)), none⟩,
.op ⟨(some 4), (.eff (.call 16 [(.tmp 3)])), none⟩,
.op ⟨(some 5), (.pure (.bnot (.tmp 4))), none⟩,
.op ⟨(some 2), (.pure (.mv (.tmp 5))), none⟩])
(.ret)),
[.tmp 2]⟩
theorem r_impl_ArePackets_1 : resFun Try.prog f_impl_ArePackets_1 = some c_impl_ArePackets_1 := by kernel_rfl

/- loop.example/g00940/impl.WithoutDoubles$1 -/
abbrev f_impl_WithoutDoubles_1 : Nat := 60
def c_impl_WithoutDoubles_1 : MFun := ⟨7, .seq (.ops [
.op ⟨(some 2), (.eff (.box 27 (.tmp 0))), none⟩,
.op ⟨(some 3), (.pure (.mv (.const (.bool false)))), none⟩])
(.seq (.ops [
.op ⟨(some 4), (.load (some 4) (.tmp 1)), none⟩,
.op ⟨(some 5), (.load (some 4) (.tmp 2)), none⟩,
.op ⟨(some 6), (.eff (.call 61 [(.tmp 4), (.tmp 5)])), none⟩,
.op ⟨(some 3), (.pure (.mv (.tmp 6))), none⟩])
(.ret)),
[.tmp 3]⟩
theorem r_impl_WithoutDoubles_1 : resFun Try.prog f_impl_WithoutDoubles_1 = some c_impl_WithoutDoubles_1 := by kernel_rfl

/- loop.example/g00940/impl.samePacket -/
abbrev f_impl_samePacket : Nat := 61
def c_impl_samePacket : MFun := ⟨31, .seq (.ops [
.op ⟨(some 2), (.eff (.box 27 (.tmp 0))), none⟩,
.op ⟨(some 3), (.eff (.box 27 (.tmp 1))), none⟩,
.op ⟨(some 4), (.pure (.mv (.const (.bool false)))), none⟩])
(.seq (.ops [
.op ⟨(some 5), (.pure (.fieldAddr 0 (.tmp 2))), none⟩,
.op ⟨(some 6), (.load none (.tmp 5)), none⟩,
.op ⟨(some 7), (.pure (.fieldAddr 0 (.tmp 3))), none⟩,
.op ⟨(some 8), (.load none (.tmp 7)), none⟩,
.op ⟨(some 9), (.pure (.bin .eql (.tmp 6) (.tmp 8))), none⟩,
.op ⟨(some 10), (.pure (.mv (.tmp 9))), none⟩,
.split 10,
.op ⟨(some 11), (.pure (.fieldAddr 1 (.tmp 2))), (some (10, true))⟩,
.op ⟨(some 12), (.load none (.tmp 11)), (some (10, true))⟩,
.op ⟨(some 13), (.pure (.fieldAddr 1 (.tmp 3))), (some (10, true))⟩,
.op ⟨(some 14), (.load none (.tmp 13)), (some (10, true))⟩,
.op ⟨(some 15), (.pure (.bin .eql (.tmp 12) (.tmp 14))), (some (10, true))⟩,
.op ⟨(some 16), (.pure (.pick (.tmp 10) (.tmp 15) (.const (.bool false)))), none⟩,
.op ⟨(some 17), (.pure (.mv (.tmp 16))), none⟩,
.split 17,
.op ⟨(some 18), (.pure (.fieldAddr 2 (.tmp 2))), (some (17, true))⟩,
.op ⟨(some 19), (.load none (.tmp 18)), (some (17, true))⟩,
.op ⟨(some 20), (.pure (.fieldAddr 2 (.tmp 3))), (some (17, true))⟩,
.op ⟨(some 21), (.load none (.tmp 20)), (some (17, true))⟩,
.op ⟨(some 22), (.pure (.bin .eql (.tmp 19) (.tmp 21))), (some (17, true))⟩,
.op ⟨(some 23), (.pure (.pick (.tmp 17) (.tmp 22) (.const (.bool false)))), none⟩,
.op ⟨(some 24), (.pure (.mv (.tmp 23))), none⟩,
.split 24,
.op ⟨(some 25), (.pure (.fieldAddr 3 (.tmp 2))), (some (24, true))⟩,
.op ⟨(some 26), (.load none (.tmp 25)), (some (24, true))⟩,
.op ⟨(some 27), (.pure (.fieldAddr 3 (.tmp 3))), (some (24, true))⟩,
.op ⟨(some 28), (.load none (.tmp 27)), (some (24, true))⟩,
.op ⟨(some 29), (.eff (.call 87 [(.tmp 26), (.tmp 28)])), (some (24, true))⟩,
.op ⟨(some 30), (.pure (.pick (.tmp 24) (.tmp 29) (.const (.bool false)))), none⟩,
.op ⟨(some 4), (.pure (.mv (.tmp 30))), none⟩])
(.ret)),
[.tmp 4]⟩
theorem r_impl_samePacket : resFun Try.prog f_impl_samePacket = some c_impl_samePacket := by kernel_rfl

/- loop.example/g00940/impl.clonePacket -/
abbrev f_impl_clonePacket : Nat := 62
def c_impl_clonePacket : MFun := ⟨8, .seq (.ops [
.op ⟨(some 1), (.eff (.box 27 (.tmp 0))), none⟩,
.op ⟨(some 2), (.eff (.new 27 [(.int .i64 (0)), (.int .i64 (0)), (.int .i64 (0)), (.slice none 0 0)])), none⟩])
(.seq (.ops [
.op ⟨(some 3), (.pure (.fieldAddr 3 (.tmp 1))), none⟩,
.op ⟨(some 4), (.load none (.tmp 3)), none⟩,
.op ⟨(some 5), (.eff (.call 83 [(.tmp 4)])), none⟩,
.op ⟨(some 6), (.pure (.fieldAddr 3 (.tmp 1))), none⟩,
.op ⟨none, (.eff (.store 1 (.tmp 6) (.tmp 5))), none⟩])
(.seq (.ops [
.op ⟨(some 7), (.load (some 4) (.tmp 1)), none⟩,
.op ⟨none, (.eff (.store 4 (.tmp 2) (.tmp 7))), none⟩])
(.ret))),
[.cell 2 (some 4)]⟩
theorem r_impl_clonePacket : resFun Try.prog f_impl_clonePacket = some c_impl_clonePacket := by kernel_rfl

/- loop.example/g00940/spec.pkSame -/
abbrev f_spec_pkSame : Nat := 63
def c_spec_pkSame : MFun := ⟨31, .seq (.ops [
.op ⟨(some 2), (.eff (.box 27 (.tmp 0))), none⟩,
.op ⟨(some 3), (.eff (.box 27 (.tmp 1))), none⟩,
.op ⟨(some 4), (.pure (.mv (.const (.bool false)))), none⟩])
(.seq (.ops [
.op ⟨(some 5), (.pure (.fieldAddr 0 (.tmp 2))), none⟩,
.op ⟨(some 6), (.load none (.tmp 5)), none⟩,
.op ⟨(some 7), (.pure (.fieldAddr 0 (.tmp 3))), none⟩,
.op ⟨(some 8), (.load none (.tmp 7)), none⟩,
.op ⟨(some 9), (.pure (.bin .eql (.tmp 6) (.tmp 8))), none⟩,
.op ⟨(some 10), (.pure (.mv (.tmp 9))), none⟩,
.split 10,
.op ⟨(some 11), (.pure (.fieldAddr 1 (.tmp 2))), (some (10, true))⟩,
.op ⟨(some 12), (.load none (.tmp 11)), (some (10, true))⟩,
.op ⟨(some 13), (.pure (.fieldAddr 1 (.tmp 3))), (some (10, true))⟩,
.op ⟨(some 14), (.load none (.tmp 13)), (some (10, true))⟩,
.op ⟨(some 15), (.pure (.bin .eql (.tmp 12) (.tmp 14))), (some (10, true))⟩,
.op ⟨(some 16), (.pure (.pick (.tmp 10) (.tmp 15) (.const (.bool false)))), none⟩,
.op ⟨(some 17), (.pure (.mv (.tmp 16))), none⟩,
.split 17,
.op ⟨(some 18), (.pure (.fieldAddr 2 (.tmp 2))), (some (17, true))⟩,
.op ⟨(some 19), (.load none (.tmp 18)), (some (17, true))⟩,
.op ⟨(some 20), (.pure (.fieldAddr 2 (.tmp 3))), (some (17, true))⟩,
.op ⟨(some 21), (.load none (.tmp 20)), (some (17, true))⟩,
.op ⟨(some 22), (.pure (.bin .eql (.tmp 19) (.tmp 21))), (some (17, true))⟩,
.op ⟨(some 23), (.pure (.pick (.tmp 17) (.tmp 22) (.const (.bool false)))), none⟩,
.op ⟨(some 24), (.pure (.mv (.tmp 23))), none⟩,
.split 24,
.op ⟨(some 25), (.pure (.fieldAddr 3 (.tmp 2))), (some (24, true))⟩,
.op ⟨(some 26), (.load none (.tmp 25)), (some (24, true))⟩,
.op ⟨(some 27), (.pure (.fieldAddr 3 (.tmp 3))), (some (24, true))⟩,
.op ⟨(some 28), (.load none (.tmp 27)), (some (24, true))⟩,
.op ⟨(some 29), (.eff (.call 88 [(.tmp 26), (.tmp 28)])), (some (24, true))⟩,
.op ⟨(some 30), (.pure (.pick (.tmp 24) (.tmp 29) (.const (.bool false)))), none⟩,
.op ⟨(some 4), (.pure (.mv (.tmp 30))), none⟩])
(.ret)),
[.tmp 4]⟩
theorem r_spec_pkSame : resFun Try.prog f_spec_pkSame = some c_spec_pkSame := by kernel_rfl

/- loop.example/g00940/spec.pkOwn -/
abbrev f_spec_pkOwn : Nat := 64
def c_spec_pkOwn : MFun := ⟨8, .seq (.ops [
.op ⟨(some 1), (.eff (.box 27 (.tmp 0))), none⟩,
.op ⟨(some 2), (.eff (.new 27 [(.int .i64 (0)), (.int .i64 (0)), (.int .i64 (0)), (.slice none 0 0)])), none⟩])
(.seq (.ops [
.op ⟨(some 3), (.pure (.fieldAddr 3 (.tmp 1))), none⟩,
.op ⟨(some 4), (.load none (.tmp 3)), none⟩,
.op ⟨(some 5), (.eff (.call 89 [(.tmp 4)])), none⟩,
.op ⟨(some 6), (.pure (.fieldAddr 3 (.tmp 1))), none⟩,
.op ⟨none, (.eff (.store 1 (.tmp 6) (.tmp 5))), none⟩])
(.seq (.ops [
.op ⟨(some 7), (.load (some 4) (.tmp 1)), none⟩,
.op ⟨none, (.eff (.store 4 (.tmp 2) (.tmp 7))), none⟩])
(.ret))),
[.cell 2 (some 4)]⟩
theorem r_spec_pkOwn : resFun Try.prog f_spec_pkOwn = some c_spec_pkOwn := by kernel_rfl

/- slices.SortStableFunc[[]loop.example/g00940/impl.Packet,loop.example/g00940/impl.Packet] -/
abbrev f_slices_SortStableFunc_Limpl_Packet_impl_Packet : Nat := 65
def c_slices_SortStableFunc_Limpl_Packet_impl_Packet : MFun := ⟨9, .ops [
.op ⟨(some 4), (.pure (.mv (.tmp 0))), none⟩,
.op ⟨(some 5), (.pure (.mv (.tmp 0))), none⟩,
.op ⟨(some 6), (.pure (.len (.tmp 5))), none⟩,
.op ⟨(some 7), (.pure (.mv (.tmp 1))), none⟩,
.op ⟨(some 8), (.eff (.call 90 [(.tmp 4), (.tmp 6), (.tmp 7)])), none⟩],
[]⟩
theorem r_slices_SortStableFunc_Limpl_Packet_impl_Packet : resFun Try.prog f_slices_SortStableFunc_Limpl_Packet_impl_Packet = some c_slices_SortStableFunc_Limpl_Packet_impl_Packet := by kernel_rfl

/- loop.example/g00940/impl.SortPackets$1 -/
abbrev f_impl_SortPackets_1 : Nat := 66
def c_impl_SortPackets_1 : MFun := ⟨17, .seq (.ops [
.op ⟨(some 2), (.eff (.box 27 (.tmp 0))), none⟩,
.op ⟨(some 3), (.eff (.box 27 (.tmp 1))), none⟩,
.op ⟨(some 4), (.pure (.mv (.const (.int .i64 (0))))), none⟩])
(.seq (.draw true
(.take ⟨(some 5), (.pure (.fieldAddr 0 (.tmp 2))), none⟩
(.take ⟨(some 7), (.pure (.fieldAddr 0 (.tmp 3))), none⟩
(.take ⟨(some 10), (.pure (.fieldAddr 1 (.tmp 2))), none⟩
(.take ⟨(some 12), (.pure (.fieldAddr 1 (.tmp 3))), none⟩
(.only false ⟨(some 6), (.load none (.tmp 5)), none⟩
(.only false ⟨(some 8), (.load none (.tmp 7)), none⟩
(.take ⟨(some 11), (.load none (.tmp 10)), none⟩
(.take ⟨(some 13), (.load none (.tmp 12)), none⟩
(.only false ⟨(some 9), (.eff (.call 68 [(.tmp 6), (.tmp 8)])), none⟩
(.only true ⟨(some 14), (.eff (.call 68 [(.tmp 11), (.tmp 13)])), none⟩
(.only true ⟨(some 15), (.eff (.row 3 2 [(.int .i64 (0)), (.int .i64 (0))] [(0, 1, (.tmp 9)), (1, 1, (.tmp 14))])), none⟩
(.only true ⟨(some 16), (.eff (.call 67 [(.tmp 15)])), none⟩
(.take ⟨(some 4), (.pure (.mv (.tmp 16))), none⟩
(.done)))))))))))))))
(.ret)),
[.tmp 4]⟩
theorem r_impl_SortPackets_1 : resFun Try.prog f_impl_SortPackets_1 = some c_impl_SortPackets_1 := by kernel_rfl

/- cmp.Or[int] -/
abbrev f_cmp_Or_int : Nat := 67
def c_cmp_Or_int : MFun := ⟨18, .seq (.ops [
.op ⟨(some 2), (.pure (.mv (.const (.int .i64 (0))))), none⟩])
(.seq (.ops [
.op ⟨(some 3), (.pure (.mv (.const (.int .i64 (0))))), none⟩])
(.seq (.seq (.ops [
.op ⟨(some 6), (.pure (.mv (.tmp 0))), none⟩,
.op ⟨(some 7), (.pure (.len (.tmp 6))), none⟩,
.op ⟨(some 8), (.pure (.mv (.const (.int .i64 (0))))), none⟩])
(.block 0 (.loop (.seq (.ops [
.op ⟨(some 9), (.pure (.bin .lss (.tmp 8) (.tmp 7))), none⟩])
(.seq (.cond (.tmp 9)
(.skip)
(.exit 0))
(.seq (.block 1 (.seq (.ops [
.op ⟨(some 10), (.pure (.idx 1 (.tmp 6) (.tmp 8))), none⟩,
.op ⟨(some 11), (.load none (.tmp 10)), none⟩,
.op ⟨(some 5), (.pure (.mv (.tmp 11))), none⟩])
(.seq (.ops [
.op ⟨(some 12), (.pure (.mv (.tmp 5))), none⟩,
.op ⟨(some 13), (.pure (.mv (.tmp 3))), none⟩,
.op ⟨(some 14), (.pure (.bin .neq (.tmp 12) (.tmp 13))), none⟩])
(.cond (.tmp 14)
(.seq (.ops [
.op ⟨(some 15), (.pure (.mv (.tmp 5))), none⟩,
.op ⟨(some 2), (.pure (.mv (.tmp 15))), none⟩])
(.ret))
(.skip)))))
(.ops [
.op ⟨(some 16), (.pure (.bin .add (.tmp 8) (.const (.int .i64 (1))))), none⟩,
.op ⟨(some 8), (.pure (.mv (.tmp 16))), none⟩])))))))
(.seq (.ops [
.op ⟨(some 17), (.pure (.mv (.tmp 3))), none⟩,
.op ⟨(some 2), (.pure (.mv (.tmp 17))), none⟩])
(.ret)))),
[.tmp 2]⟩
theorem r_cmp_Or_int : resFun Try.prog f_cmp_Or_int = some c_cmp_Or_int := by kernel_rfl

/- cmp.Compare[int] -/
abbrev f_cmp_Compare_int : Nat := 68
def c_cmp_Compare_int : MFun := ⟨20, .seq (.ops [
.op ⟨(some 4), (.pure (.mv (.const (.int .i64 (0))))), none⟩])
(.seq (.ops [
.op ⟨(some 7), (.pure (.mv (.tmp 0))), none⟩,
.op ⟨(some 8), (.eff (.call 91 [(.tmp 7)])), none⟩,
.op ⟨(some 5), (.pure (.mv (.tmp 8))), none⟩])
(.seq (.ops [
.op ⟨(some 9), (.pure (.mv (.tmp 1))), none⟩,
.op ⟨(some 10), (.eff (.call 91 [(.tmp 9)])), none⟩,
.op ⟨(some 6), (.pure (.mv (.tmp 10))), none⟩])
(.seq (.seq (.ops [
.op ⟨(some 11), (.pure (.mv (.tmp 5))), none⟩])
(.cond (.tmp 11)
(.seq (.seq (.ops [
.op ⟨(some 12), (.pure (.mv (.tmp 6))), none⟩])
(.cond (.tmp 12)
(.seq (.ops [
.op ⟨(some 4), (.pure (.mv (.const (.int .i64 (0))))), none⟩])
(.ret))
(.skip)))
(.seq (.ops [
.op ⟨(some 4), (.pure (.mv (.const (.int .i64 (-1))))), none⟩])
(.ret)))
(.skip)))
(.seq (.seq (.ops [
.op ⟨(some 13), (.pure (.mv (.tmp 6))), none⟩])
(.cond (.tmp 13)
(.seq (.ops [
.op ⟨(some 4), (.pure (.mv (.const (.int .i64 (1))))), none⟩])
(.ret))
(.skip)))
(.seq (.seq (.ops [
.op ⟨(some 14), (.pure (.mv (.tmp 0))), none⟩,
.op ⟨(some 15), (.pure (.mv (.tmp 1))), none⟩,
.op ⟨(some 16), (.pure (.bin .lss (.tmp 14) (.tmp 15))), none⟩])
(.cond (.tmp 16)
(.seq (.ops [
.op ⟨(some 4), (.pure (.mv (.const (.int .i64 (-1))))), none⟩])
(.ret))
(.skip)))
(.seq (.seq (.ops [
.op ⟨(some 17), (.pure (.mv (.tmp 0))), none⟩,
.op ⟨(some 18), (.pure (.mv (.tmp 1))), none⟩,
.op ⟨(some 19), (.pure (.bin .gtr (.tmp 17) (.tmp 18))), none⟩])
(.cond (.tmp 19)
(.seq (.ops [
.op ⟨(some 4), (.pure (.mv (.const (.int .i64 (1))))), none⟩])
(.ret))
(.skip)))
(.seq (.ops [
.op ⟨(some 4), (.pure (.mv (.const (.int .i64 (0))))), none⟩])
(.ret)))))))),
[.tmp 4]⟩
theorem r_cmp_Compare_int : resFun Try.prog f_cmp_Compare_int = some c_cmp_Compare_int := by kernel_rfl

/- slices.Sort[[]int,int] -/
abbrev f_slices_Sort_Lint_int : Nat := 69
def c_slices_Sort_Lint_int : MFun := ⟨11, .seq (.ops [
.op ⟨(some 3), (.pure (.mv (.tmp 0))), none⟩,
.op ⟨(some 4), (.pure (.len (.tmp 3))), none⟩,
.op ⟨(some 2), (.pure (.mv (.tmp 4))), none⟩])
(.ops [
.op ⟨(some 5), (.pure (.mv (.tmp 0))), none⟩,
.op ⟨(some 6), (.pure (.mv (.tmp 2))), none⟩,
.op ⟨(some 7), (.pure (.mv (.tmp 2))), none⟩,
.op ⟨(some 8), (.pure (.conv .u64 (.tmp 7))), none⟩,
.op ⟨(some 9), (.eff (.call 93 [(.tmp 8)])), none⟩,
.op ⟨(some 10), (.eff (.call 92 [(.tmp 5), (.const (.int .i64 (0))), (.tmp 6), (.tmp 9)])), none⟩]),
[]⟩
theorem r_slices_Sort_Lint_int : resFun Try.prog f_slices_Sort_Lint_int = some c_slices_Sort_Lint_int := by kernel_rfl

/- slices.Compact[[]int,int] -/
abbrev f_slices_Compact_Lint_int : Nat := 70
def c_slices_Compact_Lint_int : MFun := ⟨61, .seq (.ops [
.op ⟨(some 2), (.pure (.mv (.const (.slice none 0 0)))), none⟩])
(.seq (.seq (.ops [
.op ⟨(some 6), (.pure (.mv (.tmp 0))), none⟩,
.op ⟨(some 7), (.pure (.len (.tmp 6))), none⟩,
.op ⟨(some 8), (.pure (.bin .lss (.tmp 7) (.const (.int .i64 (2))))), none⟩])
(.cond (.tmp 8)
(.seq (.ops [
.op ⟨(some 9), (.pure (.mv (.tmp 0))), none⟩,
.op ⟨(some 2), (.pure (.mv (.tmp 9))), none⟩])
(.ret))
(.skip)))
(.seq (.seq (.ops [
.op ⟨(some 3), (.pure (.mv (.const (.int .i64 (1))))), none⟩])
(.block 0 (.loop (.seq (.seq (.ops [
.op ⟨(some 10), (.pure (.mv (.tmp 3))), none⟩,
.op ⟨(some 11), (.pure (.mv (.tmp 0))), none⟩,
.op ⟨(some 12), (.pure (.len (.tmp 11))), none⟩,
.op ⟨(some 13), (.pure (.bin .lss (.tmp 10) (.tmp 12))), none⟩])
(.cond (.tmp 13)
(.skip)
(.exit 0)))
(.seq (.block 1 (.seq (.ops [
.op ⟨(some 16), (.pure (.mv (.tmp 0))), none⟩,
.op ⟨(some 17), (.pure (.mv (.tmp 3))), none⟩,
.op ⟨(some 18), (.pure (.idx 1 (.tmp 16) (.tmp 17))), none⟩,
.op ⟨(some 20), (.pure (.mv (.tmp 0))), none⟩,
.op ⟨(some 21), (.pure (.mv (.tmp 3))), none⟩,
.op ⟨(some 22), (.pure (.bin .sub (.tmp 21) (.const (.int .i64 (1))))), none⟩,
.op ⟨(some 23), (.pure (.idx 1 (.tmp 20) (.tmp 22))), none⟩,
.op ⟨(some 19), (.load none (.tmp 18)), none⟩,
.op ⟨(some 24), (.load none (.tmp 23)), none⟩,
.op ⟨(some 25), (.pure (.bin .eql (.tmp 19) (.tmp 24))), none⟩])
(.cond (.tmp 25)
(.seq (.ops [
.op ⟨(some 26), (.pure (.mv (.tmp 0))), none⟩,
.op ⟨(some 27), (.pure (.mv (.tmp 3))), none⟩,
.op ⟨(some 28), (.pure (.slc 1 (.tmp 26) (some (.tmp 27)) none none)), none⟩,
.op ⟨(some 4), (.pure (.mv (.tmp 28))), none⟩])
(.seq (.seq (.ops [
.op ⟨(some 5), (.pure (.mv (.const (.int .i64 (1))))), none⟩])
(.block 2 (.loop (.seq (.seq (.ops [
.op ⟨(some 29), (.pure (.mv (.tmp 5))), none⟩,
.op ⟨(some 30), (.pure (.mv (.tmp 4))), none⟩,
.op ⟨(some 31), (.pure (.len (.tmp 30))), none⟩,
.op ⟨(some 32), (.pure (.bin .lss (.tmp 29) (.tmp 31))), none⟩])
(.cond (.tmp 32)
(.skip)
(.exit 2)))
(.seq (.block 3 (.seq (.ops [
.op ⟨(some 35), (.pure (.mv (.tmp 4))), none⟩,
.op ⟨(some 36), (.pure (.mv (.tmp 5))), none⟩,
.op ⟨(some 37), (.pure (.idx 1 (.tmp 35) (.tmp 36))), none⟩,
.op ⟨(some 39), (.pure (.mv (.tmp 4))), none⟩,
.op ⟨(some 40), (.pure (.mv (.tmp 5))), none⟩,
.op ⟨(some 41), (.pure (.bin .sub (.tmp 40) (.const (.int .i64 (1))))), none⟩,
.op ⟨(some 42), (.pure (.idx 1 (.tmp 39) (.tmp 41))), none⟩,
.op ⟨(some 38), (.load none (.tmp 37)), none⟩,
.op ⟨(some 43), (.load none (.tmp 42)), none⟩,
.op ⟨(some 44), (.pure (.bin .neq (.tmp 38) (.tmp 43))), none⟩])
(.cond (.tmp 44)
(.seq (.ops [
.op ⟨(some 45), (.pure (.mv (.tmp 0))), none⟩,
.op ⟨(some 46), (.pure (.mv (.tmp 3))), none⟩,
.op ⟨(some 47), (.pure (.mv (.tmp 4))), none⟩,
.op ⟨(some 48), (.pure (.mv (.tmp 5))), none⟩,
.op ⟨(some 49), (.pure (.idx 1 (.tmp 47) (.tmp 48))), none⟩,
.op ⟨(some 50), (.load none (.tmp 49)), none⟩,
.op ⟨(some 51), (.pure (.idx 1 (.tmp 45) (.tmp 46))), none⟩,
.op ⟨none, (.eff (.store 1 (.tmp 51) (.tmp 50))), none⟩])
(.ops [
.op ⟨(some 52), (.pure (.mv (.tmp 3))), none⟩,
.op ⟨(some 53), (.pure (.bin .add (.tmp 52) (.const (.int .i64 (1))))), none⟩,
.op ⟨(some 3), (.pure (.mv (.tmp 53))), none⟩]))
(.skip))))
(.ops [
.op ⟨(some 33), (.pure (.mv (.tmp 5))), none⟩,
.op ⟨(some 34), (.pure (.bin .add (.tmp 33) (.const (.int .i64 (1))))), none⟩,
.op ⟨(some 5), (.pure (.mv (.tmp 34))), none⟩]))))))
(.seq (.ops [
.op ⟨(some 54), (.pure (.mv (.tmp 0))), none⟩,
.op ⟨(some 55), (.pure (.mv (.tmp 3))), none⟩,
.op ⟨(some 56), (.pure (.slc 1 (.tmp 54) (some (.tmp 55)) none none)), none⟩,
.op ⟨none, (.eff (.clear 1 [(.int .i64 (0))] (.tmp 56))), none⟩])
(.seq (.ops [
.op ⟨(some 57), (.pure (.mv (.tmp 0))), none⟩,
.op ⟨(some 58), (.pure (.mv (.tmp 3))), none⟩,
.op ⟨(some 59), (.pure (.slc 1 (.tmp 57) none (some (.tmp 58)) none)), none⟩,
.op ⟨(some 2), (.pure (.mv (.tmp 59))), none⟩])
(.ret)))))
(.skip))))
(.ops [
.op ⟨(some 14), (.pure (.mv (.tmp 3))), none⟩,
.op ⟨(some 15), (.pure (.bin .add (.tmp 14) (.const (.int .i64 (1))))), none⟩,
.op ⟨(some 3), (.pure (.mv (.tmp 15))), none⟩]))))))
(.seq (.ops [
.op ⟨(some 60), (.pure (.mv (.tmp 0))), none⟩,
.op ⟨(some 2), (.pure (.mv (.tmp 60))), none⟩])
(.ret)))),
[.tmp 2]⟩
theorem r_slices_Compact_Lint_int : resFun Try.prog f_slices_Compact_Lint_int = some c_slices_Compact_Lint_int := by kernel_rfl

/- loop.example/g00940/spec.l1Put -/
abbrev f_spec_l1Put : Nat := 71
def c_spec_l1Put : MFun := ⟨48, .seq (.ops [
.op ⟨(some 4), (.pure (.mv (.const (.slice none 0 0)))), none⟩])
(.seq (.ops [
.op ⟨(some 5), (.pure (.mv (.const (.int .i64 (0))))), none⟩])
(.seq (.block 0 (.loop (.seq (.seq (.ops [
.op ⟨(some 7), (.pure (.mv (.tmp 5))), none⟩,
.op ⟨(some 8), (.pure (.mv (.tmp 0))), none⟩,
.op ⟨(some 9), (.pure (.len (.tmp 8))), none⟩,
.op ⟨(some 10), (.pure (.bin .lss (.tmp 7) (.tmp 9))), none⟩,
.op ⟨(some 11), (.pure (.mv (.tmp 10))), none⟩,
.split 11,
.op ⟨(some 12), (.pure (.mv (.tmp 0))), (some (11, true))⟩,
.op ⟨(some 13), (.pure (.mv (.tmp 5))), (some (11, true))⟩,
.op ⟨(some 14), (.pure (.idx 1 (.tmp 12) (.tmp 13))), (some (11, true))⟩,
.op ⟨(some 15), (.load none (.tmp 14)), (some (11, true))⟩,
.op ⟨(some 16), (.pure (.mv (.tmp 1))), (some (11, true))⟩,
.op ⟨(some 17), (.pure (.bin .lss (.tmp 15) (.tmp 16))), (some (11, true))⟩,
.op ⟨(some 18), (.pure (.pick (.tmp 11) (.tmp 17) (.const (.bool false)))), none⟩])
(.cond (.tmp 18)
(.skip)
(.exit 0)))
(.block 1 (.ops [
.op ⟨(some 19), (.pure (.mv (.tmp 5))), none⟩,
.op ⟨(some 20), (.pure (.bin .add (.tmp 19) (.const (.int .i64 (1))))), none⟩,
.op ⟨(some 5), (.pure (.mv (.tmp 20))), none⟩])))))
(.seq (.seq (.ops [
.op ⟨(some 21), (.pure (.mv (.tmp 5))), none⟩,
.op ⟨(some 22), (.pure (.mv (.tmp 0))), none⟩,
.op ⟨(some 23), (.pure (.len (.tmp 22))), none⟩,
.op ⟨(some 24), (.pure (.bin .lss (.tmp 21) (.tmp 23))), none⟩,
.op ⟨(some 25), (.pure (.mv (.tmp 24))), none⟩,
.split 25,
.op ⟨(some 26), (.pure (.mv (.tmp 0))), (some (25, true))⟩,
.op ⟨(some 27), (.pure (.mv (.tmp 5))), (some (25, true))⟩,
.op ⟨(some 28), (.pure (.idx 1 (.tmp 26) (.tmp 27))), (some (25, true))⟩,
.op ⟨(some 29), (.load none (.tmp 28)), (some (25, true))⟩,
.op ⟨(some 30), (.pure (.mv (.tmp 1))), (some (25, true))⟩,
.op ⟨(some 31), (.pure (.bin .eql (.tmp 29) (.tmp 30))), (some (25, true))⟩,
.op ⟨(some 32), (.pure (.pick (.tmp 25) (.tmp 31) (.const (.bool false)))), none⟩])
(.cond (.tmp 32)
(.seq (.ops [
.op ⟨(some 33), (.pure (.mv (.tmp 0))), none⟩,
.op ⟨(some 4), (.pure (.mv (.tmp 33))), none⟩])
(.ret))
(.skip)))
(.seq (.ops [
.op ⟨(some 34), (.eff (.row 3 0 [] [])), none⟩,
.op ⟨(some 35), (.pure (.mv (.tmp 0))), none⟩,
.op ⟨(some 36), (.pure (.mv (.tmp 5))), none⟩,
.op ⟨(some 37), (.pure (.slc 1 (.tmp 35) none (some (.tmp 36)) none)), none⟩,
.op ⟨(some 38), (.eff (.app 3 1 8 (.tmp 34) (.tmp 37))), none⟩,
.op ⟨(some 6), (.pure (.mv (.tmp 38))), none⟩])
(.seq (.ops [
.op ⟨(some 39), (.pure (.mv (.tmp 6))), none⟩,
.op ⟨(some 40), (.pure (.mv (.tmp 1))), none⟩,
.op ⟨(some 41), (.eff (.row 3 1 [(.int .i64 (0))] [(0, 1, (.tmp 40))])), none⟩,
.op ⟨(some 42), (.eff (.app 3 1 8 (.tmp 39) (.tmp 41))), none⟩,
.op ⟨(some 6), (.pure (.mv (.tmp 42))), none⟩])
(.seq (.ops [
.op ⟨(some 43), (.pure (.mv (.tmp 6))), none⟩,
.op ⟨(some 44), (.pure (.mv (.tmp 0))), none⟩,
.op ⟨(some 45), (.pure (.mv (.tmp 5))), none⟩,
.op ⟨(some 46), (.pure (.slc 1 (.tmp 44) (some (.tmp 45)) none none)), none⟩,
.op ⟨(some 47), (.eff (.app 3 1 8 (.tmp 43) (.tmp 46))), none⟩,
.op ⟨(some 4), (.pure (.mv (.tmp 47))), none⟩])
(.ret))))))),
[.tmp 4]⟩
theorem r_spec_l1Put : resFun Try.prog f_spec_l1Put = some c_spec_l1Put := by kernel_rfl

/- loop.example/g00940/impl.inConflict -/
abbrev f_impl_inConflict : Nat := 72
def c_impl_inConflict : MFun := ⟨32, .seq (.ops [
.op ⟨(some 2), (.eff (.box 27 (.tmp 0))), none⟩,
.op ⟨(some 3), (.eff (.box 27 (.tmp 1))), none⟩,
.op ⟨(some 4), (.pure (.mv (.const (.bool false)))), none⟩])
(.seq (.ops [
.op ⟨(some 5), (.pure (.fieldAddr 0 (.tmp 2))), none⟩,
.op ⟨(some 6), (.load none (.tmp 5)), none⟩,
.op ⟨(some 7), (.pure (.fieldAddr 0 (.tmp 3))), none⟩,
.op ⟨(some 8), (.load none (.tmp 7)), none⟩,
.op ⟨(some 9), (.pure (.bin .eql (.tmp 6) (.tmp 8))), none⟩,
.op ⟨(some 10), (.pure (.mv (.tmp 9))), none⟩,
.split 10,
.op ⟨(some 11), (.pure (.fieldAddr 2 (.tmp 2))), (some (10, true))⟩,
.op ⟨(some 12), (.load none (.tmp 11)), (some (10, true))⟩,
.op ⟨(some 13), (.pure (.fieldAddr 2 (.tmp 3))), (some (10, true))⟩,
.op ⟨(some 14), (.load none (.tmp 13)), (some (10, true))⟩,
.op ⟨(some 15), (.pure (.bin .neq (.tmp 12) (.tmp 14))), (some (10, true))⟩,
.op ⟨(some 16), (.pure (.mv (.tmp 15))), (some (10, true))⟩,
.split 16,
.op ⟨(some 17), (.pure (.fieldAddr 1 (.tmp 2))), (some (16, false))⟩,
.op ⟨(some 18), (.load none (.tmp 17)), (some (16, false))⟩,
.op ⟨(some 19), (.pure (.fieldAddr 1 (.tmp 3))), (some (16, false))⟩,
.op ⟨(some 20), (.load none (.tmp 19)), (some (16, false))⟩,
.op ⟨(some 21), (.pure (.bin .eql (.tmp 18) (.tmp 20))), (some (16, false))⟩,
.op ⟨(some 22), (.pure (.mv (.tmp 21))), (some (16, false))⟩,
.split 22,
.op ⟨(some 23), (.pure (.fieldAddr 3 (.tmp 2))), (some (22, true))⟩,
.op ⟨(some 24), (.load none (.tmp 23)), (some (22, true))⟩,
.op ⟨(some 25), (.pure (.fieldAddr 3 (.tmp 3))), (some (22, true))⟩,
.op ⟨(some 26), (.load none (.tmp 25)), (some (22, true))⟩,
.op ⟨(some 27), (.eff (.call 87 [(.tmp 24), (.tmp 26)])), (some (22, true))⟩,
.op ⟨(some 28), (.pure (.bnot (.tmp 27))), (some (22, true))⟩,
.op ⟨(some 29), (.pure (.pick (.tmp 22) (.tmp 28) (.const (.bool false)))), (some (16, false))⟩,
.op ⟨(some 30), (.pure (.pick (.tmp 16) (.const (.bool true)) (.tmp 29))), (some (10, true))⟩,
.op ⟨(some 31), (.pure (.pick (.tmp 10) (.tmp 30) (.const (.bool false)))), none⟩,
.op ⟨(some 4), (.pure (.mv (.tmp 31))), none⟩])
(.ret)),
[.tmp 4]⟩
theorem r_impl_inConflict : resFun Try.prog f_impl_inConflict = some c_impl_inConflict := by kernel_rfl

/- loop.example/g00940/spec.pkClash -/
abbrev f_spec_pkClash : Nat := 73
def c_spec_pkClash : MFun := ⟨32, .seq (.ops [
.op ⟨(some 2), (.eff (.box 27 (.tmp 0))), none⟩,
.op ⟨(some 3), (.eff (.box 27 (.tmp 1))), none⟩,
.op ⟨(some 4), (.pure (.mv (.const (.bool false)))), none⟩])
(.seq (.ops [
.op ⟨(some 5), (.pure (.fieldAddr 0 (.tmp 2))), none⟩,
.op ⟨(some 6), (.load none (.tmp 5)), none⟩,
.op ⟨(some 7), (.pure (.fieldAddr 0 (.tmp 3))), none⟩,
.op ⟨(some 8), (.load none (.tmp 7)), none⟩,
.op ⟨(some 9), (.pure (.bin .eql (.tmp 6) (.tmp 8))), none⟩,
.op ⟨(some 10), (.pure (.mv (.tmp 9))), none⟩,
.split 10,
.op ⟨(some 11), (.pure (.fieldAddr 2 (.tmp 2))), (some (10, true))⟩,
.op ⟨(some 12), (.load none (.tmp 11)), (some (10, true))⟩,
.op ⟨(some 13), (.pure (.fieldAddr 2 (.tmp 3))), (some (10, true))⟩,
.op ⟨(some 14), (.load none (.tmp 13)), (some (10, true))⟩,
.op ⟨(some 15), (.pure (.bin .neq (.tmp 12) (.tmp 14))), (some (10, true))⟩,
.op ⟨(some 16), (.pure (.mv (.tmp 15))), (some (10, true))⟩,
.split 16,
.op ⟨(some 17), (.pure (.fieldAddr 1 (.tmp 2))), (some (16, false))⟩,
.op ⟨(some 18), (.load none (.tmp 17)), (some (16, false))⟩,
.op ⟨(some 19), (.pure (.fieldAddr 1 (.tmp 3))), (some (16, false))⟩,
.op ⟨(some 20), (.load none (.tmp 19)), (some (16, false))⟩,
.op ⟨(some 21), (.pure (.bin .eql (.tmp 18) (.tmp 20))), (some (16, false))⟩,
.op ⟨(some 22), (.pure (.mv (.tmp 21))), (some (16, false))⟩,
.split 22,
.op ⟨(some 23), (.pure (.fieldAddr 3 (.tmp 2))), (some (22, true))⟩,
.op ⟨(some 24), (.load none (.tmp 23)), (some (22, true))⟩,
.op ⟨(some 25), (.pure (.fieldAddr 3 (.tmp 3))), (some (22, true))⟩,
.op ⟨(some 26), (.load none (.tmp 25)), (some (22, true))⟩,
.op ⟨(some 27), (.eff (.call 88 [(.tmp 24), (.tmp 26)])), (some (22, true))⟩,
.op ⟨(some 28), (.pure (.bnot (.tmp 27))), (some (22, true))⟩,
.op ⟨(some 29), (.pure (.pick (.tmp 22) (.tmp 28) (.const (.bool false)))), (some (16, false))⟩,
.op ⟨(some 30), (.pure (.pick (.tmp 16) (.const (.bool true)) (.tmp 29))), (some (10, true))⟩,
.op ⟨(some 31), (.pure (.pick (.tmp 10) (.tmp 30) (.const (.bool false)))), none⟩,
.op ⟨(some 4), (.pure (.mv (.tmp 31))), none⟩])
(.ret)),
[.tmp 4]⟩
theorem r_spec_pkClash : resFun Try.prog f_spec_pkClash = some c_spec_pkClash := by kernel_rfl

/- loop.example/g00940/impl.packetsOf -/
abbrev f_impl_packetsOf : Nat := 74
def c_impl_packetsOf : MFun := ⟨39, .seq (.ops [
.op ⟨(some 4), (.pure (.mv (.const (.slice none 0 0)))), none⟩,
.op ⟨(some 5), (.pure (.mv (.const (.bool false)))), none⟩])
(.seq (.seq (.ops [
.op ⟨(some 9), (.pure (.mv (.tmp 0))), none⟩,
.op ⟨(some 10), (.eff (.call 21 [(.tmp 9)])), none⟩,
.op ⟨(some 11), (.pure (.bnot (.tmp 10))), none⟩,
.op ⟨(some 12), (.pure (.mv (.tmp 11))), none⟩,
.split 12,
.op ⟨(some 13), (.pure (.mv (.tmp 1))), (some (12, false))⟩,
.op ⟨(some 14), (.eff (.call 54 [(.tmp 13), (.const (.int .i64 (1))), (.const (.int .i64 (999)))])), (some (12, false))⟩,
.op ⟨(some 15), (.pure (.bnot (.tmp 14))), (some (12, false))⟩,
.op ⟨(some 16), (.pure (.pick (.tmp 12) (.const (.bool true)) (.tmp 15))), none⟩])
(.cond (.tmp 16)
(.seq (.ops [
.op ⟨(some 4), (.pure (.mv (.const (.slice none 0 0)))), none⟩,
.op ⟨(some 5), (.pure (.mv (.const (.bool false)))), none⟩])
(.ret))
(.skip)))
(.seq (.ops [
.op ⟨(some 6), (.pure (.mv (.const (.slice none 0 0)))), none⟩])
(.seq (.seq (.ops [
.op ⟨(some 17), (.pure (.mv (.tmp 0))), none⟩,
.op ⟨(some 18), (.pure (.len (.tmp 17))), none⟩,
.op ⟨(some 19), (.pure (.mv (.const (.int .i64 (0))))), none⟩])
(.block 0 (.loop (.seq (.ops [
.op ⟨(some 20), (.pure (.bin .lss (.tmp 19) (.tmp 18))), none⟩])
(.seq (.cond (.tmp 20)
(.skip)
(.exit 0))
(.seq (.block 1 (.seq (.ops [
.op ⟨(some 21), (.pure (.idx 4 (.tmp 17) (.tmp 19))), none⟩,
.op ⟨(some 22), (.load (some 4) (.tmp 21)), none⟩,
.op ⟨(some 8), (.eff (.new 27 [(.int .i64 (0)), (.int .i64 (0)), (.int .i64 (0)), (.slice none 0 0)])), none⟩,
.op ⟨none, (.eff (.store 4 (.tmp 8) (.tmp 22))), none⟩])
(.seq (.seq (.ops [
.op ⟨(some 23), (.pure (.fieldAddr 0 (.tmp 8))), none⟩,
.op ⟨(some 24), (.load none (.tmp 23)), none⟩,
.op ⟨(some 25), (.pure (.mv (.tmp 1))), none⟩,
.op ⟨(some 26), (.pure (.bin .neq (.tmp 24) (.tmp 25))), none⟩])
(.cond (.tmp 26)
(.exit 1)
(.skip)))
(.seq (.seq (.ops [
.op ⟨(some 27), (.pure (.mv (.tmp 6))), none⟩,
.op ⟨(some 28), (.pure (.mkfn (.func 94) [] [(.tmp 8)])), none⟩,
.op ⟨(some 29), (.eff (.call 57 [(.tmp 27), (.tmp 28)])), none⟩])
(.cond (.tmp 29)
(.seq (.ops [
.op ⟨(some 4), (.pure (.mv (.const (.slice none 0 0)))), none⟩,
.op ⟨(some 5), (.pure (.mv (.const (.bool false)))), none⟩])
(.ret))
(.skip)))
(.ops [
.op ⟨(some 30), (.pure (.mv (.tmp 6))), none⟩,
.op ⟨(some 31), (.load (some 4) (.tmp 8)), none⟩,
.op ⟨(some 32), (.eff (.row 27 1 [(.int .i64 (0)), (.int .i64 (0)), (.int .i64 (0)), (.slice none 0 0)] [(0, 4, (.tmp 31))])), none⟩,
.op ⟨(some 33), (.eff (.app 27 4 48 (.tmp 30) (.tmp 32))), none⟩,
.op ⟨(some 6), (.pure (.mv (.tmp 33))), none⟩])))))
(.ops [
.op ⟨(some 34), (.pure (.bin .add (.tmp 19) (.const (.int .i64 (1))))), none⟩,
.op ⟨(some 19), (.pure (.mv (.tmp 34))), none⟩])))))))
(.seq (.ops [
.op ⟨(some 35), (.pure (.mv (.tmp 6))), none⟩,
.op ⟨(some 36), (.pure (.mv (.tmp 6))), none⟩,
.op ⟨(some 37), (.pure (.len (.tmp 36))), none⟩,
.op ⟨(some 38), (.pure (.bin .gtr (.tmp 37) (.const (.int .i64 (0))))), none⟩,
.op ⟨(some 4), (.pure (.mv (.tmp 35))), none⟩,
.op ⟨(some 5), (.pure (.mv (.tmp 38))), none⟩])
(.ret))))),
[.tmp 4, .tmp 5]⟩
theorem r_impl_packetsOf : resFun Try.prog f_impl_packetsOf = some c_impl_packetsOf := by kernel_rfl

/- loop.example/g00940/impl.missingParts -/
abbrev f_impl_missingParts : Nat := 75
def c_impl_missingParts : MFun := ⟨22, .seq (.ops [
.op ⟨(some 2), (.pure (.mv (.const (.slice none 0 0)))), none⟩])
(.seq (.ops [
.op ⟨(some 3), (.pure (.mv (.const (.slice none 0 0)))), none⟩])
(.seq (.seq (.ops [
.op ⟨(some 5), (.pure (.mv (.tmp 0))), none⟩,
.op ⟨(some 6), (.pure (.idx 4 (.tmp 5) (.const (.int .i64 (0))))), none⟩,
.op ⟨(some 7), (.pure (.fieldAddr 2 (.tmp 6))), none⟩,
.op ⟨(some 8), (.load none (.tmp 7)), none⟩,
.op ⟨(some 9), (.pure (.mv (.const (.int .i64 (0))))), none⟩])
(.block 0 (.loop (.seq (.ops [
.op ⟨(some 10), (.pure (.bin .lss (.tmp 9) (.tmp 8))), none⟩])
(.seq (.cond (.tmp 10)
(.skip)
(.exit 0))
(.seq (.block 1 (.seq (.ops [
.op ⟨(some 11), (.pure (.mv (.tmp 9))), none⟩,
.op ⟨(some 4), (.eff (.new 3 [(.int .i64 (0))])), none⟩,
.op ⟨none, (.eff (.store 1 (.tmp 4) (.tmp 11))), none⟩])
(.seq (.ops [
.op ⟨(some 12), (.pure (.mv (.tmp 0))), none⟩,
.op ⟨(some 13), (.pure (.mkfn (.func 95) [] [(.tmp 4)])), none⟩,
.op ⟨(some 14), (.eff (.call 57 [(.tmp 12), (.tmp 13)])), none⟩,
.op ⟨(some 15), (.pure (.bnot (.tmp 14))), none⟩])
(.cond (.tmp 15)
(.ops [
.op ⟨(some 16), (.pure (.mv (.tmp 3))), none⟩,
.op ⟨(some 17), (.load none (.tmp 4)), none⟩,
.op ⟨(some 18), (.eff (.row 3 1 [(.int .i64 (0))] [(0, 1, (.tmp 17))])), none⟩,
.op ⟨(some 19), (.eff (.app 3 1 8 (.tmp 16) (.tmp 18))), none⟩,
.op ⟨(some 3), (.pure (.mv (.tmp 19))), none⟩])
(.skip)))))
(.ops [
.op ⟨(some 20), (.pure (.bin .add (.tmp 9) (.const (.int .i64 (1))))), none⟩,
.op ⟨(some 9), (.pure (.mv (.tmp 20))), none⟩])))))))
(.seq (.ops [
.op ⟨(some 21), (.pure (.mv (.tmp 3))), none⟩,
.op ⟨(some 2), (.pure (.mv (.tmp 21))), none⟩])
(.ret)))),
[.tmp 2]⟩
theorem r_impl_missingParts : resFun Try.prog f_impl_missingParts = some c_impl_missingParts := by kernel_rfl

/- slices.IndexFunc[[]loop.example/g00940/impl.Packet,loop.example/g00940/impl.Packet] -/
abbrev f_slices_IndexFunc_Limpl_Packet_impl_Packet : Nat := 76
def c_slices_IndexFunc_Limpl_Packet_impl_Packet : MFun := ⟨19, .seq (.ops [
.op ⟨(some 4), (.pure (.mv (.const (.int .i64 (0))))), none⟩])
(.seq (.seq (.ops [
.op ⟨(some 6), (.pure (.mv (.tmp 0))), none⟩,
.op ⟨(some 7), (.pure (.len (.tmp 6))), none⟩,
.op ⟨(some 8), (.pure (.mv (.const (.int .i64 (0))))), none⟩])
(.block 0 (.loop (.seq (.ops [
.op ⟨(some 9), (.pure (.bin .lss (.tmp 8) (.tmp 7))), none⟩])
(.seq (.cond (.tmp 9)
(.skip)
(.exit 0))
(.seq (.block 1 (.seq (.ops [
.op ⟨(some 10), (.pure (.mv (.tmp 8))), none⟩,
.op ⟨(some 5), (.pure (.mv (.tmp 10))), none⟩])
(.seq (.ops [
.op ⟨(some 11), (.pure (.mv (.tmp 1))), none⟩,
.op ⟨(some 12), (.pure (.mv (.tmp 0))), none⟩,
.op ⟨(some 13), (.pure (.mv (.tmp 5))), none⟩,
.op ⟨(some 14), (.pure (.idx 4 (.tmp 12) (.tmp 13))), none⟩,
.op ⟨(some 15), (.load (some 4) (.tmp 14)), none⟩,
.op ⟨(some 16), (.eff (.callv (.tmp 11) [(.tmp 15)])), none⟩])
(.cond (.tmp 16)
(.seq (.ops [
.op ⟨(some 17), (.pure (.mv (.tmp 5))), none⟩,
.op ⟨(some 4), (.pure (.mv (.tmp 17))), none⟩])
(.ret))
(.skip)))))
(.ops [
.op ⟨(some 18), (.pure (.bin .add (.tmp 8) (.const (.int .i64 (1))))), none⟩,
.op ⟨(some 8), (.pure (.mv (.tmp 18))), none⟩])))))))
(.seq (.ops [
.op ⟨(some 4), (.pure (.mv (.const (.int .i64 (-1))))), none⟩])
(.ret))),
[.tmp 4]⟩
theorem r_slices_IndexFunc_Limpl_Packet_impl_Packet : resFun Try.prog f_slices_IndexFunc_Limpl_Packet_impl_Packet = some c_slices_IndexFunc_Limpl_Packet_impl_Packet := by kernel_rfl

/- loop.example/g00940/impl.JoinMessage$1 -/
abbrev f_impl_JoinMessage_1 : Nat := 77
def c_impl_JoinMessage_1 : MFun := ⟨8, .seq (.ops [
.op ⟨(some 2), (.eff (.box 27 (.tmp 0))), none⟩,
.op ⟨(some 3), (.pure (.mv (.const (.bool false)))), none⟩])
(.seq (.ops [
.op ⟨(some 4), (.pure (.fieldAddr 1 (.tmp 2))), none⟩,
.op ⟨(some 5), (.load none (.tmp 4)), none⟩,
.op ⟨(some 6), (.load none (.tmp 1)), none⟩,
.op ⟨(some 7), (.pure (.bin .eql (.tmp 5) (.tmp 6))), none⟩,
.op ⟨(some 3), (.pure (.mv (.tmp 7))), none⟩])
(.ret)),
[.tmp 3]⟩
theorem r_impl_JoinMessage_1 : resFun Try.prog f_impl_JoinMessage_1 = some c_impl_JoinMessage_1 := by kernel_rfl

/- loop.example/g00940/spec.pkMessage -/
abbrev f_spec_pkMessage : Nat := 78
def c_spec_pkMessage : MFun := ⟨5, .seq (.ops [
.op ⟨(some 2), (.pure (.mv (.const (.bool false)))), none⟩])
(.seq (.ops [
.op ⟨(some 3), (.pure (.mv (.tmp 0))), none⟩,
.op ⟨(some 4), (.eff (.call 80 [(.tmp 3), (.const (.int .i64 (1))), (.const (.int .i64 (999)))])), none⟩,
.op ⟨(some 2), (.pure (.mv (.tmp 4))), none⟩])
(.ret)),
[.tmp 2]⟩
theorem r_spec_pkMessage : resFun Try.prog f_spec_pkMessage = some c_spec_pkMessage := by kernel_rfl

/- loop.example/g00940/spec.pkJoin -/
abbrev f_spec_pkJoin : Nat := 79
def c_spec_pkJoin : MFun := ⟨47, .seq (.ops [
.op ⟨(some 4), (.pure (.mv (.const (.slice none 0 0)))), none⟩,
.op ⟨(some 5), (.pure (.mv (.const (.bool false)))), none⟩])
(.seq (.ops [
.op ⟨(some 11), (.pure (.mv (.tmp 0))), none⟩,
.op ⟨(some 12), (.pure (.mv (.tmp 1))), none⟩,
.op ⟨(some 13), (.eff (.call 84 [(.tmp 11), (.tmp 12)])), none⟩,
.op ⟨(some 10), (.pure (.mv (.tmp 13))), none⟩,
.op ⟨(some 14), (.pure (.ext 0 (.tmp 10))), none⟩,
.op ⟨(some 15), (.pure (.ext 1 (.tmp 10))), none⟩,
.op ⟨(some 6), (.pure (.mv (.tmp 14))), none⟩,
.op ⟨(some 7), (.pure (.mv (.tmp 15))), none⟩])
(.seq (.seq (.ops [
.op ⟨(some 16), (.pure (.mv (.tmp 7))), none⟩,
.op ⟨(some 17), (.pure (.bnot (.tmp 16))), none⟩,
.op ⟨(some 18), (.pure (.mv (.tmp 17))), none⟩,
.split 18,
.op ⟨(some 19), (.pure (.mv (.tmp 6))), (some (18, false))⟩,
.op ⟨(some 20), (.pure (.len (.tmp 19))), (some (18, false))⟩,
.op ⟨(some 21), (.pure (.bin .eql (.tmp 20) (.const (.int .i64 (0))))), (some (18, false))⟩,
.op ⟨(some 22), (.pure (.pick (.tmp 18) (.const (.bool true)) (.tmp 21))), none⟩,
.op ⟨(some 23), (.pure (.mv (.tmp 22))), none⟩,
.split 23,
.op ⟨(some 24), (.pure (.mv (.tmp 6))), (some (23, false))⟩,
.op ⟨(some 25), (.eff (.call 85 [(.tmp 24)])), (some (23, false))⟩,
.op ⟨(some 26), (.pure (.len (.tmp 25))), (some (23, false))⟩,
.op ⟨(some 27), (.pure (.bin .gtr (.tmp 26) (.const (.int .i64 (0))))), (some (23, false))⟩,
.op ⟨(some 28), (.pure (.pick (.tmp 23) (.const (.bool true)) (.tmp 27))), none⟩])
(.cond (.tmp 28)
(.seq (.ops [
.op ⟨(some 4), (.pure (.mv (.const (.slice none 0 0)))), none⟩,
.op ⟨(some 5), (.pure (.mv (.const (.bool false)))), none⟩])
(.ret))
(.skip)))
(.seq (.ops [
.op ⟨(some 8), (.pure (.mv (.const (.slice none 0 0)))), none⟩])
(.seq (.seq (.ops [
.op ⟨(some 9), (.pure (.mv (.const (.int .i64 (0))))), none⟩])
(.block 0 (.loop (.seq (.seq (.ops [
.op ⟨(some 29), (.pure (.mv (.tmp 9))), none⟩,
.op ⟨(some 30), (.pure (.mv (.tmp 6))), none⟩,
.op ⟨(some 31), (.pure (.idx 4 (.tmp 30) (.const (.int .i64 (0))))), none⟩,
.op ⟨(some 32), (.pure (.fieldAddr 2 (.tmp 31))), none⟩,
.op ⟨(some 33), (.load none (.tmp 32)), none⟩,
.op ⟨(some 34), (.pure (.bin .lss (.tmp 29) (.tmp 33))), none⟩])
(.cond (.tmp 34)
(.skip)
(.exit 0)))
(.seq (.block 1 (.ops [
.op ⟨(some 37), (.pure (.mv (.tmp 8))), none⟩,
.op ⟨(some 38), (.pure (.mv (.tmp 6))), none⟩,
.op ⟨(some 39), (.pure (.mv (.tmp 6))), none⟩,
.op ⟨(some 40), (.pure (.mv (.tmp 9))), none⟩,
.op ⟨(some 41), (.eff (.call 96 [(.tmp 39), (.tmp 40)])), none⟩,
.op ⟨(some 42), (.pure (.idx 4 (.tmp 38) (.tmp 41))), none⟩,
.op ⟨(some 43), (.pure (.fieldAddr 3 (.tmp 42))), none⟩,
.op ⟨(some 44), (.load none (.tmp 43)), none⟩,
.op ⟨(some 45), (.eff (.app 3 1 8 (.tmp 37) (.tmp 44))), none⟩,
.op ⟨(some 8), (.pure (.mv (.tmp 45))), none⟩]))
(.ops [
.op ⟨(some 35), (.pure (.mv (.tmp 9))), none⟩,
.op ⟨(some 36), (.pure (.bin .add (.tmp 35) (.const (.int .i64 (1))))), none⟩,
.op ⟨(some 9), (.pure (.mv (.tmp 36))), none⟩]))))))
(.seq (.ops [
.op ⟨(some 46), (.pure (.mv (.tmp 8))), none⟩,
.op ⟨(some 4), (.pure (.mv (.tmp 46))), none⟩,
.op ⟨(some 5), (.pure (.mv (.const (.bool true)))), none⟩])
(.ret)))))),
[.tmp 4, .tmp 5]⟩
theorem r_spec_pkJoin : resFun Try.prog f_spec_pkJoin = some c_spec_pkJoin := by kernel_rfl

/- loop.example/g00940/spec.l1In -/
abbrev f_spec_l1In : Nat := 80
def c_spec_l1In : MFun := ⟨15, .seq (.ops [
.op ⟨(some 6), (.pure (.mv (.const (.bool false)))), none⟩])
(.seq (.ops [
.op ⟨(some 7), (.pure (.mv (.tmp 0))), none⟩,
.op ⟨(some 8), (.pure (.mv (.tmp 1))), none⟩,
.op ⟨(some 9), (.pure (.bin .geq (.tmp 7) (.tmp 8))), none⟩,
.op ⟨(some 10), (.pure (.mv (.tmp 9))), none⟩,
.split 10,
.op ⟨(some 11), (.pure (.mv (.tmp 0))), (some (10, true))⟩,
.op ⟨(some 12), (.pure (.mv (.tmp 2))), (some (10, true))⟩,
.op ⟨(some 13), (.pure (.bin .leq (.tmp 11) (.tmp 12))), (some (10, true))⟩,
.op ⟨(some 14), (.pure (.pick (.tmp 10) (.tmp 13) (.const (.bool false)))), none⟩,
.op ⟨(some 6), (.pure (.mv (.tmp 14))), none⟩])
(.ret)),
[.tmp 6]⟩
theorem r_spec_l1In : resFun Try.prog f_spec_l1In = some c_spec_l1In := by kernel_rfl

/- loop.example/g00940/spec.l1All -/
abbrev f_spec_l1All : Nat := 81
def c_spec_l1All : MFun := ⟨21, .seq (.ops [
.op ⟨(some 6), (.pure (.mv (.const (.bool false)))), none⟩])
(.seq (.seq (.ops [
.op ⟨(some 9), (.pure (.mv (.tmp 0))), none⟩,
.op ⟨(some 10), (.pure (.len (.tmp 9))), none⟩,
.op ⟨(some 11), (.pure (.mv (.const (.int .i64 (0))))), none⟩])
(.block 0 (.loop (.seq (.ops [
.op ⟨(some 12), (.pure (.bin .lss (.tmp 11) (.tmp 10))), none⟩])
(.seq (.cond (.tmp 12)
(.skip)
(.exit 0))
(.seq (.block 1 (.seq (.ops [
.op ⟨(some 13), (.pure (.idx 1 (.tmp 9) (.tmp 11))), none⟩,
.op ⟨(some 14), (.load none (.tmp 13)), none⟩,
.op ⟨(some 8), (.pure (.mv (.tmp 14))), none⟩])
(.seq (.ops [
.op ⟨(some 15), (.pure (.mv (.tmp 8))), none⟩,
.op ⟨(some 16), (.pure (.mv (.tmp 1))), none⟩,
.op ⟨(some 17), (.pure (.mv (.tmp 2))), none⟩,
.op ⟨(some 18), (.eff (.call 80 [(.tmp 15), (.tmp 16), (.tmp 17)])), none⟩,
.op ⟨(some 19), (.pure (.bnot (.tmp 18))), none⟩])
(.cond (.tmp 19)
(.seq (.ops [
.op ⟨(some 6), (.pure (.mv (.const (.bool false)))), none⟩])
(.ret))
(.skip)))))
(.ops [
.op ⟨(some 20), (.pure (.bin .add (.tmp 11) (.const (.int .i64 (1))))), none⟩,
.op ⟨(some 11), (.pure (.mv (.tmp 20))), none⟩])))))))
(.seq (.ops [
.op ⟨(some 6), (.pure (.mv (.const (.bool true)))), none⟩])
(.ret))),
[.tmp 6]⟩
theorem r_spec_l1All : resFun Try.prog f_spec_l1All = some c_spec_l1All := by kernel_rfl

/- loop.example/g00940/spec.pkSplit -/
abbrev f_spec_pkSplit : Nat := 82
def c_spec_pkSplit : MFun := ⟨45, .seq (.ops [
.op ⟨(some 6), (.pure (.mv (.const (.slice none 0 0)))), none⟩])
(.seq (.ops [
.op ⟨(some 11), (.pure (.mv (.tmp 1))), none⟩,
.op ⟨(some 12), (.pure (.len (.tmp 11))), none⟩,
.op ⟨(some 13), (.pure (.mv (.tmp 2))), none⟩,
.op ⟨(some 14), (.pure (.bin .add (.tmp 12) (.tmp 13))), none⟩,
.op ⟨(some 15), (.pure (.bin .sub (.tmp 14) (.const (.int .i64 (1))))), none⟩,
.op ⟨(some 16), (.pure (.mv (.tmp 2))), none⟩,
.op ⟨(some 17), (.pure (.bin .quo (.tmp 15) (.tmp 16))), none⟩,
.op ⟨(some 7), (.pure (.mv (.tmp 17))), none⟩])
(.seq (.ops [
.op ⟨(some 8), (.pure (.mv (.const (.slice none 0 0)))), none⟩])
(.seq (.seq (.ops [
.op ⟨(some 9), (.pure (.mv (.const (.int .i64 (0))))), none⟩])
(.block 0 (.loop (.seq (.seq (.ops [
.op ⟨(some 18), (.pure (.mv (.tmp 9))), none⟩,
.op ⟨(some 19), (.pure (.mv (.tmp 7))), none⟩,
.op ⟨(some 20), (.pure (.bin .lss (.tmp 18) (.tmp 19))), none⟩])
(.cond (.tmp 20)
(.skip)
(.exit 0)))
(.seq (.block 1 (.seq (.ops [
.op ⟨(some 23), (.pure (.mv (.tmp 1))), none⟩,
.op ⟨(some 24), (.pure (.len (.tmp 23))), none⟩,
.op ⟨(some 25), (.pure (.mv (.tmp 9))), none⟩,
.op ⟨(some 26), (.pure (.bin .add (.tmp 25) (.const (.int .i64 (1))))), none⟩,
.op ⟨(some 27), (.pure (.mv (.tmp 2))), none⟩,
.op ⟨(some 28), (.pure (.bin .mul (.tmp 26) (.tmp 27))), none⟩,
.op ⟨(some 29), (.eff (.call 97 [(.tmp 24), (.tmp 28)])), none⟩,
.op ⟨(some 10), (.pure (.mv (.tmp 29))), none⟩])
(.ops [
.op ⟨(some 30), (.pure (.mv (.tmp 8))), none⟩,
.op ⟨(some 31), (.pure (.mv (.tmp 0))), none⟩,
.op ⟨(some 32), (.pure (.mv (.tmp 9))), none⟩,
.op ⟨(some 33), (.pure (.mv (.tmp 7))), none⟩,
.op ⟨(some 34), (.pure (.mv (.tmp 1))), none⟩,
.op ⟨(some 35), (.pure (.mv (.tmp 9))), none⟩,
.op ⟨(some 36), (.pure (.mv (.tmp 2))), none⟩,
.op ⟨(some 37), (.pure (.bin .mul (.tmp 35) (.tmp 36))), none⟩,
.op ⟨(some 38), (.pure (.mv (.tmp 10))), none⟩,
.op ⟨(some 39), (.pure (.slc 1 (.tmp 34) (some (.tmp 37)) (some (.tmp 38)) none)), none⟩,
.op ⟨(some 40), (.eff (.call 89 [(.tmp 39)])), none⟩,
.op ⟨(some 41), (.pure (.build [(.int .i64 (0)), (.int .i64 (0)), (.int .i64 (0)), (.slice none 0 0)] [(0, 1, (.tmp 31)), (1, 1, (.tmp 32)), (2, 1, (.tmp 33)), (3, 1, (.tmp 40))])), none⟩,
.op ⟨(some 42), (.eff (.row 27 1 [(.int .i64 (0)), (.int .i64 (0)), (.int .i64 (0)), (.slice none 0 0)] [(0, 4, (.tmp 41))])), none⟩,
.op ⟨(some 43), (.eff (.app 27 4 48 (.tmp 30) (.tmp 42))), none⟩,
.op ⟨(some 8), (.pure (.mv (.tmp 43))), none⟩])))
(.ops [
.op ⟨(some 21), (.pure (.mv (.tmp 9))), none⟩,
.op ⟨(some 22), (.pure (.bin .add (.tmp 21) (.const (.int .i64 (1))))), none⟩,
.op ⟨(some 9), (.pure (.mv (.tmp 22))), none⟩]))))))
(.seq (.ops [
.op ⟨(some 44), (.pure (.mv (.tmp 8))), none⟩,
.op ⟨(some 6), (.pure (.mv (.tmp 44))), none⟩])
(.ret))))),
[.tmp 6]⟩
theorem r_spec_pkSplit : resFun Try.prog f_spec_pkSplit = some c_spec_pkSplit := by kernel_rfl

/- slices.Clone[[]int,int] -/
abbrev f_slices_Clone_Lint_int : Nat := 83
def c_slices_Clone_Lint_int : MFun := ⟨8, .seq (.ops [
.op ⟨(some 2), (.pure (.mv (.const (.slice none 0 0)))), none⟩])
(.seq (.seq (.ops [
.op ⟨(some 3), (.pure (.mv (.tmp 0))), none⟩,
.op ⟨(some 4), (.pure (.isnil false (.tmp 3))), none⟩])
(.cond (.tmp 4)
(.seq (.ops [
.op ⟨(some 2), (.pure (.mv (.const (.slice none 0 0)))), none⟩])
(.ret))
(.skip)))
(.seq (.ops [
.op ⟨(some 5), (.eff (.row 3 0 [] [])), none⟩,
.op ⟨(some 6), (.pure (.mv (.tmp 0))), none⟩,
.op ⟨(some 7), (.eff (.app 3 1 8 (.tmp 5) (.tmp 6))), none⟩,
.op ⟨(some 2), (.pure (.mv (.tmp 7))), none⟩])
(.ret))),
[.tmp 2]⟩
theorem r_slices_Clone_Lint_int : resFun Try.prog f_slices_Clone_Lint_int = some c_slices_Clone_Lint_int := by kernel_rfl

/- loop.example/g00940/spec.pkOf -/
abbrev f_spec_pkOf : Nat := 84
def c_spec_pkOf : MFun := ⟨37, .seq (.ops [
.op ⟨(some 4), (.pure (.mv (.const (.slice none 0 0)))), none⟩,
.op ⟨(some 5), (.pure (.mv (.const (.bool false)))), none⟩])
(.seq (.ops [
.op ⟨(some 6), (.pure (.mv (.const (.slice none 0 0)))), none⟩])
(.seq (.seq (.ops [
.op ⟨(some 11), (.pure (.mv (.tmp 0))), none⟩,
.op ⟨(some 12), (.pure (.len (.tmp 11))), none⟩,
.op ⟨(some 13), (.pure (.mv (.const (.int .i64 (0))))), none⟩])
(.block 0 (.loop (.seq (.ops [
.op ⟨(some 14), (.pure (.bin .lss (.tmp 13) (.tmp 12))), none⟩])
(.seq (.cond (.tmp 14)
(.skip)
(.exit 0))
(.seq (.block 1 (.seq (.ops [
.op ⟨(some 15), (.pure (.idx 4 (.tmp 11) (.tmp 13))), none⟩,
.op ⟨(some 16), (.load (some 4) (.tmp 15)), none⟩,
.op ⟨(some 8), (.eff (.new 27 [(.int .i64 (0)), (.int .i64 (0)), (.int .i64 (0)), (.slice none 0 0)])), none⟩,
.op ⟨none, (.eff (.store 4 (.tmp 8) (.tmp 16))), none⟩])
(.seq (.seq (.ops [
.op ⟨(some 17), (.pure (.fieldAddr 0 (.tmp 8))), none⟩,
.op ⟨(some 18), (.load none (.tmp 17)), none⟩,
.op ⟨(some 19), (.pure (.mv (.tmp 1))), none⟩,
.op ⟨(some 20), (.pure (.bin .neq (.tmp 18) (.tmp 19))), none⟩])
(.cond (.tmp 20)
(.exit 1)
(.skip)))
(.seq (.seq (.ops [
.op ⟨(some 21), (.pure (.mv (.tmp 6))), none⟩,
.op ⟨(some 22), (.pure (.len (.tmp 21))), none⟩,
.op ⟨(some 23), (.pure (.mv (.const (.int .i64 (0))))), none⟩])
(.block 2 (.loop (.seq (.ops [
.op ⟨(some 24), (.pure (.bin .lss (.tmp 23) (.tmp 22))), none⟩])
(.seq (.cond (.tmp 24)
(.skip)
(.exit 2))
(.seq (.block 3 (.seq (.ops [
.op ⟨(some 25), (.pure (.idx 4 (.tmp 21) (.tmp 23))), none⟩,
.op ⟨(some 26), (.load (some 4) (.tmp 25)), none⟩,
.op ⟨(some 10), (.eff (.new 27 [(.int .i64 (0)), (.int .i64 (0)), (.int .i64 (0)), (.slice none 0 0)])), none⟩,
.op ⟨none, (.eff (.store 4 (.tmp 10) (.tmp 26))), none⟩])
(.seq (.ops [
.op ⟨(some 27), (.load (some 4) (.tmp 8)), none⟩,
.op ⟨(some 28), (.load (some 4) (.tmp 10)), none⟩,
.op ⟨(some 29), (.eff (.call 73 [(.tmp 27), (.tmp 28)])), none⟩])
(.cond (.tmp 29)
(.seq (.ops [
.op ⟨(some 4), (.pure (.mv (.const (.slice none 0 0)))), none⟩,
.op ⟨(some 5), (.pure (.mv (.const (.bool false)))), none⟩])
(.ret))
(.skip)))))
(.ops [
.op ⟨(some 30), (.pure (.bin .add (.tmp 23) (.const (.int .i64 (1))))), none⟩,
.op ⟨(some 23), (.pure (.mv (.tmp 30))), none⟩])))))))
(.ops [
.op ⟨(some 31), (.pure (.mv (.tmp 6))), none⟩,
.op ⟨(some 32), (.load (some 4) (.tmp 8)), none⟩,
.op ⟨(some 33), (.eff (.row 27 1 [(.int .i64 (0)), (.int .i64 (0)), (.int .i64 (0)), (.slice none 0 0)] [(0, 4, (.tmp 32))])), none⟩,
.op ⟨(some 34), (.eff (.app 27 4 48 (.tmp 31) (.tmp 33))), none⟩,
.op ⟨(some 6), (.pure (.mv (.tmp 34))), none⟩])))))
(.ops [
.op ⟨(some 35), (.pure (.bin .add (.tmp 13) (.const (.int .i64 (1))))), none⟩,
.op ⟨(some 13), (.pure (.mv (.tmp 35))), none⟩])))))))
(.seq (.ops [
.op ⟨(some 36), (.pure (.mv (.tmp 6))), none⟩,
.op ⟨(some 4), (.pure (.mv (.tmp 36))), none⟩,
.op ⟨(some 5), (.pure (.mv (.const (.bool true)))), none⟩])
(.ret)))),
[.tmp 4, .tmp 5]⟩
theorem r_spec_pkOf : resFun Try.prog f_spec_pkOf = some c_spec_pkOf := by kernel_rfl

/- loop.example/g00940/spec.pkMissing -/
abbrev f_spec_pkMissing : Nat := 85
def c_spec_pkMissing : MFun := ⟨22, .seq (.ops [
.op ⟨(some 2), (.pure (.mv (.const (.slice none 0 0)))), none⟩])
(.seq (.ops [
.op ⟨(some 3), (.pure (.mv (.const (.slice none 0 0)))), none⟩])
(.seq (.seq (.ops [
.op ⟨(some 4), (.pure (.mv (.const (.int .i64 (0))))), none⟩])
(.block 0 (.loop (.seq (.seq (.ops [
.op ⟨(some 5), (.pure (.mv (.tmp 4))), none⟩,
.op ⟨(some 6), (.pure (.mv (.tmp 0))), none⟩,
.op ⟨(some 7), (.pure (.idx 4 (.tmp 6) (.const (.int .i64 (0))))), none⟩,
.op ⟨(some 8), (.pure (.fieldAddr 2 (.tmp 7))), none⟩,
.op ⟨(some 9), (.load none (.tmp 8)), none⟩,
.op ⟨(some 10), (.pure (.bin .lss (.tmp 5) (.tmp 9))), none⟩])
(.cond (.tmp 10)
(.skip)
(.exit 0)))
(.seq (.block 1 (.seq (.ops [
.op ⟨(some 13), (.pure (.mv (.tmp 0))), none⟩,
.op ⟨(some 14), (.pure (.mv (.tmp 4))), none⟩,
.op ⟨(some 15), (.eff (.call 96 [(.tmp 13), (.tmp 14)])), none⟩,
.op ⟨(some 16), (.pure (.bin .lss (.tmp 15) (.const (.int .i64 (0))))), none⟩])
(.cond (.tmp 16)
(.ops [
.op ⟨(some 17), (.pure (.mv (.tmp 3))), none⟩,
.op ⟨(some 18), (.pure (.mv (.tmp 4))), none⟩,
.op ⟨(some 19), (.eff (.row 3 1 [(.int .i64 (0))] [(0, 1, (.tmp 18))])), none⟩,
.op ⟨(some 20), (.eff (.app 3 1 8 (.tmp 17) (.tmp 19))), none⟩,
.op ⟨(some 3), (.pure (.mv (.tmp 20))), none⟩])
(.skip))))
(.ops [
.op ⟨(some 11), (.pure (.mv (.tmp 4))), none⟩,
.op ⟨(some 12), (.pure (.bin .add (.tmp 11) (.const (.int .i64 (1))))), none⟩,
.op ⟨(some 4), (.pure (.mv (.tmp 12))), none⟩]))))))
(.seq (.ops [
.op ⟨(some 21), (.pure (.mv (.tmp 3))), none⟩,
.op ⟨(some 2), (.pure (.mv (.tmp 21))), none⟩])
(.ret)))),
[.tmp 2]⟩
theorem r_spec_pkMissing : resFun Try.prog f_spec_pkMissing = some c_spec_pkMissing := by kernel_rfl

/- slices.Equal[[]int,int] -/
abbrev f_slices_Equal_Lint_int : Nat := 87
def c_slices_Equal_Lint_int : MFun := ⟨26, .seq (.ops [
.op ⟨(some 4), (.pure (.mv (.const (.bool false)))), none⟩])
(.seq (.seq (.ops [
.op ⟨(some 6), (.pure (.mv (.tmp 0))), none⟩,
.op ⟨(some 7), (.pure (.len (.tmp 6))), none⟩,
.op ⟨(some 8), (.pure (.mv (.tmp 1))), none⟩,
.op ⟨(some 9), (.pure (.len (.tmp 8))), none⟩,
.op ⟨(some 10), (.pure (.bin .neq (.tmp 7) (.tmp 9))), none⟩])
(.cond (.tmp 10)
(.seq (.ops [
.op ⟨(some 4), (.pure (.mv (.const (.bool false)))), none⟩])
(.ret))
(.skip)))
(.seq (.seq (.ops [
.op ⟨(some 11), (.pure (.mv (.tmp 0))), none⟩,
.op ⟨(some 12), (.pure (.len (.tmp 11))), none⟩,
.op ⟨(some 13), (.pure (.mv (.const (.int .i64 (0))))), none⟩])
(.block 0 (.loop (.seq (.ops [
.op ⟨(some 14), (.pure (.bin .lss (.tmp 13) (.tmp 12))), none⟩])
(.seq (.cond (.tmp 14)
(.skip)
(.exit 0))
(.seq (.block 1 (.seq (.ops [
.op ⟨(some 15), (.pure (.mv (.tmp 13))), none⟩,
.op ⟨(some 5), (.pure (.mv (.tmp 15))), none⟩])
(.seq (.ops [
.op ⟨(some 16), (.pure (.mv (.tmp 0))), none⟩,
.op ⟨(some 17), (.pure (.mv (.tmp 5))), none⟩,
.op ⟨(some 18), (.pure (.idx 1 (.tmp 16) (.tmp 17))), none⟩,
.op ⟨(some 20), (.pure (.mv (.tmp 1))), none⟩,
.op ⟨(some 21), (.pure (.mv (.tmp 5))), none⟩,
.op ⟨(some 22), (.pure (.idx 1 (.tmp 20) (.tmp 21))), none⟩,
.op ⟨(some 19), (.load none (.tmp 18)), none⟩,
.op ⟨(some 23), (.load none (.tmp 22)), none⟩,
.op ⟨(some 24), (.pure (.bin .neq (.tmp 19) (.tmp 23))), none⟩])
(.cond (.tmp 24)
(.seq (.ops [
.op ⟨(some 4), (.pure (.mv (.const (.bool false)))), none⟩])
(.ret))
(.skip)))))
(.ops [
.op ⟨(some 25), (.pure (.bin .add (.tmp 13) (.const (.int .i64 (1))))), none⟩,
.op ⟨(some 13), (.pure (.mv (.tmp 25))), none⟩])))))))
(.seq (.ops [
.op ⟨(some 4), (.pure (.mv (.const (.bool true)))), none⟩])
(.ret)))),
[.tmp 4]⟩
theorem r_slices_Equal_Lint_int : resFun Try.prog f_slices_Equal_Lint_int = some c_slices_Equal_Lint_int := by kernel_rfl

/- loop.example/g00940/spec.l1Same -/
abbrev f_spec_l1Same : Nat := 88
def c_spec_l1Same : MFun := ⟨26, .seq (.ops [
.op ⟨(some 4), (.pure (.mv (.const (.bool false)))), none⟩])
(.seq (.seq (.ops [
.op ⟨(some 6), (.pure (.mv (.tmp 0))), none⟩,
.op ⟨(some 7), (.pure (.len (.tmp 6))), none⟩,
.op ⟨(some 8), (.pure (.mv (.tmp 1))), none⟩,
.op ⟨(some 9), (.pure (.len (.tmp 8))), none⟩,
.op ⟨(some 10), (.pure (.bin .neq (.tmp 7) (.tmp 9))), none⟩])
(.cond (.tmp 10)
(.seq (.ops [
.op ⟨(some 4), (.pure (.mv (.const (.bool false)))), none⟩])
(.ret))
(.skip)))
(.seq (.seq (.ops [
.op ⟨(some 11), (.pure (.mv (.tmp 0))), none⟩,
.op ⟨(some 12), (.pure (.len (.tmp 11))), none⟩,
.op ⟨(some 13), (.pure (.mv (.const (.int .i64 (0))))), none⟩])
(.block 0 (.loop (.seq (.ops [
.op ⟨(some 14), (.pure (.bin .lss (.tmp 13) (.tmp 12))), none⟩])
(.seq (.cond (.tmp 14)
(.skip)
(.exit 0))
(.seq (.block 1 (.seq (.ops [
.op ⟨(some 15), (.pure (.mv (.tmp 13))), none⟩,
.op ⟨(some 5), (.pure (.mv (.tmp 15))), none⟩])
(.seq (.ops [
.op ⟨(some 16), (.pure (.mv (.tmp 0))), none⟩,
.op ⟨(some 17), (.pure (.mv (.tmp 5))), none⟩,
.op ⟨(some 18), (.pure (.idx 1 (.tmp 16) (.tmp 17))), none⟩,
.op ⟨(some 20), (.pure (.mv (.tmp 1))), none⟩,
.op ⟨(some 21), (.pure (.mv (.tmp 5))), none⟩,
.op ⟨(some 22), (.pure (.idx 1 (.tmp 20) (.tmp 21))), none⟩,
.op ⟨(some 19), (.load none (.tmp 18)), none⟩,
.op ⟨(some 23), (.load none (.tmp 22)), none⟩,
.op ⟨(some 24), (.pure (.bin .neq (.tmp 19) (.tmp 23))), none⟩])
(.cond (.tmp 24)
(.seq (.ops [
.op ⟨(some 4), (.pure (.mv (.const (.bool false)))), none⟩])
(.ret))
(.skip)))))
(.ops [
.op ⟨(some 25), (.pure (.bin .add (.tmp 13) (.const (.int .i64 (1))))), none⟩,
.op ⟨(some 13), (.pure (.mv (.tmp 25))), none⟩])))))))
(.seq (.ops [
.op ⟨(some 4), (.pure (.mv (.const (.bool true)))), none⟩])
(.ret)))),
[.tmp 4]⟩
theorem r_spec_l1Same : resFun Try.prog f_spec_l1Same = some c_spec_l1Same := by kernel_rfl

/- loop.example/g00940/spec.l1Own -/
abbrev f_spec_l1Own : Nat := 89
def c_spec_l1Own : MFun := ⟨6, .seq (.ops [
.op ⟨(some 2), (.pure (.mv (.const (.slice none 0 0)))), none⟩])
(.seq (.ops [
.op ⟨(some 3), (.eff (.row 3 0 [] [])), none⟩,
.op ⟨(some 4), (.pure (.mv (.tmp 0))), none⟩,
.op ⟨(some 5), (.eff (.app 3 1 8 (.tmp 3) (.tmp 4))), none⟩,
.op ⟨(some 2), (.pure (.mv (.tmp 5))), none⟩])
(.ret)),
[.tmp 2]⟩
theorem r_spec_l1Own : resFun Try.prog f_spec_l1Own = some c_spec_l1Own := by kernel_rfl

/- slices.stableCmpFunc[loop.example/g00940/impl.Packet] -/
abbrev f_slices_stableCmpFunc_impl_Packet : Nat := 90
def c_slices_stableCmpFunc_impl_Packet : MFun := ⟨63, .seq (.ops [
.op ⟨(some 6), (.pure (.mv (.const (.int .i64 (20))))), none⟩])
(.seq (.ops [
.op ⟨(some 10), (.pure (.mv (.tmp 6))), none⟩,
.op ⟨(some 7), (.pure (.mv (.const (.int .i64 (0))))), none⟩,
.op ⟨(some 8), (.pure (.mv (.tmp 10))), none⟩])
(.seq (.block 0 (.loop (.seq (.seq (.ops [
.op ⟨(some 11), (.pure (.mv (.tmp 8))), none⟩,
.op ⟨(some 12), (.pure (.mv (.tmp 1))), none⟩,
.op ⟨(some 13), (.pure (.bin .leq (.tmp 11) (.tmp 12))), none⟩])
(.cond (.tmp 13)
(.skip)
(.exit 0)))
(.block 1 (.seq (.ops [
.op ⟨(some 14), (.pure (.mv (.tmp 0))), none⟩,
.op ⟨(some 15), (.pure (.mv (.tmp 7))), none⟩,
.op ⟨(some 16), (.pure (.mv (.tmp 8))), none⟩,
.op ⟨(some 17), (.pure (.mv (.tmp 2))), none⟩,
.op ⟨(some 18), (.eff (.call 103 [(.tmp 14), (.tmp 15), (.tmp 16), (.tmp 17)])), none⟩])
(.seq (.ops [
.op ⟨(some 19), (.pure (.mv (.tmp 8))), none⟩,
.op ⟨(some 7), (.pure (.mv (.tmp 19))), none⟩])
(.ops [
.op ⟨(some 20), (.pure (.mv (.tmp 8))), none⟩,
.op ⟨(some 21), (.pure (.mv (.tmp 6))), none⟩,
.op ⟨(some 22), (.pure (.bin .add (.tmp 20) (.tmp 21))), none⟩,
.op ⟨(some 8), (.pure (.mv (.tmp 22))), none⟩])))))))
(.seq (.ops [
.op ⟨(some 23), (.pure (.mv (.tmp 0))), none⟩,
.op ⟨(some 24), (.pure (.mv (.tmp 7))), none⟩,
.op ⟨(some 25), (.pure (.mv (.tmp 1))), none⟩,
.op ⟨(some 26), (.pure (.mv (.tmp 2))), none⟩,
.op ⟨(some 27), (.eff (.call 103 [(.tmp 23), (.tmp 24), (.tmp 25), (.tmp 26)])), none⟩])
(.block 2 (.loop (.seq (.seq (.ops [
.op ⟨(some 28), (.pure (.mv (.tmp 6))), none⟩,
.op ⟨(some 29), (.pure (.mv (.tmp 1))), none⟩,
.op ⟨(some 30), (.pure (.bin .lss (.tmp 28) (.tmp 29))), none⟩])
(.cond (.tmp 30)
(.skip)
(.exit 2)))
(.block 3 (.seq (.ops [
.op ⟨(some 31), (.pure (.mv (.tmp 6))), none⟩,
.op ⟨(some 32), (.pure (.bin .mul (.const (.int .i64 (2))) (.tmp 31))), none⟩,
.op ⟨(some 7), (.pure (.mv (.const (.int .i64 (0))))), none⟩,
.op ⟨(some 8), (.pure (.mv (.tmp 32))), none⟩])
(.seq (.block 4 (.loop (.seq (.seq (.ops [
.op ⟨(some 33), (.pure (.mv (.tmp 8))), none⟩,
.op ⟨(some 34), (.pure (.mv (.tmp 1))), none⟩,
.op ⟨(some 35), (.pure (.bin .leq (.tmp 33) (.tmp 34))), none⟩])
(.cond (.tmp 35)
(.skip)
(.exit 4)))
(.block 5 (.seq (.ops [
.op ⟨(some 36), (.pure (.mv (.tmp 0))), none⟩,
.op ⟨(some 37), (.pure (.mv (.tmp 7))), none⟩,
.op ⟨(some 38), (.pure (.mv (.tmp 7))), none⟩,
.op ⟨(some 39), (.pure (.mv (.tmp 6))), none⟩,
.op ⟨(some 40), (.pure (.bin .add (.tmp 38) (.tmp 39))), none⟩,
.op ⟨(some 41), (.pure (.mv (.tmp 8))), none⟩,
.op ⟨(some 42), (.pure (.mv (.tmp 2))), none⟩,
.op ⟨(some 43), (.eff (.call 104 [(.tmp 36), (.tmp 37), (.tmp 40), (.tmp 41), (.tmp 42)])), none⟩])
(.seq (.ops [
.op ⟨(some 44), (.pure (.mv (.tmp 8))), none⟩,
.op ⟨(some 7), (.pure (.mv (.tmp 44))), none⟩])
(.ops [
.op ⟨(some 45), (.pure (.mv (.tmp 8))), none⟩,
.op ⟨(some 46), (.pure (.mv (.tmp 6))), none⟩,
.op ⟨(some 47), (.pure (.bin .mul (.const (.int .i64 (2))) (.tmp 46))), none⟩,
.op ⟨(some 48), (.pure (.bin .add (.tmp 45) (.tmp 47))), none⟩,
.op ⟨(some 8), (.pure (.mv (.tmp 48))), none⟩])))))))
(.seq (.seq (.ops [
.op ⟨(some 49), (.pure (.mv (.tmp 7))), none⟩,
.op ⟨(some 50), (.pure (.mv (.tmp 6))), none⟩,
.op ⟨(some 51), (.pure (.bin .add (.tmp 49) (.tmp 50))), none⟩,
.op ⟨(some 9), (.pure (.mv (.tmp 51))), none⟩])
(.seq (.ops [
.op ⟨(some 52), (.pure (.mv (.tmp 9))), none⟩,
.op ⟨(some 53), (.pure (.mv (.tmp 1))), none⟩,
.op ⟨(some 54), (.pure (.bin .lss (.tmp 52) (.tmp 53))), none⟩])
(.cond (.tmp 54)
(.ops [
.op ⟨(some 55), (.pure (.mv (.tmp 0))), none⟩,
.op ⟨(some 56), (.pure (.mv (.tmp 7))), none⟩,
.op ⟨(some 57), (.pure (.mv (.tmp 9))), none⟩,
.op ⟨(some 58), (.pure (.mv (.tmp 1))), none⟩,
.op ⟨(some 59), (.pure (.mv (.tmp 2))), none⟩,
.op ⟨(some 60), (.eff (.call 104 [(.tmp 55), (.tmp 56), (.tmp 57), (.tmp 58), (.tmp 59)])), none⟩])
(.skip))))
(.ops [
.op ⟨(some 61), (.pure (.mv (.tmp 6))), none⟩,
.op ⟨(some 62), (.pure (.bin .mul (.tmp 61) (.const (.int .i64 (2))))), none⟩,
.op ⟨(some 6), (.pure (.mv (.tmp 62))), none⟩]))))))))))),
[]⟩
theorem r_slices_stableCmpFunc_impl_Packet : resFun Try.prog f_slices_stableCmpFunc_impl_Packet = some c_slices_stableCmpFunc_impl_Packet := by kernel_rfl

/- cmp.isNaN[int] -/
abbrev f_cmp_isNaN_int : Nat := 91
def c_cmp_isNaN_int : MFun := ⟨6, .seq (.ops [
.op ⟨(some 2), (.pure (.mv (.const (.bool false)))), none⟩])
(.seq (.ops [
.op ⟨(some 3), (.pure (.mv (.tmp 0))), none⟩,
.op ⟨(some 4), (.pure (.mv (.tmp 0))), none⟩,
.op ⟨(some 5), (.pure (.bin .neq (.tmp 3) (.tmp 4))), none⟩,
.op ⟨(some 2), (.pure (.mv (.tmp 5))), none⟩])
(.ret)),
[.tmp 2]⟩
theorem r_cmp_isNaN_int : resFun Try.prog f_cmp_isNaN_int = some c_cmp_isNaN_int := by kernel_rfl

/- slices.pdqsortOrdered[int] -/
abbrev f_slices_pdqsortOrdered_int : Nat := 92
def c_slices_pdqsortOrdered_int : MFun := ⟨134, .seq (.ops [
.op ⟨(some 8), (.pure (.mv (.const (.bool true)))), none⟩])
(.seq (.ops [
.op ⟨(some 9), (.pure (.mv (.const (.bool true)))), none⟩])
(.block 0 (.loop (.block 1 (.seq (.ops [
.op ⟨(some 19), (.pure (.mv (.tmp 2))), none⟩,
.op ⟨(some 20), (.pure (.mv (.tmp 1))), none⟩,
.op ⟨(some 21), (.pure (.bin .sub (.tmp 19) (.tmp 20))), none⟩,
.op ⟨(some 10), (.pure (.mv (.tmp 21))), none⟩])
(.seq (.seq (.ops [
.op ⟨(some 22), (.pure (.mv (.tmp 10))), none⟩,
.op ⟨(some 23), (.pure (.bin .leq (.tmp 22) (.const (.int .i64 (12))))), none⟩])
(.cond (.tmp 23)
(.seq (.ops [
.op ⟨(some 24), (.pure (.mv (.tmp 0))), none⟩,
.op ⟨(some 25), (.pure (.mv (.tmp 1))), none⟩,
.op ⟨(some 26), (.pure (.mv (.tmp 2))), none⟩,
.op ⟨(some 27), (.eff (.call 105 [(.tmp 24), (.tmp 25), (.tmp 26)])), none⟩])
(.ret))
(.skip)))
(.seq (.seq (.ops [
.op ⟨(some 28), (.pure (.mv (.tmp 3))), none⟩,
.op ⟨(some 29), (.pure (.bin .eql (.tmp 28) (.const (.int .i64 (0))))), none⟩])
(.cond (.tmp 29)
(.seq (.ops [
.op ⟨(some 30), (.pure (.mv (.tmp 0))), none⟩,
.op ⟨(some 31), (.pure (.mv (.tmp 1))), none⟩,
.op ⟨(some 32), (.pure (.mv (.tmp 2))), none⟩,
.op ⟨(some 33), (.eff (.call 106 [(.tmp 30), (.tmp 31), (.tmp 32)])), none⟩])
(.ret))
(.skip)))
(.seq (.seq (.ops [
.op ⟨(some 34), (.pure (.mv (.tmp 8))), none⟩,
.op ⟨(some 35), (.pure (.bnot (.tmp 34))), none⟩])
(.cond (.tmp 35)
(.seq (.ops [
.op ⟨(some 36), (.pure (.mv (.tmp 0))), none⟩,
.op ⟨(some 37), (.pure (.mv (.tmp 1))), none⟩,
.op ⟨(some 38), (.pure (.mv (.tmp 2))), none⟩,
.op ⟨(some 39), (.eff (.call 107 [(.tmp 36), (.tmp 37), (.tmp 38)])), none⟩])
(.ops [
.op ⟨(some 40), (.pure (.mv (.tmp 3))), none⟩,
.op ⟨(some 41), (.pure (.bin .sub (.tmp 40) (.const (.int .i64 (1))))), none⟩,
.op ⟨(some 3), (.pure (.mv (.tmp 41))), none⟩]))
(.skip)))
(.seq (.ops [
.op ⟨(some 43), (.pure (.mv (.tmp 0))), none⟩,
.op ⟨(some 44), (.pure (.mv (.tmp 1))), none⟩,
.op ⟨(some 45), (.pure (.mv (.tmp 2))), none⟩,
.op ⟨(some 46), (.eff (.call 108 [(.tmp 43), (.tmp 44), (.tmp 45)])), none⟩,
.op ⟨(some 42), (.pure (.mv (.tmp 46))), none⟩,
.op ⟨(some 47), (.pure (.ext 0 (.tmp 42))), none⟩,
.op ⟨(some 48), (.pure (.ext 1 (.tmp 42))), none⟩,
.op ⟨(some 11), (.pure (.mv (.tmp 47))), none⟩,
.op ⟨(some 12), (.pure (.mv (.tmp 48))), none⟩])
(.seq (.seq (.ops [
.op ⟨(some 49), (.pure (.mv (.tmp 12))), none⟩,
.op ⟨(some 50), (.pure (.bin .eql (.tmp 49) (.const (.int .i64 (2))))), none⟩])
(.cond (.tmp 50)
(.seq (.ops [
.op ⟨(some 51), (.pure (.mv (.tmp 0))), none⟩,
.op ⟨(some 52), (.pure (.mv (.tmp 1))), none⟩,
.op ⟨(some 53), (.pure (.mv (.tmp 2))), none⟩,
.op ⟨(some 54), (.eff (.call 109 [(.tmp 51), (.tmp 52), (.tmp 53)])), none⟩])
(.seq (.ops [
.op ⟨(some 55), (.pure (.mv (.tmp 2))), none⟩,
.op ⟨(some 56), (.pure (.bin .sub (.tmp 55) (.const (.int .i64 (1))))), none⟩,
.op ⟨(some 57), (.pure (.mv (.tmp 11))), none⟩,
.op ⟨(some 58), (.pure (.mv (.tmp 1))), none⟩,
.op ⟨(some 59), (.pure (.bin .sub (.tmp 57) (.tmp 58))), none⟩,
.op ⟨(some 60), (.pure (.bin .sub (.tmp 56) (.tmp 59))), none⟩,
.op ⟨(some 11), (.pure (.mv (.tmp 60))), none⟩])
(.ops [
.op ⟨(some 12), (.pure (.mv (.const (.int .i64 (1))))), none⟩])))
(.skip)))
(.seq (.seq (.ops [
.op ⟨(some 61), (.pure (.mv (.tmp 8))), none⟩,
.op ⟨(some 62), (.pure (.mv (.tmp 61))), none⟩,
.split 62,
.op ⟨(some 63), (.pure (.mv (.tmp 9))), (some (62, true))⟩,
.op ⟨(some 64), (.pure (.pick (.tmp 62) (.tmp 63) (.const (.bool false)))), none⟩,
.op ⟨(some 65), (.pure (.mv (.tmp 64))), none⟩,
.split 65,
.op ⟨(some 66), (.pure (.mv (.tmp 12))), (some (65, true))⟩,
.op ⟨(some 67), (.pure (.bin .eql (.tmp 66) (.const (.int .i64 (1))))), (some (65, true))⟩,
.op ⟨(some 68), (.pure (.pick (.tmp 65) (.tmp 67) (.const (.bool false)))), none⟩])
(.cond (.tmp 68)
(.seq (.ops [
.op ⟨(some 69), (.pure (.mv (.tmp 0))), none⟩,
.op ⟨(some 70), (.pure (.mv (.tmp 1))), none⟩,
.op ⟨(some 71), (.pure (.mv (.tmp 2))), none⟩,
.op ⟨(some 72), (.eff (.call 110 [(.tmp 69), (.tmp 70), (.tmp 71)])), none⟩])
(.cond (.tmp 72)
(.ret)
(.skip)))
(.skip)))
(.seq (.seq (.draw false
(.take ⟨(some 73), (.pure (.mv (.tmp 1))), none⟩
(.take ⟨(some 74), (.pure (.bin .gtr (.tmp 73) (.const (.int .i64 (0))))), none⟩
(.take ⟨(some 75), (.pure (.mv (.tmp 74))), none⟩
(.split 75
(.take ⟨(some 76), (.pure (.mv (.tmp 0))), (some (75, true))⟩
(.take ⟨(some 77), (.pure (.mv (.tmp 1))), (some (75, true))⟩
(.take ⟨(some 78), (.pure (.bin .sub (.tmp 77) (.const (.int .i64 (1))))), (some (75, true))⟩
(.take ⟨(some 79), (.pure (.idx 1 (.tmp 76) (.tmp 78))), (some (75, true))⟩
(.take ⟨(some 81), (.pure (.mv (.tmp 0))), (some (75, true))⟩
(.take ⟨(some 82), (.pure (.mv (.tmp 11))), (some (75, true))⟩
(.take ⟨(some 83), (.pure (.idx 1 (.tmp 81) (.tmp 82))), (some (75, true))⟩
(.only false ⟨(some 80), (.load none (.tmp 79)), (some (75, true))⟩
(.only false ⟨(some 84), (.load none (.tmp 83)), (some (75, true))⟩
(.only true ⟨(some 85), (.eff (.call 111 [(.tmp 80), (.tmp 84)])), (some (75, true))⟩
(.take ⟨(some 86), (.pure (.bnot (.tmp 85))), (some (75, true))⟩
(.take ⟨(some 87), (.pure (.pick (.tmp 75) (.tmp 86) (.const (.bool false)))), none⟩
(.done))))))))))))))))))
(.cond (.tmp 87)
(.seq (.ops [
.op ⟨(some 88), (.pure (.mv (.tmp 0))), none⟩,
.op ⟨(some 89), (.pure (.mv (.tmp 1))), none⟩,
.op ⟨(some 90), (.pure (.mv (.tmp 2))), none⟩,
.op ⟨(some 91), (.pure (.mv (.tmp 11))), none⟩,
.op ⟨(some 92), (.eff (.call 112 [(.tmp 88), (.tmp 89), (.tmp 90), (.tmp 91)])), none⟩,
.op ⟨(some 13), (.pure (.mv (.tmp 92))), none⟩])
(.seq (.ops [
.op ⟨(some 93), (.pure (.mv (.tmp 13))), none⟩,
.op ⟨(some 1), (.pure (.mv (.tmp 93))), none⟩])
(.exit 1)))
(.skip)))
(.seq (.ops [
.op ⟨(some 95), (.pure (.mv (.tmp 0))), none⟩,
.op ⟨(some 96), (.pure (.mv (.tmp 1))), none⟩,
.op ⟨(some 97), (.pure (.mv (.tmp 2))), none⟩,
.op ⟨(some 98), (.pure (.mv (.tmp 11))), none⟩,
.op ⟨(some 99), (.eff (.call 113 [(.tmp 95), (.tmp 96), (.tmp 97), (.tmp 98)])), none⟩,
.op ⟨(some 94), (.pure (.mv (.tmp 99))), none⟩,
.op ⟨(some 100), (.pure (.ext 0 (.tmp 94))), none⟩,
.op ⟨(some 101), (.pure (.ext 1 (.tmp 94))), none⟩,
.op ⟨(some 14), (.pure (.mv (.tmp 100))), none⟩,
.op ⟨(some 15), (.pure (.mv (.tmp 101))), none⟩])
(.seq (.ops [
.op ⟨(some 102), (.pure (.mv (.tmp 15))), none⟩,
.op ⟨(some 9), (.pure (.mv (.tmp 102))), none⟩])
(.seq (.ops [
.op ⟨(some 103), (.pure (.mv (.tmp 14))), none⟩,
.op ⟨(some 104), (.pure (.mv (.tmp 1))), none⟩,
.op ⟨(some 105), (.pure (.bin .sub (.tmp 103) (.tmp 104))), none⟩,
.op ⟨(some 106), (.pure (.mv (.tmp 2))), none⟩,
.op ⟨(some 107), (.pure (.mv (.tmp 14))), none⟩,
.op ⟨(some 108), (.pure (.bin .sub (.tmp 106) (.tmp 107))), none⟩,
.op ⟨(some 16), (.pure (.mv (.tmp 105))), none⟩,
.op ⟨(some 17), (.pure (.mv (.tmp 108))), none⟩])
(.seq (.ops [
.op ⟨(some 109), (.pure (.mv (.tmp 10))), none⟩,
.op ⟨(some 110), (.pure (.bin .quo (.tmp 109) (.const (.int .i64 (8))))), none⟩,
.op ⟨(some 18), (.pure (.mv (.tmp 110))), none⟩])
(.seq (.ops [
.op ⟨(some 111), (.pure (.mv (.tmp 16))), none⟩,
.op ⟨(some 112), (.pure (.mv (.tmp 17))), none⟩,
.op ⟨(some 113), (.pure (.bin .lss (.tmp 111) (.tmp 112))), none⟩])
(.cond (.tmp 113)
(.seq (.ops [
.op ⟨(some 114), (.pure (.mv (.tmp 16))), none⟩,
.op ⟨(some 115), (.pure (.mv (.tmp 18))), none⟩,
.op ⟨(some 116), (.pure (.bin .geq (.tmp 114) (.tmp 115))), none⟩,
.op ⟨(some 8), (.pure (.mv (.tmp 116))), none⟩])
(.seq (.ops [
.op ⟨(some 117), (.pure (.mv (.tmp 0))), none⟩,
.op ⟨(some 118), (.pure (.mv (.tmp 1))), none⟩,
.op ⟨(some 119), (.pure (.mv (.tmp 14))), none⟩,
.op ⟨(some 120), (.pure (.mv (.tmp 3))), none⟩,
.op ⟨(some 121), (.eff (.call 92 [(.tmp 117), (.tmp 118), (.tmp 119), (.tmp 120)])), none⟩])
(.ops [
.op ⟨(some 122), (.pure (.mv (.tmp 14))), none⟩,
.op ⟨(some 123), (.pure (.bin .add (.tmp 122) (.const (.int .i64 (1))))), none⟩,
.op ⟨(some 1), (.pure (.mv (.tmp 123))), none⟩])))
(.seq (.ops [
.op ⟨(some 124), (.pure (.mv (.tmp 17))), none⟩,
.op ⟨(some 125), (.pure (.mv (.tmp 18))), none⟩,
.op ⟨(some 126), (.pure (.bin .geq (.tmp 124) (.tmp 125))), none⟩,
.op ⟨(some 8), (.pure (.mv (.tmp 126))), none⟩])
(.seq (.ops [
.op ⟨(some 127), (.pure (.mv (.tmp 0))), none⟩,
.op ⟨(some 128), (.pure (.mv (.tmp 14))), none⟩,
.op ⟨(some 129), (.pure (.bin .add (.tmp 128) (.const (.int .i64 (1))))), none⟩,
.op ⟨(some 130), (.pure (.mv (.tmp 2))), none⟩,
.op ⟨(some 131), (.pure (.mv (.tmp 3))), none⟩,
.op ⟨(some 132), (.eff (.call 92 [(.tmp 127), (.tmp 129), (.tmp 130), (.tmp 131)])), none⟩])
(.ops [
.op ⟨(some 133), (.pure (.mv (.tmp 14))), none⟩,
.op ⟨(some 2), (.pure (.mv (.tmp 133))), none⟩]))))))))))))))))))))),
[]⟩
theorem r_slices_pdqsortOrdered_int : resFun Try.prog f_slices_pdqsortOrdered_int = some c_slices_pdqsortOrdered_int := by kernel_rfl
end Go.Proofs.Ytjmcijcdncgaiaa
