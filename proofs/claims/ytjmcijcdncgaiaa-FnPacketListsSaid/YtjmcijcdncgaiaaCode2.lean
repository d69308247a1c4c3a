/- Code2. Condition: none. -/
import Derived.Test.YtjmcijcdncgaiaaProg
import Derived.Test.YtjmcijcdncgaiaaBase9
import Derived.KernelRfl
/- The code of this seat's functions, resolved, written by a program of mine; each is held against the given program by the kernel. Condition: none. -/
namespace Go.Proofs.Ytjmcijcdncgaiaa
open Go.Vc

/- loop.example/g00940/spec.JoinMessage -/
abbrev f_spec_JoinMessage : Nat := 38
def c_spec_JoinMessage : MFun := ⟨19, .seq (.ops [
.op ⟨(some 4), (.pure (.mv (.const (.slice none 0 0)))), none⟩,
.op ⟨(some 5), (.pure (.mv (.const (.bool false)))), none⟩])
(.seq (.seq (.ops [
.op ⟨(some 6), (.pure (.mv (.tmp 0))), none⟩,
.op ⟨(some 7), (.eff (.call 56 [(.tmp 6)])), none⟩,
.op ⟨(some 8), (.pure (.bnot (.tmp 7))), none⟩,
.op ⟨(some 9), (.pure (.mv (.tmp 8))), none⟩,
.split 9,
.op ⟨(some 10), (.pure (.mv (.tmp 1))), (some (9, false))⟩,
.op ⟨(some 11), (.eff (.call 78 [(.tmp 10)])), (some (9, false))⟩,
.op ⟨(some 12), (.pure (.bnot (.tmp 11))), (some (9, false))⟩,
.op ⟨(some 13), (.pure (.pick (.tmp 9) (.const (.bool true)) (.tmp 12))), none⟩])
(.cond (.tmp 13)
(.seq (.ops [
.op ⟨(some 4), (.pure (.mv (.const (.slice none 0 0)))), none⟩,
.op ⟨(some 5), (.pure (.mv (.const (.bool false)))), none⟩])
(.ret))
(.skip)))
(.seq (.ops [
.op ⟨(some 14), (.pure (.mv (.tmp 0))), none⟩,
.op ⟨(some 15), (.pure (.mv (.tmp 1))), none⟩,
.op ⟨(some 16), (.eff (.call 79 [(.tmp 14), (.tmp 15)])), none⟩,
.op ⟨(some 17), (.pure (.ext 0 (.tmp 16))), none⟩,
.op ⟨(some 18), (.pure (.ext 1 (.tmp 16))), none⟩,
.op ⟨(some 4), (.pure (.mv (.tmp 17))), none⟩,
.op ⟨(some 5), (.pure (.mv (.tmp 18))), none⟩])
(.ret))),
[.tmp 4, .tmp 5]⟩
theorem r_spec_JoinMessage : resFun Try.prog f_spec_JoinMessage = some c_spec_JoinMessage := by kernel_rfl

/- loop.example/g00940/spec.SplitMessage -/
/- loop.example/g00940/laws.toIntS -/
/- loop.example/g00940/impl.SplitMessage -/
/- loop.example/g00940/laws.eqIntS -/
/- loop.example/g00940/laws.markIntS -/
/- loop.example/g00940/laws.markPacketS -/
/- loop.example/g00940/laws.heldPacketS -/
/- loop.example/g00940/laws.eqIntSS -/
/- loop.example/g00940/laws.markIntSS -/
/- loop.example/g00940/laws.heldIntSS -/
/- loop.example/g00940/spec.MissingParts -/
/- loop.example/g00940/impl.MissingParts -/
/- loop.example/g00940/laws.heldIntS -/
/- loop.example/g00940/laws.szIntS -/
/- loop.example/g00940/spec.pkGood -/
abbrev f_spec_pkGood : Nat := 53
def c_spec_pkGood : MFun := ⟨30, .seq (.ops [
.op ⟨(some 1), (.eff (.box 27 (.tmp 0))), none⟩,
.op ⟨(some 2), (.pure (.mv (.const (.bool false)))), none⟩])
(.seq (.ops [
.op ⟨(some 3), (.pure (.fieldAddr 0 (.tmp 1))), none⟩,
.op ⟨(some 4), (.load none (.tmp 3)), none⟩,
.op ⟨(some 5), (.eff (.call 80 [(.tmp 4), (.const (.int .i64 (1))), (.const (.int .i64 (999)))])), none⟩,
.op ⟨(some 6), (.pure (.mv (.tmp 5))), none⟩,
.split 6,
.op ⟨(some 7), (.pure (.fieldAddr 2 (.tmp 1))), (some (6, true))⟩,
.op ⟨(some 8), (.load none (.tmp 7)), (some (6, true))⟩,
.op ⟨(some 9), (.eff (.call 80 [(.tmp 8), (.const (.int .i64 (1))), (.const (.int .i64 (9)))])), (some (6, true))⟩,
.op ⟨(some 10), (.pure (.pick (.tmp 6) (.tmp 9) (.const (.bool false)))), none⟩,
.op ⟨(some 11), (.pure (.mv (.tmp 10))), none⟩,
.split 11,
.op ⟨(some 12), (.pure (.fieldAddr 1 (.tmp 1))), (some (11, true))⟩,
.op ⟨(some 13), (.load none (.tmp 12)), (some (11, true))⟩,
.op ⟨(some 14), (.pure (.fieldAddr 2 (.tmp 1))), (some (11, true))⟩,
.op ⟨(some 15), (.load none (.tmp 14)), (some (11, true))⟩,
.op ⟨(some 16), (.pure (.bin .sub (.tmp 15) (.const (.int .i64 (1))))), (some (11, true))⟩,
.op ⟨(some 17), (.eff (.call 80 [(.tmp 13), (.const (.int .i64 (0))), (.tmp 16)])), (some (11, true))⟩,
.op ⟨(some 18), (.pure (.pick (.tmp 11) (.tmp 17) (.const (.bool false)))), none⟩,
.op ⟨(some 19), (.pure (.mv (.tmp 18))), none⟩,
.split 19,
.op ⟨(some 20), (.pure (.fieldAddr 3 (.tmp 1))), (some (19, true))⟩,
.op ⟨(some 21), (.load none (.tmp 20)), (some (19, true))⟩,
.op ⟨(some 22), (.pure (.len (.tmp 21))), (some (19, true))⟩,
.op ⟨(some 23), (.eff (.call 80 [(.tmp 22), (.const (.int .i64 (1))), (.const (.int .i64 (8)))])), (some (19, true))⟩,
.op ⟨(some 24), (.pure (.pick (.tmp 19) (.tmp 23) (.const (.bool false)))), none⟩,
.op ⟨(some 25), (.pure (.mv (.tmp 24))), none⟩,
.split 25,
.op ⟨(some 26), (.pure (.fieldAddr 3 (.tmp 1))), (some (25, true))⟩,
.op ⟨(some 27), (.load none (.tmp 26)), (some (25, true))⟩,
.op ⟨(some 28), (.eff (.call 81 [(.tmp 27), (.const (.int .i64 (1))), (.const (.int .i64 (60)))])), (some (25, true))⟩,
.op ⟨(some 29), (.pure (.pick (.tmp 25) (.tmp 28) (.const (.bool false)))), none⟩,
.op ⟨(some 2), (.pure (.mv (.tmp 29))), none⟩])
(.ret)),
[.tmp 2]⟩
theorem r_spec_pkGood : resFun Try.prog f_spec_pkGood = some c_spec_pkGood := by kernel_rfl

/- loop.example/g00940/impl.within -/
abbrev f_impl_within : Nat := 54
def c_impl_within : MFun := ⟨15, .seq (.ops [
.op ⟨(some 6), (.pure (.mv (.const (.bool false)))), none⟩])
(.seq (.ops [
.op ⟨(some 7), (.pure (.mv (.tmp 0))), none⟩,
.op ⟨(some 8), (.pure (.mv (.tmp 1))), none⟩,
.op ⟨(some 9), (.pure (.bin .geq (.tmp 7) (.tmp 8))), none⟩,
.op ⟨(some 10), (.pure (.mv (.tmp 9))), none⟩,
.split 10,
.op ⟨(some 11), (.pure (.mv (.tmp 0))), (some (10, true))⟩,
.op ⟨(some 12), (.pure (.mv (.tmp 2))), (some (10, true))⟩,
.op ⟨(some 13), (.pure (.bin .leq (.tmp 11) (.tmp 12))), (some (10, true))⟩,
.op ⟨(some 14), (.pure (.pick (.tmp 10) (.tmp 13) (.const (.bool false)))), none⟩,
.op ⟨(some 6), (.pure (.mv (.tmp 14))), none⟩])
(.ret)),
[.tmp 6]⟩
theorem r_impl_within : resFun Try.prog f_impl_within = some c_impl_within := by kernel_rfl

/- loop.example/g00940/impl.allWithin -/
abbrev f_impl_allWithin : Nat := 55
def c_impl_allWithin : MFun := ⟨21, .seq (.ops [
.op ⟨(some 6), (.pure (.mv (.const (.bool false)))), none⟩])
(.seq (.seq (.ops [
.op ⟨(some 9), (.pure (.mv (.tmp 0))), none⟩,
.op ⟨(some 10), (.pure (.len (.tmp 9))), none⟩,
.op ⟨(some 11), (.pure (.mv (.const (.int .i64 (0))))), none⟩])
(.block 0 (.loop (.seq (.ops [
.op ⟨(some 12), (.pure (.bin .lss (.tmp 11) (.tmp 10))), none⟩])
(.seq (.cond (.tmp 12)
(.skip)
(.exit 0))
(.seq (.block 1 (.seq (.ops [
.op ⟨(some 13), (.pure (.idx 1 (.tmp 9) (.tmp 11))), none⟩,
.op ⟨(some 14), (.load none (.tmp 13)), none⟩,
.op ⟨(some 8), (.pure (.mv (.tmp 14))), none⟩])
(.seq (.ops [
.op ⟨(some 15), (.pure (.mv (.tmp 8))), none⟩,
.op ⟨(some 16), (.pure (.mv (.tmp 1))), none⟩,
.op ⟨(some 17), (.pure (.mv (.tmp 2))), none⟩,
.op ⟨(some 18), (.eff (.call 54 [(.tmp 15), (.tmp 16), (.tmp 17)])), none⟩,
.op ⟨(some 19), (.pure (.bnot (.tmp 18))), none⟩])
(.cond (.tmp 19)
(.seq (.ops [
.op ⟨(some 6), (.pure (.mv (.const (.bool false)))), none⟩])
(.ret))
(.skip)))))
(.ops [
.op ⟨(some 20), (.pure (.bin .add (.tmp 11) (.const (.int .i64 (1))))), none⟩,
.op ⟨(some 11), (.pure (.mv (.tmp 20))), none⟩])))))))
(.seq (.ops [
.op ⟨(some 6), (.pure (.mv (.const (.bool true)))), none⟩])
(.ret))),
[.tmp 6]⟩
theorem r_impl_allWithin : resFun Try.prog f_impl_allWithin = some c_impl_allWithin := by kernel_rfl

/- loop.example/g00940/spec.pkAll -/
abbrev f_spec_pkAll : Nat := 56
def c_spec_pkAll : MFun := ⟨18, .seq (.ops [
.op ⟨(some 2), (.pure (.mv (.const (.bool false)))), none⟩])
(.seq (.seq (.ops [
.op ⟨(some 5), (.pure (.mv (.tmp 0))), none⟩,
.op ⟨(some 6), (.pure (.len (.tmp 5))), none⟩,
.op ⟨(some 7), (.pure (.mv (.const (.int .i64 (0))))), none⟩])
(.block 0 (.loop (.seq (.ops [
.op ⟨(some 8), (.pure (.bin .lss (.tmp 7) (.tmp 6))), none⟩])
(.seq (.cond (.tmp 8)
(.skip)
(.exit 0))
(.seq (.block 1 (.seq (.ops [
.op ⟨(some 9), (.pure (.idx 4 (.tmp 5) (.tmp 7))), none⟩,
.op ⟨(some 10), (.load (some 4) (.tmp 9)), none⟩,
.op ⟨(some 4), (.eff (.new 27 [(.int .i64 (0)), (.int .i64 (0)), (.int .i64 (0)), (.slice none 0 0)])), none⟩,
.op ⟨none, (.eff (.store 4 (.tmp 4) (.tmp 10))), none⟩])
(.seq (.ops [
.op ⟨(some 11), (.load (some 4) (.tmp 4)), none⟩,
.op ⟨(some 12), (.eff (.call 53 [(.tmp 11)])), none⟩,
.op ⟨(some 13), (.pure (.bnot (.tmp 12))), none⟩])
(.cond (.tmp 13)
(.seq (.ops [
.op ⟨(some 2), (.pure (.mv (.const (.bool false)))), none⟩])
(.ret))
(.skip)))))
(.ops [
.op ⟨(some 14), (.pure (.bin .add (.tmp 7) (.const (.int .i64 (1))))), none⟩,
.op ⟨(some 7), (.pure (.mv (.tmp 14))), none⟩])))))))
(.seq (.ops [
.op ⟨(some 15), (.pure (.mv (.tmp 0))), none⟩,
.op ⟨(some 16), (.pure (.len (.tmp 15))), none⟩,
.op ⟨(some 17), (.pure (.bin .leq (.tmp 16) (.const (.int .i64 (40))))), none⟩,
.op ⟨(some 2), (.pure (.mv (.tmp 17))), none⟩])
(.ret))),
[.tmp 2]⟩
theorem r_spec_pkAll : resFun Try.prog f_spec_pkAll = some c_spec_pkAll := by kernel_rfl

/- slices.ContainsFunc[[]loop.example/g00940/impl.Packet,loop.example/g00940/impl.Packet] -/
abbrev f_slices_ContainsFunc_Limpl_Packet_impl_Packet : Nat := 57
def c_slices_ContainsFunc_Limpl_Packet_impl_Packet : MFun := ⟨9, .seq (.ops [
.op ⟨(some 4), (.pure (.mv (.const (.bool false)))), none⟩])
(.seq (.ops [
.op ⟨(some 5), (.pure (.mv (.tmp 0))), none⟩,
.op ⟨(some 6), (.pure (.mv (.tmp 1))), none⟩,
.op ⟨(some 7), (.eff (.call 76 [(.tmp 5), (.tmp 6)])), none⟩,
.op ⟨(some 8), (.pure (.bin .geq (.tmp 7) (.const (.int .i64 (0))))), none⟩,
.op ⟨(some 4), (.pure (.mv (.tmp 8))), none⟩])
(.ret)),
[.tmp 4]⟩
theorem r_slices_ContainsFunc_Limpl_Packet_impl_Packet : resFun Try.prog f_slices_ContainsFunc_Limpl_Packet_impl_Packet = some c_slices_ContainsFunc_Limpl_Packet_impl_Packet := by kernel_rfl

/- loop.example/g00940/impl.ArePackets$1 -/
abbrev f_impl_ArePackets_1 : Nat := 58
def c_impl_ArePackets_1 : MFun := ⟨6, .seq (.ops [
.op ⟨(some 1), (.eff (.box 27 (.tmp 0))), none⟩,
.op ⟨(some 2), (.pure (.mv (.const (.bool false)))), none⟩])
(.seq (.ops [
.op ⟨(some 3), (.load (some 4) (.tmp 1)), none⟩,
.op ⟨(some 4), (.eff (.call 16 [(.tmp 3)])), none⟩,
.op ⟨(some 5), (.pure (.bnot (.tmp 4))), none⟩,
.op ⟨(some 2), (.pure (.mv (.tmp 5))), none⟩])
(.ret)),
[.tmp 2]⟩
theorem r_impl_ArePackets_1 : resFun Try.prog f_impl_ArePackets_1 = some c_impl_ArePackets_1 := by kernel_rfl

/- loop.example/g00940/spec.DrawArePackets -/
abbrev f_spec_DrawArePackets : Nat := 59
def c_spec_DrawArePackets : MFun := ⟨9, .seq (.ops [
.op ⟨(some 2), (.pure (.mv (.const (.slice none 0 0)))), none⟩])
(.seq (.ops [
.op ⟨(some 4), (.pure (.mv (.tmp 0))), none⟩,
.op ⟨(some 5), (.pure (.build [(.slice none 0 0), (.int .i64 (0)), (.int .u64 (0))] [(0, 1, (.tmp 4))])), none⟩,
.op ⟨(some 6), (.eff (.box 76 (.tmp 5))), none⟩,
.op ⟨(some 3), (.pure (.mv (.tmp 6))), none⟩])
(.seq (.ops [
.op ⟨(some 7), (.pure (.mv (.tmp 3))), none⟩,
.op ⟨(some 8), (.eff (.call 86 [(.tmp 7)])), none⟩,
.op ⟨(some 2), (.pure (.mv (.tmp 8))), none⟩])
(.ret))),
[.tmp 2]⟩
theorem r_spec_DrawArePackets : resFun Try.prog f_spec_DrawArePackets = some c_spec_DrawArePackets := by kernel_rfl

/- loop.example/g00940/impl.WithoutDoubles$1 -/
abbrev f_impl_WithoutDoubles_1 : Nat := 60
def c_impl_WithoutDoubles_1 : MFun := ⟨7, .seq (.ops [
.op ⟨(some 2), (.eff (.box 27 (.tmp 0))), none⟩,
.op ⟨(some 3), (.pure (.mv (.const (.bool false)))), none⟩])
(.seq (.ops [
.op ⟨(some 4), (.load (some 4) (.tmp 1)), none⟩,
.op ⟨(some 5), (.load (some 4) (.tmp 2)), none⟩,
.op ⟨(some 6), (.eff (.call 61 [(.tmp 4), (.tmp 5)])), none⟩,
.op ⟨(some 3), (.pure (.mv (.tmp 6))), none⟩])
(.ret)),
[.tmp 3]⟩
theorem r_impl_WithoutDoubles_1 : resFun Try.prog f_impl_WithoutDoubles_1 = some c_impl_WithoutDoubles_1 := by kernel_rfl

/- loop.example/g00940/impl.samePacket -/
abbrev f_impl_samePacket : Nat := 61
def c_impl_samePacket : MFun := ⟨31, .seq (.ops [
.op ⟨(some 2), (.eff (.box 27 (.tmp 0))), none⟩,
.op ⟨(some 3), (.eff (.box 27 (.tmp 1))), none⟩,
.op ⟨(some 4), (.pure (.mv (.const (.bool false)))), none⟩])
(.seq (.ops [
.op ⟨(some 5), (.pure (.fieldAddr 0 (.tmp 2))), none⟩,
.op ⟨(some 6), (.load none (.tmp 5)), none⟩,
.op ⟨(some 7), (.pure (.fieldAddr 0 (.tmp 3))), none⟩,
.op ⟨(some 8), (.load none (.tmp 7)), none⟩,
.op ⟨(some 9), (.pure (.bin .eql (.tmp 6) (.tmp 8))), none⟩,
.op ⟨(some 10), (.pure (.mv (.tmp 9))), none⟩,
.split 10,
.op ⟨(some 11), (.pure (.fieldAddr 1 (.tmp 2))), (some (10, true))⟩,
.op ⟨(some 12), (.load none (.tmp 11)), (some (10, true))⟩,
.op ⟨(some 13), (.pure (.fieldAddr 1 (.tmp 3))), (some (10, true))⟩,
.op ⟨(some 14), (.load none (.tmp 13)), (some (10, true))⟩,
.op ⟨(some 15), (.pure (.bin .eql (.tmp 12) (.tmp 14))), (some (10, true))⟩,
.op ⟨(some 16), (.pure (.pick (.tmp 10) (.tmp 15) (.const (.bool false)))), none⟩,
.op ⟨(some 17), (.pure (.mv (.tmp 16))), none⟩,
.split 17,
.op ⟨(some 18), (.pure (.fieldAddr 2 (.tmp 2))), (some (17, true))⟩,
.op ⟨(some 19), (.load none (.tmp 18)), (some (17, true))⟩,
.op ⟨(some 20), (.pure (.fieldAddr 2 (.tmp 3))), (some (17, true))⟩,
.op ⟨(some 21), (.load none (.tmp 20)), (some (17, true))⟩,
.op ⟨(some 22), (.pure (.bin .eql (.tmp 19) (.tmp 21))), (some (17, true))⟩,
.op ⟨(some 23), (.pure (.pick (.tmp 17) (.tmp 22) (.const (.bool false)))), none⟩,
.op ⟨(some 24), (.pure (.mv (.tmp 23))), none⟩,
.split 24,
.op ⟨(some 25), (.pure (.fieldAddr 3 (.tmp 2))), (some (24, true))⟩,
.op ⟨(some 26), (.load none (.tmp 25)), (some (24, true))⟩,
.op ⟨(some 27), (.pure (.fieldAddr 3 (.tmp 3))), (some (24, true))⟩,
.op ⟨(some 28), (.load none (.tmp 27)), (some (24, true))⟩,
.op ⟨(some 29), (.eff (.call 87 [(.tmp 26), (.tmp 28)])), (some (24, true))⟩,
.op ⟨(some 30), (.pure (.pick (.tmp 24) (.tmp 29) (.const (.bool false)))), none⟩,
.op ⟨(some 4), (.pure (.mv (.tmp 30))), none⟩])
(.ret)),
[.tmp 4]⟩
theorem r_impl_samePacket : resFun Try.prog f_impl_samePacket = some c_impl_samePacket := by kernel_rfl

/- loop.example/g00940/impl.clonePacket -/
abbrev f_impl_clonePacket : Nat := 62
def c_impl_clonePacket : MFun := ⟨8, .seq (.ops [
.op ⟨(some 1), (.eff (.box 27 (.tmp 0))), none⟩,
.op ⟨(some 2), (.eff (.new 27 [(.int .i64 (0)), (.int .i64 (0)), (.int .i64 (0)), (.slice none 0 0)])), none⟩])
(.seq (.ops [
.op ⟨(some 3), (.pure (.fieldAddr 3 (.tmp 1))), none⟩,
.op ⟨(some 4), (.load none (.tmp 3)), none⟩,
.op ⟨(some 5), (.eff (.call 83 [(.tmp 4)])), none⟩,
.op ⟨(some 6), (.pure (.fieldAddr 3 (.tmp 1))), none⟩,
.op ⟨none, (.eff (.store 1 (.tmp 6) (.tmp 5))), none⟩])
(.seq (.ops [
.op ⟨(some 7), (.load (some 4) (.tmp 1)), none⟩,
.op ⟨none, (.eff (.store 4 (.tmp 2) (.tmp 7))), none⟩])
(.ret))),
[.cell 2 (some 4)]⟩
theorem r_impl_clonePacket : resFun Try.prog f_impl_clonePacket = some c_impl_clonePacket := by kernel_rfl

/- loop.example/g00940/spec.pkSame -/
abbrev f_spec_pkSame : Nat := 63
def c_spec_pkSame : MFun := ⟨31, .seq (.ops [
.op ⟨(some 2), (.eff (.box 27 (.tmp 0))), none⟩,
.op ⟨(some 3), (.eff (.box 27 (.tmp 1))), none⟩,
.op ⟨(some 4), (.pure (.mv (.const (.bool false)))), none⟩])
(.seq (.ops [
.op ⟨(some 5), (.pure (.fieldAddr 0 (.tmp 2))), none⟩,
.op ⟨(some 6), (.load none (.tmp 5)), none⟩,
.op ⟨(some 7), (.pure (.fieldAddr 0 (.tmp 3))), none⟩,
.op ⟨(some 8), (.load none (.tmp 7)), none⟩,
.op ⟨(some 9), (.pure (.bin .eql (.tmp 6) (.tmp 8))), none⟩,
.op ⟨(some 10), (.pure (.mv (.tmp 9))), none⟩,
.split 10,
.op ⟨(some 11), (.pure (.fieldAddr 1 (.tmp 2))), (some (10, true))⟩,
.op ⟨(some 12), (.load none (.tmp 11)), (some (10, true))⟩,
.op ⟨(some 13), (.pure (.fieldAddr 1 (.tmp 3))), (some (10, true))⟩,
.op ⟨(some 14), (.load none (.tmp 13)), (some (10, true))⟩,
.op ⟨(some 15), (.pure (.bin .eql (.tmp 12) (.tmp 14))), (some (10, true))⟩,
.op ⟨(some 16), (.pure (.pick (.tmp 10) (.tmp 15) (.const (.bool false)))), none⟩,
.op ⟨(some 17), (.pure (.mv (.tmp 16))), none⟩,
.split 17,
.op ⟨(some 18), (.pure (.fieldAddr 2 (.tmp 2))), (some (17, true))⟩,
.op ⟨(some 19), (.load none (.tmp 18)), (some (17, true))⟩,
.op ⟨(some 20), (.pure (.fieldAddr 2 (.tmp 3))), (some (17, true))⟩,
.op ⟨(some 21), (.load none (.tmp 20)), (some (17, true))⟩,
.op ⟨(some 22), (.pure (.bin .eql (.tmp 19) (.tmp 21))), (some (17, true))⟩,
.op ⟨(some 23), (.pure (.pick (.tmp 17) (.tmp 22) (.const (.bool false)))), none⟩,
.op ⟨(some 24), (.pure (.mv (.tmp 23))), none⟩,
.split 24,
.op ⟨(some 25), (.pure (.fieldAddr 3 (.tmp 2))), (some (24, true))⟩,
.op ⟨(some 26), (.load none (.tmp 25)), (some (24, true))⟩,
.op ⟨(some 27), (.pure (.fieldAddr 3 (.tmp 3))), (some (24, true))⟩,
.op ⟨(some 28), (.load none (.tmp 27)), (some (24, true))⟩,
.op ⟨(some 29), (.eff (.call 88 [(.tmp 26), (.tmp 28)])), (some (24, true))⟩,
.op ⟨(some 30), (.pure (.pick (.tmp 24) (.tmp 29) (.const (.bool false)))), none⟩,
.op ⟨(some 4), (.pure (.mv (.tmp 30))), none⟩])
(.ret)),
[.tmp 4]⟩
theorem r_spec_pkSame : resFun Try.prog f_spec_pkSame = some c_spec_pkSame := by kernel_rfl

/- loop.example/g00940/spec.pkOwn -/
abbrev f_spec_pkOwn : Nat := 64
def c_spec_pkOwn : MFun := ⟨8, .seq (.ops [
.op ⟨(some 1), (.eff (.box 27 (.tmp 0))), none⟩,
.op ⟨(some 2), (.eff (.new 27 [(.int .i64 (0)), (.int .i64 (0)), (.int .i64 (0)), (.slice none 0 0)])), none⟩])
(.seq (.ops [
.op ⟨(some 3), (.pure (.fieldAddr 3 (.tmp 1))), none⟩,
.op ⟨(some 4), (.load none (.tmp 3)), none⟩,
.op ⟨(some 5), (.eff (.call 89 [(.tmp 4)])), none⟩,
.op ⟨(some 6), (.pure (.fieldAddr 3 (.tmp 1))), none⟩,
.op ⟨none, (.eff (.store 1 (.tmp 6) (.tmp 5))), none⟩])
(.seq (.ops [
.op ⟨(some 7), (.load (some 4) (.tmp 1)), none⟩,
.op ⟨none, (.eff (.store 4 (.tmp 2) (.tmp 7))), none⟩])
(.ret))),
[.cell 2 (some 4)]⟩
theorem r_spec_pkOwn : resFun Try.prog f_spec_pkOwn = some c_spec_pkOwn := by kernel_rfl

/- slices.SortStableFunc[[]loop.example/g00940/impl.Packet,loop.example/g00940/impl.Packet] -/
abbrev f_slices_SortStableFunc_Limpl_Packet_impl_Packet : Nat := 65
def c_slices_SortStableFunc_Limpl_Packet_impl_Packet : MFun := ⟨9, .ops [
.op ⟨(some 4), (.pure (.mv (.tmp 0))), none⟩,
.op ⟨(some 5), (.pure (.mv (.tmp 0))), none⟩,
.op ⟨(some 6), (.pure (.len (.tmp 5))), none⟩,
.op ⟨(some 7), (.pure (.mv (.tmp 1))), none⟩,
.op ⟨(some 8), (.eff (.call 90 [(.tmp 4), (.tmp 6), (.tmp 7)])), none⟩],
[]⟩
theorem r_slices_SortStableFunc_Limpl_Packet_impl_Packet : resFun Try.prog f_slices_SortStableFunc_Limpl_Packet_impl_Packet = some c_slices_SortStableFunc_Limpl_Packet_impl_Packet := by kernel_rfl

/- loop.example/g00940/impl.SortPackets$1 -/
abbrev f_impl_SortPackets_1 : Nat := 66
def c_impl_SortPackets_1 : MFun := ⟨17, .seq (.ops [
.op ⟨(some 2), (.eff (.box 27 (.tmp 0))), none⟩,
.op ⟨(some 3), (.eff (.box 27 (.tmp 1))), none⟩,
.op ⟨(some 4), (.pure (.mv (.const (.int .i64 (0))))), none⟩])
(.seq (.draw true
(.take ⟨(some 5), (.pure (.fieldAddr 0 (.tmp 2))), none⟩
(.take ⟨(some 7), (.pure (.fieldAddr 0 (.tmp 3))), none⟩
(.take ⟨(some 10), (.pure (.fieldAddr 1 (.tmp 2))), none⟩
(.take ⟨(some 12), (.pure (.fieldAddr 1 (.tmp 3))), none⟩
(.only false ⟨(some 6), (.load none (.tmp 5)), none⟩
(.only false ⟨(some 8), (.load none (.tmp 7)), none⟩
(.take ⟨(some 11), (.load none (.tmp 10)), none⟩
(.take ⟨(some 13), (.load none (.tmp 12)), none⟩
(.only false ⟨(some 9), (.eff (.call 68 [(.tmp 6), (.tmp 8)])), none⟩
(.only true ⟨(some 14), (.eff (.call 68 [(.tmp 11), (.tmp 13)])), none⟩
(.only true ⟨(some 15), (.eff (.row 3 2 [(.int .i64 (0)), (.int .i64 (0))] [(0, 1, (.tmp 9)), (1, 1, (.tmp 14))])), none⟩
(.only true ⟨(some 16), (.eff (.call 67 [(.tmp 15)])), none⟩
(.take ⟨(some 4), (.pure (.mv (.tmp 16))), none⟩
(.done)))))))))))))))
(.ret)),
[.tmp 4]⟩
theorem r_impl_SortPackets_1 : resFun Try.prog f_impl_SortPackets_1 = some c_impl_SortPackets_1 := by kernel_rfl

/- cmp.Or[int] -/
abbrev f_cmp_Or_int : Nat := 67
def c_cmp_Or_int : MFun := ⟨18, .seq (.ops [
.op ⟨(some 2), (.pure (.mv (.const (.int .i64 (0))))), none⟩])
(.seq (.ops [
.op ⟨(some 3), (.pure (.mv (.const (.int .i64 (0))))), none⟩])
(.seq (.seq (.ops [
.op ⟨(some 6), (.pure (.mv (.tmp 0))), none⟩,
.op ⟨(some 7), (.pure (.len (.tmp 6))), none⟩,
.op ⟨(some 8), (.pure (.mv (.const (.int .i64 (0))))), none⟩])
(.block 0 (.loop (.seq (.ops [
.op ⟨(some 9), (.pure (.bin .lss (.tmp 8) (.tmp 7))), none⟩])
(.seq (.cond (.tmp 9)
(.skip)
(.exit 0))
(.seq (.block 1 (.seq (.ops [
.op ⟨(some 10), (.pure (.idx 1 (.tmp 6) (.tmp 8))), none⟩,
.op ⟨(some 11), (.load none (.tmp 10)), none⟩,
.op ⟨(some 5), (.pure (.mv (.tmp 11))), none⟩])
(.seq (.ops [
.op ⟨(some 12), (.pure (.mv (.tmp 5))), none⟩,
.op ⟨(some 13), (.pure (.mv (.tmp 3))), none⟩,
.op ⟨(some 14), (.pure (.bin .neq (.tmp 12) (.tmp 13))), none⟩])
(.cond (.tmp 14)
(.seq (.ops [
.op ⟨(some 15), (.pure (.mv (.tmp 5))), none⟩,
.op ⟨(some 2), (.pure (.mv (.tmp 15))), none⟩])
(.ret))
(.skip)))))
(.ops [
.op ⟨(some 16), (.pure (.bin .add (.tmp 8) (.const (.int .i64 (1))))), none⟩,
.op ⟨(some 8), (.pure (.mv (.tmp 16))), none⟩])))))))
(.seq (.ops [
.op ⟨(some 17), (.pure (.mv (.tmp 3))), none⟩,
.op ⟨(some 2), (.pure (.mv (.tmp 17))), none⟩])
(.ret)))),
[.tmp 2]⟩
theorem r_cmp_Or_int : resFun Try.prog f_cmp_Or_int = some c_cmp_Or_int := by kernel_rfl

/- cmp.Compare[int] -/
abbrev f_cmp_Compare_int : Nat := 68
def c_cmp_Compare_int : MFun := ⟨20, .seq (.ops [
.op ⟨(some 4), (.pure (.mv (.const (.int .i64 (0))))), none⟩])
(.seq (.ops [
.op ⟨(some 7), (.pure (.mv (.tmp 0))), none⟩,
.op ⟨(some 8), (.eff (.call 91 [(.tmp 7)])), none⟩,
.op ⟨(some 5), (.pure (.mv (.tmp 8))), none⟩])
(.seq (.ops [
.op ⟨(some 9), (.pure (.mv (.tmp 1))), none⟩,
.op ⟨(some 10), (.eff (.call 91 [(.tmp 9)])), none⟩,
.op ⟨(some 6), (.pure (.mv (.tmp 10))), none⟩])
(.seq (.seq (.ops [
.op ⟨(some 11), (.pure (.mv (.tmp 5))), none⟩])
(.cond (.tmp 11)
(.seq (.seq (.ops [
.op ⟨(some 12), (.pure (.mv (.tmp 6))), none⟩])
(.cond (.tmp 12)
(.seq (.ops [
.op ⟨(some 4), (.pure (.mv (.const (.int .i64 (0))))), none⟩])
(.ret))
(.skip)))
(.seq (.ops [
.op ⟨(some 4), (.pure (.mv (.const (.int .i64 (-1))))), none⟩])
(.ret)))
(.skip)))
(.seq (.seq (.ops [
.op ⟨(some 13), (.pure (.mv (.tmp 6))), none⟩])
(.cond (.tmp 13)
(.seq (.ops [
.op ⟨(some 4), (.pure (.mv (.const (.int .i64 (1))))), none⟩])
(.ret))
(.skip)))
(.seq (.seq (.ops [
.op ⟨(some 14), (.pure (.mv (.tmp 0))), none⟩,
.op ⟨(some 15), (.pure (.mv (.tmp 1))), none⟩,
.op ⟨(some 16), (.pure (.bin .lss (.tmp 14) (.tmp 15))), none⟩])
(.cond (.tmp 16)
(.seq (.ops [
.op ⟨(some 4), (.pure (.mv (.const (.int .i64 (-1))))), none⟩])
(.ret))
(.skip)))
(.seq (.seq (.ops [
.op ⟨(some 17), (.pure (.mv (.tmp 0))), none⟩,
.op ⟨(some 18), (.pure (.mv (.tmp 1))), none⟩,
.op ⟨(some 19), (.pure (.bin .gtr (.tmp 17) (.tmp 18))), none⟩])
(.cond (.tmp 19)
(.seq (.ops [
.op ⟨(some 4), (.pure (.mv (.const (.int .i64 (1))))), none⟩])
(.ret))
(.skip)))
(.seq (.ops [
.op ⟨(some 4), (.pure (.mv (.const (.int .i64 (0))))), none⟩])
(.ret)))))))),
[.tmp 4]⟩
theorem r_cmp_Compare_int : resFun Try.prog f_cmp_Compare_int = some c_cmp_Compare_int := by kernel_rfl

/- slices.Sort[[]int,int] -/
abbrev f_slices_Sort_Lint_int : Nat := 69
/- slices.Compact[[]int,int] -/
abbrev f_slices_Compact_Lint_int : Nat := 70
/- loop.example/g00940/spec.l1Put -/
abbrev f_spec_l1Put : Nat := 71
def c_spec_l1Put : MFun := ⟨48, .seq (.ops [
.op ⟨(some 4), (.pure (.mv (.const (.slice none 0 0)))), none⟩])
(.seq (.ops [
.op ⟨(some 5), (.pure (.mv (.const (.int .i64 (0))))), none⟩])
(.seq (.block 0 (.loop (.seq (.seq (.ops [
.op ⟨(some 7), (.pure (.mv (.tmp 5))), none⟩,
.op ⟨(some 8), (.pure (.mv (.tmp 0))), none⟩,
.op ⟨(some 9), (.pure (.len (.tmp 8))), none⟩,
.op ⟨(some 10), (.pure (.bin .lss (.tmp 7) (.tmp 9))), none⟩,
.op ⟨(some 11), (.pure (.mv (.tmp 10))), none⟩,
.split 11,
.op ⟨(some 12), (.pure (.mv (.tmp 0))), (some (11, true))⟩,
.op ⟨(some 13), (.pure (.mv (.tmp 5))), (some (11, true))⟩,
.op ⟨(some 14), (.pure (.idx 1 (.tmp 12) (.tmp 13))), (some (11, true))⟩,
.op ⟨(some 15), (.load none (.tmp 14)), (some (11, true))⟩,
.op ⟨(some 16), (.pure (.mv (.tmp 1))), (some (11, true))⟩,
.op ⟨(some 17), (.pure (.bin .lss (.tmp 15) (.tmp 16))), (some (11, true))⟩,
.op ⟨(some 18), (.pure (.pick (.tmp 11) (.tmp 17) (.const (.bool false)))), none⟩])
(.cond (.tmp 18)
(.skip)
(.exit 0)))
(.block 1 (.ops [
.op ⟨(some 19), (.pure (.mv (.tmp 5))), none⟩,
.op ⟨(some 20), (.pure (.bin .add (.tmp 19) (.const (.int .i64 (1))))), none⟩,
.op ⟨(some 5), (.pure (.mv (.tmp 20))), none⟩])))))
(.seq (.seq (.ops [
.op ⟨(some 21), (.pure (.mv (.tmp 5))), none⟩,
.op ⟨(some 22), (.pure (.mv (.tmp 0))), none⟩,
.op ⟨(some 23), (.pure (.len (.tmp 22))), none⟩,
.op ⟨(some 24), (.pure (.bin .lss (.tmp 21) (.tmp 23))), none⟩,
.op ⟨(some 25), (.pure (.mv (.tmp 24))), none⟩,
.split 25,
.op ⟨(some 26), (.pure (.mv (.tmp 0))), (some (25, true))⟩,
.op ⟨(some 27), (.pure (.mv (.tmp 5))), (some (25, true))⟩,
.op ⟨(some 28), (.pure (.idx 1 (.tmp 26) (.tmp 27))), (some (25, true))⟩,
.op ⟨(some 29), (.load none (.tmp 28)), (some (25, true))⟩,
.op ⟨(some 30), (.pure (.mv (.tmp 1))), (some (25, true))⟩,
.op ⟨(some 31), (.pure (.bin .eql (.tmp 29) (.tmp 30))), (some (25, true))⟩,
.op ⟨(some 32), (.pure (.pick (.tmp 25) (.tmp 31) (.const (.bool false)))), none⟩])
(.cond (.tmp 32)
(.seq (.ops [
.op ⟨(some 33), (.pure (.mv (.tmp 0))), none⟩,
.op ⟨(some 4), (.pure (.mv (.tmp 33))), none⟩])
(.ret))
(.skip)))
(.seq (.ops [
.op ⟨(some 34), (.eff (.row 3 0 [] [])), none⟩,
.op ⟨(some 35), (.pure (.mv (.tmp 0))), none⟩,
.op ⟨(some 36), (.pure (.mv (.tmp 5))), none⟩,
.op ⟨(some 37), (.pure (.slc 1 (.tmp 35) none (some (.tmp 36)) none)), none⟩,
.op ⟨(some 38), (.eff (.app 3 1 8 (.tmp 34) (.tmp 37))), none⟩,
.op ⟨(some 6), (.pure (.mv (.tmp 38))), none⟩])
(.seq (.ops [
.op ⟨(some 39), (.pure (.mv (.tmp 6))), none⟩,
.op ⟨(some 40), (.pure (.mv (.tmp 1))), none⟩,
.op ⟨(some 41), (.eff (.row 3 1 [(.int .i64 (0))] [(0, 1, (.tmp 40))])), none⟩,
.op ⟨(some 42), (.eff (.app 3 1 8 (.tmp 39) (.tmp 41))), none⟩,
.op ⟨(some 6), (.pure (.mv (.tmp 42))), none⟩])
(.seq (.ops [
.op ⟨(some 43), (.pure (.mv (.tmp 6))), none⟩,
.op ⟨(some 44), (.pure (.mv (.tmp 0))), none⟩,
.op ⟨(some 45), (.pure (.mv (.tmp 5))), none⟩,
.op ⟨(some 46), (.pure (.slc 1 (.tmp 44) (some (.tmp 45)) none none)), none⟩,
.op ⟨(some 47), (.eff (.app 3 1 8 (.tmp 43) (.tmp 46))), none⟩,
.op ⟨(some 4), (.pure (.mv (.tmp 47))), none⟩])
(.ret))))))),
[.tmp 4]⟩
theorem r_spec_l1Put : resFun Try.prog f_spec_l1Put = some c_spec_l1Put := by kernel_rfl

/- loop.example/g00940/impl.inConflict -/
abbrev f_impl_inConflict : Nat := 72
def c_impl_inConflict : MFun := ⟨32, .seq (.ops [
.op ⟨(some 2), (.eff (.box 27 (.tmp 0))), none⟩,
.op ⟨(some 3), (.eff (.box 27 (.tmp 1))), none⟩,
.op ⟨(some 4), (.pure (.mv (.const (.bool false)))), none⟩])
(.seq (.ops [
.op ⟨(some 5), (.pure (.fieldAddr 0 (.tmp 2))), none⟩,
.op ⟨(some 6), (.load none (.tmp 5)), none⟩,
.op ⟨(some 7), (.pure (.fieldAddr 0 (.tmp 3))), none⟩,
.op ⟨(some 8), (.load none (.tmp 7)), none⟩,
.op ⟨(some 9), (.pure (.bin .eql (.tmp 6) (.tmp 8))), none⟩,
.op ⟨(some 10), (.pure (.mv (.tmp 9))), none⟩,
.split 10,
.op ⟨(some 11), (.pure (.fieldAddr 2 (.tmp 2))), (some (10, true))⟩,
.op ⟨(some 12), (.load none (.tmp 11)), (some (10, true))⟩,
.op ⟨(some 13), (.pure (.fieldAddr 2 (.tmp 3))), (some (10, true))⟩,
.op ⟨(some 14), (.load none (.tmp 13)), (some (10, true))⟩,
.op ⟨(some 15), (.pure (.bin .neq (.tmp 12) (.tmp 14))), (some (10, true))⟩,
.op ⟨(some 16), (.pure (.mv (.tmp 15))), (some (10, true))⟩,
.split 16,
.op ⟨(some 17), (.pure (.fieldAddr 1 (.tmp 2))), (some (16, false))⟩,
.op ⟨(some 18), (.load none (.tmp 17)), (some (16, false))⟩,
.op ⟨(some 19), (.pure (.fieldAddr 1 (.tmp 3))), (some (16, false))⟩,
.op ⟨(some 20), (.load none (.tmp 19)), (some (16, false))⟩,
.op ⟨(some 21), (.pure (.bin .eql (.tmp 18) (.tmp 20))), (some (16, false))⟩,
.op ⟨(some 22), (.pure (.mv (.tmp 21))), (some (16, false))⟩,
.split 22,
.op ⟨(some 23), (.pure (.fieldAddr 3 (.tmp 2))), (some (22, true))⟩,
.op ⟨(some 24), (.load none (.tmp 23)), (some (22, true))⟩,
.op ⟨(some 25), (.pure (.fieldAddr 3 (.tmp 3))), (some (22, true))⟩,
.op ⟨(some 26), (.load none (.tmp 25)), (some (22, true))⟩,
.op ⟨(some 27), (.eff (.call 87 [(.tmp 24), (.tmp 26)])), (some (22, true))⟩,
.op ⟨(some 28), (.pure (.bnot (.tmp 27))), (some (22, true))⟩,
.op ⟨(some 29), (.pure (.pick (.tmp 22) (.tmp 28) (.const (.bool false)))), (some (16, false))⟩,
.op ⟨(some 30), (.pure (.pick (.tmp 16) (.const (.bool true)) (.tmp 29))), (some (10, true))⟩,
.op ⟨(some 31), (.pure (.pick (.tmp 10) (.tmp 30) (.const (.bool false)))), none⟩,
.op ⟨(some 4), (.pure (.mv (.tmp 31))), none⟩])
(.ret)),
[.tmp 4]⟩
theorem r_impl_inConflict : resFun Try.prog f_impl_inConflict = some c_impl_inConflict := by kernel_rfl

/- loop.example/g00940/spec.pkClash -/
abbrev f_spec_pkClash : Nat := 73
def c_spec_pkClash : MFun := ⟨32, .seq (.ops [
.op ⟨(some 2), (.eff (.box 27 (.tmp 0))), none⟩,
.op ⟨(some 3), (.eff (.box 27 (.tmp 1))), none⟩,
.op ⟨(some 4), (.pure (.mv (.const (.bool false)))), none⟩])
(.seq (.ops [
.op ⟨(some 5), (.pure (.fieldAddr 0 (.tmp 2))), none⟩,
.op ⟨(some 6), (.load none (.tmp 5)), none⟩,
.op ⟨(some 7), (.pure (.fieldAddr 0 (.tmp 3))), none⟩,
.op ⟨(some 8), (.load none (.tmp 7)), none⟩,
.op ⟨(some 9), (.pure (.bin .eql (.tmp 6) (.tmp 8))), none⟩,
.op ⟨(some 10), (.pure (.mv (.tmp 9))), none⟩,
.split 10,
.op ⟨(some 11), (.pure (.fieldAddr 2 (.tmp 2))), (some (10, true))⟩,
.op ⟨(some 12), (.load none (.tmp 11)), (some (10, true))⟩,
.op ⟨(some 13), (.pure (.fieldAddr 2 (.tmp 3))), (some (10, true))⟩,
.op ⟨(some 14), (.load none (.tmp 13)), (some (10, true))⟩,
.op ⟨(some 15), (.pure (.bin .neq (.tmp 12) (.tmp 14))), (some (10, true))⟩,
.op ⟨(some 16), (.pure (.mv (.tmp 15))), (some (10, true))⟩,
.split 16,
.op ⟨(some 17), (.pure (.fieldAddr 1 (.tmp 2))), (some (16, false))⟩,
.op ⟨(some 18), (.load none (.tmp 17)), (some (16, false))⟩,
.op ⟨(some 19), (.pure (.fieldAddr 1 (.tmp 3))), (some (16, false))⟩,
.op ⟨(some 20), (.load none (.tmp 19)), (some (16, false))⟩,
.op ⟨(some 21), (.pure (.bin .eql (.tmp 18) (.tmp 20))), (some (16, false))⟩,
.op ⟨(some 22), (.pure (.mv (.tmp 21))), (some (16, false))⟩,
.split 22,
.op ⟨(some 23), (.pure (.fieldAddr 3 (.tmp 2))), (some (22, true))⟩,
.op ⟨(some 24), (.load none (.tmp 23)), (some (22, true))⟩,
.op ⟨(some 25), (.pure (.fieldAddr 3 (.tmp 3))), (some (22, true))⟩,
.op ⟨(some 26), (.load none (.tmp 25)), (some (22, true))⟩,
.op ⟨(some 27), (.eff (.call 88 [(.tmp 24), (.tmp 26)])), (some (22, true))⟩,
.op ⟨(some 28), (.pure (.bnot (.tmp 27))), (some (22, true))⟩,
.op ⟨(some 29), (.pure (.pick (.tmp 22) (.tmp 28) (.const (.bool false)))), (some (16, false))⟩,
.op ⟨(some 30), (.pure (.pick (.tmp 16) (.const (.bool true)) (.tmp 29))), (some (10, true))⟩,
.op ⟨(some 31), (.pure (.pick (.tmp 10) (.tmp 30) (.const (.bool false)))), none⟩,
.op ⟨(some 4), (.pure (.mv (.tmp 31))), none⟩])
(.ret)),
[.tmp 4]⟩
theorem r_spec_pkClash : resFun Try.prog f_spec_pkClash = some c_spec_pkClash := by kernel_rfl

/- loop.example/g00940/impl.packetsOf -/
abbrev f_impl_packetsOf : Nat := 74
def c_impl_packetsOf : MFun := ⟨39, .seq (.ops [
.op ⟨(some 4), (.pure (.mv (.const (.slice none 0 0)))), none⟩,
.op ⟨(some 5), (.pure (.mv (.const (.bool false)))), none⟩])
(.seq (.seq (.ops [
.op ⟨(some 9), (.pure (.mv (.tmp 0))), none⟩,
.op ⟨(some 10), (.eff (.call 21 [(.tmp 9)])), none⟩,
.op ⟨(some 11), (.pure (.bnot (.tmp 10))), none⟩,
.op ⟨(some 12), (.pure (.mv (.tmp 11))), none⟩,
.split 12,
.op ⟨(some 13), (.pure (.mv (.tmp 1))), (some (12, false))⟩,
.op ⟨(some 14), (.eff (.call 54 [(.tmp 13), (.const (.int .i64 (1))), (.const (.int .i64 (999)))])), (some (12, false))⟩,
.op ⟨(some 15), (.pure (.bnot (.tmp 14))), (some (12, false))⟩,
.op ⟨(some 16), (.pure (.pick (.tmp 12) (.const (.bool true)) (.tmp 15))), none⟩])
(.cond (.tmp 16)
(.seq (.ops [
.op ⟨(some 4), (.pure (.mv (.const (.slice none 0 0)))), none⟩,
.op ⟨(some 5), (.pure (.mv (.const (.bool false)))), none⟩])
(.ret))
(.skip)))
(.seq (.ops [
.op ⟨(some 6), (.pure (.mv (.const (.slice none 0 0)))), none⟩])
(.seq (.seq (.ops [
.op ⟨(some 17), (.pure (.mv (.tmp 0))), none⟩,
.op ⟨(some 18), (.pure (.len (.tmp 17))), none⟩,
.op ⟨(some 19), (.pure (.mv (.const (.int .i64 (0))))), none⟩])
(.block 0 (.loop (.seq (.ops [
.op ⟨(some 20), (.pure (.bin .lss (.tmp 19) (.tmp 18))), none⟩])
(.seq (.cond (.tmp 20)
(.skip)
(.exit 0))
(.seq (.block 1 (.seq (.ops [
.op ⟨(some 21), (.pure (.idx 4 (.tmp 17) (.tmp 19))), none⟩,
.op ⟨(some 22), (.load (some 4) (.tmp 21)), none⟩,
.op ⟨(some 8), (.eff (.new 27 [(.int .i64 (0)), (.int .i64 (0)), (.int .i64 (0)), (.slice none 0 0)])), none⟩,
.op ⟨none, (.eff (.store 4 (.tmp 8) (.tmp 22))), none⟩])
(.seq (.seq (.ops [
.op ⟨(some 23), (.pure (.fieldAddr 0 (.tmp 8))), none⟩,
.op ⟨(some 24), (.load none (.tmp 23)), none⟩,
.op ⟨(some 25), (.pure (.mv (.tmp 1))), none⟩,
.op ⟨(some 26), (.pure (.bin .neq (.tmp 24) (.tmp 25))), none⟩])
(.cond (.tmp 26)
(.exit 1)
(.skip)))
(.seq (.seq (.ops [
.op ⟨(some 27), (.pure (.mv (.tmp 6))), none⟩,
.op ⟨(some 28), (.pure (.mkfn (.func 94) [] [(.tmp 8)])), none⟩,
.op ⟨(some 29), (.eff (.call 57 [(.tmp 27), (.tmp 28)])), none⟩])
(.cond (.tmp 29)
(.seq (.ops [
.op ⟨(some 4), (.pure (.mv (.const (.slice none 0 0)))), none⟩,
.op ⟨(some 5), (.pure (.mv (.const (.bool false)))), none⟩])
(.ret))
(.skip)))
(.ops [
.op ⟨(some 30), (.pure (.mv (.tmp 6))), none⟩,
.op ⟨(some 31), (.load (some 4) (.tmp 8)), none⟩,
.op ⟨(some 32), (.eff (.row 27 1 [(.int .i64 (0)), (.int .i64 (0)), (.int .i64 (0)), (.slice none 0 0)] [(0, 4, (.tmp 31))])), none⟩,
.op ⟨(some 33), (.eff (.app 27 4 48 (.tmp 30) (.tmp 32))), none⟩,
.op ⟨(some 6), (.pure (.mv (.tmp 33))), none⟩])))))
(.ops [
.op ⟨(some 34), (.pure (.bin .add (.tmp 19) (.const (.int .i64 (1))))), none⟩,
.op ⟨(some 19), (.pure (.mv (.tmp 34))), none⟩])))))))
(.seq (.ops [
.op ⟨(some 35), (.pure (.mv (.tmp 6))), none⟩,
.op ⟨(some 36), (.pure (.mv (.tmp 6))), none⟩,
.op ⟨(some 37), (.pure (.len (.tmp 36))), none⟩,
.op ⟨(some 38), (.pure (.bin .gtr (.tmp 37) (.const (.int .i64 (0))))), none⟩,
.op ⟨(some 4), (.pure (.mv (.tmp 35))), none⟩,
.op ⟨(some 5), (.pure (.mv (.tmp 38))), none⟩])
(.ret))))),
[.tmp 4, .tmp 5]⟩
theorem r_impl_packetsOf : resFun Try.prog f_impl_packetsOf = some c_impl_packetsOf := by kernel_rfl
end Go.Proofs.Ytjmcijcdncgaiaa

