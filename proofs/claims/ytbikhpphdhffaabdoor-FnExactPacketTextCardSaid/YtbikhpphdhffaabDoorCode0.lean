/- The code of this seat's functions, resolved, written by a program of mine; each is held against the given program by the kernel. Condition: none. -/
import Derived.Test.YtbikhpphdhffaabDoorProg
import Derived.Test.YtbikhpphdhffaabDoorBase9
import Derived.KernelRfl
namespace Go.Proofs.YtbikhpphdhffaabDoor
open Go.Vc

/- loop.example/g00940/laws.FnExactPacketText -/
abbrev f_laws_FnExactPacketText : Nat := 3
def c_laws_FnExactPacketText : MFun := ⟨40, .seq (.ops [ o_e 1 (.box 24 (.tmp 0)), o_p 2 (.mv (.const (.bool false)))])
(.seq (.ops [ o_p 3 (.mv (.const (.int .i64 (1048576))))])
(.seq (.ops [
.op ⟨(some 9), (.load (some 4) (.tmp 1)), none⟩, o_m 10 3, o_e 11 (.call 4 [(.tmp 9), (.tmp 10)]), o_m 3 11])
(.seq (.seq (.ops [ o_m 12 3, o_p 13 (.bin .lss (.tmp 12) (.const (.int .i64 (0))))])
(.cond (.tmp 13)
(.seq (.ops [ o_p 2 (.mv (.const (.bool true)))])
(.ret))
(.skip)))
(.seq (.ops [
.op ⟨(some 15), (.load (some 4) (.tmp 1)), none⟩, o_e 16 (.call 6 [(.tmp 15)]), o_e 17 (.call 5 [(.tmp 16)]), o_m 14 17, o_p 18 (.ext 0 (.tmp 14)), o_p 19 (.ext 1 (.tmp 14)), o_m 4 18, o_m 5 19])
(.seq (.ops [
.op ⟨(some 20), (.load (some 4) (.tmp 1)), none⟩, o_e 21 (.call 6 [(.tmp 20)]), o_e 6 (.new 28 [(.int .i64 (0)), (.int .i64 (0)), (.int .i64 (0)), (.slice none 0 0)]),
.op ⟨none, (.eff (.store 4 (.tmp 6) (.tmp 21))), none⟩])
(.seq (.ops [
.op ⟨(some 23), (.load (some 4) (.tmp 6)), none⟩, o_e 24 (.call 7 [(.tmp 23)]), o_m 22 24, o_p 25 (.ext 0 (.tmp 22)), o_p 26 (.ext 1 (.tmp 22)), o_m 7 25, o_m 8 26])
(.seq (.seq (.ops [ o_m 27 7, o_m 28 4, o_p 29 (.bin .neq (.tmp 27) (.tmp 28)), o_m 30 29,
.split 30,
.op ⟨(some 31), (.pure (.mv (.tmp 8))), (some (30, false))⟩,
.op ⟨(some 32), (.pure (.mv (.tmp 5))), (some (30, false))⟩,
.op ⟨(some 33), (.pure (.eqb true (.tmp 31) (.tmp 32))), (some (30, false))⟩, o_p 34 (.pick (.tmp 30) (.const (.bool true)) (.tmp 33))])
(.cond (.tmp 34)
(.seq (.ops [ o_p 2 (.mv (.const (.bool false)))])
(.ret))
(.skip)))
(.seq (.seq (.draw true
(.only false ⟨(some 36), (.load (some 4) (.tmp 1)), none⟩
(.take ⟨(some 35), (.load (some 4) (.tmp 6)), none⟩
(.only false (t_e 37 (.call 6 [(.tmp 36)]))
(.only true (t_e 38 (.call 8 [(.tmp 35), (.tmp 37)]))
(.take (t_p 39 (.bnot (.tmp 38)))
(.done)))))))
(.cond (.tmp 39)
(.seq (.ops [ o_p 2 (.mv (.const (.bool false)))])
(.ret))
(.skip)))
(.seq (.ops [ o_p 2 (.mv (.const (.bool true)))])
(.ret)))))))))),
[.tmp 2]⟩
theorem r_laws_FnExactPacketText : resFun Tryd.prog f_laws_FnExactPacketText = some c_laws_FnExactPacketText := by kernel_rfl

/- loop.example/g00940/laws.szPacket -/
abbrev f_laws_szPacket : Nat := 4
def c_laws_szPacket : MFun := ⟨12, .seq (.ops [ o_e 2 (.box 24 (.tmp 0)), o_p 4 (.mv (.const (.int .i64 (0))))])
(.seq (.ops [ o_p 5 (.fieldAddr 3 (.tmp 2)), o_l 6 5, o_m 7 1, o_e 8 (.call 9 [(.tmp 6), (.tmp 7)]), o_m 1 8])
(.seq (.seq (.ops [ o_m 9 1, o_p 10 (.bin .lss (.tmp 9) (.const (.int .i64 (0))))])
(.cond (.tmp 10)
(.seq (.ops [ o_p 4 (.mv (.const (.int .i64 (-1))))])
(.ret))
(.skip)))
(.seq (.ops [ o_m 11 1, o_m 4 11])
(.ret)))),
[.tmp 4]⟩
theorem r_laws_szPacket : resFun Tryd.prog f_laws_szPacket = some c_laws_szPacket := by kernel_rfl

/- loop.example/g00940/spec.PacketText -/
abbrev f_spec_PacketText : Nat := 5
def c_spec_PacketText : MFun := ⟨9, .seq (.ops [ o_e 1 (.box 28 (.tmp 0)),
.op ⟨(some 2), (.pure (.mv (.const (.string ⟨#[]⟩)))), none⟩, o_p 3 (.mv (.const (.bool false)))])
(.seq (.seq (.ops [
.op ⟨(some 4), (.load (some 4) (.tmp 1)), none⟩, o_e 5 (.call 10 [(.tmp 4)]), o_p 6 (.bnot (.tmp 5))])
(.cond (.tmp 6)
(.seq (.ops [
.op ⟨(some 2), (.pure (.mv (.const (.string ⟨#[]⟩)))), none⟩, o_p 3 (.mv (.const (.bool false)))])
(.ret))
(.skip)))
(.seq (.ops [
.op ⟨(some 7), (.load (some 4) (.tmp 1)), none⟩, o_e 8 (.call 11 [(.tmp 7)]), o_m 2 8, o_p 3 (.mv (.const (.bool true)))])
(.ret))),
[.tmp 2, .tmp 3]⟩
theorem r_spec_PacketText : resFun Tryd.prog f_spec_PacketText = some c_spec_PacketText := by kernel_rfl

/- loop.example/g00940/laws.toPacket -/
abbrev f_laws_toPacket : Nat := 6
def c_laws_toPacket : MFun := ⟨18, .seq (.ops [ o_e 1 (.box 24 (.tmp 0)), o_e 2 (.new 28 [(.int .i64 (0)), (.int .i64 (0)), (.int .i64 (0)), (.slice none 0 0)])])
(.seq (.ops [ o_e 3 (.new 28 [(.int .i64 (0)), (.int .i64 (0)), (.int .i64 (0)), (.slice none 0 0)])])
(.seq (.ops [ o_p 4 (.fieldAddr 0 (.tmp 1)), o_l 5 4, o_p 6 (.fieldAddr 0 (.tmp 3)),
.op ⟨none, (.eff (.store 1 (.tmp 6) (.tmp 5))), none⟩])
(.seq (.ops [ o_p 7 (.fieldAddr 1 (.tmp 1)), o_l 8 7, o_p 9 (.fieldAddr 1 (.tmp 3)),
.op ⟨none, (.eff (.store 1 (.tmp 9) (.tmp 8))), none⟩])
(.seq (.ops [ o_p 10 (.fieldAddr 2 (.tmp 1)), o_l 11 10, o_p 12 (.fieldAddr 2 (.tmp 3)),
.op ⟨none, (.eff (.store 1 (.tmp 12) (.tmp 11))), none⟩])
(.seq (.ops [ o_p 13 (.fieldAddr 3 (.tmp 1)), o_l 14 13, o_e 15 (.call 12 [(.tmp 14)]), o_p 16 (.fieldAddr 3 (.tmp 3)),
.op ⟨none, (.eff (.store 1 (.tmp 16) (.tmp 15))), none⟩])
(.seq (.ops [
.op ⟨(some 17), (.load (some 4) (.tmp 3)), none⟩,
.op ⟨none, (.eff (.store 4 (.tmp 2) (.tmp 17))), none⟩])
(.ret))))))),
[.cell 2 (some 4)]⟩
theorem r_laws_toPacket : resFun Tryd.prog f_laws_toPacket = some c_laws_toPacket := by kernel_rfl

/- loop.example/g00940/impl.PacketText -/
abbrev f_impl_PacketText : Nat := 7
def c_impl_PacketText : MFun := ⟨20, .seq (.ops [ o_e 1 (.box 28 (.tmp 0)),
.op ⟨(some 2), (.pure (.mv (.const (.string ⟨#[]⟩)))), none⟩, o_p 3 (.mv (.const (.bool false)))])
(.seq (.seq (.ops [
.op ⟨(some 4), (.load (some 4) (.tmp 1)), none⟩, o_e 5 (.call 13 [(.tmp 4)]), o_p 6 (.bnot (.tmp 5))])
(.cond (.tmp 6)
(.seq (.ops [
.op ⟨(some 2), (.pure (.mv (.const (.string ⟨#[]⟩)))), none⟩, o_p 3 (.mv (.const (.bool false)))])
(.ret))
(.skip)))
(.seq (.draw true
(.take (t_p 7 (.fieldAddr 0 (.tmp 1)))
(.take (t_p 9 (.fieldAddr 1 (.tmp 1)))
(.take (t_p 11 (.fieldAddr 2 (.tmp 1)))
(.take (t_p 16 (.fieldAddr 3 (.tmp 1)))
(.only false (t_l 8 7)
(.only false (t_l 10 9)
(.only false (t_l 12 11)
(.take (t_l 17 16)
(.only false (t_e 13 (.row 3 3 [(.int .i64 (0)), (.int .i64 (0)), (.int .i64 (0))] [(0, 1, (.tmp 8)), (1, 1, (.tmp 10)), (2, 1, (.tmp 12))]))
(.only false ⟨(some 14), (.eff (.call 14 [(.tmp 13), (.const (.string ⟨#[47]⟩))])), none⟩
(.take ⟨(some 15), (.pure (.bin .add (.tmp 14) (.const (.string ⟨#[58]⟩)))), none⟩
(.only true ⟨(some 18), (.eff (.call 14 [(.tmp 17), (.const (.string ⟨#[32]⟩))])), none⟩
(.take (t_p 19 (.bin .add (.tmp 15) (.tmp 18)))
(.take (t_m 2 19)
(.take (t_p 3 (.mv (.const (.bool true))))
(.done)))))))))))))))))
(.ret))),
[.tmp 2, .tmp 3]⟩
theorem r_impl_PacketText : resFun Tryd.prog f_impl_PacketText = some c_impl_PacketText := by kernel_rfl

/- loop.example/g00940/laws.eqPacket -/
abbrev f_laws_eqPacket : Nat := 8
def c_laws_eqPacket : MFun := ⟨26, .seq (.ops [ o_e 2 (.box 28 (.tmp 0)), o_e 3 (.box 28 (.tmp 1)), o_p 4 (.mv (.const (.bool false)))])
(.seq (.seq (.ops [ o_p 5 (.fieldAddr 0 (.tmp 2)), o_l 6 5, o_p 7 (.fieldAddr 0 (.tmp 3)), o_l 8 7, o_p 9 (.bin .neq (.tmp 6) (.tmp 8))])
(.cond (.tmp 9)
(.seq (.ops [ o_p 4 (.mv (.const (.bool false)))])
(.ret))
(.skip)))
(.seq (.seq (.ops [ o_p 10 (.fieldAddr 1 (.tmp 2)), o_l 11 10, o_p 12 (.fieldAddr 1 (.tmp 3)), o_l 13 12, o_p 14 (.bin .neq (.tmp 11) (.tmp 13))])
(.cond (.tmp 14)
(.seq (.ops [ o_p 4 (.mv (.const (.bool false)))])
(.ret))
(.skip)))
(.seq (.seq (.ops [ o_p 15 (.fieldAddr 2 (.tmp 2)), o_l 16 15, o_p 17 (.fieldAddr 2 (.tmp 3)), o_l 18 17, o_p 19 (.bin .neq (.tmp 16) (.tmp 18))])
(.cond (.tmp 19)
(.seq (.ops [ o_p 4 (.mv (.const (.bool false)))])
(.ret))
(.skip)))
(.seq (.seq (.ops [ o_p 20 (.fieldAddr 3 (.tmp 2)), o_l 21 20, o_p 22 (.fieldAddr 3 (.tmp 3)), o_l 23 22, o_e 24 (.call 15 [(.tmp 21), (.tmp 23)]), o_p 25 (.bnot (.tmp 24))])
(.cond (.tmp 25)
(.seq (.ops [ o_p 4 (.mv (.const (.bool false)))])
(.ret))
(.skip)))
(.seq (.ops [ o_p 4 (.mv (.const (.bool true)))])
(.ret)))))),
[.tmp 4]⟩
theorem r_laws_eqPacket : resFun Tryd.prog f_laws_eqPacket = some c_laws_eqPacket := by kernel_rfl

/- loop.example/g00940/laws.szIntS -/
abbrev f_laws_szIntS : Nat := 9
def c_laws_szIntS : MFun := ⟨12, .seq (.ops [ o_p 4 (.mv (.const (.int .i64 (0))))])
(.seq (.ops [ o_m 5 1, o_m 6 0, o_p 7 (.len (.tmp 6)), o_p 8 (.bin .sub (.tmp 5) (.tmp 7)), o_m 1 8])
(.seq (.seq (.ops [ o_m 9 1, o_p 10 (.bin .lss (.tmp 9) (.const (.int .i64 (0))))])
(.cond (.tmp 10)
(.seq (.ops [ o_p 4 (.mv (.const (.int .i64 (-1))))])
(.ret))
(.skip)))
(.seq (.ops [ o_m 11 1, o_m 4 11])
(.ret)))),
[.tmp 4]⟩
theorem r_laws_szIntS : resFun Tryd.prog f_laws_szIntS = some c_laws_szIntS := by kernel_rfl

/- loop.example/g00940/spec.pkGood -/
abbrev f_spec_pkGood : Nat := 10
def c_spec_pkGood : MFun := ⟨30, .seq (.ops [ o_e 1 (.box 28 (.tmp 0)), o_p 2 (.mv (.const (.bool false)))])
(.seq (.ops [ o_p 3 (.fieldAddr 0 (.tmp 1)), o_l 4 3, o_e 5 (.call 16 [(.tmp 4), (.const (.int .i64 (1))), (.const (.int .i64 (999)))]), o_m 6 5,
.split 6,
.op ⟨(some 7), (.pure (.fieldAddr 2 (.tmp 1))), (some (6, true))⟩,
.op ⟨(some 8), (.load none (.tmp 7)), (some (6, true))⟩,
.op ⟨(some 9), (.eff (.call 16 [(.tmp 8), (.const (.int .i64 (1))), (.const (.int .i64 (9)))])), (some (6, true))⟩, o_p 10 (.pick (.tmp 6) (.tmp 9) (.const (.bool false))), o_m 11 10,
.split 11,
.op ⟨(some 12), (.pure (.fieldAddr 1 (.tmp 1))), (some (11, true))⟩,
.op ⟨(some 13), (.load none (.tmp 12)), (some (11, true))⟩,
.op ⟨(some 14), (.pure (.fieldAddr 2 (.tmp 1))), (some (11, true))⟩,
.op ⟨(some 15), (.load none (.tmp 14)), (some (11, true))⟩,
.op ⟨(some 16), (.pure (.bin .sub (.tmp 15) (.const (.int .i64 (1))))), (some (11, true))⟩,
.op ⟨(some 17), (.eff (.call 16 [(.tmp 13), (.const (.int .i64 (0))), (.tmp 16)])), (some (11, true))⟩, o_p 18 (.pick (.tmp 11) (.tmp 17) (.const (.bool false))), o_m 19 18,
.split 19,
.op ⟨(some 20), (.pure (.fieldAddr 3 (.tmp 1))), (some (19, true))⟩,
.op ⟨(some 21), (.load none (.tmp 20)), (some (19, true))⟩,
.op ⟨(some 22), (.pure (.len (.tmp 21))), (some (19, true))⟩,
.op ⟨(some 23), (.eff (.call 16 [(.tmp 22), (.const (.int .i64 (1))), (.const (.int .i64 (8)))])), (some (19, true))⟩, o_p 24 (.pick (.tmp 19) (.tmp 23) (.const (.bool false))), o_m 25 24,
.split 25,
.op ⟨(some 26), (.pure (.fieldAddr 3 (.tmp 1))), (some (25, true))⟩,
.op ⟨(some 27), (.load none (.tmp 26)), (some (25, true))⟩,
.op ⟨(some 28), (.eff (.call 17 [(.tmp 27), (.const (.int .i64 (1))), (.const (.int .i64 (60)))])), (some (25, true))⟩, o_p 29 (.pick (.tmp 25) (.tmp 28) (.const (.bool false))), o_m 2 29])
(.ret)),
[.tmp 2]⟩
theorem r_spec_pkGood : resFun Tryd.prog f_spec_pkGood = some c_spec_pkGood := by kernel_rfl

/- loop.example/g00940/spec.pkText -/
abbrev f_spec_pkText : Nat := 11
def c_spec_pkText : MFun := ⟨21, .seq (.ops [ o_e 1 (.box 28 (.tmp 0)),
.op ⟨(some 2), (.pure (.mv (.const (.string ⟨#[]⟩)))), none⟩])
(.seq (.draw true
(.take (t_p 3 (.fieldAddr 0 (.tmp 1)))
(.take (t_p 7 (.fieldAddr 1 (.tmp 1)))
(.take (t_p 12 (.fieldAddr 2 (.tmp 1)))
(.take (t_p 17 (.fieldAddr 3 (.tmp 1)))
(.only false (t_l 4 3)
(.take (t_l 8 7)
(.take (t_l 13 12)
(.take (t_l 18 17)
(.only false (t_e 5 (.call 18 [(.tmp 4)]))
(.take ⟨(some 6), (.pure (.bin .add (.tmp 5) (.const (.string ⟨#[47]⟩)))), none⟩
(.only false (t_e 9 (.call 18 [(.tmp 8)]))
(.take (t_p 10 (.bin .add (.tmp 6) (.tmp 9)))
(.take ⟨(some 11), (.pure (.bin .add (.tmp 10) (.const (.string ⟨#[47]⟩)))), none⟩
(.only false (t_e 14 (.call 18 [(.tmp 13)]))
(.take (t_p 15 (.bin .add (.tmp 11) (.tmp 14)))
(.take ⟨(some 16), (.pure (.bin .add (.tmp 15) (.const (.string ⟨#[58]⟩)))), none⟩
(.only true (t_e 19 (.call 19 [(.tmp 18)]))
(.take (t_p 20 (.bin .add (.tmp 16) (.tmp 19)))
(.take (t_m 2 20)
(.done)))))))))))))))))))))
(.ret)),
[.tmp 2]⟩
theorem r_spec_pkText : resFun Tryd.prog f_spec_pkText = some c_spec_pkText := by kernel_rfl

/- loop.example/g00940/laws.toIntS -/
abbrev f_laws_toIntS : Nat := 12
def c_laws_toIntS : MFun := ⟨22, .seq (.ops [ o_p 2 (.mv (.const (.slice none 0 0)))])
(.seq (.ops [ o_m 5 0, o_p 6 (.len (.tmp 5)), o_e 7 (.mk 3 1 8 [(.int .i64 (0))] (.tmp 6) (.tmp 6)), o_m 3 7])
(.seq (.seq (.ops [ o_p 4 (.mv (.const (.int .i64 (0))))])
(.block 0 (.loop (.seq (.seq (.ops [ o_m 8 4, o_m 9 0, o_p 10 (.len (.tmp 9)), o_p 11 (.bin .lss (.tmp 8) (.tmp 10))])
(.cond (.tmp 11)
(.skip)
(.exit 0)))
(.seq (.block 1 (.ops [ o_m 14 3, o_m 15 4, o_m 16 0, o_m 17 4, o_p 18 (.idx 1 (.tmp 16) (.tmp 17)), o_l 19 18, o_p 20 (.idx 1 (.tmp 14) (.tmp 15)),
.op ⟨none, (.eff (.store 1 (.tmp 20) (.tmp 19))), none⟩]))
(.ops [ o_m 12 4, o_p 13 (.bin .add (.tmp 12) (.const (.int .i64 (1)))), o_m 4 13]))))))
(.seq (.ops [ o_m 21 3, o_m 2 21])
(.ret)))),
[.tmp 2]⟩
theorem r_laws_toIntS : resFun Tryd.prog f_laws_toIntS = some c_laws_toIntS := by kernel_rfl

/- loop.example/g00940/impl.IsPacket -/
abbrev f_impl_IsPacket : Nat := 13
def c_impl_IsPacket : MFun := ⟨30, .seq (.ops [ o_e 1 (.box 28 (.tmp 0)), o_p 2 (.mv (.const (.bool false)))])
(.seq (.ops [ o_p 3 (.fieldAddr 0 (.tmp 1)), o_l 4 3, o_e 5 (.call 20 [(.tmp 4), (.const (.int .i64 (1))), (.const (.int .i64 (999)))]), o_m 6 5,
.split 6,
.op ⟨(some 7), (.pure (.fieldAddr 2 (.tmp 1))), (some (6, true))⟩,
.op ⟨(some 8), (.load none (.tmp 7)), (some (6, true))⟩,
.op ⟨(some 9), (.eff (.call 20 [(.tmp 8), (.const (.int .i64 (1))), (.const (.int .i64 (9)))])), (some (6, true))⟩, o_p 10 (.pick (.tmp 6) (.tmp 9) (.const (.bool false))), o_m 11 10,
.split 11,
.op ⟨(some 12), (.pure (.fieldAddr 1 (.tmp 1))), (some (11, true))⟩,
.op ⟨(some 13), (.load none (.tmp 12)), (some (11, true))⟩,
.op ⟨(some 14), (.pure (.fieldAddr 2 (.tmp 1))), (some (11, true))⟩,
.op ⟨(some 15), (.load none (.tmp 14)), (some (11, true))⟩,
.op ⟨(some 16), (.pure (.bin .sub (.tmp 15) (.const (.int .i64 (1))))), (some (11, true))⟩,
.op ⟨(some 17), (.eff (.call 20 [(.tmp 13), (.const (.int .i64 (0))), (.tmp 16)])), (some (11, true))⟩, o_p 18 (.pick (.tmp 11) (.tmp 17) (.const (.bool false))), o_m 19 18,
.split 19,
.op ⟨(some 20), (.pure (.fieldAddr 3 (.tmp 1))), (some (19, true))⟩,
.op ⟨(some 21), (.load none (.tmp 20)), (some (19, true))⟩,
.op ⟨(some 22), (.pure (.len (.tmp 21))), (some (19, true))⟩,
.op ⟨(some 23), (.eff (.call 20 [(.tmp 22), (.const (.int .i64 (1))), (.const (.int .i64 (8)))])), (some (19, true))⟩, o_p 24 (.pick (.tmp 19) (.tmp 23) (.const (.bool false))), o_m 25 24,
.split 25,
.op ⟨(some 26), (.pure (.fieldAddr 3 (.tmp 1))), (some (25, true))⟩,
.op ⟨(some 27), (.load none (.tmp 26)), (some (25, true))⟩,
.op ⟨(some 28), (.eff (.call 21 [(.tmp 27), (.const (.int .i64 (1))), (.const (.int .i64 (60)))])), (some (25, true))⟩, o_p 29 (.pick (.tmp 25) (.tmp 28) (.const (.bool false))), o_m 2 29])
(.ret)),
[.tmp 2]⟩
theorem r_impl_IsPacket : resFun Tryd.prog f_impl_IsPacket = some c_impl_IsPacket := by kernel_rfl

/- loop.example/g00940/impl.joinNumbers -/
abbrev f_impl_joinNumbers : Nat := 14
def c_impl_joinNumbers : MFun := ⟨27, .seq (.ops [
.op ⟨(some 4), (.pure (.mv (.const (.string ⟨#[]⟩)))), none⟩])
(.seq (.ops [ o_m 8 0, o_p 9 (.len (.tmp 8)),
.op ⟨(some 10), (.eff (.mk 9 1 16 [(.string ⟨#[]⟩)] (.tmp 9) (.tmp 9))), none⟩, o_m 5 10])
(.seq (.seq (.ops [ o_m 11 0, o_p 12 (.len (.tmp 11)), o_p 13 (.mv (.const (.int .i64 (0))))])
(.block 0 (.loop (.seq (.ops [ o_p 14 (.bin .lss (.tmp 13) (.tmp 12))])
(.seq (.cond (.tmp 14)
(.skip)
(.exit 0))
(.seq (.block 1 (.seq (.ops [ o_m 15 13, o_p 16 (.idx 1 (.tmp 11) (.tmp 13)), o_l 17 16, o_m 6 15, o_m 7 17])
(.ops [ o_m 18 5, o_m 19 6, o_m 20 7, o_e 21 (.call 22 [(.tmp 20)]), o_p 22 (.idx 1 (.tmp 18) (.tmp 19)),
.op ⟨none, (.eff (.store 1 (.tmp 22) (.tmp 21))), none⟩])))
(.ops [ o_p 23 (.bin .add (.tmp 13) (.const (.int .i64 (1)))), o_m 13 23])))))))
(.seq (.ops [ o_m 24 5, o_m 25 1, o_e 26 (.call 23 [(.tmp 24), (.tmp 25)]), o_m 4 26])
(.ret)))),
[.tmp 4]⟩
theorem r_impl_joinNumbers : resFun Tryd.prog f_impl_joinNumbers = some c_impl_joinNumbers := by kernel_rfl

/- loop.example/g00940/laws.eqIntS -/
abbrev f_laws_eqIntS : Nat := 15
def c_laws_eqIntS : MFun := ⟨26, .seq (.ops [ o_p 4 (.mv (.const (.bool false)))])
(.seq (.seq (.ops [ o_m 6 0, o_p 7 (.len (.tmp 6)), o_m 8 1, o_p 9 (.len (.tmp 8)), o_p 10 (.bin .neq (.tmp 7) (.tmp 9))])
(.cond (.tmp 10)
(.seq (.ops [ o_p 4 (.mv (.const (.bool false)))])
(.ret))
(.skip)))
(.seq (.seq (.ops [ o_p 5 (.mv (.const (.int .i64 (0))))])
(.block 0 (.loop (.seq (.seq (.ops [ o_m 11 5, o_m 12 0, o_p 13 (.len (.tmp 12)), o_p 14 (.bin .lss (.tmp 11) (.tmp 13))])
(.cond (.tmp 14)
(.skip)
(.exit 0)))
(.seq (.block 1 (.seq (.ops [ o_m 17 0, o_m 18 5, o_p 19 (.idx 1 (.tmp 17) (.tmp 18)), o_m 21 1, o_m 22 5, o_p 23 (.idx 1 (.tmp 21) (.tmp 22)), o_l 20 19, o_l 24 23, o_p 25 (.bin .neq (.tmp 20) (.tmp 24))])
(.cond (.tmp 25)
(.seq (.ops [ o_p 4 (.mv (.const (.bool false)))])
(.ret))
(.skip))))
(.ops [ o_m 15 5, o_p 16 (.bin .add (.tmp 15) (.const (.int .i64 (1)))), o_m 5 16]))))))
(.seq (.ops [ o_p 4 (.mv (.const (.bool true)))])
(.ret)))),
[.tmp 4]⟩
theorem r_laws_eqIntS : resFun Tryd.prog f_laws_eqIntS = some c_laws_eqIntS := by kernel_rfl

/- loop.example/g00940/spec.l1In -/
abbrev f_spec_l1In : Nat := 16
def c_spec_l1In : MFun := ⟨15, .seq (.ops [ o_p 6 (.mv (.const (.bool false)))])
(.seq (.ops [ o_m 7 0, o_m 8 1, o_p 9 (.bin .geq (.tmp 7) (.tmp 8)), o_m 10 9,
.split 10,
.op ⟨(some 11), (.pure (.mv (.tmp 0))), (some (10, true))⟩,
.op ⟨(some 12), (.pure (.mv (.tmp 2))), (some (10, true))⟩,
.op ⟨(some 13), (.pure (.bin .leq (.tmp 11) (.tmp 12))), (some (10, true))⟩, o_p 14 (.pick (.tmp 10) (.tmp 13) (.const (.bool false))), o_m 6 14])
(.ret)),
[.tmp 6]⟩
theorem r_spec_l1In : resFun Tryd.prog f_spec_l1In = some c_spec_l1In := by kernel_rfl

/- loop.example/g00940/spec.l1All -/
abbrev f_spec_l1All : Nat := 17
def c_spec_l1All : MFun := ⟨21, .seq (.ops [ o_p 6 (.mv (.const (.bool false)))])
(.seq (.seq (.ops [ o_m 9 0, o_p 10 (.len (.tmp 9)), o_p 11 (.mv (.const (.int .i64 (0))))])
(.block 0 (.loop (.seq (.ops [ o_p 12 (.bin .lss (.tmp 11) (.tmp 10))])
(.seq (.cond (.tmp 12)
(.skip)
(.exit 0))
(.seq (.block 1 (.seq (.ops [ o_p 13 (.idx 1 (.tmp 9) (.tmp 11)), o_l 14 13, o_m 8 14])
(.seq (.ops [ o_m 15 8, o_m 16 1, o_m 17 2, o_e 18 (.call 16 [(.tmp 15), (.tmp 16), (.tmp 17)]), o_p 19 (.bnot (.tmp 18))])
(.cond (.tmp 19)
(.seq (.ops [ o_p 6 (.mv (.const (.bool false)))])
(.ret))
(.skip)))))
(.ops [ o_p 20 (.bin .add (.tmp 11) (.const (.int .i64 (1)))), o_m 11 20])))))))
(.seq (.ops [ o_p 6 (.mv (.const (.bool true)))])
(.ret))),
[.tmp 6]⟩
theorem r_spec_l1All : resFun Tryd.prog f_spec_l1All = some c_spec_l1All := by kernel_rfl

/- loop.example/g00940/spec.l1Num -/
abbrev f_spec_l1Num : Nat := 18
def c_spec_l1Num : MFun := ⟨20, .seq (.ops [
.op ⟨(some 2), (.pure (.mv (.const (.string ⟨#[]⟩)))), none⟩])
(.seq (.seq (.ops [ o_m 3 0, o_p 4 (.bin .lss (.tmp 3) (.const (.int .i64 (10))))])
(.cond (.tmp 4)
(.seq (.ops [ o_m 5 0, o_p 6 (.bin .add (.const (.int .i64 (48))) (.tmp 5)), o_p 7 (.conv .u8 (.tmp 6)), o_e 8 (.row 5 1 [(.int .u8 (0))] [(0, 1, (.tmp 7))]), o_e 9 (.bstr (.tmp 8)), o_m 2 9])
(.ret))
(.skip)))
(.seq (.draw true
(.take (t_m 10 0)
(.take (t_p 11 (.bin .quo (.tmp 10) (.const (.int .i64 (10)))))
(.take (t_m 13 0)
(.take (t_p 14 (.bin .rem (.tmp 13) (.const (.int .i64 (10)))))
(.take (t_p 15 (.bin .add (.const (.int .i64 (48))) (.tmp 14)))
(.take (t_p 16 (.conv .u8 (.tmp 15)))
(.fork
(.only true (t_e 12 (.call 18 [(.tmp 11)]))
(.only true (t_e 17 (.row 5 1 [(.int .u8 (0))] [(0, 1, (.tmp 16))]))
(.only true (t_e 18 (.bstr (.tmp 17)))
(.take (t_p 19 (.bin .add (.tmp 12) (.tmp 18)))
(.take (t_m 2 19)
(.done))))))
(.only true (t_e 17 (.row 5 1 [(.int .u8 (0))] [(0, 1, (.tmp 16))]))
(.fork
(.only true (t_e 12 (.call 18 [(.tmp 11)]))
(.only true (t_e 18 (.bstr (.tmp 17)))
(.take (t_p 19 (.bin .add (.tmp 12) (.tmp 18)))
(.take (t_m 2 19)
(.done)))))
(.only true (t_e 18 (.bstr (.tmp 17)))
(.only true (t_e 12 (.call 18 [(.tmp 11)]))
(.take (t_p 19 (.bin .add (.tmp 12) (.tmp 18)))
(.take (t_m 2 19)
(.done)))))))))))))))
(.ret))),
[.tmp 2]⟩
theorem r_spec_l1Num : resFun Tryd.prog f_spec_l1Num = some c_spec_l1Num := by kernel_rfl

/- loop.example/g00940/spec.sgLine -/
abbrev f_spec_sgLine : Nat := 19
def c_spec_sgLine : MFun := ⟨23, .seq (.ops [
.op ⟨(some 2), (.pure (.mv (.const (.string ⟨#[]⟩)))), none⟩])
(.seq (.ops [
.op ⟨(some 3), (.pure (.mv (.const (.string ⟨#[]⟩)))), none⟩])
(.seq (.seq (.ops [ o_m 6 0, o_p 7 (.len (.tmp 6)), o_p 8 (.mv (.const (.int .i64 (0))))])
(.block 0 (.loop (.seq (.ops [ o_p 9 (.bin .lss (.tmp 8) (.tmp 7))])
(.seq (.cond (.tmp 9)
(.skip)
(.exit 0))
(.seq (.block 1 (.seq (.ops [ o_m 10 8, o_p 11 (.idx 1 (.tmp 6) (.tmp 8)), o_l 12 11, o_m 4 10, o_m 5 12])
(.seq (.seq (.ops [ o_m 13 4, o_p 14 (.bin .gtr (.tmp 13) (.const (.int .i64 (0))))])
(.cond (.tmp 14)
(.ops [ o_m 15 3,
.op ⟨(some 16), (.pure (.bin .add (.tmp 15) (.const (.string ⟨#[32]⟩)))), none⟩, o_m 3 16])
(.skip)))
(.ops [ o_m 17 3, o_m 18 5, o_e 19 (.call 18 [(.tmp 18)]), o_p 20 (.bin .add (.tmp 17) (.tmp 19)), o_m 3 20]))))
(.ops [ o_p 21 (.bin .add (.tmp 8) (.const (.int .i64 (1)))), o_m 8 21])))))))
(.seq (.ops [ o_m 22 3, o_m 2 22])
(.ret)))),
[.tmp 2]⟩
theorem r_spec_sgLine : resFun Tryd.prog f_spec_sgLine = some c_spec_sgLine := by kernel_rfl

/- loop.example/g00940/impl.within -/
abbrev f_impl_within : Nat := 20
def c_impl_within : MFun := ⟨15, .seq (.ops [ o_p 6 (.mv (.const (.bool false)))])
(.seq (.ops [ o_m 7 0, o_m 8 1, o_p 9 (.bin .geq (.tmp 7) (.tmp 8)), o_m 10 9,
.split 10,
.op ⟨(some 11), (.pure (.mv (.tmp 0))), (some (10, true))⟩,
.op ⟨(some 12), (.pure (.mv (.tmp 2))), (some (10, true))⟩,
.op ⟨(some 13), (.pure (.bin .leq (.tmp 11) (.tmp 12))), (some (10, true))⟩, o_p 14 (.pick (.tmp 10) (.tmp 13) (.const (.bool false))), o_m 6 14])
(.ret)),
[.tmp 6]⟩
theorem r_impl_within : resFun Tryd.prog f_impl_within = some c_impl_within := by kernel_rfl

/- loop.example/g00940/impl.allWithin -/
abbrev f_impl_allWithin : Nat := 21
def c_impl_allWithin : MFun := ⟨21, .seq (.ops [ o_p 6 (.mv (.const (.bool false)))])
(.seq (.seq (.ops [ o_m 9 0, o_p 10 (.len (.tmp 9)), o_p 11 (.mv (.const (.int .i64 (0))))])
(.block 0 (.loop (.seq (.ops [ o_p 12 (.bin .lss (.tmp 11) (.tmp 10))])
(.seq (.cond (.tmp 12)
(.skip)
(.exit 0))
(.seq (.block 1 (.seq (.ops [ o_p 13 (.idx 1 (.tmp 9) (.tmp 11)), o_l 14 13, o_m 8 14])
(.seq (.ops [ o_m 15 8, o_m 16 1, o_m 17 2, o_e 18 (.call 20 [(.tmp 15), (.tmp 16), (.tmp 17)]), o_p 19 (.bnot (.tmp 18))])
(.cond (.tmp 19)
(.seq (.ops [ o_p 6 (.mv (.const (.bool false)))])
(.ret))
(.skip)))))
(.ops [ o_p 20 (.bin .add (.tmp 11) (.const (.int .i64 (1)))), o_m 11 20])))))))
(.seq (.ops [ o_p 6 (.mv (.const (.bool true)))])
(.ret))),
[.tmp 6]⟩
theorem r_impl_allWithin : resFun Tryd.prog f_impl_allWithin = some c_impl_allWithin := by kernel_rfl

/- strconv.Itoa -/
abbrev f_strconv_Itoa : Nat := 22
def c_strconv_Itoa : MFun := ⟨5, .seq (.ops [
.op ⟨(some 2), (.pure (.mv (.const (.string ⟨#[]⟩)))), none⟩])
(.seq (.ops [ o_m 3 0, o_e 4 (.call 24 [(.tmp 3)]), o_m 2 4])
(.ret)),
[.tmp 2]⟩
theorem r_strconv_Itoa : resFun Tryd.prog f_strconv_Itoa = some c_strconv_Itoa := by kernel_rfl

/- strings.Join -/
abbrev f_strings_Join : Nat := 23
def c_strings_Join : MFun := ⟨75, .seq (.ops [
.op ⟨(some 4), (.pure (.mv (.const (.string ⟨#[]⟩)))), none⟩])
(.seq (.seq (.ops [ o_m 11 0, o_p 12 (.len (.tmp 11))])
(.block 0 (.seq (.ops [ o_p 14 (.bin .eql (.tmp 12) (.const (.int .i64 (0)))), o_m 13 14])
(.cond (.tmp 13)
(.seq (.ops [
.op ⟨(some 4), (.pure (.mv (.const (.string ⟨#[]⟩)))), none⟩])
(.ret))
(.seq (.ops [ o_p 16 (.bin .eql (.tmp 12) (.const (.int .i64 (1)))), o_m 15 16])
(.cond (.tmp 15)
(.seq (.ops [ o_m 17 0, o_p 18 (.idx 1 (.tmp 17) (.const (.int .i64 (0)))), o_l 19 18, o_m 4 19])
(.ret))
(.skip)))))))
(.seq (.ops [ o_p 5 (.mv (.const (.int .i64 (0))))])
(.seq (.seq (.ops [ o_m 20 1, o_p 21 (.slen (.tmp 20)), o_p 22 (.bin .gtr (.tmp 21) (.const (.int .i64 (0))))])
(.cond (.tmp 22)
(.seq (.seq (.ops [ o_m 23 1, o_p 24 (.slen (.tmp 23)), o_m 25 0, o_p 26 (.len (.tmp 25)), o_p 27 (.bin .sub (.tmp 26) (.const (.int .i64 (1)))), o_p 28 (.bin .quo (.const (.int .i64 (9223372036854775807))) (.tmp 27)), o_p 29 (.bin .geq (.tmp 24) (.tmp 28))])
(.cond (.tmp 29)
(.ops [ o_e 30 (.fail),
.op ⟨none, (.eff (.fail)), none⟩])
(.skip)))
(.ops [ o_m 31 5, o_m 32 1, o_p 33 (.slen (.tmp 32)), o_m 34 0, o_p 35 (.len (.tmp 34)), o_p 36 (.bin .sub (.tmp 35) (.const (.int .i64 (1)))), o_p 37 (.bin .mul (.tmp 33) (.tmp 36)), o_p 38 (.bin .add (.tmp 31) (.tmp 37)), o_m 5 38]))
(.skip)))
(.seq (.seq (.ops [ o_m 39 0, o_p 40 (.len (.tmp 39)), o_p 41 (.mv (.const (.int .i64 (0))))])
(.block 1 (.loop (.seq (.ops [ o_p 42 (.bin .lss (.tmp 41) (.tmp 40))])
(.seq (.cond (.tmp 42)
(.skip)
(.exit 1))
(.seq (.block 2 (.seq (.ops [ o_p 43 (.idx 1 (.tmp 39) (.tmp 41)), o_l 44 43, o_m 7 44])
(.seq (.seq (.ops [ o_m 45 7, o_p 46 (.slen (.tmp 45)), o_m 47 5, o_p 48 (.bin .sub (.const (.int .i64 (9223372036854775807))) (.tmp 47)), o_p 49 (.bin .gtr (.tmp 46) (.tmp 48))])
(.cond (.tmp 49)
(.ops [ o_e 50 (.fail),
.op ⟨none, (.eff (.fail)), none⟩])
(.skip)))
(.ops [ o_m 51 5, o_m 52 7, o_p 53 (.slen (.tmp 52)), o_p 54 (.bin .add (.tmp 51) (.tmp 53)), o_m 5 54]))))
(.ops [ o_p 55 (.bin .add (.tmp 41) (.const (.int .i64 (1)))), o_m 41 55])))))))
(.seq (.ops [ o_e 8 (.new 47 [(.pointer none), (.slice none 0 0)])])
(.seq (.ops [ o_m 56 5, o_e 57 (.call 25 [(.tmp 8), (.tmp 56)])])
(.seq (.ops [ o_m 58 0, o_p 59 (.idx 1 (.tmp 58) (.const (.int .i64 (0)))), o_l 60 59, o_e 61 (.call 26 [(.tmp 8), (.tmp 60)])])
(.seq (.seq (.ops [ o_m 62 0, o_p 63 (.slc 1 (.tmp 62) (some (.const (.int .i64 (1)))) none none), o_p 64 (.len (.tmp 63)), o_p 65 (.mv (.const (.int .i64 (0))))])
(.block 3 (.loop (.seq (.ops [ o_p 66 (.bin .lss (.tmp 65) (.tmp 64))])
(.seq (.cond (.tmp 66)
(.skip)
(.exit 3))
(.seq (.block 4 (.seq (.ops [ o_p 67 (.idx 1 (.tmp 63) (.tmp 65)), o_l 68 67, o_m 10 68])
(.seq (.ops [ o_m 69 1, o_e 70 (.call 26 [(.tmp 8), (.tmp 69)])])
(.ops [ o_m 71 10, o_e 72 (.call 26 [(.tmp 8), (.tmp 71)])]))))
(.ops [ o_p 73 (.bin .add (.tmp 65) (.const (.int .i64 (1)))), o_m 65 73])))))))
(.seq (.ops [ o_e 74 (.call 27 [(.tmp 8)]), o_m 4 74])
(.ret)))))))))),
[.tmp 4]⟩
theorem r_strings_Join : resFun Tryd.prog f_strings_Join = some c_strings_Join := by kernel_rfl

/- internal/strconv.Itoa -/
abbrev f_internal_strconv_Itoa : Nat := 24
def c_internal_strconv_Itoa : MFun := ⟨5, .seq (.ops [
.op ⟨(some 2), (.pure (.mv (.const (.string ⟨#[]⟩)))), none⟩])
(.seq (.ops [ o_m 3 0, o_e 4 (.call 28 [(.tmp 3), (.const (.int .i64 (10)))]), o_m 2 4])
(.ret)),
[.tmp 2]⟩
theorem r_internal_strconv_Itoa : resFun Tryd.prog f_internal_strconv_Itoa = some c_internal_strconv_Itoa := by kernel_rfl

/- (*strings.Builder).Grow -/
abbrev f_strings_Builder_Grow : Nat := 25
def c_strings_Builder_Grow : MFun := ⟨25, .seq (.ops [ o_m 4 0, o_e 5 (.call 29 [(.tmp 4)])])
(.seq (.seq (.ops [ o_m 6 1, o_p 7 (.bin .lss (.tmp 6) (.const (.int .i64 (0))))])
(.cond (.tmp 7)
(.ops [ o_e 8 (.fail),
.op ⟨none, (.eff (.fail)), none⟩])
(.skip)))
(.seq (.draw true
(.take (t_m 9 0)
(.take (t_p 10 (.nilc (.tmp 9)))
(.take (t_p 11 (.fieldAddr 1 (.tmp 10)))
(.take (t_m 14 0)
(.take (t_p 15 (.nilc (.tmp 14)))
(.take (t_p 16 (.fieldAddr 1 (.tmp 15)))
(.take (t_m 20 1)
(.only false (t_l 12 11)
(.take (t_l 17 16)
(.take (t_p 18 (.len (.tmp 17)))
(.only false (t_e 13 (.fail))
(.take (t_p 19 (.bin .sub (.tmp 13) (.tmp 18)))
(.take (t_p 21 (.bin .lss (.tmp 19) (.tmp 20)))
(.done)))))))))))))))
(.cond (.tmp 21)
(.ops [ o_m 22 0, o_m 23 1, o_e 24 (.call 30 [(.tmp 22), (.tmp 23)])])
(.skip)))),
[]⟩
theorem r_strings_Builder_Grow : resFun Tryd.prog f_strings_Builder_Grow = some c_strings_Builder_Grow := by kernel_rfl

/- (*strings.Builder).WriteString -/
abbrev f_strings_Builder_WriteString : Nat := 26
def c_strings_Builder_WriteString : MFun := ⟨19, .seq (.ops [ o_p 4 (.mv (.const (.int .i64 (0)))), o_p 5 (.mv (.const .nilIface))])
(.seq (.ops [ o_m 6 0, o_e 7 (.call 29 [(.tmp 6)])])
(.seq (.ops [ o_m 8 0, o_m 9 0, o_p 10 (.nilc (.tmp 9)), o_p 11 (.fieldAddr 1 (.tmp 10)), o_l 12 11, o_m 13 1, o_e 14 (.fail), o_p 15 (.nilc (.tmp 8)), o_p 16 (.fieldAddr 1 (.tmp 15)),
.op ⟨none, (.eff (.store 1 (.tmp 16) (.tmp 14))), none⟩])
(.seq (.ops [ o_m 17 1, o_p 18 (.slen (.tmp 17)), o_m 4 18, o_p 5 (.mv (.const .nilIface))])
(.ret)))),
[.tmp 4, .tmp 5]⟩
theorem r_strings_Builder_WriteString : resFun Tryd.prog f_strings_Builder_WriteString = some c_strings_Builder_WriteString := by kernel_rfl

/- (*strings.Builder).String -/
abbrev f_strings_Builder_String : Nat := 27
def c_strings_Builder_String : MFun := ⟨14, .seq (.ops [
.op ⟨(some 2), (.pure (.mv (.const (.string ⟨#[]⟩)))), none⟩])
(.seq (.draw true
(.take (t_m 3 0)
(.take (t_p 4 (.nilc (.tmp 3)))
(.take (t_p 5 (.fieldAddr 1 (.tmp 4)))
(.take (t_m 8 0)
(.take (t_p 9 (.nilc (.tmp 8)))
(.take (t_p 10 (.fieldAddr 1 (.tmp 9)))
(.only false (t_l 6 5)
(.take (t_l 11 10)
(.take (t_p 12 (.len (.tmp 11)))
(.only false (t_e 7 (.fail))
(.only true (t_e 13 (.fail))
(.take (t_m 2 13)
(.done))))))))))))))
(.ret)),
[.tmp 2]⟩
theorem r_strings_Builder_String : resFun Tryd.prog f_strings_Builder_String = some c_strings_Builder_String := by kernel_rfl

/- internal/strconv.FormatInt -/
abbrev f_internal_strconv_FormatInt : Nat := 28
def c_internal_strconv_FormatInt : MFun := ⟨54, .seq (.ops [
.op ⟨(some 4), (.pure (.mv (.const (.string ⟨#[]⟩)))), none⟩])
(.seq (.seq (.ops [ o_m 10 1, o_p 11 (.bin .eql (.tmp 10) (.const (.int .i64 (10))))])
(.cond (.tmp 11)
(.seq (.seq (.ops [ o_m 12 0, o_p 13 (.bin .leq (.const (.int .i64 (0))) (.tmp 12)), o_m 14 13,
.split 14,
.op ⟨(some 15), (.pure (.mv (.tmp 0))), (some (14, true))⟩,
.op ⟨(some 16), (.pure (.bin .lss (.tmp 15) (.const (.int .i64 (100))))), (some (14, true))⟩, o_p 17 (.pick (.tmp 14) (.tmp 16) (.const (.bool false)))])
(.cond (.tmp 17)
(.seq (.ops [ o_m 18 0, o_e 19 (.call 31 [(.tmp 18)]), o_m 4 19])
(.ret))
(.skip)))
(.seq (.ops [ o_e 5 (.new 56 [(.int .u8 (0)), (.int .u8 (0)), (.int .u8 (0)), (.int .u8 (0)), (.int .u8 (0)), (.int .u8 (0)), (.int .u8 (0)), (.int .u8 (0)), (.int .u8 (0)), (.int .u8 (0)), (.int .u8 (0)), (.int .u8 (0)), (.int .u8 (0)), (.int .u8 (0)), (.int .u8 (0)), (.int .u8 (0)), (.int .u8 (0)), (.int .u8 (0)), (.int .u8 (0)), (.int .u8 (0)), (.int .u8 (0)), (.int .u8 (0)), (.int .u8 (0)), (.int .u8 (0))])])
(.seq (.ops [ o_m 20 0, o_p 21 (.conv .u64 (.tmp 20)), o_m 6 21])
(.seq (.seq (.ops [ o_m 22 0, o_p 23 (.bin .lss (.tmp 22) (.const (.int .i64 (0))))])
(.cond (.tmp 23)
(.ops [ o_m 24 6, o_p 25 (.ineg (.tmp 24)), o_m 6 25])
(.skip)))
(.seq (.ops [ o_m 26 6, o_e 27 (.call 32 [(.tmp 26)]), o_m 7 27])
(.seq (.ops [ o_m 28 7, o_p 29 (.bin .add (.const (.int .i64 (1))) (.tmp 28)), o_e 30 (.fail), o_m 31 6, o_e 32 (.call 33 [(.tmp 30), (.tmp 31)])])
(.seq (.seq (.ops [ o_m 33 0, o_p 34 (.bin .lss (.tmp 33) (.const (.int .i64 (0))))])
(.cond (.tmp 34)
(.seq (.ops [ o_p 35 (.idxA 24 1 (.tmp 5) (.const (.int .i64 (0)))),
.op ⟨none, (.eff (.store 1 (.tmp 35) (.const (.int .u8 (45))))), none⟩])
(.seq (.ops [ o_m 36 7, o_p 37 (.bin .add (.const (.int .i64 (1))) (.tmp 36)), o_e 38 (.fail), o_e 39 (.bstr (.tmp 38)), o_m 4 39])
(.ret)))
(.skip)))
(.seq (.ops [ o_m 40 7, o_p 41 (.bin .add (.const (.int .i64 (1))) (.tmp 40)), o_e 42 (.fail), o_e 43 (.bstr (.tmp 42)), o_m 4 43])
(.ret)))))))))
(.skip)))
(.seq (.ops [ o_m 45 0, o_p 46 (.conv .u64 (.tmp 45)), o_m 47 1, o_m 48 0, o_p 49 (.bin .lss (.tmp 48) (.const (.int .i64 (0)))), o_e 50 (.call 34 [(.const (.slice none 0 0)), (.tmp 46), (.tmp 47), (.tmp 49), (.const (.bool false))]), o_m 44 50, o_p 51 (.ext 0 (.tmp 44)), o_p 52 (.ext 1 (.tmp 44)), o_m 8 51, o_m 9 52])
(.seq (.ops [ o_m 53 9, o_m 4 53])
(.ret)))),
[.tmp 4]⟩
theorem r_internal_strconv_FormatInt : resFun Tryd.prog f_internal_strconv_FormatInt = some c_internal_strconv_FormatInt := by kernel_rfl

/- (*strings.Builder).grow -/
abbrev f_strings_Builder_grow : Nat := 30
def c_strings_Builder_grow : MFun := ⟨30, .seq (.draw true
(.take (t_m 5 0)
(.take (t_p 6 (.nilc (.tmp 5)))
(.take (t_p 7 (.fieldAddr 1 (.tmp 6)))
(.take (t_m 11 1)
(.take (t_m 14 0)
(.take (t_p 15 (.nilc (.tmp 14)))
(.take (t_p 16 (.fieldAddr 1 (.tmp 15)))
(.only false (t_l 8 7)
(.take (t_l 17 16)
(.take (t_p 18 (.len (.tmp 17)))
(.only false (t_e 9 (.fail))
(.take (t_p 10 (.bin .mul (.const (.int .i64 (2))) (.tmp 9)))
(.take (t_p 12 (.bin .add (.tmp 10) (.tmp 11)))
(.only false (t_e 13 (.call 36 [(.tmp 12)]))
(.take (t_p 19 (.slc 1 (.tmp 13) none (some (.tmp 18)) none))
(.take (t_m 4 19)
(.done))))))))))))))))))
(.seq (.ops [ o_m 20 4, o_m 21 0, o_p 22 (.nilc (.tmp 21)), o_p 23 (.fieldAddr 1 (.tmp 22)), o_l 24 23, o_e 25 (.copy 1 (.tmp 20) (.tmp 24))])
(.ops [ o_m 26 0, o_m 27 4, o_p 28 (.nilc (.tmp 26)), o_p 29 (.fieldAddr 1 (.tmp 28)),
.op ⟨none, (.eff (.store 1 (.tmp 29) (.tmp 27))), none⟩])),
[]⟩
theorem r_strings_Builder_grow : resFun Tryd.prog f_strings_Builder_grow = some c_strings_Builder_grow := by kernel_rfl

/- internal/strconv.small -/
abbrev f_internal_strconv_small : Nat := 31
def c_internal_strconv_small : MFun := ⟨15, .seq (.ops [
.op ⟨(some 2), (.pure (.mv (.const (.string ⟨#[]⟩)))), none⟩])
(.seq (.seq (.ops [ o_m 3 0, o_p 4 (.bin .lss (.tmp 3) (.const (.int .i64 (10))))])
(.cond (.tmp 4)
(.seq (.ops [ o_m 5 0, o_m 6 0, o_p 7 (.bin .add (.tmp 6) (.const (.int .i64 (1)))),
.op ⟨(some 8), (.pure (.sslc (.const (.string ⟨#[48, 49, 50, 51, 52, 53, 54, 55, 56, 57, 97, 98, 99, 100, 101, 102, 103, 104, 105, 106, 107, 108, 109, 110, 111, 112, 113, 114, 115, 116, 117, 118, 119, 120, 121, 122]⟩)) (some (.tmp 5)) (some (.tmp 7)))), none⟩, o_m 2 8])
(.ret))
(.skip)))
(.seq (.ops [ o_m 9 0, o_p 10 (.bin .mul (.tmp 9) (.const (.int .i64 (2)))), o_m 11 0, o_p 12 (.bin .mul (.tmp 11) (.const (.int .i64 (2)))), o_p 13 (.bin .add (.tmp 12) (.const (.int .i64 (2)))),
.op ⟨(some 14), (.pure (.sslc (.const (.string ⟨#[48, 48, 48, 49, 48, 50, 48, 51, 48, 52, 48, 53, 48, 54, 48, 55, 48, 56, 48, 57, 49, 48, 49, 49, 49, 50, 49, 51, 49, 52, 49, 53, 49, 54, 49, 55, 49, 56, 49, 57, 50, 48, 50, 49, 50, 50, 50, 51, 50, 52, 50, 53, 50, 54, 50, 55, 50, 56, 50, 57, 51, 48, 51, 49, 51, 50, 51, 51, 51, 52, 51, 53, 51, 54, 51, 55, 51, 56, 51, 57, 52, 48, 52, 49, 52, 50, 52, 51, 52, 52, 52, 53, 52, 54, 52, 55, 52, 56, 52, 57, 53, 48, 53, 49, 53, 50, 53, 51, 53, 52, 53, 53, 53, 54, 53, 55, 53, 56, 53, 57, 54, 48, 54, 49, 54, 50, 54, 51, 54, 52, 54, 53, 54, 54, 54, 55, 54, 56, 54, 57, 55, 48, 55, 49, 55, 50, 55, 51, 55, 52, 55, 53, 55, 54, 55, 55, 55, 56, 55, 57, 56, 48, 56, 49, 56, 50, 56, 51, 56, 52, 56, 53, 56, 54, 56, 55, 56, 56, 56, 57, 57, 48, 57, 49, 57, 50, 57, 51, 57, 52, 57, 53, 57, 54, 57, 55, 57, 56, 57, 57]⟩)) (some (.tmp 10)) (some (.tmp 13)))), none⟩, o_m 2 14])
(.ret))),
[.tmp 2]⟩
theorem r_internal_strconv_small : resFun Tryd.prog f_internal_strconv_small = some c_internal_strconv_small := by kernel_rfl

/- internal/strconv.numDigits -/
abbrev f_internal_strconv_numDigits : Nat := 32
def c_internal_strconv_numDigits : MFun := ⟨15, .seq (.ops [ o_p 2 (.mv (.const (.int .i64 (0))))])
(.seq (.ops [ o_m 4 0, o_e 5 (.call 38 [(.tmp 4)]), o_e 6 (.call 37 [(.tmp 5)]), o_m 3 6])
(.seq (.ops [ o_m 7 3, o_m 8 0, o_m 9 3, o_p 10 (.idxA 20 1 (.global 0) (.tmp 9)), o_l 11 10, o_p 12 (.bin .geq (.tmp 8) (.tmp 11)), o_e 13 (.call 39 [(.tmp 12)]), o_p 14 (.bin .add (.tmp 7) (.tmp 13)), o_m 2 14])
(.ret))),
[.tmp 2]⟩
theorem r_internal_strconv_numDigits : resFun Tryd.prog f_internal_strconv_numDigits = some c_internal_strconv_numDigits := by kernel_rfl

/- internal/strconv.formatBase10 -/
abbrev f_internal_strconv_formatBase10 : Nat := 33
def c_internal_strconv_formatBase10 : MFun := ⟨167, .seq (.ops [ o_m 17 0, o_p 18 (.len (.tmp 17)), o_m 4 18])
(.seq (.block 0 (.loop (.seq (.seq (.ops [ o_m 19 4, o_p 20 (.bin .geq (.tmp 19) (.const (.int .i64 (8))))])
(.cond (.tmp 20)
(.skip)
(.exit 0)))
(.block 1 (.seq (.ops [ o_m 21 1, o_p 22 (.bin .rem (.tmp 21) (.const (.int .u64 (100000000)))), o_p 23 (.conv .u32 (.tmp 22)), o_m 5 23])
(.seq (.ops [ o_m 24 1, o_p 25 (.bin .quo (.tmp 24) (.const (.int .u64 (100000000)))), o_m 1 25])
(.seq (.ops [ o_m 26 5, o_p 27 (.bin .quo (.tmp 26) (.const (.int .u32 (10000)))), o_m 28 5, o_p 29 (.bin .rem (.tmp 28) (.const (.int .u32 (10000)))), o_m 6 27, o_m 7 29])
(.seq (.ops [ o_m 30 7, o_p 31 (.bin .quo (.tmp 30) (.const (.int .u32 (100)))), o_p 32 (.bin .mul (.tmp 31) (.const (.int .u32 (2)))), o_m 33 7, o_p 34 (.bin .rem (.tmp 33) (.const (.int .u32 (100)))), o_p 35 (.bin .mul (.tmp 34) (.const (.int .u32 (2)))), o_m 8 32, o_m 9 35])
(.seq (.ops [ o_m 36 6, o_p 37 (.bin .quo (.tmp 36) (.const (.int .u32 (100)))), o_p 38 (.bin .mul (.tmp 37) (.const (.int .u32 (2)))), o_m 39 6, o_p 40 (.bin .rem (.tmp 39) (.const (.int .u32 (100)))), o_p 41 (.bin .mul (.tmp 40) (.const (.int .u32 (2)))), o_m 10 38, o_m 11 41])
(.seq (.draw false
(.take (t_m 42 0)
(.take (t_m 43 4)
(.take (t_p 44 (.bin .sub (.tmp 43) (.const (.int .i64 (1)))))
(.take (t_m 45 0)
(.take (t_m 46 4)
(.take (t_p 47 (.bin .sub (.tmp 46) (.const (.int .i64 (2)))))
(.take (t_m 48 9)
(.take (t_p 49 (.bin .add (.tmp 48) (.const (.int .u32 (1)))))
(.take ⟨(some 50), (.pure (.sidx (.const (.string ⟨#[48, 48, 48, 49, 48, 50, 48, 51, 48, 52, 48, 53, 48, 54, 48, 55, 48, 56, 48, 57, 49, 48, 49, 49, 49, 50, 49, 51, 49, 52, 49, 53, 49, 54, 49, 55, 49, 56, 49, 57, 50, 48, 50, 49, 50, 50, 50, 51, 50, 52, 50, 53, 50, 54, 50, 55, 50, 56, 50, 57, 51, 48, 51, 49, 51, 50, 51, 51, 51, 52, 51, 53, 51, 54, 51, 55, 51, 56, 51, 57, 52, 48, 52, 49, 52, 50, 52, 51, 52, 52, 52, 53, 52, 54, 52, 55, 52, 56, 52, 57, 53, 48, 53, 49, 53, 50, 53, 51, 53, 52, 53, 53, 53, 54, 53, 55, 53, 56, 53, 57, 54, 48, 54, 49, 54, 50, 54, 51, 54, 52, 54, 53, 54, 54, 54, 55, 54, 56, 54, 57, 55, 48, 55, 49, 55, 50, 55, 51, 55, 52, 55, 53, 55, 54, 55, 55, 55, 56, 55, 57, 56, 48, 56, 49, 56, 50, 56, 51, 56, 52, 56, 53, 56, 54, 56, 55, 56, 56, 56, 57, 57, 48, 57, 49, 57, 50, 57, 51, 57, 52, 57, 53, 57, 54, 57, 55, 57, 56, 57, 57]⟩)) (.tmp 49))), none⟩
(.take (t_m 51 9)
(.take ⟨(some 52), (.pure (.sidx (.const (.string ⟨#[48, 48, 48, 49, 48, 50, 48, 51, 48, 52, 48, 53, 48, 54, 48, 55, 48, 56, 48, 57, 49, 48, 49, 49, 49, 50, 49, 51, 49, 52, 49, 53, 49, 54, 49, 55, 49, 56, 49, 57, 50, 48, 50, 49, 50, 50, 50, 51, 50, 52, 50, 53, 50, 54, 50, 55, 50, 56, 50, 57, 51, 48, 51, 49, 51, 50, 51, 51, 51, 52, 51, 53, 51, 54, 51, 55, 51, 56, 51, 57, 52, 48, 52, 49, 52, 50, 52, 51, 52, 52, 52, 53, 52, 54, 52, 55, 52, 56, 52, 57, 53, 48, 53, 49, 53, 50, 53, 51, 53, 52, 53, 53, 53, 54, 53, 55, 53, 56, 53, 57, 54, 48, 54, 49, 54, 50, 54, 51, 54, 52, 54, 53, 54, 54, 54, 55, 54, 56, 54, 57, 55, 48, 55, 49, 55, 50, 55, 51, 55, 52, 55, 53, 55, 54, 55, 55, 55, 56, 55, 57, 56, 48, 56, 49, 56, 50, 56, 51, 56, 52, 56, 53, 56, 54, 56, 55, 56, 56, 56, 57, 57, 48, 57, 49, 57, 50, 57, 51, 57, 52, 57, 53, 57, 54, 57, 55, 57, 56, 57, 57]⟩)) (.tmp 51))), none⟩
(.take (t_p 53 (.idx 1 (.tmp 42) (.tmp 44)))
(.only true ⟨none, (.eff (.store 1 (.tmp 53) (.tmp 50))), none⟩
(.take (t_p 54 (.idx 1 (.tmp 45) (.tmp 47)))
(.only true ⟨none, (.eff (.store 1 (.tmp 54) (.tmp 52))), none⟩
(.done)))))))))))))))))
(.seq (.draw false
(.take (t_m 55 0)
(.take (t_m 56 4)
(.take (t_p 57 (.bin .sub (.tmp 56) (.const (.int .i64 (3)))))
(.take (t_m 58 0)
(.take (t_m 59 4)
(.take (t_p 60 (.bin .sub (.tmp 59) (.const (.int .i64 (4)))))
(.take (t_m 61 8)
(.take (t_p 62 (.bin .add (.tmp 61) (.const (.int .u32 (1)))))
(.take ⟨(some 63), (.pure (.sidx (.const (.string ⟨#[48, 48, 48, 49, 48, 50, 48, 51, 48, 52, 48, 53, 48, 54, 48, 55, 48, 56, 48, 57, 49, 48, 49, 49, 49, 50, 49, 51, 49, 52, 49, 53, 49, 54, 49, 55, 49, 56, 49, 57, 50, 48, 50, 49, 50, 50, 50, 51, 50, 52, 50, 53, 50, 54, 50, 55, 50, 56, 50, 57, 51, 48, 51, 49, 51, 50, 51, 51, 51, 52, 51, 53, 51, 54, 51, 55, 51, 56, 51, 57, 52, 48, 52, 49, 52, 50, 52, 51, 52, 52, 52, 53, 52, 54, 52, 55, 52, 56, 52, 57, 53, 48, 53, 49, 53, 50, 53, 51, 53, 52, 53, 53, 53, 54, 53, 55, 53, 56, 53, 57, 54, 48, 54, 49, 54, 50, 54, 51, 54, 52, 54, 53, 54, 54, 54, 55, 54, 56, 54, 57, 55, 48, 55, 49, 55, 50, 55, 51, 55, 52, 55, 53, 55, 54, 55, 55, 55, 56, 55, 57, 56, 48, 56, 49, 56, 50, 56, 51, 56, 52, 56, 53, 56, 54, 56, 55, 56, 56, 56, 57, 57, 48, 57, 49, 57, 50, 57, 51, 57, 52, 57, 53, 57, 54, 57, 55, 57, 56, 57, 57]⟩)) (.tmp 62))), none⟩
(.take (t_m 64 8)
(.take ⟨(some 65), (.pure (.sidx (.const (.string ⟨#[48, 48, 48, 49, 48, 50, 48, 51, 48, 52, 48, 53, 48, 54, 48, 55, 48, 56, 48, 57, 49, 48, 49, 49, 49, 50, 49, 51, 49, 52, 49, 53, 49, 54, 49, 55, 49, 56, 49, 57, 50, 48, 50, 49, 50, 50, 50, 51, 50, 52, 50, 53, 50, 54, 50, 55, 50, 56, 50, 57, 51, 48, 51, 49, 51, 50, 51, 51, 51, 52, 51, 53, 51, 54, 51, 55, 51, 56, 51, 57, 52, 48, 52, 49, 52, 50, 52, 51, 52, 52, 52, 53, 52, 54, 52, 55, 52, 56, 52, 57, 53, 48, 53, 49, 53, 50, 53, 51, 53, 52, 53, 53, 53, 54, 53, 55, 53, 56, 53, 57, 54, 48, 54, 49, 54, 50, 54, 51, 54, 52, 54, 53, 54, 54, 54, 55, 54, 56, 54, 57, 55, 48, 55, 49, 55, 50, 55, 51, 55, 52, 55, 53, 55, 54, 55, 55, 55, 56, 55, 57, 56, 48, 56, 49, 56, 50, 56, 51, 56, 52, 56, 53, 56, 54, 56, 55, 56, 56, 56, 57, 57, 48, 57, 49, 57, 50, 57, 51, 57, 52, 57, 53, 57, 54, 57, 55, 57, 56, 57, 57]⟩)) (.tmp 64))), none⟩
(.take (t_p 66 (.idx 1 (.tmp 55) (.tmp 57)))
(.only true ⟨none, (.eff (.store 1 (.tmp 66) (.tmp 63))), none⟩
(.take (t_p 67 (.idx 1 (.tmp 58) (.tmp 60)))
(.only true ⟨none, (.eff (.store 1 (.tmp 67) (.tmp 65))), none⟩
(.done)))))))))))))))))
(.seq (.draw false
(.take (t_m 68 0)
(.take (t_m 69 4)
(.take (t_p 70 (.bin .sub (.tmp 69) (.const (.int .i64 (5)))))
(.take (t_m 71 0)
(.take (t_m 72 4)
(.take (t_p 73 (.bin .sub (.tmp 72) (.const (.int .i64 (6)))))
(.take (t_m 74 11)
(.take (t_p 75 (.bin .add (.tmp 74) (.const (.int .u32 (1)))))
(.take ⟨(some 76), (.pure (.sidx (.const (.string ⟨#[48, 48, 48, 49, 48, 50, 48, 51, 48, 52, 48, 53, 48, 54, 48, 55, 48, 56, 48, 57, 49, 48, 49, 49, 49, 50, 49, 51, 49, 52, 49, 53, 49, 54, 49, 55, 49, 56, 49, 57, 50, 48, 50, 49, 50, 50, 50, 51, 50, 52, 50, 53, 50, 54, 50, 55, 50, 56, 50, 57, 51, 48, 51, 49, 51, 50, 51, 51, 51, 52, 51, 53, 51, 54, 51, 55, 51, 56, 51, 57, 52, 48, 52, 49, 52, 50, 52, 51, 52, 52, 52, 53, 52, 54, 52, 55, 52, 56, 52, 57, 53, 48, 53, 49, 53, 50, 53, 51, 53, 52, 53, 53, 53, 54, 53, 55, 53, 56, 53, 57, 54, 48, 54, 49, 54, 50, 54, 51, 54, 52, 54, 53, 54, 54, 54, 55, 54, 56, 54, 57, 55, 48, 55, 49, 55, 50, 55, 51, 55, 52, 55, 53, 55, 54, 55, 55, 55, 56, 55, 57, 56, 48, 56, 49, 56, 50, 56, 51, 56, 52, 56, 53, 56, 54, 56, 55, 56, 56, 56, 57, 57, 48, 57, 49, 57, 50, 57, 51, 57, 52, 57, 53, 57, 54, 57, 55, 57, 56, 57, 57]⟩)) (.tmp 75))), none⟩
(.take (t_m 77 11)
(.take ⟨(some 78), (.pure (.sidx (.const (.string ⟨#[48, 48, 48, 49, 48, 50, 48, 51, 48, 52, 48, 53, 48, 54, 48, 55, 48, 56, 48, 57, 49, 48, 49, 49, 49, 50, 49, 51, 49, 52, 49, 53, 49, 54, 49, 55, 49, 56, 49, 57, 50, 48, 50, 49, 50, 50, 50, 51, 50, 52, 50, 53, 50, 54, 50, 55, 50, 56, 50, 57, 51, 48, 51, 49, 51, 50, 51, 51, 51, 52, 51, 53, 51, 54, 51, 55, 51, 56, 51, 57, 52, 48, 52, 49, 52, 50, 52, 51, 52, 52, 52, 53, 52, 54, 52, 55, 52, 56, 52, 57, 53, 48, 53, 49, 53, 50, 53, 51, 53, 52, 53, 53, 53, 54, 53, 55, 53, 56, 53, 57, 54, 48, 54, 49, 54, 50, 54, 51, 54, 52, 54, 53, 54, 54, 54, 55, 54, 56, 54, 57, 55, 48, 55, 49, 55, 50, 55, 51, 55, 52, 55, 53, 55, 54, 55, 55, 55, 56, 55, 57, 56, 48, 56, 49, 56, 50, 56, 51, 56, 52, 56, 53, 56, 54, 56, 55, 56, 56, 56, 57, 57, 48, 57, 49, 57, 50, 57, 51, 57, 52, 57, 53, 57, 54, 57, 55, 57, 56, 57, 57]⟩)) (.tmp 77))), none⟩
(.take (t_p 79 (.idx 1 (.tmp 68) (.tmp 70)))
(.only true ⟨none, (.eff (.store 1 (.tmp 79) (.tmp 76))), none⟩
(.take (t_p 80 (.idx 1 (.tmp 71) (.tmp 73)))
(.only true ⟨none, (.eff (.store 1 (.tmp 80) (.tmp 78))), none⟩
(.done)))))))))))))))))
(.seq (.draw false
(.take (t_m 81 0)
(.take (t_m 82 4)
(.take (t_p 83 (.bin .sub (.tmp 82) (.const (.int .i64 (7)))))
(.take (t_m 84 0)
(.take (t_m 85 4)
(.take (t_p 86 (.bin .sub (.tmp 85) (.const (.int .i64 (8)))))
(.take (t_m 87 10)
(.take (t_p 88 (.bin .add (.tmp 87) (.const (.int .u32 (1)))))
(.take ⟨(some 89), (.pure (.sidx (.const (.string ⟨#[48, 48, 48, 49, 48, 50, 48, 51, 48, 52, 48, 53, 48, 54, 48, 55, 48, 56, 48, 57, 49, 48, 49, 49, 49, 50, 49, 51, 49, 52, 49, 53, 49, 54, 49, 55, 49, 56, 49, 57, 50, 48, 50, 49, 50, 50, 50, 51, 50, 52, 50, 53, 50, 54, 50, 55, 50, 56, 50, 57, 51, 48, 51, 49, 51, 50, 51, 51, 51, 52, 51, 53, 51, 54, 51, 55, 51, 56, 51, 57, 52, 48, 52, 49, 52, 50, 52, 51, 52, 52, 52, 53, 52, 54, 52, 55, 52, 56, 52, 57, 53, 48, 53, 49, 53, 50, 53, 51, 53, 52, 53, 53, 53, 54, 53, 55, 53, 56, 53, 57, 54, 48, 54, 49, 54, 50, 54, 51, 54, 52, 54, 53, 54, 54, 54, 55, 54, 56, 54, 57, 55, 48, 55, 49, 55, 50, 55, 51, 55, 52, 55, 53, 55, 54, 55, 55, 55, 56, 55, 57, 56, 48, 56, 49, 56, 50, 56, 51, 56, 52, 56, 53, 56, 54, 56, 55, 56, 56, 56, 57, 57, 48, 57, 49, 57, 50, 57, 51, 57, 52, 57, 53, 57, 54, 57, 55, 57, 56, 57, 57]⟩)) (.tmp 88))), none⟩
(.take (t_m 90 10)
(.take ⟨(some 91), (.pure (.sidx (.const (.string ⟨#[48, 48, 48, 49, 48, 50, 48, 51, 48, 52, 48, 53, 48, 54, 48, 55, 48, 56, 48, 57, 49, 48, 49, 49, 49, 50, 49, 51, 49, 52, 49, 53, 49, 54, 49, 55, 49, 56, 49, 57, 50, 48, 50, 49, 50, 50, 50, 51, 50, 52, 50, 53, 50, 54, 50, 55, 50, 56, 50, 57, 51, 48, 51, 49, 51, 50, 51, 51, 51, 52, 51, 53, 51, 54, 51, 55, 51, 56, 51, 57, 52, 48, 52, 49, 52, 50, 52, 51, 52, 52, 52, 53, 52, 54, 52, 55, 52, 56, 52, 57, 53, 48, 53, 49, 53, 50, 53, 51, 53, 52, 53, 53, 53, 54, 53, 55, 53, 56, 53, 57, 54, 48, 54, 49, 54, 50, 54, 51, 54, 52, 54, 53, 54, 54, 54, 55, 54, 56, 54, 57, 55, 48, 55, 49, 55, 50, 55, 51, 55, 52, 55, 53, 55, 54, 55, 55, 55, 56, 55, 57, 56, 48, 56, 49, 56, 50, 56, 51, 56, 52, 56, 53, 56, 54, 56, 55, 56, 56, 56, 57, 57, 48, 57, 49, 57, 50, 57, 51, 57, 52, 57, 53, 57, 54, 57, 55, 57, 56, 57, 57]⟩)) (.tmp 90))), none⟩
(.take (t_p 92 (.idx 1 (.tmp 81) (.tmp 83)))
(.only true ⟨none, (.eff (.store 1 (.tmp 92) (.tmp 89))), none⟩
(.take (t_p 93 (.idx 1 (.tmp 84) (.tmp 86)))
(.only true ⟨none, (.eff (.store 1 (.tmp 93) (.tmp 91))), none⟩
(.done)))))))))))))))))
(.ops [ o_m 94 4, o_p 95 (.bin .sub (.tmp 94) (.const (.int .i64 (8)))), o_m 4 95]))))))))))))))
(.seq (.ops [ o_m 96 1, o_p 97 (.conv .u32 (.tmp 96)), o_m 12 97])
(.seq (.seq (.ops [ o_m 98 4, o_p 99 (.bin .geq (.tmp 98) (.const (.int .i64 (4))))])
(.cond (.tmp 99)
(.seq (.ops [ o_m 100 12, o_p 101 (.bin .rem (.tmp 100) (.const (.int .u32 (10000)))), o_m 13 101])
(.seq (.ops [ o_m 102 12, o_p 103 (.bin .quo (.tmp 102) (.const (.int .u32 (10000)))), o_m 12 103])
(.seq (.ops [ o_m 104 13, o_p 105 (.bin .quo (.tmp 104) (.const (.int .u32 (100)))), o_p 106 (.bin .mul (.tmp 105) (.const (.int .u32 (2)))), o_m 107 13, o_p 108 (.bin .rem (.tmp 107) (.const (.int .u32 (100)))), o_p 109 (.bin .mul (.tmp 108) (.const (.int .u32 (2)))), o_m 14 106, o_m 15 109])
(.seq (.draw false
(.take (t_m 110 0)
(.take (t_m 111 4)
(.take (t_p 112 (.bin .sub (.tmp 111) (.const (.int .i64 (1)))))
(.take (t_m 113 0)
(.take (t_m 114 4)
(.take (t_p 115 (.bin .sub (.tmp 114) (.const (.int .i64 (2)))))
(.take (t_m 116 15)
(.take (t_p 117 (.bin .add (.tmp 116) (.const (.int .u32 (1)))))
(.take ⟨(some 118), (.pure (.sidx (.const (.string ⟨#[48, 48, 48, 49, 48, 50, 48, 51, 48, 52, 48, 53, 48, 54, 48, 55, 48, 56, 48, 57, 49, 48, 49, 49, 49, 50, 49, 51, 49, 52, 49, 53, 49, 54, 49, 55, 49, 56, 49, 57, 50, 48, 50, 49, 50, 50, 50, 51, 50, 52, 50, 53, 50, 54, 50, 55, 50, 56, 50, 57, 51, 48, 51, 49, 51, 50, 51, 51, 51, 52, 51, 53, 51, 54, 51, 55, 51, 56, 51, 57, 52, 48, 52, 49, 52, 50, 52, 51, 52, 52, 52, 53, 52, 54, 52, 55, 52, 56, 52, 57, 53, 48, 53, 49, 53, 50, 53, 51, 53, 52, 53, 53, 53, 54, 53, 55, 53, 56, 53, 57, 54, 48, 54, 49, 54, 50, 54, 51, 54, 52, 54, 53, 54, 54, 54, 55, 54, 56, 54, 57, 55, 48, 55, 49, 55, 50, 55, 51, 55, 52, 55, 53, 55, 54, 55, 55, 55, 56, 55, 57, 56, 48, 56, 49, 56, 50, 56, 51, 56, 52, 56, 53, 56, 54, 56, 55, 56, 56, 56, 57, 57, 48, 57, 49, 57, 50, 57, 51, 57, 52, 57, 53, 57, 54, 57, 55, 57, 56, 57, 57]⟩)) (.tmp 117))), none⟩
(.take (t_m 119 15)
(.take ⟨(some 120), (.pure (.sidx (.const (.string ⟨#[48, 48, 48, 49, 48, 50, 48, 51, 48, 52, 48, 53, 48, 54, 48, 55, 48, 56, 48, 57, 49, 48, 49, 49, 49, 50, 49, 51, 49, 52, 49, 53, 49, 54, 49, 55, 49, 56, 49, 57, 50, 48, 50, 49, 50, 50, 50, 51, 50, 52, 50, 53, 50, 54, 50, 55, 50, 56, 50, 57, 51, 48, 51, 49, 51, 50, 51, 51, 51, 52, 51, 53, 51, 54, 51, 55, 51, 56, 51, 57, 52, 48, 52, 49, 52, 50, 52, 51, 52, 52, 52, 53, 52, 54, 52, 55, 52, 56, 52, 57, 53, 48, 53, 49, 53, 50, 53, 51, 53, 52, 53, 53, 53, 54, 53, 55, 53, 56, 53, 57, 54, 48, 54, 49, 54, 50, 54, 51, 54, 52, 54, 53, 54, 54, 54, 55, 54, 56, 54, 57, 55, 48, 55, 49, 55, 50, 55, 51, 55, 52, 55, 53, 55, 54, 55, 55, 55, 56, 55, 57, 56, 48, 56, 49, 56, 50, 56, 51, 56, 52, 56, 53, 56, 54, 56, 55, 56, 56, 56, 57, 57, 48, 57, 49, 57, 50, 57, 51, 57, 52, 57, 53, 57, 54, 57, 55, 57, 56, 57, 57]⟩)) (.tmp 119))), none⟩
(.take (t_p 121 (.idx 1 (.tmp 110) (.tmp 112)))
(.only true ⟨none, (.eff (.store 1 (.tmp 121) (.tmp 118))), none⟩
(.take (t_p 122 (.idx 1 (.tmp 113) (.tmp 115)))
(.only true ⟨none, (.eff (.store 1 (.tmp 122) (.tmp 120))), none⟩
(.done)))))))))))))))))
(.seq (.draw false
(.take (t_m 123 0)
(.take (t_m 124 4)
(.take (t_p 125 (.bin .sub (.tmp 124) (.const (.int .i64 (3)))))
(.take (t_m 126 0)
(.take (t_m 127 4)
(.take (t_p 128 (.bin .sub (.tmp 127) (.const (.int .i64 (4)))))
(.take (t_m 129 14)
(.take (t_p 130 (.bin .add (.tmp 129) (.const (.int .u32 (1)))))
(.take ⟨(some 131), (.pure (.sidx (.const (.string ⟨#[48, 48, 48, 49, 48, 50, 48, 51, 48, 52, 48, 53, 48, 54, 48, 55, 48, 56, 48, 57, 49, 48, 49, 49, 49, 50, 49, 51, 49, 52, 49, 53, 49, 54, 49, 55, 49, 56, 49, 57, 50, 48, 50, 49, 50, 50, 50, 51, 50, 52, 50, 53, 50, 54, 50, 55, 50, 56, 50, 57, 51, 48, 51, 49, 51, 50, 51, 51, 51, 52, 51, 53, 51, 54, 51, 55, 51, 56, 51, 57, 52, 48, 52, 49, 52, 50, 52, 51, 52, 52, 52, 53, 52, 54, 52, 55, 52, 56, 52, 57, 53, 48, 53, 49, 53, 50, 53, 51, 53, 52, 53, 53, 53, 54, 53, 55, 53, 56, 53, 57, 54, 48, 54, 49, 54, 50, 54, 51, 54, 52, 54, 53, 54, 54, 54, 55, 54, 56, 54, 57, 55, 48, 55, 49, 55, 50, 55, 51, 55, 52, 55, 53, 55, 54, 55, 55, 55, 56, 55, 57, 56, 48, 56, 49, 56, 50, 56, 51, 56, 52, 56, 53, 56, 54, 56, 55, 56, 56, 56, 57, 57, 48, 57, 49, 57, 50, 57, 51, 57, 52, 57, 53, 57, 54, 57, 55, 57, 56, 57, 57]⟩)) (.tmp 130))), none⟩
(.take (t_m 132 14)
(.take ⟨(some 133), (.pure (.sidx (.const (.string ⟨#[48, 48, 48, 49, 48, 50, 48, 51, 48, 52, 48, 53, 48, 54, 48, 55, 48, 56, 48, 57, 49, 48, 49, 49, 49, 50, 49, 51, 49, 52, 49, 53, 49, 54, 49, 55, 49, 56, 49, 57, 50, 48, 50, 49, 50, 50, 50, 51, 50, 52, 50, 53, 50, 54, 50, 55, 50, 56, 50, 57, 51, 48, 51, 49, 51, 50, 51, 51, 51, 52, 51, 53, 51, 54, 51, 55, 51, 56, 51, 57, 52, 48, 52, 49, 52, 50, 52, 51, 52, 52, 52, 53, 52, 54, 52, 55, 52, 56, 52, 57, 53, 48, 53, 49, 53, 50, 53, 51, 53, 52, 53, 53, 53, 54, 53, 55, 53, 56, 53, 57, 54, 48, 54, 49, 54, 50, 54, 51, 54, 52, 54, 53, 54, 54, 54, 55, 54, 56, 54, 57, 55, 48, 55, 49, 55, 50, 55, 51, 55, 52, 55, 53, 55, 54, 55, 55, 55, 56, 55, 57, 56, 48, 56, 49, 56, 50, 56, 51, 56, 52, 56, 53, 56, 54, 56, 55, 56, 56, 56, 57, 57, 48, 57, 49, 57, 50, 57, 51, 57, 52, 57, 53, 57, 54, 57, 55, 57, 56, 57, 57]⟩)) (.tmp 132))), none⟩
(.take (t_p 134 (.idx 1 (.tmp 123) (.tmp 125)))
(.only true ⟨none, (.eff (.store 1 (.tmp 134) (.tmp 131))), none⟩
(.take (t_p 135 (.idx 1 (.tmp 126) (.tmp 128)))
(.only true ⟨none, (.eff (.store 1 (.tmp 135) (.tmp 133))), none⟩
(.done)))))))))))))))))
(.ops [ o_m 136 4, o_p 137 (.bin .sub (.tmp 136) (.const (.int .i64 (4)))), o_m 4 137]))))))
(.skip)))
(.seq (.seq (.ops [ o_m 138 4, o_p 139 (.bin .geq (.tmp 138) (.const (.int .i64 (2))))])
(.cond (.tmp 139)
(.seq (.ops [ o_m 140 12, o_p 141 (.bin .rem (.tmp 140) (.const (.int .u32 (100)))), o_p 142 (.bin .mul (.tmp 141) (.const (.int .u32 (2)))), o_m 16 142])
(.seq (.ops [ o_m 143 12, o_p 144 (.bin .quo (.tmp 143) (.const (.int .u32 (100)))), o_m 12 144])
(.seq (.draw false
(.take (t_m 145 0)
(.take (t_m 146 4)
(.take (t_p 147 (.bin .sub (.tmp 146) (.const (.int .i64 (1)))))
(.take (t_m 148 0)
(.take (t_m 149 4)
(.take (t_p 150 (.bin .sub (.tmp 149) (.const (.int .i64 (2)))))
(.take (t_m 151 16)
(.take (t_p 152 (.bin .add (.tmp 151) (.const (.int .u32 (1)))))
(.take ⟨(some 153), (.pure (.sidx (.const (.string ⟨#[48, 48, 48, 49, 48, 50, 48, 51, 48, 52, 48, 53, 48, 54, 48, 55, 48, 56, 48, 57, 49, 48, 49, 49, 49, 50, 49, 51, 49, 52, 49, 53, 49, 54, 49, 55, 49, 56, 49, 57, 50, 48, 50, 49, 50, 50, 50, 51, 50, 52, 50, 53, 50, 54, 50, 55, 50, 56, 50, 57, 51, 48, 51, 49, 51, 50, 51, 51, 51, 52, 51, 53, 51, 54, 51, 55, 51, 56, 51, 57, 52, 48, 52, 49, 52, 50, 52, 51, 52, 52, 52, 53, 52, 54, 52, 55, 52, 56, 52, 57, 53, 48, 53, 49, 53, 50, 53, 51, 53, 52, 53, 53, 53, 54, 53, 55, 53, 56, 53, 57, 54, 48, 54, 49, 54, 50, 54, 51, 54, 52, 54, 53, 54, 54, 54, 55, 54, 56, 54, 57, 55, 48, 55, 49, 55, 50, 55, 51, 55, 52, 55, 53, 55, 54, 55, 55, 55, 56, 55, 57, 56, 48, 56, 49, 56, 50, 56, 51, 56, 52, 56, 53, 56, 54, 56, 55, 56, 56, 56, 57, 57, 48, 57, 49, 57, 50, 57, 51, 57, 52, 57, 53, 57, 54, 57, 55, 57, 56, 57, 57]⟩)) (.tmp 152))), none⟩
(.take (t_m 154 16)
(.take ⟨(some 155), (.pure (.sidx (.const (.string ⟨#[48, 48, 48, 49, 48, 50, 48, 51, 48, 52, 48, 53, 48, 54, 48, 55, 48, 56, 48, 57, 49, 48, 49, 49, 49, 50, 49, 51, 49, 52, 49, 53, 49, 54, 49, 55, 49, 56, 49, 57, 50, 48, 50, 49, 50, 50, 50, 51, 50, 52, 50, 53, 50, 54, 50, 55, 50, 56, 50, 57, 51, 48, 51, 49, 51, 50, 51, 51, 51, 52, 51, 53, 51, 54, 51, 55, 51, 56, 51, 57, 52, 48, 52, 49, 52, 50, 52, 51, 52, 52, 52, 53, 52, 54, 52, 55, 52, 56, 52, 57, 53, 48, 53, 49, 53, 50, 53, 51, 53, 52, 53, 53, 53, 54, 53, 55, 53, 56, 53, 57, 54, 48, 54, 49, 54, 50, 54, 51, 54, 52, 54, 53, 54, 54, 54, 55, 54, 56, 54, 57, 55, 48, 55, 49, 55, 50, 55, 51, 55, 52, 55, 53, 55, 54, 55, 55, 55, 56, 55, 57, 56, 48, 56, 49, 56, 50, 56, 51, 56, 52, 56, 53, 56, 54, 56, 55, 56, 56, 56, 57, 57, 48, 57, 49, 57, 50, 57, 51, 57, 52, 57, 53, 57, 54, 57, 55, 57, 56, 57, 57]⟩)) (.tmp 154))), none⟩
(.take (t_p 156 (.idx 1 (.tmp 145) (.tmp 147)))
(.only true ⟨none, (.eff (.store 1 (.tmp 156) (.tmp 153))), none⟩
(.take (t_p 157 (.idx 1 (.tmp 148) (.tmp 150)))
(.only true ⟨none, (.eff (.store 1 (.tmp 157) (.tmp 155))), none⟩
(.done)))))))))))))))))
(.ops [ o_m 158 4, o_p 159 (.bin .sub (.tmp 158) (.const (.int .i64 (2)))), o_m 4 159]))))
(.skip)))
(.seq (.ops [ o_m 160 4, o_p 161 (.bin .gtr (.tmp 160) (.const (.int .i64 (0))))])
(.cond (.tmp 161)
(.ops [ o_m 162 0, o_m 163 12, o_p 164 (.bin .add (.const (.int .u32 (48))) (.tmp 163)), o_p 165 (.conv .u8 (.tmp 164)), o_p 166 (.idx 1 (.tmp 162) (.const (.int .i64 (0)))),
.op ⟨none, (.eff (.store 1 (.tmp 166) (.tmp 165))), none⟩])
(.skip))))))),
[]⟩
theorem r_internal_strconv_formatBase10 : resFun Tryd.prog f_internal_strconv_formatBase10 = some c_internal_strconv_formatBase10 := by kernel_rfl
end Go.Proofs.YtbikhpphdhffaabDoor
