/- The code of this seat's functions, resolved, written by a program of mine; each is held against the given program by the kernel. Condition: none. -/
import Derived.Test.YtjmcijcdncgaiaaProg
import Derived.Test.YtjmcijcdncgaiaaBase9
import Derived.KernelRfl
namespace Go.Proofs.Ytjmcijcdncgaiaa
open Go.Vc

/- loop.example/g00940/laws.FnExactIsPacket -/
abbrev f_laws_FnExactIsPacket : Nat := 3
def c_laws_FnExactIsPacket : MFun := ⟨27, .seq (.ops [
.op ⟨(some 1), (.eff (.box 24 (.tmp 0))), none⟩,
.op ⟨(some 2), (.pure (.mv (.const (.bool false)))), none⟩])
(.seq (.ops [
.op ⟨(some 3), (.pure (.mv (.const (.int .i64 (1048576))))), none⟩])
(.seq (.ops [
.op ⟨(some 7), (.load (some 4) (.tmp 1)), none⟩,
.op ⟨(some 8), (.pure (.mv (.tmp 3))), none⟩,
.op ⟨(some 9), (.eff (.call 13 [(.tmp 7), (.tmp 8)])), none⟩,
.op ⟨(some 3), (.pure (.mv (.tmp 9))), none⟩])
(.seq (.seq (.ops [
.op ⟨(some 10), (.pure (.mv (.tmp 3))), none⟩,
.op ⟨(some 11), (.pure (.bin .lss (.tmp 10) (.const (.int .i64 (0))))), none⟩])
(.cond (.tmp 11)
(.seq (.ops [
.op ⟨(some 2), (.pure (.mv (.const (.bool true)))), none⟩])
(.ret))
(.skip)))
(.seq (.ops [
.op ⟨(some 12), (.load (some 4) (.tmp 1)), none⟩,
.op ⟨(some 13), (.eff (.call 15 [(.tmp 12)])), none⟩,
.op ⟨(some 14), (.eff (.call 14 [(.tmp 13)])), none⟩,
.op ⟨(some 4), (.pure (.mv (.tmp 14))), none⟩])
(.seq (.ops [
.op ⟨(some 15), (.load (some 4) (.tmp 1)), none⟩,
.op ⟨(some 16), (.eff (.call 15 [(.tmp 15)])), none⟩,
.op ⟨(some 5), (.eff (.new 27 [(.int .i64 (0)), (.int .i64 (0)), (.int .i64 (0)), (.slice none 0 0)])), none⟩,
.op ⟨none, (.eff (.store 4 (.tmp 5) (.tmp 16))), none⟩])
(.seq (.ops [
.op ⟨(some 17), (.load (some 4) (.tmp 5)), none⟩,
.op ⟨(some 18), (.eff (.call 16 [(.tmp 17)])), none⟩,
.op ⟨(some 6), (.pure (.mv (.tmp 18))), none⟩])
(.seq (.seq (.ops [
.op ⟨(some 19), (.pure (.mv (.tmp 6))), none⟩,
.op ⟨(some 20), (.pure (.mv (.tmp 4))), none⟩,
.op ⟨(some 21), (.pure (.eqb true (.tmp 19) (.tmp 20))), none⟩])
(.cond (.tmp 21)
(.seq (.ops [
.op ⟨(some 2), (.pure (.mv (.const (.bool false)))), none⟩])
(.ret))
(.skip)))
(.seq (.seq (.draw true
(.only false ⟨(some 23), (.load (some 4) (.tmp 1)), none⟩
(.take ⟨(some 22), (.load (some 4) (.tmp 5)), none⟩
(.only false ⟨(some 24), (.eff (.call 15 [(.tmp 23)])), none⟩
(.only true ⟨(some 25), (.eff (.call 17 [(.tmp 22), (.tmp 24)])), none⟩
(.take ⟨(some 26), (.pure (.bnot (.tmp 25))), none⟩
(.done)))))))
(.cond (.tmp 26)
(.seq (.ops [
.op ⟨(some 2), (.pure (.mv (.const (.bool false)))), none⟩])
(.ret))
(.skip)))
(.seq (.ops [
.op ⟨(some 2), (.pure (.mv (.const (.bool true)))), none⟩])
(.ret)))))))))),
[.tmp 2]⟩
theorem r_laws_FnExactIsPacket : resFun Try.prog f_laws_FnExactIsPacket = some c_laws_FnExactIsPacket := by kernel_rfl

/- loop.example/g00940/laws.FnExactArePackets -/
abbrev f_laws_FnExactArePackets : Nat := 4
def c_laws_FnExactArePackets : MFun := ⟨27, .seq (.ops [
.op ⟨(some 2), (.pure (.mv (.const (.bool false)))), none⟩])
(.seq (.ops [
.op ⟨(some 3), (.pure (.mv (.const (.int .i64 (1048576))))), none⟩])
(.seq (.ops [
.op ⟨(some 7), (.pure (.mv (.tmp 0))), none⟩,
.op ⟨(some 8), (.pure (.mv (.tmp 3))), none⟩,
.op ⟨(some 9), (.eff (.call 18 [(.tmp 7), (.tmp 8)])), none⟩,
.op ⟨(some 3), (.pure (.mv (.tmp 9))), none⟩])
(.seq (.seq (.ops [
.op ⟨(some 10), (.pure (.mv (.tmp 3))), none⟩,
.op ⟨(some 11), (.pure (.bin .lss (.tmp 10) (.const (.int .i64 (0))))), none⟩])
(.cond (.tmp 11)
(.seq (.ops [
.op ⟨(some 2), (.pure (.mv (.const (.bool true)))), none⟩])
(.ret))
(.skip)))
(.seq (.ops [
.op ⟨(some 12), (.pure (.mv (.tmp 0))), none⟩,
.op ⟨(some 13), (.eff (.call 20 [(.tmp 12)])), none⟩,
.op ⟨(some 14), (.eff (.call 19 [(.tmp 13)])), none⟩,
.op ⟨(some 4), (.pure (.mv (.tmp 14))), none⟩])
(.seq (.ops [
.op ⟨(some 15), (.pure (.mv (.tmp 0))), none⟩,
.op ⟨(some 16), (.eff (.call 20 [(.tmp 15)])), none⟩,
.op ⟨(some 5), (.pure (.mv (.tmp 16))), none⟩])
(.seq (.ops [
.op ⟨(some 17), (.pure (.mv (.tmp 5))), none⟩,
.op ⟨(some 18), (.eff (.call 21 [(.tmp 17)])), none⟩,
.op ⟨(some 6), (.pure (.mv (.tmp 18))), none⟩])
(.seq (.seq (.ops [
.op ⟨(some 19), (.pure (.mv (.tmp 6))), none⟩,
.op ⟨(some 20), (.pure (.mv (.tmp 4))), none⟩,
.op ⟨(some 21), (.pure (.eqb true (.tmp 19) (.tmp 20))), none⟩])
(.cond (.tmp 21)
(.seq (.ops [
.op ⟨(some 2), (.pure (.mv (.const (.bool false)))), none⟩])
(.ret))
(.skip)))
(.seq (.seq (.ops [
.op ⟨(some 22), (.pure (.mv (.tmp 5))), none⟩,
.op ⟨(some 23), (.pure (.mv (.tmp 0))), none⟩,
.op ⟨(some 24), (.eff (.call 20 [(.tmp 23)])), none⟩,
.op ⟨(some 25), (.eff (.call 22 [(.tmp 22), (.tmp 24)])), none⟩,
.op ⟨(some 26), (.pure (.bnot (.tmp 25))), none⟩])
(.cond (.tmp 26)
(.seq (.ops [
.op ⟨(some 2), (.pure (.mv (.const (.bool false)))), none⟩])
(.ret))
(.skip)))
(.seq (.ops [
.op ⟨(some 2), (.pure (.mv (.const (.bool true)))), none⟩])
(.ret)))))))))),
[.tmp 2]⟩
theorem r_laws_FnExactArePackets : resFun Try.prog f_laws_FnExactArePackets = some c_laws_FnExactArePackets := by kernel_rfl

/- loop.example/g00940/laws.FnExactSplitMessage -/
abbrev f_laws_FnExactSplitMessage : Nat := 6
def c_laws_FnExactSplitMessage : MFun := ⟨103, .seq (.ops [
.op ⟨(some 6), (.pure (.mv (.const (.bool false)))), none⟩])
(.seq (.seq (.ops [
.op ⟨(some 17), (.pure (.mv (.tmp 1))), none⟩,
.op ⟨(some 18), (.pure (.len (.tmp 17))), none⟩,
.op ⟨(some 19), (.pure (.bin .gtr (.tmp 18) (.const (.int .i64 (1048576))))), none⟩])
(.cond (.tmp 19)
(.seq (.ops [
.op ⟨(some 6), (.pure (.mv (.const (.bool true)))), none⟩])
(.ret))
(.skip)))
(.seq (.ops [
.op ⟨(some 21), (.pure (.mv (.tmp 0))), none⟩,
.op ⟨(some 22), (.pure (.mv (.tmp 1))), none⟩,
.op ⟨(some 23), (.eff (.call 40 [(.tmp 22)])), none⟩,
.op ⟨(some 24), (.pure (.mv (.tmp 2))), none⟩,
.op ⟨(some 25), (.eff (.call 39 [(.tmp 21), (.tmp 23), (.tmp 24)])), none⟩,
.op ⟨(some 20), (.pure (.mv (.tmp 25))), none⟩,
.op ⟨(some 26), (.pure (.ext 0 (.tmp 20))), none⟩,
.op ⟨(some 27), (.pure (.ext 1 (.tmp 20))), none⟩,
.op ⟨(some 7), (.pure (.mv (.tmp 26))), none⟩,
.op ⟨(some 8), (.pure (.mv (.tmp 27))), none⟩])
(.seq (.ops [
.op ⟨(some 28), (.pure (.mv (.tmp 1))), none⟩,
.op ⟨(some 29), (.eff (.call 40 [(.tmp 28)])), none⟩,
.op ⟨(some 9), (.pure (.mv (.tmp 29))), none⟩])
(.seq (.ops [
.op ⟨(some 31), (.pure (.mv (.tmp 0))), none⟩,
.op ⟨(some 32), (.pure (.mv (.tmp 9))), none⟩,
.op ⟨(some 33), (.pure (.mv (.tmp 2))), none⟩,
.op ⟨(some 34), (.eff (.call 41 [(.tmp 31), (.tmp 32), (.tmp 33)])), none⟩,
.op ⟨(some 30), (.pure (.mv (.tmp 34))), none⟩,
.op ⟨(some 35), (.pure (.ext 0 (.tmp 30))), none⟩,
.op ⟨(some 36), (.pure (.ext 1 (.tmp 30))), none⟩,
.op ⟨(some 10), (.pure (.mv (.tmp 35))), none⟩,
.op ⟨(some 11), (.pure (.mv (.tmp 36))), none⟩])
(.seq (.seq (.ops [
.op ⟨(some 37), (.pure (.mv (.tmp 10))), none⟩,
.op ⟨(some 38), (.pure (.mv (.tmp 7))), none⟩,
.op ⟨(some 39), (.eff (.call 22 [(.tmp 37), (.tmp 38)])), none⟩,
.op ⟨(some 40), (.pure (.bnot (.tmp 39))), none⟩,
.op ⟨(some 41), (.pure (.mv (.tmp 40))), none⟩,
.split 41,
.op ⟨(some 42), (.pure (.mv (.tmp 11))), (some (41, false))⟩,
.op ⟨(some 43), (.pure (.mv (.tmp 8))), (some (41, false))⟩,
.op ⟨(some 44), (.pure (.eqb true (.tmp 42) (.tmp 43))), (some (41, false))⟩,
.op ⟨(some 45), (.pure (.pick (.tmp 41) (.const (.bool true)) (.tmp 44))), none⟩])
(.cond (.tmp 45)
(.seq (.ops [
.op ⟨(some 6), (.pure (.mv (.const (.bool false)))), none⟩])
(.ret))
(.skip)))
(.seq (.seq (.ops [
.op ⟨(some 46), (.pure (.mv (.tmp 9))), none⟩,
.op ⟨(some 47), (.pure (.mv (.tmp 1))), none⟩,
.op ⟨(some 48), (.eff (.call 40 [(.tmp 47)])), none⟩,
.op ⟨(some 49), (.eff (.call 42 [(.tmp 46), (.tmp 48)])), none⟩,
.op ⟨(some 50), (.pure (.bnot (.tmp 49))), none⟩])
(.cond (.tmp 50)
(.seq (.ops [
.op ⟨(some 6), (.pure (.mv (.const (.bool false)))), none⟩])
(.ret))
(.skip)))
(.seq (.ops [
.op ⟨(some 12), (.pure (.mv (.const (.int .i64 (1))))), none⟩])
(.seq (.ops [
.op ⟨(some 51), (.pure (.mv (.tmp 9))), none⟩,
.op ⟨(some 52), (.pure (.mv (.tmp 12))), none⟩,
.op ⟨(some 53), (.eff (.call 43 [(.tmp 51), (.tmp 52)])), none⟩,
.op ⟨(some 12), (.pure (.mv (.tmp 53))), none⟩])
(.seq (.seq (.ops [
.op ⟨(some 54), (.pure (.mv (.tmp 12))), none⟩,
.op ⟨(some 55), (.pure (.bin .lss (.tmp 54) (.const (.int .i64 (0))))), none⟩,
.op ⟨(some 56), (.pure (.mv (.tmp 55))), none⟩,
.split 56,
.op ⟨(some 57), (.pure (.mv (.tmp 10))), (some (56, false))⟩,
.op ⟨(some 58), (.pure (.mv (.tmp 7))), (some (56, false))⟩,
.op ⟨(some 59), (.eff (.call 22 [(.tmp 57), (.tmp 58)])), (some (56, false))⟩,
.op ⟨(some 60), (.pure (.bnot (.tmp 59))), (some (56, false))⟩,
.op ⟨(some 61), (.pure (.pick (.tmp 56) (.const (.bool true)) (.tmp 60))), none⟩,
.op ⟨(some 62), (.pure (.mv (.tmp 61))), none⟩,
.split 62,
.op ⟨(some 63), (.pure (.mv (.tmp 11))), (some (62, false))⟩,
.op ⟨(some 64), (.pure (.mv (.tmp 8))), (some (62, false))⟩,
.op ⟨(some 65), (.pure (.eqb true (.tmp 63) (.tmp 64))), (some (62, false))⟩,
.op ⟨(some 66), (.pure (.pick (.tmp 62) (.const (.bool true)) (.tmp 65))), none⟩])
(.cond (.tmp 66)
(.seq (.ops [
.op ⟨(some 6), (.pure (.mv (.const (.bool false)))), none⟩])
(.ret))
(.skip)))
(.seq (.ops [
.op ⟨(some 13), (.pure (.mv (.const (.int .i64 (1))))), none⟩])
(.seq (.ops [
.op ⟨(some 67), (.pure (.mv (.tmp 10))), none⟩,
.op ⟨(some 68), (.pure (.mv (.tmp 13))), none⟩,
.op ⟨(some 69), (.eff (.call 44 [(.tmp 67), (.tmp 68)])), none⟩,
.op ⟨(some 13), (.pure (.mv (.tmp 69))), none⟩])
(.seq (.ops [
.op ⟨(some 14), (.pure (.mv (.const (.int .i64 (1))))), none⟩])
(.seq (.ops [
.op ⟨(some 70), (.pure (.mv (.tmp 10))), none⟩,
.op ⟨(some 71), (.pure (.mv (.tmp 14))), none⟩,
.op ⟨(some 72), (.eff (.call 45 [(.tmp 70), (.tmp 71)])), none⟩,
.op ⟨(some 14), (.pure (.mv (.tmp 72))), none⟩])
(.seq (.seq (.ops [
.op ⟨(some 73), (.pure (.mv (.tmp 14))), none⟩,
.op ⟨(some 74), (.pure (.bin .lss (.tmp 73) (.const (.int .i64 (0))))), none⟩])
(.cond (.tmp 74)
(.seq (.ops [
.op ⟨(some 6), (.pure (.mv (.const (.bool false)))), none⟩])
(.ret))
(.skip)))
(.seq (.seq (.ops [
.op ⟨(some 75), (.pure (.mv (.tmp 14))), none⟩,
.op ⟨(some 76), (.pure (.mv (.tmp 13))), none⟩,
.op ⟨(some 77), (.pure (.bin .neq (.tmp 75) (.tmp 76))), none⟩])
(.cond (.tmp 77)
(.seq (.ops [
.op ⟨(some 6), (.pure (.mv (.const (.bool false)))), none⟩])
(.ret))
(.skip)))
(.seq (.ops [
.op ⟨(some 79), (.pure (.mv (.tmp 0))), none⟩,
.op ⟨(some 80), (.pure (.mv (.tmp 1))), none⟩,
.op ⟨(some 81), (.eff (.call 40 [(.tmp 80)])), none⟩,
.op ⟨(some 82), (.pure (.mv (.tmp 2))), none⟩,
.op ⟨(some 83), (.eff (.call 41 [(.tmp 79), (.tmp 81), (.tmp 82)])), none⟩,
.op ⟨(some 78), (.pure (.mv (.tmp 83))), none⟩,
.op ⟨(some 84), (.pure (.ext 0 (.tmp 78))), none⟩,
.op ⟨(some 85), (.pure (.ext 1 (.tmp 78))), none⟩,
.op ⟨(some 15), (.pure (.mv (.tmp 84))), none⟩,
.op ⟨(some 16), (.pure (.mv (.tmp 85))), none⟩])
(.seq (.seq (.ops [
.op ⟨(some 86), (.pure (.mv (.tmp 15))), none⟩,
.op ⟨(some 87), (.pure (.mv (.tmp 7))), none⟩,
.op ⟨(some 88), (.eff (.call 22 [(.tmp 86), (.tmp 87)])), none⟩,
.op ⟨(some 89), (.pure (.bnot (.tmp 88))), none⟩,
.op ⟨(some 90), (.pure (.mv (.tmp 89))), none⟩,
.split 90,
.op ⟨(some 91), (.pure (.mv (.tmp 16))), (some (90, false))⟩,
.op ⟨(some 92), (.pure (.mv (.tmp 8))), (some (90, false))⟩,
.op ⟨(some 93), (.pure (.eqb true (.tmp 91) (.tmp 92))), (some (90, false))⟩,
.op ⟨(some 94), (.pure (.pick (.tmp 90) (.const (.bool true)) (.tmp 93))), none⟩])
(.cond (.tmp 94)
(.seq (.ops [
.op ⟨(some 6), (.pure (.mv (.const (.bool false)))), none⟩])
(.ret))
(.skip)))
(.seq (.ops [
.op ⟨(some 14), (.pure (.mv (.const (.int .i64 (1))))), none⟩])
(.seq (.ops [
.op ⟨(some 95), (.pure (.mv (.tmp 10))), none⟩,
.op ⟨(some 96), (.pure (.mv (.tmp 14))), none⟩,
.op ⟨(some 97), (.eff (.call 45 [(.tmp 95), (.tmp 96)])), none⟩,
.op ⟨(some 14), (.pure (.mv (.tmp 97))), none⟩])
(.seq (.seq (.ops [
.op ⟨(some 98), (.pure (.mv (.tmp 14))), none⟩,
.op ⟨(some 99), (.pure (.bin .lss (.tmp 98) (.const (.int .i64 (0))))), none⟩])
(.cond (.tmp 99)
(.seq (.ops [
.op ⟨(some 6), (.pure (.mv (.const (.bool false)))), none⟩])
(.ret))
(.skip)))
(.seq (.seq (.ops [
.op ⟨(some 100), (.pure (.mv (.tmp 14))), none⟩,
.op ⟨(some 101), (.pure (.mv (.tmp 13))), none⟩,
.op ⟨(some 102), (.pure (.bin .neq (.tmp 100) (.tmp 101))), none⟩])
(.cond (.tmp 102)
(.seq (.ops [
.op ⟨(some 6), (.pure (.mv (.const (.bool false)))), none⟩])
(.ret))
(.skip)))
(.seq (.ops [
.op ⟨(some 6), (.pure (.mv (.const (.bool true)))), none⟩])
(.ret))))))))))))))))))))))),
[.tmp 6]⟩
theorem r_laws_FnExactSplitMessage : resFun Try.prog f_laws_FnExactSplitMessage = some c_laws_FnExactSplitMessage := by kernel_rfl

/- loop.example/g00940/laws.FnExactConflictsIn -/
abbrev f_laws_FnExactConflictsIn : Nat := 7
def c_laws_FnExactConflictsIn : MFun := ⟨96, .seq (.ops [
.op ⟨(some 2), (.pure (.mv (.const (.bool false)))), none⟩])
(.seq (.ops [
.op ⟨(some 3), (.pure (.mv (.const (.int .i64 (1048576))))), none⟩])
(.seq (.ops [
.op ⟨(some 14), (.pure (.mv (.tmp 0))), none⟩,
.op ⟨(some 15), (.pure (.mv (.tmp 3))), none⟩,
.op ⟨(some 16), (.eff (.call 18 [(.tmp 14), (.tmp 15)])), none⟩,
.op ⟨(some 3), (.pure (.mv (.tmp 16))), none⟩])
(.seq (.seq (.ops [
.op ⟨(some 17), (.pure (.mv (.tmp 3))), none⟩,
.op ⟨(some 18), (.pure (.bin .lss (.tmp 17) (.const (.int .i64 (0))))), none⟩])
(.cond (.tmp 18)
(.seq (.ops [
.op ⟨(some 2), (.pure (.mv (.const (.bool true)))), none⟩])
(.ret))
(.skip)))
(.seq (.ops [
.op ⟨(some 20), (.pure (.mv (.tmp 0))), none⟩,
.op ⟨(some 21), (.eff (.call 20 [(.tmp 20)])), none⟩,
.op ⟨(some 22), (.eff (.call 32 [(.tmp 21)])), none⟩,
.op ⟨(some 19), (.pure (.mv (.tmp 22))), none⟩,
.op ⟨(some 23), (.pure (.ext 0 (.tmp 19))), none⟩,
.op ⟨(some 24), (.pure (.ext 1 (.tmp 19))), none⟩,
.op ⟨(some 4), (.pure (.mv (.tmp 23))), none⟩,
.op ⟨(some 5), (.pure (.mv (.tmp 24))), none⟩])
(.seq (.ops [
.op ⟨(some 25), (.pure (.mv (.tmp 0))), none⟩,
.op ⟨(some 26), (.eff (.call 20 [(.tmp 25)])), none⟩,
.op ⟨(some 6), (.pure (.mv (.tmp 26))), none⟩])
(.seq (.ops [
.op ⟨(some 28), (.pure (.mv (.tmp 6))), none⟩,
.op ⟨(some 29), (.eff (.call 31 [(.tmp 28)])), none⟩,
.op ⟨(some 27), (.pure (.mv (.tmp 29))), none⟩,
.op ⟨(some 30), (.pure (.ext 0 (.tmp 27))), none⟩,
.op ⟨(some 31), (.pure (.ext 1 (.tmp 27))), none⟩,
.op ⟨(some 7), (.pure (.mv (.tmp 30))), none⟩,
.op ⟨(some 8), (.pure (.mv (.tmp 31))), none⟩])
(.seq (.seq (.ops [
.op ⟨(some 32), (.pure (.mv (.tmp 7))), none⟩,
.op ⟨(some 33), (.pure (.mv (.tmp 4))), none⟩,
.op ⟨(some 34), (.eff (.call 46 [(.tmp 32), (.tmp 33)])), none⟩,
.op ⟨(some 35), (.pure (.bnot (.tmp 34))), none⟩,
.op ⟨(some 36), (.pure (.mv (.tmp 35))), none⟩,
.split 36,
.op ⟨(some 37), (.pure (.mv (.tmp 8))), (some (36, false))⟩,
.op ⟨(some 38), (.pure (.mv (.tmp 5))), (some (36, false))⟩,
.op ⟨(some 39), (.pure (.eqb true (.tmp 37) (.tmp 38))), (some (36, false))⟩,
.op ⟨(some 40), (.pure (.pick (.tmp 36) (.const (.bool true)) (.tmp 39))), none⟩])
(.cond (.tmp 40)
(.seq (.ops [
.op ⟨(some 2), (.pure (.mv (.const (.bool false)))), none⟩])
(.ret))
(.skip)))
(.seq (.seq (.ops [
.op ⟨(some 41), (.pure (.mv (.tmp 6))), none⟩,
.op ⟨(some 42), (.pure (.mv (.tmp 0))), none⟩,
.op ⟨(some 43), (.eff (.call 20 [(.tmp 42)])), none⟩,
.op ⟨(some 44), (.eff (.call 22 [(.tmp 41), (.tmp 43)])), none⟩,
.op ⟨(some 45), (.pure (.bnot (.tmp 44))), none⟩])
(.cond (.tmp 45)
(.seq (.ops [
.op ⟨(some 2), (.pure (.mv (.const (.bool false)))), none⟩])
(.ret))
(.skip)))
(.seq (.ops [
.op ⟨(some 9), (.pure (.mv (.const (.int .i64 (1))))), none⟩])
(.seq (.ops [
.op ⟨(some 46), (.pure (.mv (.tmp 6))), none⟩,
.op ⟨(some 47), (.pure (.mv (.tmp 9))), none⟩,
.op ⟨(some 48), (.eff (.call 44 [(.tmp 46), (.tmp 47)])), none⟩,
.op ⟨(some 9), (.pure (.mv (.tmp 48))), none⟩])
(.seq (.seq (.ops [
.op ⟨(some 49), (.pure (.mv (.tmp 9))), none⟩,
.op ⟨(some 50), (.pure (.bin .lss (.tmp 49) (.const (.int .i64 (0))))), none⟩,
.op ⟨(some 51), (.pure (.mv (.tmp 50))), none⟩,
.split 51,
.op ⟨(some 52), (.pure (.mv (.tmp 7))), (some (51, false))⟩,
.op ⟨(some 53), (.pure (.mv (.tmp 4))), (some (51, false))⟩,
.op ⟨(some 54), (.eff (.call 46 [(.tmp 52), (.tmp 53)])), (some (51, false))⟩,
.op ⟨(some 55), (.pure (.bnot (.tmp 54))), (some (51, false))⟩,
.op ⟨(some 56), (.pure (.pick (.tmp 51) (.const (.bool true)) (.tmp 55))), none⟩,
.op ⟨(some 57), (.pure (.mv (.tmp 56))), none⟩,
.split 57,
.op ⟨(some 58), (.pure (.mv (.tmp 8))), (some (57, false))⟩,
.op ⟨(some 59), (.pure (.mv (.tmp 5))), (some (57, false))⟩,
.op ⟨(some 60), (.pure (.eqb true (.tmp 58) (.tmp 59))), (some (57, false))⟩,
.op ⟨(some 61), (.pure (.pick (.tmp 57) (.const (.bool true)) (.tmp 60))), none⟩])
(.cond (.tmp 61)
(.seq (.ops [
.op ⟨(some 2), (.pure (.mv (.const (.bool false)))), none⟩])
(.ret))
(.skip)))
(.seq (.ops [
.op ⟨(some 10), (.pure (.mv (.const (.int .i64 (1))))), none⟩])
(.seq (.ops [
.op ⟨(some 62), (.pure (.mv (.tmp 7))), none⟩,
.op ⟨(some 63), (.pure (.mv (.tmp 10))), none⟩,
.op ⟨(some 64), (.eff (.call 47 [(.tmp 62), (.tmp 63)])), none⟩,
.op ⟨(some 10), (.pure (.mv (.tmp 64))), none⟩])
(.seq (.ops [
.op ⟨(some 11), (.pure (.mv (.const (.int .i64 (1))))), none⟩])
(.seq (.ops [
.op ⟨(some 65), (.pure (.mv (.tmp 7))), none⟩,
.op ⟨(some 66), (.pure (.mv (.tmp 11))), none⟩,
.op ⟨(some 67), (.eff (.call 48 [(.tmp 65), (.tmp 66)])), none⟩,
.op ⟨(some 11), (.pure (.mv (.tmp 67))), none⟩])
(.seq (.seq (.ops [
.op ⟨(some 68), (.pure (.mv (.tmp 11))), none⟩,
.op ⟨(some 69), (.pure (.bin .lss (.tmp 68) (.const (.int .i64 (0))))), none⟩])
(.cond (.tmp 69)
(.seq (.ops [
.op ⟨(some 2), (.pure (.mv (.const (.bool false)))), none⟩])
(.ret))
(.skip)))
(.seq (.seq (.ops [
.op ⟨(some 70), (.pure (.mv (.tmp 11))), none⟩,
.op ⟨(some 71), (.pure (.mv (.tmp 10))), none⟩,
.op ⟨(some 72), (.pure (.bin .neq (.tmp 70) (.tmp 71))), none⟩])
(.cond (.tmp 72)
(.seq (.ops [
.op ⟨(some 2), (.pure (.mv (.const (.bool false)))), none⟩])
(.ret))
(.skip)))
(.seq (.ops [
.op ⟨(some 74), (.pure (.mv (.tmp 0))), none⟩,
.op ⟨(some 75), (.eff (.call 20 [(.tmp 74)])), none⟩,
.op ⟨(some 76), (.eff (.call 31 [(.tmp 75)])), none⟩,
.op ⟨(some 73), (.pure (.mv (.tmp 76))), none⟩,
.op ⟨(some 77), (.pure (.ext 0 (.tmp 73))), none⟩,
.op ⟨(some 78), (.pure (.ext 1 (.tmp 73))), none⟩,
.op ⟨(some 12), (.pure (.mv (.tmp 77))), none⟩,
.op ⟨(some 13), (.pure (.mv (.tmp 78))), none⟩])
(.seq (.seq (.ops [
.op ⟨(some 79), (.pure (.mv (.tmp 12))), none⟩,
.op ⟨(some 80), (.pure (.mv (.tmp 4))), none⟩,
.op ⟨(some 81), (.eff (.call 46 [(.tmp 79), (.tmp 80)])), none⟩,
.op ⟨(some 82), (.pure (.bnot (.tmp 81))), none⟩,
.op ⟨(some 83), (.pure (.mv (.tmp 82))), none⟩,
.split 83,
.op ⟨(some 84), (.pure (.mv (.tmp 13))), (some (83, false))⟩,
.op ⟨(some 85), (.pure (.mv (.tmp 5))), (some (83, false))⟩,
.op ⟨(some 86), (.pure (.eqb true (.tmp 84) (.tmp 85))), (some (83, false))⟩,
.op ⟨(some 87), (.pure (.pick (.tmp 83) (.const (.bool true)) (.tmp 86))), none⟩])
(.cond (.tmp 87)
(.seq (.ops [
.op ⟨(some 2), (.pure (.mv (.const (.bool false)))), none⟩])
(.ret))
(.skip)))
(.seq (.ops [
.op ⟨(some 11), (.pure (.mv (.const (.int .i64 (1))))), none⟩])
(.seq (.ops [
.op ⟨(some 88), (.pure (.mv (.tmp 7))), none⟩,
.op ⟨(some 89), (.pure (.mv (.tmp 11))), none⟩,
.op ⟨(some 90), (.eff (.call 48 [(.tmp 88), (.tmp 89)])), none⟩,
.op ⟨(some 11), (.pure (.mv (.tmp 90))), none⟩])
(.seq (.seq (.ops [
.op ⟨(some 91), (.pure (.mv (.tmp 11))), none⟩,
.op ⟨(some 92), (.pure (.bin .lss (.tmp 91) (.const (.int .i64 (0))))), none⟩])
(.cond (.tmp 92)
(.seq (.ops [
.op ⟨(some 2), (.pure (.mv (.const (.bool false)))), none⟩])
(.ret))
(.skip)))
(.seq (.seq (.ops [
.op ⟨(some 93), (.pure (.mv (.tmp 11))), none⟩,
.op ⟨(some 94), (.pure (.mv (.tmp 10))), none⟩,
.op ⟨(some 95), (.pure (.bin .neq (.tmp 93) (.tmp 94))), none⟩])
(.cond (.tmp 95)
(.seq (.ops [
.op ⟨(some 2), (.pure (.mv (.const (.bool false)))), none⟩])
(.ret))
(.skip)))
(.seq (.ops [
.op ⟨(some 2), (.pure (.mv (.const (.bool true)))), none⟩])
(.ret))))))))))))))))))))))))),
[.tmp 2]⟩
theorem r_laws_FnExactConflictsIn : resFun Try.prog f_laws_FnExactConflictsIn = some c_laws_FnExactConflictsIn := by kernel_rfl

/- loop.example/g00940/laws.FnExactWithoutDoubles -/
abbrev f_laws_FnExactWithoutDoubles : Nat := 8
def c_laws_FnExactWithoutDoubles : MFun := ⟨96, .seq (.ops [
.op ⟨(some 2), (.pure (.mv (.const (.bool false)))), none⟩])
(.seq (.ops [
.op ⟨(some 3), (.pure (.mv (.const (.int .i64 (1048576))))), none⟩])
(.seq (.ops [
.op ⟨(some 14), (.pure (.mv (.tmp 0))), none⟩,
.op ⟨(some 15), (.pure (.mv (.tmp 3))), none⟩,
.op ⟨(some 16), (.eff (.call 18 [(.tmp 14), (.tmp 15)])), none⟩,
.op ⟨(some 3), (.pure (.mv (.tmp 16))), none⟩])
(.seq (.seq (.ops [
.op ⟨(some 17), (.pure (.mv (.tmp 3))), none⟩,
.op ⟨(some 18), (.pure (.bin .lss (.tmp 17) (.const (.int .i64 (0))))), none⟩])
(.cond (.tmp 18)
(.seq (.ops [
.op ⟨(some 2), (.pure (.mv (.const (.bool true)))), none⟩])
(.ret))
(.skip)))
(.seq (.ops [
.op ⟨(some 20), (.pure (.mv (.tmp 0))), none⟩,
.op ⟨(some 21), (.eff (.call 20 [(.tmp 20)])), none⟩,
.op ⟨(some 22), (.eff (.call 26 [(.tmp 21)])), none⟩,
.op ⟨(some 19), (.pure (.mv (.tmp 22))), none⟩,
.op ⟨(some 23), (.pure (.ext 0 (.tmp 19))), none⟩,
.op ⟨(some 24), (.pure (.ext 1 (.tmp 19))), none⟩,
.op ⟨(some 4), (.pure (.mv (.tmp 23))), none⟩,
.op ⟨(some 5), (.pure (.mv (.tmp 24))), none⟩])
(.seq (.ops [
.op ⟨(some 25), (.pure (.mv (.tmp 0))), none⟩,
.op ⟨(some 26), (.eff (.call 20 [(.tmp 25)])), none⟩,
.op ⟨(some 6), (.pure (.mv (.tmp 26))), none⟩])
(.seq (.ops [
.op ⟨(some 28), (.pure (.mv (.tmp 6))), none⟩,
.op ⟨(some 29), (.eff (.call 25 [(.tmp 28)])), none⟩,
.op ⟨(some 27), (.pure (.mv (.tmp 29))), none⟩,
.op ⟨(some 30), (.pure (.ext 0 (.tmp 27))), none⟩,
.op ⟨(some 31), (.pure (.ext 1 (.tmp 27))), none⟩,
.op ⟨(some 7), (.pure (.mv (.tmp 30))), none⟩,
.op ⟨(some 8), (.pure (.mv (.tmp 31))), none⟩])
(.seq (.seq (.ops [
.op ⟨(some 32), (.pure (.mv (.tmp 7))), none⟩,
.op ⟨(some 33), (.pure (.mv (.tmp 4))), none⟩,
.op ⟨(some 34), (.eff (.call 22 [(.tmp 32), (.tmp 33)])), none⟩,
.op ⟨(some 35), (.pure (.bnot (.tmp 34))), none⟩,
.op ⟨(some 36), (.pure (.mv (.tmp 35))), none⟩,
.split 36,
.op ⟨(some 37), (.pure (.mv (.tmp 8))), (some (36, false))⟩,
.op ⟨(some 38), (.pure (.mv (.tmp 5))), (some (36, false))⟩,
.op ⟨(some 39), (.pure (.eqb true (.tmp 37) (.tmp 38))), (some (36, false))⟩,
.op ⟨(some 40), (.pure (.pick (.tmp 36) (.const (.bool true)) (.tmp 39))), none⟩])
(.cond (.tmp 40)
(.seq (.ops [
.op ⟨(some 2), (.pure (.mv (.const (.bool false)))), none⟩])
(.ret))
(.skip)))
(.seq (.seq (.ops [
.op ⟨(some 41), (.pure (.mv (.tmp 6))), none⟩,
.op ⟨(some 42), (.pure (.mv (.tmp 0))), none⟩,
.op ⟨(some 43), (.eff (.call 20 [(.tmp 42)])), none⟩,
.op ⟨(some 44), (.eff (.call 22 [(.tmp 41), (.tmp 43)])), none⟩,
.op ⟨(some 45), (.pure (.bnot (.tmp 44))), none⟩])
(.cond (.tmp 45)
(.seq (.ops [
.op ⟨(some 2), (.pure (.mv (.const (.bool false)))), none⟩])
(.ret))
(.skip)))
(.seq (.ops [
.op ⟨(some 9), (.pure (.mv (.const (.int .i64 (1))))), none⟩])
(.seq (.ops [
.op ⟨(some 46), (.pure (.mv (.tmp 6))), none⟩,
.op ⟨(some 47), (.pure (.mv (.tmp 9))), none⟩,
.op ⟨(some 48), (.eff (.call 44 [(.tmp 46), (.tmp 47)])), none⟩,
.op ⟨(some 9), (.pure (.mv (.tmp 48))), none⟩])
(.seq (.seq (.ops [
.op ⟨(some 49), (.pure (.mv (.tmp 9))), none⟩,
.op ⟨(some 50), (.pure (.bin .lss (.tmp 49) (.const (.int .i64 (0))))), none⟩,
.op ⟨(some 51), (.pure (.mv (.tmp 50))), none⟩,
.split 51,
.op ⟨(some 52), (.pure (.mv (.tmp 7))), (some (51, false))⟩,
.op ⟨(some 53), (.pure (.mv (.tmp 4))), (some (51, false))⟩,
.op ⟨(some 54), (.eff (.call 22 [(.tmp 52), (.tmp 53)])), (some (51, false))⟩,
.op ⟨(some 55), (.pure (.bnot (.tmp 54))), (some (51, false))⟩,
.op ⟨(some 56), (.pure (.pick (.tmp 51) (.const (.bool true)) (.tmp 55))), none⟩,
.op ⟨(some 57), (.pure (.mv (.tmp 56))), none⟩,
.split 57,
.op ⟨(some 58), (.pure (.mv (.tmp 8))), (some (57, false))⟩,
.op ⟨(some 59), (.pure (.mv (.tmp 5))), (some (57, false))⟩,
.op ⟨(some 60), (.pure (.eqb true (.tmp 58) (.tmp 59))), (some (57, false))⟩,
.op ⟨(some 61), (.pure (.pick (.tmp 57) (.const (.bool true)) (.tmp 60))), none⟩])
(.cond (.tmp 61)
(.seq (.ops [
.op ⟨(some 2), (.pure (.mv (.const (.bool false)))), none⟩])
(.ret))
(.skip)))
(.seq (.ops [
.op ⟨(some 10), (.pure (.mv (.const (.int .i64 (1))))), none⟩])
(.seq (.ops [
.op ⟨(some 62), (.pure (.mv (.tmp 7))), none⟩,
.op ⟨(some 63), (.pure (.mv (.tmp 10))), none⟩,
.op ⟨(some 64), (.eff (.call 44 [(.tmp 62), (.tmp 63)])), none⟩,
.op ⟨(some 10), (.pure (.mv (.tmp 64))), none⟩])
(.seq (.ops [
.op ⟨(some 11), (.pure (.mv (.const (.int .i64 (1))))), none⟩])
(.seq (.ops [
.op ⟨(some 65), (.pure (.mv (.tmp 7))), none⟩,
.op ⟨(some 66), (.pure (.mv (.tmp 11))), none⟩,
.op ⟨(some 67), (.eff (.call 45 [(.tmp 65), (.tmp 66)])), none⟩,
.op ⟨(some 11), (.pure (.mv (.tmp 67))), none⟩])
(.seq (.seq (.ops [
.op ⟨(some 68), (.pure (.mv (.tmp 11))), none⟩,
.op ⟨(some 69), (.pure (.bin .lss (.tmp 68) (.const (.int .i64 (0))))), none⟩])
(.cond (.tmp 69)
(.seq (.ops [
.op ⟨(some 2), (.pure (.mv (.const (.bool false)))), none⟩])
(.ret))
(.skip)))
(.seq (.seq (.ops [
.op ⟨(some 70), (.pure (.mv (.tmp 11))), none⟩,
.op ⟨(some 71), (.pure (.mv (.tmp 10))), none⟩,
.op ⟨(some 72), (.pure (.bin .neq (.tmp 70) (.tmp 71))), none⟩])
(.cond (.tmp 72)
(.seq (.ops [
.op ⟨(some 2), (.pure (.mv (.const (.bool false)))), none⟩])
(.ret))
(.skip)))
(.seq (.ops [
.op ⟨(some 74), (.pure (.mv (.tmp 0))), none⟩,
.op ⟨(some 75), (.eff (.call 20 [(.tmp 74)])), none⟩,
.op ⟨(some 76), (.eff (.call 25 [(.tmp 75)])), none⟩,
.op ⟨(some 73), (.pure (.mv (.tmp 76))), none⟩,
.op ⟨(some 77), (.pure (.ext 0 (.tmp 73))), none⟩,
.op ⟨(some 78), (.pure (.ext 1 (.tmp 73))), none⟩,
.op ⟨(some 12), (.pure (.mv (.tmp 77))), none⟩,
.op ⟨(some 13), (.pure (.mv (.tmp 78))), none⟩])
(.seq (.seq (.ops [
.op ⟨(some 79), (.pure (.mv (.tmp 12))), none⟩,
.op ⟨(some 80), (.pure (.mv (.tmp 4))), none⟩,
.op ⟨(some 81), (.eff (.call 22 [(.tmp 79), (.tmp 80)])), none⟩,
.op ⟨(some 82), (.pure (.bnot (.tmp 81))), none⟩,
.op ⟨(some 83), (.pure (.mv (.tmp 82))), none⟩,
.split 83,
.op ⟨(some 84), (.pure (.mv (.tmp 13))), (some (83, false))⟩,
.op ⟨(some 85), (.pure (.mv (.tmp 5))), (some (83, false))⟩,
.op ⟨(some 86), (.pure (.eqb true (.tmp 84) (.tmp 85))), (some (83, false))⟩,
.op ⟨(some 87), (.pure (.pick (.tmp 83) (.const (.bool true)) (.tmp 86))), none⟩])
(.cond (.tmp 87)
(.seq (.ops [
.op ⟨(some 2), (.pure (.mv (.const (.bool false)))), none⟩])
(.ret))
(.skip)))
(.seq (.ops [
.op ⟨(some 11), (.pure (.mv (.const (.int .i64 (1))))), none⟩])
(.seq (.ops [
.op ⟨(some 88), (.pure (.mv (.tmp 7))), none⟩,
.op ⟨(some 89), (.pure (.mv (.tmp 11))), none⟩,
.op ⟨(some 90), (.eff (.call 45 [(.tmp 88), (.tmp 89)])), none⟩,
.op ⟨(some 11), (.pure (.mv (.tmp 90))), none⟩])
(.seq (.seq (.ops [
.op ⟨(some 91), (.pure (.mv (.tmp 11))), none⟩,
.op ⟨(some 92), (.pure (.bin .lss (.tmp 91) (.const (.int .i64 (0))))), none⟩])
(.cond (.tmp 92)
(.seq (.ops [
.op ⟨(some 2), (.pure (.mv (.const (.bool false)))), none⟩])
(.ret))
(.skip)))
(.seq (.seq (.ops [
.op ⟨(some 93), (.pure (.mv (.tmp 11))), none⟩,
.op ⟨(some 94), (.pure (.mv (.tmp 10))), none⟩,
.op ⟨(some 95), (.pure (.bin .neq (.tmp 93) (.tmp 94))), none⟩])
(.cond (.tmp 95)
(.seq (.ops [
.op ⟨(some 2), (.pure (.mv (.const (.bool false)))), none⟩])
(.ret))
(.skip)))
(.seq (.ops [
.op ⟨(some 2), (.pure (.mv (.const (.bool true)))), none⟩])
(.ret))))))))))))))))))))))))),
[.tmp 2]⟩
theorem r_laws_FnExactWithoutDoubles : resFun Try.prog f_laws_FnExactWithoutDoubles = some c_laws_FnExactWithoutDoubles := by kernel_rfl

/- loop.example/g00940/laws.FnExactMissingParts -/
abbrev f_laws_FnExactMissingParts : Nat := 9
def c_laws_FnExactMissingParts : MFun := ⟨101, .seq (.ops [
.op ⟨(some 4), (.pure (.mv (.const (.bool false)))), none⟩])
(.seq (.ops [
.op ⟨(some 5), (.pure (.mv (.const (.int .i64 (1048576))))), none⟩])
(.seq (.ops [
.op ⟨(some 16), (.pure (.mv (.tmp 0))), none⟩,
.op ⟨(some 17), (.pure (.mv (.tmp 5))), none⟩,
.op ⟨(some 18), (.eff (.call 18 [(.tmp 16), (.tmp 17)])), none⟩,
.op ⟨(some 5), (.pure (.mv (.tmp 18))), none⟩])
(.seq (.seq (.ops [
.op ⟨(some 19), (.pure (.mv (.tmp 5))), none⟩,
.op ⟨(some 20), (.pure (.bin .lss (.tmp 19) (.const (.int .i64 (0))))), none⟩])
(.cond (.tmp 20)
(.seq (.ops [
.op ⟨(some 4), (.pure (.mv (.const (.bool true)))), none⟩])
(.ret))
(.skip)))
(.seq (.ops [
.op ⟨(some 22), (.pure (.mv (.tmp 0))), none⟩,
.op ⟨(some 23), (.eff (.call 20 [(.tmp 22)])), none⟩,
.op ⟨(some 24), (.pure (.mv (.tmp 1))), none⟩,
.op ⟨(some 25), (.eff (.call 49 [(.tmp 23), (.tmp 24)])), none⟩,
.op ⟨(some 21), (.pure (.mv (.tmp 25))), none⟩,
.op ⟨(some 26), (.pure (.ext 0 (.tmp 21))), none⟩,
.op ⟨(some 27), (.pure (.ext 1 (.tmp 21))), none⟩,
.op ⟨(some 6), (.pure (.mv (.tmp 26))), none⟩,
.op ⟨(some 7), (.pure (.mv (.tmp 27))), none⟩])
(.seq (.ops [
.op ⟨(some 28), (.pure (.mv (.tmp 0))), none⟩,
.op ⟨(some 29), (.eff (.call 20 [(.tmp 28)])), none⟩,
.op ⟨(some 8), (.pure (.mv (.tmp 29))), none⟩])
(.seq (.ops [
.op ⟨(some 31), (.pure (.mv (.tmp 8))), none⟩,
.op ⟨(some 32), (.pure (.mv (.tmp 1))), none⟩,
.op ⟨(some 33), (.eff (.call 50 [(.tmp 31), (.tmp 32)])), none⟩,
.op ⟨(some 30), (.pure (.mv (.tmp 33))), none⟩,
.op ⟨(some 34), (.pure (.ext 0 (.tmp 30))), none⟩,
.op ⟨(some 35), (.pure (.ext 1 (.tmp 30))), none⟩,
.op ⟨(some 9), (.pure (.mv (.tmp 34))), none⟩,
.op ⟨(some 10), (.pure (.mv (.tmp 35))), none⟩])
(.seq (.seq (.ops [
.op ⟨(some 36), (.pure (.mv (.tmp 9))), none⟩,
.op ⟨(some 37), (.pure (.mv (.tmp 6))), none⟩,
.op ⟨(some 38), (.eff (.call 42 [(.tmp 36), (.tmp 37)])), none⟩,
.op ⟨(some 39), (.pure (.bnot (.tmp 38))), none⟩,
.op ⟨(some 40), (.pure (.mv (.tmp 39))), none⟩,
.split 40,
.op ⟨(some 41), (.pure (.mv (.tmp 10))), (some (40, false))⟩,
.op ⟨(some 42), (.pure (.mv (.tmp 7))), (some (40, false))⟩,
.op ⟨(some 43), (.pure (.eqb true (.tmp 41) (.tmp 42))), (some (40, false))⟩,
.op ⟨(some 44), (.pure (.pick (.tmp 40) (.const (.bool true)) (.tmp 43))), none⟩])
(.cond (.tmp 44)
(.seq (.ops [
.op ⟨(some 4), (.pure (.mv (.const (.bool false)))), none⟩])
(.ret))
(.skip)))
(.seq (.seq (.ops [
.op ⟨(some 45), (.pure (.mv (.tmp 8))), none⟩,
.op ⟨(some 46), (.pure (.mv (.tmp 0))), none⟩,
.op ⟨(some 47), (.eff (.call 20 [(.tmp 46)])), none⟩,
.op ⟨(some 48), (.eff (.call 22 [(.tmp 45), (.tmp 47)])), none⟩,
.op ⟨(some 49), (.pure (.bnot (.tmp 48))), none⟩])
(.cond (.tmp 49)
(.seq (.ops [
.op ⟨(some 4), (.pure (.mv (.const (.bool false)))), none⟩])
(.ret))
(.skip)))
(.seq (.ops [
.op ⟨(some 11), (.pure (.mv (.const (.int .i64 (1))))), none⟩])
(.seq (.ops [
.op ⟨(some 50), (.pure (.mv (.tmp 8))), none⟩,
.op ⟨(some 51), (.pure (.mv (.tmp 11))), none⟩,
.op ⟨(some 52), (.eff (.call 44 [(.tmp 50), (.tmp 51)])), none⟩,
.op ⟨(some 11), (.pure (.mv (.tmp 52))), none⟩])
(.seq (.seq (.ops [
.op ⟨(some 53), (.pure (.mv (.tmp 11))), none⟩,
.op ⟨(some 54), (.pure (.bin .lss (.tmp 53) (.const (.int .i64 (0))))), none⟩,
.op ⟨(some 55), (.pure (.mv (.tmp 54))), none⟩,
.split 55,
.op ⟨(some 56), (.pure (.mv (.tmp 9))), (some (55, false))⟩,
.op ⟨(some 57), (.pure (.mv (.tmp 6))), (some (55, false))⟩,
.op ⟨(some 58), (.eff (.call 42 [(.tmp 56), (.tmp 57)])), (some (55, false))⟩,
.op ⟨(some 59), (.pure (.bnot (.tmp 58))), (some (55, false))⟩,
.op ⟨(some 60), (.pure (.pick (.tmp 55) (.const (.bool true)) (.tmp 59))), none⟩,
.op ⟨(some 61), (.pure (.mv (.tmp 60))), none⟩,
.split 61,
.op ⟨(some 62), (.pure (.mv (.tmp 10))), (some (61, false))⟩,
.op ⟨(some 63), (.pure (.mv (.tmp 7))), (some (61, false))⟩,
.op ⟨(some 64), (.pure (.eqb true (.tmp 62) (.tmp 63))), (some (61, false))⟩,
.op ⟨(some 65), (.pure (.pick (.tmp 61) (.const (.bool true)) (.tmp 64))), none⟩])
(.cond (.tmp 65)
(.seq (.ops [
.op ⟨(some 4), (.pure (.mv (.const (.bool false)))), none⟩])
(.ret))
(.skip)))
(.seq (.ops [
.op ⟨(some 12), (.pure (.mv (.const (.int .i64 (1))))), none⟩])
(.seq (.ops [
.op ⟨(some 66), (.pure (.mv (.tmp 9))), none⟩,
.op ⟨(some 67), (.pure (.mv (.tmp 12))), none⟩,
.op ⟨(some 68), (.eff (.call 43 [(.tmp 66), (.tmp 67)])), none⟩,
.op ⟨(some 12), (.pure (.mv (.tmp 68))), none⟩])
(.seq (.ops [
.op ⟨(some 13), (.pure (.mv (.const (.int .i64 (1))))), none⟩])
(.seq (.ops [
.op ⟨(some 69), (.pure (.mv (.tmp 9))), none⟩,
.op ⟨(some 70), (.pure (.mv (.tmp 13))), none⟩,
.op ⟨(some 71), (.eff (.call 51 [(.tmp 69), (.tmp 70)])), none⟩,
.op ⟨(some 13), (.pure (.mv (.tmp 71))), none⟩])
(.seq (.seq (.ops [
.op ⟨(some 72), (.pure (.mv (.tmp 13))), none⟩,
.op ⟨(some 73), (.pure (.bin .lss (.tmp 72) (.const (.int .i64 (0))))), none⟩])
(.cond (.tmp 73)
(.seq (.ops [
.op ⟨(some 4), (.pure (.mv (.const (.bool false)))), none⟩])
(.ret))
(.skip)))
(.seq (.seq (.ops [
.op ⟨(some 74), (.pure (.mv (.tmp 13))), none⟩,
.op ⟨(some 75), (.pure (.mv (.tmp 12))), none⟩,
.op ⟨(some 76), (.pure (.bin .neq (.tmp 74) (.tmp 75))), none⟩])
(.cond (.tmp 76)
(.seq (.ops [
.op ⟨(some 4), (.pure (.mv (.const (.bool false)))), none⟩])
(.ret))
(.skip)))
(.seq (.ops [
.op ⟨(some 78), (.pure (.mv (.tmp 0))), none⟩,
.op ⟨(some 79), (.eff (.call 20 [(.tmp 78)])), none⟩,
.op ⟨(some 80), (.pure (.mv (.tmp 1))), none⟩,
.op ⟨(some 81), (.eff (.call 50 [(.tmp 79), (.tmp 80)])), none⟩,
.op ⟨(some 77), (.pure (.mv (.tmp 81))), none⟩,
.op ⟨(some 82), (.pure (.ext 0 (.tmp 77))), none⟩,
.op ⟨(some 83), (.pure (.ext 1 (.tmp 77))), none⟩,
.op ⟨(some 14), (.pure (.mv (.tmp 82))), none⟩,
.op ⟨(some 15), (.pure (.mv (.tmp 83))), none⟩])
(.seq (.seq (.ops [
.op ⟨(some 84), (.pure (.mv (.tmp 14))), none⟩,
.op ⟨(some 85), (.pure (.mv (.tmp 6))), none⟩,
.op ⟨(some 86), (.eff (.call 42 [(.tmp 84), (.tmp 85)])), none⟩,
.op ⟨(some 87), (.pure (.bnot (.tmp 86))), none⟩,
.op ⟨(some 88), (.pure (.mv (.tmp 87))), none⟩,
.split 88,
.op ⟨(some 89), (.pure (.mv (.tmp 15))), (some (88, false))⟩,
.op ⟨(some 90), (.pure (.mv (.tmp 7))), (some (88, false))⟩,
.op ⟨(some 91), (.pure (.eqb true (.tmp 89) (.tmp 90))), (some (88, false))⟩,
.op ⟨(some 92), (.pure (.pick (.tmp 88) (.const (.bool true)) (.tmp 91))), none⟩])
(.cond (.tmp 92)
(.seq (.ops [
.op ⟨(some 4), (.pure (.mv (.const (.bool false)))), none⟩])
(.ret))
(.skip)))
(.seq (.ops [
.op ⟨(some 13), (.pure (.mv (.const (.int .i64 (1))))), none⟩])
(.seq (.ops [
.op ⟨(some 93), (.pure (.mv (.tmp 9))), none⟩,
.op ⟨(some 94), (.pure (.mv (.tmp 13))), none⟩,
.op ⟨(some 95), (.eff (.call 51 [(.tmp 93), (.tmp 94)])), none⟩,
.op ⟨(some 13), (.pure (.mv (.tmp 95))), none⟩])
(.seq (.seq (.ops [
.op ⟨(some 96), (.pure (.mv (.tmp 13))), none⟩,
.op ⟨(some 97), (.pure (.bin .lss (.tmp 96) (.const (.int .i64 (0))))), none⟩])
(.cond (.tmp 97)
(.seq (.ops [
.op ⟨(some 4), (.pure (.mv (.const (.bool false)))), none⟩])
(.ret))
(.skip)))
(.seq (.seq (.ops [
.op ⟨(some 98), (.pure (.mv (.tmp 13))), none⟩,
.op ⟨(some 99), (.pure (.mv (.tmp 12))), none⟩,
.op ⟨(some 100), (.pure (.bin .neq (.tmp 98) (.tmp 99))), none⟩])
(.cond (.tmp 100)
(.seq (.ops [
.op ⟨(some 4), (.pure (.mv (.const (.bool false)))), none⟩])
(.ret))
(.skip)))
(.seq (.ops [
.op ⟨(some 4), (.pure (.mv (.const (.bool true)))), none⟩])
(.ret))))))))))))))))))))))))),
[.tmp 4]⟩
theorem r_laws_FnExactMissingParts : resFun Try.prog f_laws_FnExactMissingParts = some c_laws_FnExactMissingParts := by kernel_rfl

/- loop.example/g00940/laws.FnExactJoinMessage -/
abbrev f_laws_FnExactJoinMessage : Nat := 10
def c_laws_FnExactJoinMessage : MFun := ⟨101, .seq (.ops [
.op ⟨(some 4), (.pure (.mv (.const (.bool false)))), none⟩])
(.seq (.ops [
.op ⟨(some 5), (.pure (.mv (.const (.int .i64 (1048576))))), none⟩])
(.seq (.ops [
.op ⟨(some 16), (.pure (.mv (.tmp 0))), none⟩,
.op ⟨(some 17), (.pure (.mv (.tmp 5))), none⟩,
.op ⟨(some 18), (.eff (.call 18 [(.tmp 16), (.tmp 17)])), none⟩,
.op ⟨(some 5), (.pure (.mv (.tmp 18))), none⟩])
(.seq (.seq (.ops [
.op ⟨(some 19), (.pure (.mv (.tmp 5))), none⟩,
.op ⟨(some 20), (.pure (.bin .lss (.tmp 19) (.const (.int .i64 (0))))), none⟩])
(.cond (.tmp 20)
(.seq (.ops [
.op ⟨(some 4), (.pure (.mv (.const (.bool true)))), none⟩])
(.ret))
(.skip)))
(.seq (.ops [
.op ⟨(some 22), (.pure (.mv (.tmp 0))), none⟩,
.op ⟨(some 23), (.eff (.call 20 [(.tmp 22)])), none⟩,
.op ⟨(some 24), (.pure (.mv (.tmp 1))), none⟩,
.op ⟨(some 25), (.eff (.call 38 [(.tmp 23), (.tmp 24)])), none⟩,
.op ⟨(some 21), (.pure (.mv (.tmp 25))), none⟩,
.op ⟨(some 26), (.pure (.ext 0 (.tmp 21))), none⟩,
.op ⟨(some 27), (.pure (.ext 1 (.tmp 21))), none⟩,
.op ⟨(some 6), (.pure (.mv (.tmp 26))), none⟩,
.op ⟨(some 7), (.pure (.mv (.tmp 27))), none⟩])
(.seq (.ops [
.op ⟨(some 28), (.pure (.mv (.tmp 0))), none⟩,
.op ⟨(some 29), (.eff (.call 20 [(.tmp 28)])), none⟩,
.op ⟨(some 8), (.pure (.mv (.tmp 29))), none⟩])
(.seq (.ops [
.op ⟨(some 31), (.pure (.mv (.tmp 8))), none⟩,
.op ⟨(some 32), (.pure (.mv (.tmp 1))), none⟩,
.op ⟨(some 33), (.eff (.call 37 [(.tmp 31), (.tmp 32)])), none⟩,
.op ⟨(some 30), (.pure (.mv (.tmp 33))), none⟩,
.op ⟨(some 34), (.pure (.ext 0 (.tmp 30))), none⟩,
.op ⟨(some 35), (.pure (.ext 1 (.tmp 30))), none⟩,
.op ⟨(some 9), (.pure (.mv (.tmp 34))), none⟩,
.op ⟨(some 10), (.pure (.mv (.tmp 35))), none⟩])
(.seq (.seq (.ops [
.op ⟨(some 36), (.pure (.mv (.tmp 9))), none⟩,
.op ⟨(some 37), (.pure (.mv (.tmp 6))), none⟩,
.op ⟨(some 38), (.eff (.call 42 [(.tmp 36), (.tmp 37)])), none⟩,
.op ⟨(some 39), (.pure (.bnot (.tmp 38))), none⟩,
.op ⟨(some 40), (.pure (.mv (.tmp 39))), none⟩,
.split 40,
.op ⟨(some 41), (.pure (.mv (.tmp 10))), (some (40, false))⟩,
.op ⟨(some 42), (.pure (.mv (.tmp 7))), (some (40, false))⟩,
.op ⟨(some 43), (.pure (.eqb true (.tmp 41) (.tmp 42))), (some (40, false))⟩,
.op ⟨(some 44), (.pure (.pick (.tmp 40) (.const (.bool true)) (.tmp 43))), none⟩])
(.cond (.tmp 44)
(.seq (.ops [
.op ⟨(some 4), (.pure (.mv (.const (.bool false)))), none⟩])
(.ret))
(.skip)))
(.seq (.seq (.ops [
.op ⟨(some 45), (.pure (.mv (.tmp 8))), none⟩,
.op ⟨(some 46), (.pure (.mv (.tmp 0))), none⟩,
.op ⟨(some 47), (.eff (.call 20 [(.tmp 46)])), none⟩,
.op ⟨(some 48), (.eff (.call 22 [(.tmp 45), (.tmp 47)])), none⟩,
.op ⟨(some 49), (.pure (.bnot (.tmp 48))), none⟩])
(.cond (.tmp 49)
(.seq (.ops [
.op ⟨(some 4), (.pure (.mv (.const (.bool false)))), none⟩])
(.ret))
(.skip)))
(.seq (.ops [
.op ⟨(some 11), (.pure (.mv (.const (.int .i64 (1))))), none⟩])
(.seq (.ops [
.op ⟨(some 50), (.pure (.mv (.tmp 8))), none⟩,
.op ⟨(some 51), (.pure (.mv (.tmp 11))), none⟩,
.op ⟨(some 52), (.eff (.call 44 [(.tmp 50), (.tmp 51)])), none⟩,
.op ⟨(some 11), (.pure (.mv (.tmp 52))), none⟩])
(.seq (.seq (.ops [
.op ⟨(some 53), (.pure (.mv (.tmp 11))), none⟩,
.op ⟨(some 54), (.pure (.bin .lss (.tmp 53) (.const (.int .i64 (0))))), none⟩,
.op ⟨(some 55), (.pure (.mv (.tmp 54))), none⟩,
.split 55,
.op ⟨(some 56), (.pure (.mv (.tmp 9))), (some (55, false))⟩,
.op ⟨(some 57), (.pure (.mv (.tmp 6))), (some (55, false))⟩,
.op ⟨(some 58), (.eff (.call 42 [(.tmp 56), (.tmp 57)])), (some (55, false))⟩,
.op ⟨(some 59), (.pure (.bnot (.tmp 58))), (some (55, false))⟩,
.op ⟨(some 60), (.pure (.pick (.tmp 55) (.const (.bool true)) (.tmp 59))), none⟩,
.op ⟨(some 61), (.pure (.mv (.tmp 60))), none⟩,
.split 61,
.op ⟨(some 62), (.pure (.mv (.tmp 10))), (some (61, false))⟩,
.op ⟨(some 63), (.pure (.mv (.tmp 7))), (some (61, false))⟩,
.op ⟨(some 64), (.pure (.eqb true (.tmp 62) (.tmp 63))), (some (61, false))⟩,
.op ⟨(some 65), (.pure (.pick (.tmp 61) (.const (.bool true)) (.tmp 64))), none⟩])
(.cond (.tmp 65)
(.seq (.ops [
.op ⟨(some 4), (.pure (.mv (.const (.bool false)))), none⟩])
(.ret))
(.skip)))
(.seq (.ops [
.op ⟨(some 12), (.pure (.mv (.const (.int .i64 (1))))), none⟩])
(.seq (.ops [
.op ⟨(some 66), (.pure (.mv (.tmp 9))), none⟩,
.op ⟨(some 67), (.pure (.mv (.tmp 12))), none⟩,
.op ⟨(some 68), (.eff (.call 43 [(.tmp 66), (.tmp 67)])), none⟩,
.op ⟨(some 12), (.pure (.mv (.tmp 68))), none⟩])
(.seq (.ops [
.op ⟨(some 13), (.pure (.mv (.const (.int .i64 (1))))), none⟩])
(.seq (.ops [
.op ⟨(some 69), (.pure (.mv (.tmp 9))), none⟩,
.op ⟨(some 70), (.pure (.mv (.tmp 13))), none⟩,
.op ⟨(some 71), (.eff (.call 51 [(.tmp 69), (.tmp 70)])), none⟩,
.op ⟨(some 13), (.pure (.mv (.tmp 71))), none⟩])
(.seq (.seq (.ops [
.op ⟨(some 72), (.pure (.mv (.tmp 13))), none⟩,
.op ⟨(some 73), (.pure (.bin .lss (.tmp 72) (.const (.int .i64 (0))))), none⟩])
(.cond (.tmp 73)
(.seq (.ops [
.op ⟨(some 4), (.pure (.mv (.const (.bool false)))), none⟩])
(.ret))
(.skip)))
(.seq (.seq (.ops [
.op ⟨(some 74), (.pure (.mv (.tmp 13))), none⟩,
.op ⟨(some 75), (.pure (.mv (.tmp 12))), none⟩,
.op ⟨(some 76), (.pure (.bin .neq (.tmp 74) (.tmp 75))), none⟩])
(.cond (.tmp 76)
(.seq (.ops [
.op ⟨(some 4), (.pure (.mv (.const (.bool false)))), none⟩])
(.ret))
(.skip)))
(.seq (.ops [
.op ⟨(some 78), (.pure (.mv (.tmp 0))), none⟩,
.op ⟨(some 79), (.eff (.call 20 [(.tmp 78)])), none⟩,
.op ⟨(some 80), (.pure (.mv (.tmp 1))), none⟩,
.op ⟨(some 81), (.eff (.call 37 [(.tmp 79), (.tmp 80)])), none⟩,
.op ⟨(some 77), (.pure (.mv (.tmp 81))), none⟩,
.op ⟨(some 82), (.pure (.ext 0 (.tmp 77))), none⟩,
.op ⟨(some 83), (.pure (.ext 1 (.tmp 77))), none⟩,
.op ⟨(some 14), (.pure (.mv (.tmp 82))), none⟩,
.op ⟨(some 15), (.pure (.mv (.tmp 83))), none⟩])
(.seq (.seq (.ops [
.op ⟨(some 84), (.pure (.mv (.tmp 14))), none⟩,
.op ⟨(some 85), (.pure (.mv (.tmp 6))), none⟩,
.op ⟨(some 86), (.eff (.call 42 [(.tmp 84), (.tmp 85)])), none⟩,
.op ⟨(some 87), (.pure (.bnot (.tmp 86))), none⟩,
.op ⟨(some 88), (.pure (.mv (.tmp 87))), none⟩,
.split 88,
.op ⟨(some 89), (.pure (.mv (.tmp 15))), (some (88, false))⟩,
.op ⟨(some 90), (.pure (.mv (.tmp 7))), (some (88, false))⟩,
.op ⟨(some 91), (.pure (.eqb true (.tmp 89) (.tmp 90))), (some (88, false))⟩,
.op ⟨(some 92), (.pure (.pick (.tmp 88) (.const (.bool true)) (.tmp 91))), none⟩])
(.cond (.tmp 92)
(.seq (.ops [
.op ⟨(some 4), (.pure (.mv (.const (.bool false)))), none⟩])
(.ret))
(.skip)))
(.seq (.ops [
.op ⟨(some 13), (.pure (.mv (.const (.int .i64 (1))))), none⟩])
(.seq (.ops [
.op ⟨(some 93), (.pure (.mv (.tmp 9))), none⟩,
.op ⟨(some 94), (.pure (.mv (.tmp 13))), none⟩,
.op ⟨(some 95), (.eff (.call 51 [(.tmp 93), (.tmp 94)])), none⟩,
.op ⟨(some 13), (.pure (.mv (.tmp 95))), none⟩])
(.seq (.seq (.ops [
.op ⟨(some 96), (.pure (.mv (.tmp 13))), none⟩,
.op ⟨(some 97), (.pure (.bin .lss (.tmp 96) (.const (.int .i64 (0))))), none⟩])
(.cond (.tmp 97)
(.seq (.ops [
.op ⟨(some 4), (.pure (.mv (.const (.bool false)))), none⟩])
(.ret))
(.skip)))
(.seq (.seq (.ops [
.op ⟨(some 98), (.pure (.mv (.tmp 13))), none⟩,
.op ⟨(some 99), (.pure (.mv (.tmp 12))), none⟩,
.op ⟨(some 100), (.pure (.bin .neq (.tmp 98) (.tmp 99))), none⟩])
(.cond (.tmp 100)
(.seq (.ops [
.op ⟨(some 4), (.pure (.mv (.const (.bool false)))), none⟩])
(.ret))
(.skip)))
(.seq (.ops [
.op ⟨(some 4), (.pure (.mv (.const (.bool true)))), none⟩])
(.ret))))))))))))))))))))))))),
[.tmp 4]⟩
theorem r_laws_FnExactJoinMessage : resFun Try.prog f_laws_FnExactJoinMessage = some c_laws_FnExactJoinMessage := by kernel_rfl

/- loop.example/g00940/laws.FnExactSortPackets -/
abbrev f_laws_FnExactSortPackets : Nat := 11
def c_laws_FnExactSortPackets : MFun := ⟨96, .seq (.ops [
.op ⟨(some 2), (.pure (.mv (.const (.bool false)))), none⟩])
(.seq (.ops [
.op ⟨(some 3), (.pure (.mv (.const (.int .i64 (1048576))))), none⟩])
(.seq (.ops [
.op ⟨(some 14), (.pure (.mv (.tmp 0))), none⟩,
.op ⟨(some 15), (.pure (.mv (.tmp 3))), none⟩,
.op ⟨(some 16), (.eff (.call 18 [(.tmp 14), (.tmp 15)])), none⟩,
.op ⟨(some 3), (.pure (.mv (.tmp 16))), none⟩])
(.seq (.seq (.ops [
.op ⟨(some 17), (.pure (.mv (.tmp 3))), none⟩,
.op ⟨(some 18), (.pure (.bin .lss (.tmp 17) (.const (.int .i64 (0))))), none⟩])
(.cond (.tmp 18)
(.seq (.ops [
.op ⟨(some 2), (.pure (.mv (.const (.bool true)))), none⟩])
(.ret))
(.skip)))
(.seq (.ops [
.op ⟨(some 20), (.pure (.mv (.tmp 0))), none⟩,
.op ⟨(some 21), (.eff (.call 20 [(.tmp 20)])), none⟩,
.op ⟨(some 22), (.eff (.call 28 [(.tmp 21)])), none⟩,
.op ⟨(some 19), (.pure (.mv (.tmp 22))), none⟩,
.op ⟨(some 23), (.pure (.ext 0 (.tmp 19))), none⟩,
.op ⟨(some 24), (.pure (.ext 1 (.tmp 19))), none⟩,
.op ⟨(some 4), (.pure (.mv (.tmp 23))), none⟩,
.op ⟨(some 5), (.pure (.mv (.tmp 24))), none⟩])
(.seq (.ops [
.op ⟨(some 25), (.pure (.mv (.tmp 0))), none⟩,
.op ⟨(some 26), (.eff (.call 20 [(.tmp 25)])), none⟩,
.op ⟨(some 6), (.pure (.mv (.tmp 26))), none⟩])
(.seq (.ops [
.op ⟨(some 28), (.pure (.mv (.tmp 6))), none⟩,
.op ⟨(some 29), (.eff (.call 27 [(.tmp 28)])), none⟩,
.op ⟨(some 27), (.pure (.mv (.tmp 29))), none⟩,
.op ⟨(some 30), (.pure (.ext 0 (.tmp 27))), none⟩,
.op ⟨(some 31), (.pure (.ext 1 (.tmp 27))), none⟩,
.op ⟨(some 7), (.pure (.mv (.tmp 30))), none⟩,
.op ⟨(some 8), (.pure (.mv (.tmp 31))), none⟩])
(.seq (.seq (.ops [
.op ⟨(some 32), (.pure (.mv (.tmp 7))), none⟩,
.op ⟨(some 33), (.pure (.mv (.tmp 4))), none⟩,
.op ⟨(some 34), (.eff (.call 22 [(.tmp 32), (.tmp 33)])), none⟩,
.op ⟨(some 35), (.pure (.bnot (.tmp 34))), none⟩,
.op ⟨(some 36), (.pure (.mv (.tmp 35))), none⟩,
.split 36,
.op ⟨(some 37), (.pure (.mv (.tmp 8))), (some (36, false))⟩,
.op ⟨(some 38), (.pure (.mv (.tmp 5))), (some (36, false))⟩,
.op ⟨(some 39), (.pure (.eqb true (.tmp 37) (.tmp 38))), (some (36, false))⟩,
.op ⟨(some 40), (.pure (.pick (.tmp 36) (.const (.bool true)) (.tmp 39))), none⟩])
(.cond (.tmp 40)
(.seq (.ops [
.op ⟨(some 2), (.pure (.mv (.const (.bool false)))), none⟩])
(.ret))
(.skip)))
(.seq (.seq (.ops [
.op ⟨(some 41), (.pure (.mv (.tmp 6))), none⟩,
.op ⟨(some 42), (.pure (.mv (.tmp 0))), none⟩,
.op ⟨(some 43), (.eff (.call 20 [(.tmp 42)])), none⟩,
.op ⟨(some 44), (.eff (.call 22 [(.tmp 41), (.tmp 43)])), none⟩,
.op ⟨(some 45), (.pure (.bnot (.tmp 44))), none⟩])
(.cond (.tmp 45)
(.seq (.ops [
.op ⟨(some 2), (.pure (.mv (.const (.bool false)))), none⟩])
(.ret))
(.skip)))
(.seq (.ops [
.op ⟨(some 9), (.pure (.mv (.const (.int .i64 (1))))), none⟩])
(.seq (.ops [
.op ⟨(some 46), (.pure (.mv (.tmp 6))), none⟩,
.op ⟨(some 47), (.pure (.mv (.tmp 9))), none⟩,
.op ⟨(some 48), (.eff (.call 44 [(.tmp 46), (.tmp 47)])), none⟩,
.op ⟨(some 9), (.pure (.mv (.tmp 48))), none⟩])
(.seq (.seq (.ops [
.op ⟨(some 49), (.pure (.mv (.tmp 9))), none⟩,
.op ⟨(some 50), (.pure (.bin .lss (.tmp 49) (.const (.int .i64 (0))))), none⟩,
.op ⟨(some 51), (.pure (.mv (.tmp 50))), none⟩,
.split 51,
.op ⟨(some 52), (.pure (.mv (.tmp 7))), (some (51, false))⟩,
.op ⟨(some 53), (.pure (.mv (.tmp 4))), (some (51, false))⟩,
.op ⟨(some 54), (.eff (.call 22 [(.tmp 52), (.tmp 53)])), (some (51, false))⟩,
.op ⟨(some 55), (.pure (.bnot (.tmp 54))), (some (51, false))⟩,
.op ⟨(some 56), (.pure (.pick (.tmp 51) (.const (.bool true)) (.tmp 55))), none⟩,
.op ⟨(some 57), (.pure (.mv (.tmp 56))), none⟩,
.split 57,
.op ⟨(some 58), (.pure (.mv (.tmp 8))), (some (57, false))⟩,
.op ⟨(some 59), (.pure (.mv (.tmp 5))), (some (57, false))⟩,
.op ⟨(some 60), (.pure (.eqb true (.tmp 58) (.tmp 59))), (some (57, false))⟩,
.op ⟨(some 61), (.pure (.pick (.tmp 57) (.const (.bool true)) (.tmp 60))), none⟩])
(.cond (.tmp 61)
(.seq (.ops [
.op ⟨(some 2), (.pure (.mv (.const (.bool false)))), none⟩])
(.ret))
(.skip)))
(.seq (.ops [
.op ⟨(some 10), (.pure (.mv (.const (.int .i64 (1))))), none⟩])
(.seq (.ops [
.op ⟨(some 62), (.pure (.mv (.tmp 7))), none⟩,
.op ⟨(some 63), (.pure (.mv (.tmp 10))), none⟩,
.op ⟨(some 64), (.eff (.call 44 [(.tmp 62), (.tmp 63)])), none⟩,
.op ⟨(some 10), (.pure (.mv (.tmp 64))), none⟩])
(.seq (.ops [
.op ⟨(some 11), (.pure (.mv (.const (.int .i64 (1))))), none⟩])
(.seq (.ops [
.op ⟨(some 65), (.pure (.mv (.tmp 7))), none⟩,
.op ⟨(some 66), (.pure (.mv (.tmp 11))), none⟩,
.op ⟨(some 67), (.eff (.call 45 [(.tmp 65), (.tmp 66)])), none⟩,
.op ⟨(some 11), (.pure (.mv (.tmp 67))), none⟩])
(.seq (.seq (.ops [
.op ⟨(some 68), (.pure (.mv (.tmp 11))), none⟩,
.op ⟨(some 69), (.pure (.bin .lss (.tmp 68) (.const (.int .i64 (0))))), none⟩])
(.cond (.tmp 69)
(.seq (.ops [
.op ⟨(some 2), (.pure (.mv (.const (.bool false)))), none⟩])
(.ret))
(.skip)))
(.seq (.seq (.ops [
.op ⟨(some 70), (.pure (.mv (.tmp 11))), none⟩,
.op ⟨(some 71), (.pure (.mv (.tmp 10))), none⟩,
.op ⟨(some 72), (.pure (.bin .neq (.tmp 70) (.tmp 71))), none⟩])
(.cond (.tmp 72)
(.seq (.ops [
.op ⟨(some 2), (.pure (.mv (.const (.bool false)))), none⟩])
(.ret))
(.skip)))
(.seq (.ops [
.op ⟨(some 74), (.pure (.mv (.tmp 0))), none⟩,
.op ⟨(some 75), (.eff (.call 20 [(.tmp 74)])), none⟩,
.op ⟨(some 76), (.eff (.call 27 [(.tmp 75)])), none⟩,
.op ⟨(some 73), (.pure (.mv (.tmp 76))), none⟩,
.op ⟨(some 77), (.pure (.ext 0 (.tmp 73))), none⟩,
.op ⟨(some 78), (.pure (.ext 1 (.tmp 73))), none⟩,
.op ⟨(some 12), (.pure (.mv (.tmp 77))), none⟩,
.op ⟨(some 13), (.pure (.mv (.tmp 78))), none⟩])
(.seq (.seq (.ops [
.op ⟨(some 79), (.pure (.mv (.tmp 12))), none⟩,
.op ⟨(some 80), (.pure (.mv (.tmp 4))), none⟩,
.op ⟨(some 81), (.eff (.call 22 [(.tmp 79), (.tmp 80)])), none⟩,
.op ⟨(some 82), (.pure (.bnot (.tmp 81))), none⟩,
.op ⟨(some 83), (.pure (.mv (.tmp 82))), none⟩,
.split 83,
.op ⟨(some 84), (.pure (.mv (.tmp 13))), (some (83, false))⟩,
.op ⟨(some 85), (.pure (.mv (.tmp 5))), (some (83, false))⟩,
.op ⟨(some 86), (.pure (.eqb true (.tmp 84) (.tmp 85))), (some (83, false))⟩,
.op ⟨(some 87), (.pure (.pick (.tmp 83) (.const (.bool true)) (.tmp 86))), none⟩])
(.cond (.tmp 87)
(.seq (.ops [
.op ⟨(some 2), (.pure (.mv (.const (.bool false)))), none⟩])
(.ret))
(.skip)))
(.seq (.ops [
.op ⟨(some 11), (.pure (.mv (.const (.int .i64 (1))))), none⟩])
(.seq (.ops [
.op ⟨(some 88), (.pure (.mv (.tmp 7))), none⟩,
.op ⟨(some 89), (.pure (.mv (.tmp 11))), none⟩,
.op ⟨(some 90), (.eff (.call 45 [(.tmp 88), (.tmp 89)])), none⟩,
.op ⟨(some 11), (.pure (.mv (.tmp 90))), none⟩])
(.seq (.seq (.ops [
.op ⟨(some 91), (.pure (.mv (.tmp 11))), none⟩,
.op ⟨(some 92), (.pure (.bin .lss (.tmp 91) (.const (.int .i64 (0))))), none⟩])
(.cond (.tmp 92)
(.seq (.ops [
.op ⟨(some 2), (.pure (.mv (.const (.bool false)))), none⟩])
(.ret))
(.skip)))
(.seq (.seq (.ops [
.op ⟨(some 93), (.pure (.mv (.tmp 11))), none⟩,
.op ⟨(some 94), (.pure (.mv (.tmp 10))), none⟩,
.op ⟨(some 95), (.pure (.bin .neq (.tmp 93) (.tmp 94))), none⟩])
(.cond (.tmp 95)
(.seq (.ops [
.op ⟨(some 2), (.pure (.mv (.const (.bool false)))), none⟩])
(.ret))
(.skip)))
(.seq (.ops [
.op ⟨(some 2), (.pure (.mv (.const (.bool true)))), none⟩])
(.ret))))))))))))))))))))))))),
[.tmp 2]⟩
theorem r_laws_FnExactSortPackets : resFun Try.prog f_laws_FnExactSortPackets = some c_laws_FnExactSortPackets := by kernel_rfl

/- loop.example/g00940/laws.FnExactMessagesIn -/
abbrev f_laws_FnExactMessagesIn : Nat := 12
def c_laws_FnExactMessagesIn : MFun := ⟨96, .seq (.ops [
.op ⟨(some 2), (.pure (.mv (.const (.bool false)))), none⟩])
(.seq (.ops [
.op ⟨(some 3), (.pure (.mv (.const (.int .i64 (1048576))))), none⟩])
(.seq (.ops [
.op ⟨(some 14), (.pure (.mv (.tmp 0))), none⟩,
.op ⟨(some 15), (.pure (.mv (.tmp 3))), none⟩,
.op ⟨(some 16), (.eff (.call 18 [(.tmp 14), (.tmp 15)])), none⟩,
.op ⟨(some 3), (.pure (.mv (.tmp 16))), none⟩])
(.seq (.seq (.ops [
.op ⟨(some 17), (.pure (.mv (.tmp 3))), none⟩,
.op ⟨(some 18), (.pure (.bin .lss (.tmp 17) (.const (.int .i64 (0))))), none⟩])
(.cond (.tmp 18)
(.seq (.ops [
.op ⟨(some 2), (.pure (.mv (.const (.bool true)))), none⟩])
(.ret))
(.skip)))
(.seq (.ops [
.op ⟨(some 20), (.pure (.mv (.tmp 0))), none⟩,
.op ⟨(some 21), (.eff (.call 20 [(.tmp 20)])), none⟩,
.op ⟨(some 22), (.eff (.call 30 [(.tmp 21)])), none⟩,
.op ⟨(some 19), (.pure (.mv (.tmp 22))), none⟩,
.op ⟨(some 23), (.pure (.ext 0 (.tmp 19))), none⟩,
.op ⟨(some 24), (.pure (.ext 1 (.tmp 19))), none⟩,
.op ⟨(some 4), (.pure (.mv (.tmp 23))), none⟩,
.op ⟨(some 5), (.pure (.mv (.tmp 24))), none⟩])
(.seq (.ops [
.op ⟨(some 25), (.pure (.mv (.tmp 0))), none⟩,
.op ⟨(some 26), (.eff (.call 20 [(.tmp 25)])), none⟩,
.op ⟨(some 6), (.pure (.mv (.tmp 26))), none⟩])
(.seq (.ops [
.op ⟨(some 28), (.pure (.mv (.tmp 6))), none⟩,
.op ⟨(some 29), (.eff (.call 29 [(.tmp 28)])), none⟩,
.op ⟨(some 27), (.pure (.mv (.tmp 29))), none⟩,
.op ⟨(some 30), (.pure (.ext 0 (.tmp 27))), none⟩,
.op ⟨(some 31), (.pure (.ext 1 (.tmp 27))), none⟩,
.op ⟨(some 7), (.pure (.mv (.tmp 30))), none⟩,
.op ⟨(some 8), (.pure (.mv (.tmp 31))), none⟩])
(.seq (.seq (.ops [
.op ⟨(some 32), (.pure (.mv (.tmp 7))), none⟩,
.op ⟨(some 33), (.pure (.mv (.tmp 4))), none⟩,
.op ⟨(some 34), (.eff (.call 42 [(.tmp 32), (.tmp 33)])), none⟩,
.op ⟨(some 35), (.pure (.bnot (.tmp 34))), none⟩,
.op ⟨(some 36), (.pure (.mv (.tmp 35))), none⟩,
.split 36,
.op ⟨(some 37), (.pure (.mv (.tmp 8))), (some (36, false))⟩,
.op ⟨(some 38), (.pure (.mv (.tmp 5))), (some (36, false))⟩,
.op ⟨(some 39), (.pure (.eqb true (.tmp 37) (.tmp 38))), (some (36, false))⟩,
.op ⟨(some 40), (.pure (.pick (.tmp 36) (.const (.bool true)) (.tmp 39))), none⟩])
(.cond (.tmp 40)
(.seq (.ops [
.op ⟨(some 2), (.pure (.mv (.const (.bool false)))), none⟩])
(.ret))
(.skip)))
(.seq (.seq (.ops [
.op ⟨(some 41), (.pure (.mv (.tmp 6))), none⟩,
.op ⟨(some 42), (.pure (.mv (.tmp 0))), none⟩,
.op ⟨(some 43), (.eff (.call 20 [(.tmp 42)])), none⟩,
.op ⟨(some 44), (.eff (.call 22 [(.tmp 41), (.tmp 43)])), none⟩,
.op ⟨(some 45), (.pure (.bnot (.tmp 44))), none⟩])
(.cond (.tmp 45)
(.seq (.ops [
.op ⟨(some 2), (.pure (.mv (.const (.bool false)))), none⟩])
(.ret))
(.skip)))
(.seq (.ops [
.op ⟨(some 9), (.pure (.mv (.const (.int .i64 (1))))), none⟩])
(.seq (.ops [
.op ⟨(some 46), (.pure (.mv (.tmp 6))), none⟩,
.op ⟨(some 47), (.pure (.mv (.tmp 9))), none⟩,
.op ⟨(some 48), (.eff (.call 44 [(.tmp 46), (.tmp 47)])), none⟩,
.op ⟨(some 9), (.pure (.mv (.tmp 48))), none⟩])
(.seq (.seq (.ops [
.op ⟨(some 49), (.pure (.mv (.tmp 9))), none⟩,
.op ⟨(some 50), (.pure (.bin .lss (.tmp 49) (.const (.int .i64 (0))))), none⟩,
.op ⟨(some 51), (.pure (.mv (.tmp 50))), none⟩,
.split 51,
.op ⟨(some 52), (.pure (.mv (.tmp 7))), (some (51, false))⟩,
.op ⟨(some 53), (.pure (.mv (.tmp 4))), (some (51, false))⟩,
.op ⟨(some 54), (.eff (.call 42 [(.tmp 52), (.tmp 53)])), (some (51, false))⟩,
.op ⟨(some 55), (.pure (.bnot (.tmp 54))), (some (51, false))⟩,
.op ⟨(some 56), (.pure (.pick (.tmp 51) (.const (.bool true)) (.tmp 55))), none⟩,
.op ⟨(some 57), (.pure (.mv (.tmp 56))), none⟩,
.split 57,
.op ⟨(some 58), (.pure (.mv (.tmp 8))), (some (57, false))⟩,
.op ⟨(some 59), (.pure (.mv (.tmp 5))), (some (57, false))⟩,
.op ⟨(some 60), (.pure (.eqb true (.tmp 58) (.tmp 59))), (some (57, false))⟩,
.op ⟨(some 61), (.pure (.pick (.tmp 57) (.const (.bool true)) (.tmp 60))), none⟩])
(.cond (.tmp 61)
(.seq (.ops [
.op ⟨(some 2), (.pure (.mv (.const (.bool false)))), none⟩])
(.ret))
(.skip)))
(.seq (.ops [
.op ⟨(some 10), (.pure (.mv (.const (.int .i64 (1))))), none⟩])
(.seq (.ops [
.op ⟨(some 62), (.pure (.mv (.tmp 7))), none⟩,
.op ⟨(some 63), (.pure (.mv (.tmp 10))), none⟩,
.op ⟨(some 64), (.eff (.call 43 [(.tmp 62), (.tmp 63)])), none⟩,
.op ⟨(some 10), (.pure (.mv (.tmp 64))), none⟩])
(.seq (.ops [
.op ⟨(some 11), (.pure (.mv (.const (.int .i64 (1))))), none⟩])
(.seq (.ops [
.op ⟨(some 65), (.pure (.mv (.tmp 7))), none⟩,
.op ⟨(some 66), (.pure (.mv (.tmp 11))), none⟩,
.op ⟨(some 67), (.eff (.call 51 [(.tmp 65), (.tmp 66)])), none⟩,
.op ⟨(some 11), (.pure (.mv (.tmp 67))), none⟩])
(.seq (.seq (.ops [
.op ⟨(some 68), (.pure (.mv (.tmp 11))), none⟩,
.op ⟨(some 69), (.pure (.bin .lss (.tmp 68) (.const (.int .i64 (0))))), none⟩])
(.cond (.tmp 69)
(.seq (.ops [
.op ⟨(some 2), (.pure (.mv (.const (.bool false)))), none⟩])
(.ret))
(.skip)))
(.seq (.seq (.ops [
.op ⟨(some 70), (.pure (.mv (.tmp 11))), none⟩,
.op ⟨(some 71), (.pure (.mv (.tmp 10))), none⟩,
.op ⟨(some 72), (.pure (.bin .neq (.tmp 70) (.tmp 71))), none⟩])
(.cond (.tmp 72)
(.seq (.ops [
.op ⟨(some 2), (.pure (.mv (.const (.bool false)))), none⟩])
(.ret))
(.skip)))
(.seq (.ops [
.op ⟨(some 74), (.pure (.mv (.tmp 0))), none⟩,
.op ⟨(some 75), (.eff (.call 20 [(.tmp 74)])), none⟩,
.op ⟨(some 76), (.eff (.call 29 [(.tmp 75)])), none⟩,
.op ⟨(some 73), (.pure (.mv (.tmp 76))), none⟩,
.op ⟨(some 77), (.pure (.ext 0 (.tmp 73))), none⟩,
.op ⟨(some 78), (.pure (.ext 1 (.tmp 73))), none⟩,
.op ⟨(some 12), (.pure (.mv (.tmp 77))), none⟩,
.op ⟨(some 13), (.pure (.mv (.tmp 78))), none⟩])
(.seq (.seq (.ops [
.op ⟨(some 79), (.pure (.mv (.tmp 12))), none⟩,
.op ⟨(some 80), (.pure (.mv (.tmp 4))), none⟩,
.op ⟨(some 81), (.eff (.call 42 [(.tmp 79), (.tmp 80)])), none⟩,
.op ⟨(some 82), (.pure (.bnot (.tmp 81))), none⟩,
.op ⟨(some 83), (.pure (.mv (.tmp 82))), none⟩,
.split 83,
.op ⟨(some 84), (.pure (.mv (.tmp 13))), (some (83, false))⟩,
.op ⟨(some 85), (.pure (.mv (.tmp 5))), (some (83, false))⟩,
.op ⟨(some 86), (.pure (.eqb true (.tmp 84) (.tmp 85))), (some (83, false))⟩,
.op ⟨(some 87), (.pure (.pick (.tmp 83) (.const (.bool true)) (.tmp 86))), none⟩])
(.cond (.tmp 87)
(.seq (.ops [
.op ⟨(some 2), (.pure (.mv (.const (.bool false)))), none⟩])
(.ret))
(.skip)))
(.seq (.ops [
.op ⟨(some 11), (.pure (.mv (.const (.int .i64 (1))))), none⟩])
(.seq (.ops [
.op ⟨(some 88), (.pure (.mv (.tmp 7))), none⟩,
.op ⟨(some 89), (.pure (.mv (.tmp 11))), none⟩,
.op ⟨(some 90), (.eff (.call 51 [(.tmp 88), (.tmp 89)])), none⟩,
.op ⟨(some 11), (.pure (.mv (.tmp 90))), none⟩])
(.seq (.seq (.ops [
.op ⟨(some 91), (.pure (.mv (.tmp 11))), none⟩,
.op ⟨(some 92), (.pure (.bin .lss (.tmp 91) (.const (.int .i64 (0))))), none⟩])
(.cond (.tmp 92)
(.seq (.ops [
.op ⟨(some 2), (.pure (.mv (.const (.bool false)))), none⟩])
(.ret))
(.skip)))
(.seq (.seq (.ops [
.op ⟨(some 93), (.pure (.mv (.tmp 11))), none⟩,
.op ⟨(some 94), (.pure (.mv (.tmp 10))), none⟩,
.op ⟨(some 95), (.pure (.bin .neq (.tmp 93) (.tmp 94))), none⟩])
(.cond (.tmp 95)
(.seq (.ops [
.op ⟨(some 2), (.pure (.mv (.const (.bool false)))), none⟩])
(.ret))
(.skip)))
(.seq (.ops [
.op ⟨(some 2), (.pure (.mv (.const (.bool true)))), none⟩])
(.ret))))))))))))))))))))))))),
[.tmp 2]⟩
theorem r_laws_FnExactMessagesIn : resFun Try.prog f_laws_FnExactMessagesIn = some c_laws_FnExactMessagesIn := by kernel_rfl

/- loop.example/g00940/laws.szPacket -/
abbrev f_laws_szPacket : Nat := 13
def c_laws_szPacket : MFun := ⟨12, .seq (.ops [
.op ⟨(some 2), (.eff (.box 24 (.tmp 0))), none⟩,
.op ⟨(some 4), (.pure (.mv (.const (.int .i64 (0))))), none⟩])
(.seq (.ops [
.op ⟨(some 5), (.pure (.fieldAddr 3 (.tmp 2))), none⟩,
.op ⟨(some 6), (.load none (.tmp 5)), none⟩,
.op ⟨(some 7), (.pure (.mv (.tmp 1))), none⟩,
.op ⟨(some 8), (.eff (.call 52 [(.tmp 6), (.tmp 7)])), none⟩,
.op ⟨(some 1), (.pure (.mv (.tmp 8))), none⟩])
(.seq (.seq (.ops [
.op ⟨(some 9), (.pure (.mv (.tmp 1))), none⟩,
.op ⟨(some 10), (.pure (.bin .lss (.tmp 9) (.const (.int .i64 (0))))), none⟩])
(.cond (.tmp 10)
(.seq (.ops [
.op ⟨(some 4), (.pure (.mv (.const (.int .i64 (-1))))), none⟩])
(.ret))
(.skip)))
(.seq (.ops [
.op ⟨(some 11), (.pure (.mv (.tmp 1))), none⟩,
.op ⟨(some 4), (.pure (.mv (.tmp 11))), none⟩])
(.ret)))),
[.tmp 4]⟩
theorem r_laws_szPacket : resFun Try.prog f_laws_szPacket = some c_laws_szPacket := by kernel_rfl

/- loop.example/g00940/spec.IsPacket -/
abbrev f_spec_IsPacket : Nat := 14
def c_spec_IsPacket : MFun := ⟨5, .seq (.ops [
.op ⟨(some 1), (.eff (.box 27 (.tmp 0))), none⟩,
.op ⟨(some 2), (.pure (.mv (.const (.bool false)))), none⟩])
(.seq (.ops [
.op ⟨(some 3), (.load (some 4) (.tmp 1)), none⟩,
.op ⟨(some 4), (.eff (.call 53 [(.tmp 3)])), none⟩,
.op ⟨(some 2), (.pure (.mv (.tmp 4))), none⟩])
(.ret)),
[.tmp 2]⟩
theorem r_spec_IsPacket : resFun Try.prog f_spec_IsPacket = some c_spec_IsPacket := by kernel_rfl

/- loop.example/g00940/laws.toPacket -/
abbrev f_laws_toPacket : Nat := 15
def c_laws_toPacket : MFun := ⟨18, .seq (.ops [
.op ⟨(some 1), (.eff (.box 24 (.tmp 0))), none⟩,
.op ⟨(some 2), (.eff (.new 27 [(.int .i64 (0)), (.int .i64 (0)), (.int .i64 (0)), (.slice none 0 0)])), none⟩])
(.seq (.ops [
.op ⟨(some 3), (.eff (.new 27 [(.int .i64 (0)), (.int .i64 (0)), (.int .i64 (0)), (.slice none 0 0)])), none⟩])
(.seq (.ops [
.op ⟨(some 4), (.pure (.fieldAddr 0 (.tmp 1))), none⟩,
.op ⟨(some 5), (.load none (.tmp 4)), none⟩,
.op ⟨(some 6), (.pure (.fieldAddr 0 (.tmp 3))), none⟩,
.op ⟨none, (.eff (.store 1 (.tmp 6) (.tmp 5))), none⟩])
(.seq (.ops [
.op ⟨(some 7), (.pure (.fieldAddr 1 (.tmp 1))), none⟩,
.op ⟨(some 8), (.load none (.tmp 7)), none⟩,
.op ⟨(some 9), (.pure (.fieldAddr 1 (.tmp 3))), none⟩,
.op ⟨none, (.eff (.store 1 (.tmp 9) (.tmp 8))), none⟩])
(.seq (.ops [
.op ⟨(some 10), (.pure (.fieldAddr 2 (.tmp 1))), none⟩,
.op ⟨(some 11), (.load none (.tmp 10)), none⟩,
.op ⟨(some 12), (.pure (.fieldAddr 2 (.tmp 3))), none⟩,
.op ⟨none, (.eff (.store 1 (.tmp 12) (.tmp 11))), none⟩])
(.seq (.ops [
.op ⟨(some 13), (.pure (.fieldAddr 3 (.tmp 1))), none⟩,
.op ⟨(some 14), (.load none (.tmp 13)), none⟩,
.op ⟨(some 15), (.eff (.call 40 [(.tmp 14)])), none⟩,
.op ⟨(some 16), (.pure (.fieldAddr 3 (.tmp 3))), none⟩,
.op ⟨none, (.eff (.store 1 (.tmp 16) (.tmp 15))), none⟩])
(.seq (.ops [
.op ⟨(some 17), (.load (some 4) (.tmp 3)), none⟩,
.op ⟨none, (.eff (.store 4 (.tmp 2) (.tmp 17))), none⟩])
(.ret))))))),
[.cell 2 (some 4)]⟩
theorem r_laws_toPacket : resFun Try.prog f_laws_toPacket = some c_laws_toPacket := by kernel_rfl

/- loop.example/g00940/impl.IsPacket -/
abbrev f_impl_IsPacket : Nat := 16
def c_impl_IsPacket : MFun := ⟨30, .seq (.ops [
.op ⟨(some 1), (.eff (.box 27 (.tmp 0))), none⟩,
.op ⟨(some 2), (.pure (.mv (.const (.bool false)))), none⟩])
(.seq (.ops [
.op ⟨(some 3), (.pure (.fieldAddr 0 (.tmp 1))), none⟩,
.op ⟨(some 4), (.load none (.tmp 3)), none⟩,
.op ⟨(some 5), (.eff (.call 54 [(.tmp 4), (.const (.int .i64 (1))), (.const (.int .i64 (999)))])), none⟩,
.op ⟨(some 6), (.pure (.mv (.tmp 5))), none⟩,
.split 6,
.op ⟨(some 7), (.pure (.fieldAddr 2 (.tmp 1))), (some (6, true))⟩,
.op ⟨(some 8), (.load none (.tmp 7)), (some (6, true))⟩,
.op ⟨(some 9), (.eff (.call 54 [(.tmp 8), (.const (.int .i64 (1))), (.const (.int .i64 (9)))])), (some (6, true))⟩,
.op ⟨(some 10), (.pure (.pick (.tmp 6) (.tmp 9) (.const (.bool false)))), none⟩,
.op ⟨(some 11), (.pure (.mv (.tmp 10))), none⟩,
.split 11,
.op ⟨(some 12), (.pure (.fieldAddr 1 (.tmp 1))), (some (11, true))⟩,
.op ⟨(some 13), (.load none (.tmp 12)), (some (11, true))⟩,
.op ⟨(some 14), (.pure (.fieldAddr 2 (.tmp 1))), (some (11, true))⟩,
.op ⟨(some 15), (.load none (.tmp 14)), (some (11, true))⟩,
.op ⟨(some 16), (.pure (.bin .sub (.tmp 15) (.const (.int .i64 (1))))), (some (11, true))⟩,
.op ⟨(some 17), (.eff (.call 54 [(.tmp 13), (.const (.int .i64 (0))), (.tmp 16)])), (some (11, true))⟩,
.op ⟨(some 18), (.pure (.pick (.tmp 11) (.tmp 17) (.const (.bool false)))), none⟩,
.op ⟨(some 19), (.pure (.mv (.tmp 18))), none⟩,
.split 19,
.op ⟨(some 20), (.pure (.fieldAddr 3 (.tmp 1))), (some (19, true))⟩,
.op ⟨(some 21), (.load none (.tmp 20)), (some (19, true))⟩,
.op ⟨(some 22), (.pure (.len (.tmp 21))), (some (19, true))⟩,
.op ⟨(some 23), (.eff (.call 54 [(.tmp 22), (.const (.int .i64 (1))), (.const (.int .i64 (8)))])), (some (19, true))⟩,
.op ⟨(some 24), (.pure (.pick (.tmp 19) (.tmp 23) (.const (.bool false)))), none⟩,
.op ⟨(some 25), (.pure (.mv (.tmp 24))), none⟩,
.split 25,
.op ⟨(some 26), (.pure (.fieldAddr 3 (.tmp 1))), (some (25, true))⟩,
.op ⟨(some 27), (.load none (.tmp 26)), (some (25, true))⟩,
.op ⟨(some 28), (.eff (.call 55 [(.tmp 27), (.const (.int .i64 (1))), (.const (.int .i64 (60)))])), (some (25, true))⟩,
.op ⟨(some 29), (.pure (.pick (.tmp 25) (.tmp 28) (.const (.bool false)))), none⟩,
.op ⟨(some 2), (.pure (.mv (.tmp 29))), none⟩])
(.ret)),
[.tmp 2]⟩
theorem r_impl_IsPacket : resFun Try.prog f_impl_IsPacket = some c_impl_IsPacket := by kernel_rfl

/- loop.example/g00940/laws.eqPacket -/
abbrev f_laws_eqPacket : Nat := 17
def c_laws_eqPacket : MFun := ⟨26, .seq (.ops [
.op ⟨(some 2), (.eff (.box 27 (.tmp 0))), none⟩,
.op ⟨(some 3), (.eff (.box 27 (.tmp 1))), none⟩,
.op ⟨(some 4), (.pure (.mv (.const (.bool false)))), none⟩])
(.seq (.seq (.ops [
.op ⟨(some 5), (.pure (.fieldAddr 0 (.tmp 2))), none⟩,
.op ⟨(some 6), (.load none (.tmp 5)), none⟩,
.op ⟨(some 7), (.pure (.fieldAddr 0 (.tmp 3))), none⟩,
.op ⟨(some 8), (.load none (.tmp 7)), none⟩,
.op ⟨(some 9), (.pure (.bin .neq (.tmp 6) (.tmp 8))), none⟩])
(.cond (.tmp 9)
(.seq (.ops [
.op ⟨(some 4), (.pure (.mv (.const (.bool false)))), none⟩])
(.ret))
(.skip)))
(.seq (.seq (.ops [
.op ⟨(some 10), (.pure (.fieldAddr 1 (.tmp 2))), none⟩,
.op ⟨(some 11), (.load none (.tmp 10)), none⟩,
.op ⟨(some 12), (.pure (.fieldAddr 1 (.tmp 3))), none⟩,
.op ⟨(some 13), (.load none (.tmp 12)), none⟩,
.op ⟨(some 14), (.pure (.bin .neq (.tmp 11) (.tmp 13))), none⟩])
(.cond (.tmp 14)
(.seq (.ops [
.op ⟨(some 4), (.pure (.mv (.const (.bool false)))), none⟩])
(.ret))
(.skip)))
(.seq (.seq (.ops [
.op ⟨(some 15), (.pure (.fieldAddr 2 (.tmp 2))), none⟩,
.op ⟨(some 16), (.load none (.tmp 15)), none⟩,
.op ⟨(some 17), (.pure (.fieldAddr 2 (.tmp 3))), none⟩,
.op ⟨(some 18), (.load none (.tmp 17)), none⟩,
.op ⟨(some 19), (.pure (.bin .neq (.tmp 16) (.tmp 18))), none⟩])
(.cond (.tmp 19)
(.seq (.ops [
.op ⟨(some 4), (.pure (.mv (.const (.bool false)))), none⟩])
(.ret))
(.skip)))
(.seq (.seq (.ops [
.op ⟨(some 20), (.pure (.fieldAddr 3 (.tmp 2))), none⟩,
.op ⟨(some 21), (.load none (.tmp 20)), none⟩,
.op ⟨(some 22), (.pure (.fieldAddr 3 (.tmp 3))), none⟩,
.op ⟨(some 23), (.load none (.tmp 22)), none⟩,
.op ⟨(some 24), (.eff (.call 42 [(.tmp 21), (.tmp 23)])), none⟩,
.op ⟨(some 25), (.pure (.bnot (.tmp 24))), none⟩])
(.cond (.tmp 25)
(.seq (.ops [
.op ⟨(some 4), (.pure (.mv (.const (.bool false)))), none⟩])
(.ret))
(.skip)))
(.seq (.ops [
.op ⟨(some 4), (.pure (.mv (.const (.bool true)))), none⟩])
(.ret)))))),
[.tmp 4]⟩
theorem r_laws_eqPacket : resFun Try.prog f_laws_eqPacket = some c_laws_eqPacket := by kernel_rfl
end Go.Proofs.Ytjmcijcdncgaiaa
