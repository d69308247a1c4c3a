/- The code of this seat's functions, resolved, written by a program of mine; each is held against the given program by the kernel. Condition: none. -/
import Derived.Test.YtgfokmjnfaopaaaProg
import Derived.Test.YtgfokmjnfaopaaaBase9
import Derived.KernelRfl
namespace Go.Proofs.Ytgfokmjnfaopaaa
open Go.Vc

/- loop.example/g00940/laws.FnExactIsRepeater -/
abbrev f_laws_FnExactIsRepeater : Nat := 3
def c_laws_FnExactIsRepeater : MFun := ⟨27, .seq (.ops [
    .op ⟨(some 1), (.eff (.box 24 (.tmp 0))), none⟩,
    .op ⟨(some 2), (.pure (.mv (.const (.bool false)))), none⟩])
  (.seq (.ops [
    .op ⟨(some 3), (.pure (.mv (.const (.int .i64 (1048576))))), none⟩])
  (.seq (.ops [
    .op ⟨(some 7), (.load (some 5) (.tmp 1)), none⟩,
    .op ⟨(some 8), (.pure (.mv (.tmp 3))), none⟩,
    .op ⟨(some 9), (.eff (.call 14 [(.tmp 7), (.tmp 8)])), none⟩,
    .op ⟨(some 3), (.pure (.mv (.tmp 9))), none⟩])
  (.seq (.seq (.ops [
     .op ⟨(some 10), (.pure (.mv (.tmp 3))), none⟩,
     .op ⟨(some 11), (.pure (.bin .lss (.tmp 10) (.const (.int .i64 (0))))), none⟩])
   (.cond (.tmp 11)
   (.seq (.ops [
      .op ⟨(some 2), (.pure (.mv (.const (.bool true)))), none⟩])
    (.ret))
   (.skip)))
  (.seq (.ops [
    .op ⟨(some 12), (.load (some 5) (.tmp 1)), none⟩,
    .op ⟨(some 13), (.eff (.call 16 [(.tmp 12)])), none⟩,
    .op ⟨(some 14), (.eff (.call 15 [(.tmp 13)])), none⟩,
    .op ⟨(some 4), (.pure (.mv (.tmp 14))), none⟩])
  (.seq (.ops [
    .op ⟨(some 15), (.load (some 5) (.tmp 1)), none⟩,
    .op ⟨(some 16), (.eff (.call 16 [(.tmp 15)])), none⟩,
    .op ⟨(some 5), (.eff (.new 27 [(.int .i64 (0)), (.int .i64 (0)), (.int .i64 (0)), (.int .i64 (0)), (.slice none 0 0)])), none⟩,
    .op ⟨none, (.eff (.store 5 (.tmp 5) (.tmp 16))), none⟩])
  (.seq (.ops [
    .op ⟨(some 17), (.load (some 5) (.tmp 5)), none⟩,
    .op ⟨(some 18), (.eff (.call 17 [(.tmp 17)])), none⟩,
    .op ⟨(some 6), (.pure (.mv (.tmp 18))), none⟩])
  (.seq (.seq (.ops [
     .op ⟨(some 19), (.pure (.mv (.tmp 6))), none⟩,
     .op ⟨(some 20), (.pure (.mv (.tmp 4))), none⟩,
     .op ⟨(some 21), (.pure (.eqb true (.tmp 19) (.tmp 20))), none⟩])
   (.cond (.tmp 21)
   (.seq (.ops [
      .op ⟨(some 2), (.pure (.mv (.const (.bool false)))), none⟩])
    (.ret))
   (.skip)))
  (.seq (.seq (.draw true
    (.take ⟨(some 22), (.load (some 5) (.tmp 5)), none⟩
    (.only false ⟨(some 23), (.load (some 5) (.tmp 1)), none⟩
    (.only false ⟨(some 24), (.eff (.call 16 [(.tmp 23)])), none⟩
    (.only false ⟨(some 25), (.eff (.call 18 [(.tmp 22), (.tmp 24)])), none⟩
    (.take ⟨(some 26), (.pure (.bnot (.tmp 25))), none⟩
    (.done)))))))
   (.cond (.tmp 26)
   (.seq (.ops [
      .op ⟨(some 2), (.pure (.mv (.const (.bool false)))), none⟩])
    (.ret))
   (.skip)))
  (.seq (.ops [
    .op ⟨(some 2), (.pure (.mv (.const (.bool true)))), none⟩])
  (.ret)))))))))),
 [.tmp 2]⟩
theorem r_laws_FnExactIsRepeater : resFun Try.prog f_laws_FnExactIsRepeater = some c_laws_FnExactIsRepeater := by kernel_rfl

/- loop.example/g00940/laws.FnExactPlainGlances -/
abbrev f_laws_FnExactPlainGlances : Nat := 4
def c_laws_FnExactPlainGlances : MFun := ⟨93, .seq (.ops [
    .op ⟨(some 2), (.pure (.mv (.const (.bool false)))), none⟩])
  (.seq (.seq (.ops [
     .op ⟨(some 13), (.pure (.mv (.tmp 0))), none⟩,
     .op ⟨(some 14), (.pure (.len (.tmp 13))), none⟩,
     .op ⟨(some 15), (.pure (.bin .gtr (.tmp 14) (.const (.int .i64 (1048576))))), none⟩])
   (.cond (.tmp 15)
   (.seq (.ops [
      .op ⟨(some 2), (.pure (.mv (.const (.bool true)))), none⟩])
    (.ret))
   (.skip)))
  (.seq (.ops [
    .op ⟨(some 17), (.pure (.mv (.tmp 0))), none⟩,
    .op ⟨(some 18), (.eff (.call 20 [(.tmp 17)])), none⟩,
    .op ⟨(some 19), (.eff (.call 19 [(.tmp 18)])), none⟩,
    .op ⟨(some 16), (.pure (.mv (.tmp 19))), none⟩,
    .op ⟨(some 20), (.pure (.ext 0 (.tmp 16))), none⟩,
    .op ⟨(some 21), (.pure (.ext 1 (.tmp 16))), none⟩,
    .op ⟨(some 3), (.pure (.mv (.tmp 20))), none⟩,
    .op ⟨(some 4), (.pure (.mv (.tmp 21))), none⟩])
  (.seq (.ops [
    .op ⟨(some 22), (.pure (.mv (.tmp 0))), none⟩,
    .op ⟨(some 23), (.eff (.call 20 [(.tmp 22)])), none⟩,
    .op ⟨(some 5), (.pure (.mv (.tmp 23))), none⟩])
  (.seq (.ops [
    .op ⟨(some 25), (.pure (.mv (.tmp 5))), none⟩,
    .op ⟨(some 26), (.eff (.call 21 [(.tmp 25)])), none⟩,
    .op ⟨(some 24), (.pure (.mv (.tmp 26))), none⟩,
    .op ⟨(some 27), (.pure (.ext 0 (.tmp 24))), none⟩,
    .op ⟨(some 28), (.pure (.ext 1 (.tmp 24))), none⟩,
    .op ⟨(some 6), (.pure (.mv (.tmp 27))), none⟩,
    .op ⟨(some 7), (.pure (.mv (.tmp 28))), none⟩])
  (.seq (.seq (.ops [
     .op ⟨(some 29), (.pure (.mv (.tmp 6))), none⟩,
     .op ⟨(some 30), (.pure (.mv (.tmp 3))), none⟩,
     .op ⟨(some 31), (.eff (.call 22 [(.tmp 29), (.tmp 30)])), none⟩,
     .op ⟨(some 32), (.pure (.bnot (.tmp 31))), none⟩,
     .op ⟨(some 33), (.pure (.mv (.tmp 32))), none⟩,
     .split 33,
     .op ⟨(some 34), (.pure (.mv (.tmp 7))), (some (33, false))⟩,
     .op ⟨(some 35), (.pure (.mv (.tmp 4))), (some (33, false))⟩,
     .op ⟨(some 36), (.pure (.eqb true (.tmp 34) (.tmp 35))), (some (33, false))⟩,
     .op ⟨(some 37), (.pure (.pick (.tmp 33) (.const (.bool true)) (.tmp 36))), none⟩])
   (.cond (.tmp 37)
   (.seq (.ops [
      .op ⟨(some 2), (.pure (.mv (.const (.bool false)))), none⟩])
    (.ret))
   (.skip)))
  (.seq (.seq (.ops [
     .op ⟨(some 38), (.pure (.mv (.tmp 5))), none⟩,
     .op ⟨(some 39), (.pure (.mv (.tmp 0))), none⟩,
     .op ⟨(some 40), (.eff (.call 20 [(.tmp 39)])), none⟩,
     .op ⟨(some 41), (.eff (.call 23 [(.tmp 38), (.tmp 40)])), none⟩,
     .op ⟨(some 42), (.pure (.bnot (.tmp 41))), none⟩])
   (.cond (.tmp 42)
   (.seq (.ops [
      .op ⟨(some 2), (.pure (.mv (.const (.bool false)))), none⟩])
    (.ret))
   (.skip)))
  (.seq (.ops [
    .op ⟨(some 8), (.pure (.mv (.const (.int .i64 (1))))), none⟩])
  (.seq (.ops [
    .op ⟨(some 43), (.pure (.mv (.tmp 5))), none⟩,
    .op ⟨(some 44), (.pure (.mv (.tmp 8))), none⟩,
    .op ⟨(some 45), (.eff (.call 24 [(.tmp 43), (.tmp 44)])), none⟩,
    .op ⟨(some 8), (.pure (.mv (.tmp 45))), none⟩])
  (.seq (.seq (.ops [
     .op ⟨(some 46), (.pure (.mv (.tmp 8))), none⟩,
     .op ⟨(some 47), (.pure (.bin .lss (.tmp 46) (.const (.int .i64 (0))))), none⟩,
     .op ⟨(some 48), (.pure (.mv (.tmp 47))), none⟩,
     .split 48,
     .op ⟨(some 49), (.pure (.mv (.tmp 6))), (some (48, false))⟩,
     .op ⟨(some 50), (.pure (.mv (.tmp 3))), (some (48, false))⟩,
     .op ⟨(some 51), (.eff (.call 22 [(.tmp 49), (.tmp 50)])), (some (48, false))⟩,
     .op ⟨(some 52), (.pure (.bnot (.tmp 51))), (some (48, false))⟩,
     .op ⟨(some 53), (.pure (.pick (.tmp 48) (.const (.bool true)) (.tmp 52))), none⟩,
     .op ⟨(some 54), (.pure (.mv (.tmp 53))), none⟩,
     .split 54,
     .op ⟨(some 55), (.pure (.mv (.tmp 7))), (some (54, false))⟩,
     .op ⟨(some 56), (.pure (.mv (.tmp 4))), (some (54, false))⟩,
     .op ⟨(some 57), (.pure (.eqb true (.tmp 55) (.tmp 56))), (some (54, false))⟩,
     .op ⟨(some 58), (.pure (.pick (.tmp 54) (.const (.bool true)) (.tmp 57))), none⟩])
   (.cond (.tmp 58)
   (.seq (.ops [
      .op ⟨(some 2), (.pure (.mv (.const (.bool false)))), none⟩])
    (.ret))
   (.skip)))
  (.seq (.ops [
    .op ⟨(some 9), (.pure (.mv (.const (.int .i64 (1))))), none⟩])
  (.seq (.ops [
    .op ⟨(some 59), (.pure (.mv (.tmp 6))), none⟩,
    .op ⟨(some 60), (.pure (.mv (.tmp 9))), none⟩,
    .op ⟨(some 61), (.eff (.call 25 [(.tmp 59), (.tmp 60)])), none⟩,
    .op ⟨(some 9), (.pure (.mv (.tmp 61))), none⟩])
  (.seq (.ops [
    .op ⟨(some 10), (.pure (.mv (.const (.int .i64 (1))))), none⟩])
  (.seq (.ops [
    .op ⟨(some 62), (.pure (.mv (.tmp 6))), none⟩,
    .op ⟨(some 63), (.pure (.mv (.tmp 10))), none⟩,
    .op ⟨(some 64), (.eff (.call 26 [(.tmp 62), (.tmp 63)])), none⟩,
    .op ⟨(some 10), (.pure (.mv (.tmp 64))), none⟩])
  (.seq (.seq (.ops [
     .op ⟨(some 65), (.pure (.mv (.tmp 10))), none⟩,
     .op ⟨(some 66), (.pure (.bin .lss (.tmp 65) (.const (.int .i64 (0))))), none⟩])
   (.cond (.tmp 66)
   (.seq (.ops [
      .op ⟨(some 2), (.pure (.mv (.const (.bool false)))), none⟩])
    (.ret))
   (.skip)))
  (.seq (.seq (.ops [
     .op ⟨(some 67), (.pure (.mv (.tmp 10))), none⟩,
     .op ⟨(some 68), (.pure (.mv (.tmp 9))), none⟩,
     .op ⟨(some 69), (.pure (.bin .neq (.tmp 67) (.tmp 68))), none⟩])
   (.cond (.tmp 69)
   (.seq (.ops [
      .op ⟨(some 2), (.pure (.mv (.const (.bool false)))), none⟩])
    (.ret))
   (.skip)))
  (.seq (.ops [
    .op ⟨(some 71), (.pure (.mv (.tmp 0))), none⟩,
    .op ⟨(some 72), (.eff (.call 20 [(.tmp 71)])), none⟩,
    .op ⟨(some 73), (.eff (.call 21 [(.tmp 72)])), none⟩,
    .op ⟨(some 70), (.pure (.mv (.tmp 73))), none⟩,
    .op ⟨(some 74), (.pure (.ext 0 (.tmp 70))), none⟩,
    .op ⟨(some 75), (.pure (.ext 1 (.tmp 70))), none⟩,
    .op ⟨(some 11), (.pure (.mv (.tmp 74))), none⟩,
    .op ⟨(some 12), (.pure (.mv (.tmp 75))), none⟩])
  (.seq (.seq (.ops [
     .op ⟨(some 76), (.pure (.mv (.tmp 11))), none⟩,
     .op ⟨(some 77), (.pure (.mv (.tmp 3))), none⟩,
     .op ⟨(some 78), (.eff (.call 22 [(.tmp 76), (.tmp 77)])), none⟩,
     .op ⟨(some 79), (.pure (.bnot (.tmp 78))), none⟩,
     .op ⟨(some 80), (.pure (.mv (.tmp 79))), none⟩,
     .split 80,
     .op ⟨(some 81), (.pure (.mv (.tmp 12))), (some (80, false))⟩,
     .op ⟨(some 82), (.pure (.mv (.tmp 4))), (some (80, false))⟩,
     .op ⟨(some 83), (.pure (.eqb true (.tmp 81) (.tmp 82))), (some (80, false))⟩,
     .op ⟨(some 84), (.pure (.pick (.tmp 80) (.const (.bool true)) (.tmp 83))), none⟩])
   (.cond (.tmp 84)
   (.seq (.ops [
      .op ⟨(some 2), (.pure (.mv (.const (.bool false)))), none⟩])
    (.ret))
   (.skip)))
  (.seq (.ops [
    .op ⟨(some 10), (.pure (.mv (.const (.int .i64 (1))))), none⟩])
  (.seq (.ops [
    .op ⟨(some 85), (.pure (.mv (.tmp 6))), none⟩,
    .op ⟨(some 86), (.pure (.mv (.tmp 10))), none⟩,
    .op ⟨(some 87), (.eff (.call 26 [(.tmp 85), (.tmp 86)])), none⟩,
    .op ⟨(some 10), (.pure (.mv (.tmp 87))), none⟩])
  (.seq (.seq (.ops [
     .op ⟨(some 88), (.pure (.mv (.tmp 10))), none⟩,
     .op ⟨(some 89), (.pure (.bin .lss (.tmp 88) (.const (.int .i64 (0))))), none⟩])
   (.cond (.tmp 89)
   (.seq (.ops [
      .op ⟨(some 2), (.pure (.mv (.const (.bool false)))), none⟩])
    (.ret))
   (.skip)))
  (.seq (.seq (.ops [
     .op ⟨(some 90), (.pure (.mv (.tmp 10))), none⟩,
     .op ⟨(some 91), (.pure (.mv (.tmp 9))), none⟩,
     .op ⟨(some 92), (.pure (.bin .neq (.tmp 90) (.tmp 91))), none⟩])
   (.cond (.tmp 92)
   (.seq (.ops [
      .op ⟨(some 2), (.pure (.mv (.const (.bool false)))), none⟩])
    (.ret))
   (.skip)))
  (.seq (.ops [
    .op ⟨(some 2), (.pure (.mv (.const (.bool true)))), none⟩])
  (.ret))))))))))))))))))))))),
 [.tmp 2]⟩
theorem r_laws_FnExactPlainGlances : resFun Try.prog f_laws_FnExactPlainGlances = some c_laws_FnExactPlainGlances := by kernel_rfl

/- loop.example/g00940/laws.FnExactWithMisreading -/
abbrev f_laws_FnExactWithMisreading : Nat := 5
def c_laws_FnExactWithMisreading : MFun := ⟨106, .seq (.ops [
    .op ⟨(some 6), (.pure (.mv (.const (.bool false)))), none⟩])
  (.seq (.ops [
    .op ⟨(some 7), (.pure (.mv (.const (.int .i64 (1048576))))), none⟩])
  (.seq (.ops [
    .op ⟨(some 18), (.pure (.mv (.tmp 0))), none⟩,
    .op ⟨(some 19), (.pure (.mv (.tmp 7))), none⟩,
    .op ⟨(some 20), (.eff (.call 27 [(.tmp 18), (.tmp 19)])), none⟩,
    .op ⟨(some 7), (.pure (.mv (.tmp 20))), none⟩])
  (.seq (.seq (.ops [
     .op ⟨(some 21), (.pure (.mv (.tmp 7))), none⟩,
     .op ⟨(some 22), (.pure (.bin .lss (.tmp 21) (.const (.int .i64 (0))))), none⟩])
   (.cond (.tmp 22)
   (.seq (.ops [
      .op ⟨(some 6), (.pure (.mv (.const (.bool true)))), none⟩])
    (.ret))
   (.skip)))
  (.seq (.ops [
    .op ⟨(some 24), (.pure (.mv (.tmp 0))), none⟩,
    .op ⟨(some 25), (.eff (.call 29 [(.tmp 24)])), none⟩,
    .op ⟨(some 26), (.pure (.mv (.tmp 1))), none⟩,
    .op ⟨(some 27), (.pure (.mv (.tmp 2))), none⟩,
    .op ⟨(some 28), (.eff (.call 28 [(.tmp 25), (.tmp 26), (.tmp 27)])), none⟩,
    .op ⟨(some 23), (.pure (.mv (.tmp 28))), none⟩,
    .op ⟨(some 29), (.pure (.ext 0 (.tmp 23))), none⟩,
    .op ⟨(some 30), (.pure (.ext 1 (.tmp 23))), none⟩,
    .op ⟨(some 8), (.pure (.mv (.tmp 29))), none⟩,
    .op ⟨(some 9), (.pure (.mv (.tmp 30))), none⟩])
  (.seq (.ops [
    .op ⟨(some 31), (.pure (.mv (.tmp 0))), none⟩,
    .op ⟨(some 32), (.eff (.call 29 [(.tmp 31)])), none⟩,
    .op ⟨(some 10), (.pure (.mv (.tmp 32))), none⟩])
  (.seq (.ops [
    .op ⟨(some 34), (.pure (.mv (.tmp 10))), none⟩,
    .op ⟨(some 35), (.pure (.mv (.tmp 1))), none⟩,
    .op ⟨(some 36), (.pure (.mv (.tmp 2))), none⟩,
    .op ⟨(some 37), (.eff (.call 30 [(.tmp 34), (.tmp 35), (.tmp 36)])), none⟩,
    .op ⟨(some 33), (.pure (.mv (.tmp 37))), none⟩,
    .op ⟨(some 38), (.pure (.ext 0 (.tmp 33))), none⟩,
    .op ⟨(some 39), (.pure (.ext 1 (.tmp 33))), none⟩,
    .op ⟨(some 11), (.pure (.mv (.tmp 38))), none⟩,
    .op ⟨(some 12), (.pure (.mv (.tmp 39))), none⟩])
  (.seq (.seq (.ops [
     .op ⟨(some 40), (.pure (.mv (.tmp 11))), none⟩,
     .op ⟨(some 41), (.pure (.mv (.tmp 8))), none⟩,
     .op ⟨(some 42), (.eff (.call 22 [(.tmp 40), (.tmp 41)])), none⟩,
     .op ⟨(some 43), (.pure (.bnot (.tmp 42))), none⟩,
     .op ⟨(some 44), (.pure (.mv (.tmp 43))), none⟩,
     .split 44,
     .op ⟨(some 45), (.pure (.mv (.tmp 12))), (some (44, false))⟩,
     .op ⟨(some 46), (.pure (.mv (.tmp 9))), (some (44, false))⟩,
     .op ⟨(some 47), (.pure (.eqb true (.tmp 45) (.tmp 46))), (some (44, false))⟩,
     .op ⟨(some 48), (.pure (.pick (.tmp 44) (.const (.bool true)) (.tmp 47))), none⟩])
   (.cond (.tmp 48)
   (.seq (.ops [
      .op ⟨(some 6), (.pure (.mv (.const (.bool false)))), none⟩])
    (.ret))
   (.skip)))
  (.seq (.seq (.ops [
     .op ⟨(some 49), (.pure (.mv (.tmp 10))), none⟩,
     .op ⟨(some 50), (.pure (.mv (.tmp 0))), none⟩,
     .op ⟨(some 51), (.eff (.call 29 [(.tmp 50)])), none⟩,
     .op ⟨(some 52), (.eff (.call 22 [(.tmp 49), (.tmp 51)])), none⟩,
     .op ⟨(some 53), (.pure (.bnot (.tmp 52))), none⟩])
   (.cond (.tmp 53)
   (.seq (.ops [
      .op ⟨(some 6), (.pure (.mv (.const (.bool false)))), none⟩])
    (.ret))
   (.skip)))
  (.seq (.ops [
    .op ⟨(some 13), (.pure (.mv (.const (.int .i64 (1))))), none⟩])
  (.seq (.ops [
    .op ⟨(some 54), (.pure (.mv (.tmp 10))), none⟩,
    .op ⟨(some 55), (.pure (.mv (.tmp 13))), none⟩,
    .op ⟨(some 56), (.eff (.call 25 [(.tmp 54), (.tmp 55)])), none⟩,
    .op ⟨(some 13), (.pure (.mv (.tmp 56))), none⟩])
  (.seq (.seq (.ops [
     .op ⟨(some 57), (.pure (.mv (.tmp 13))), none⟩,
     .op ⟨(some 58), (.pure (.bin .lss (.tmp 57) (.const (.int .i64 (0))))), none⟩,
     .op ⟨(some 59), (.pure (.mv (.tmp 58))), none⟩,
     .split 59,
     .op ⟨(some 60), (.pure (.mv (.tmp 11))), (some (59, false))⟩,
     .op ⟨(some 61), (.pure (.mv (.tmp 8))), (some (59, false))⟩,
     .op ⟨(some 62), (.eff (.call 22 [(.tmp 60), (.tmp 61)])), (some (59, false))⟩,
     .op ⟨(some 63), (.pure (.bnot (.tmp 62))), (some (59, false))⟩,
     .op ⟨(some 64), (.pure (.pick (.tmp 59) (.const (.bool true)) (.tmp 63))), none⟩,
     .op ⟨(some 65), (.pure (.mv (.tmp 64))), none⟩,
     .split 65,
     .op ⟨(some 66), (.pure (.mv (.tmp 12))), (some (65, false))⟩,
     .op ⟨(some 67), (.pure (.mv (.tmp 9))), (some (65, false))⟩,
     .op ⟨(some 68), (.pure (.eqb true (.tmp 66) (.tmp 67))), (some (65, false))⟩,
     .op ⟨(some 69), (.pure (.pick (.tmp 65) (.const (.bool true)) (.tmp 68))), none⟩])
   (.cond (.tmp 69)
   (.seq (.ops [
      .op ⟨(some 6), (.pure (.mv (.const (.bool false)))), none⟩])
    (.ret))
   (.skip)))
  (.seq (.ops [
    .op ⟨(some 14), (.pure (.mv (.const (.int .i64 (1))))), none⟩])
  (.seq (.ops [
    .op ⟨(some 70), (.pure (.mv (.tmp 11))), none⟩,
    .op ⟨(some 71), (.pure (.mv (.tmp 14))), none⟩,
    .op ⟨(some 72), (.eff (.call 25 [(.tmp 70), (.tmp 71)])), none⟩,
    .op ⟨(some 14), (.pure (.mv (.tmp 72))), none⟩])
  (.seq (.ops [
    .op ⟨(some 15), (.pure (.mv (.const (.int .i64 (1))))), none⟩])
  (.seq (.ops [
    .op ⟨(some 73), (.pure (.mv (.tmp 11))), none⟩,
    .op ⟨(some 74), (.pure (.mv (.tmp 15))), none⟩,
    .op ⟨(some 75), (.eff (.call 26 [(.tmp 73), (.tmp 74)])), none⟩,
    .op ⟨(some 15), (.pure (.mv (.tmp 75))), none⟩])
  (.seq (.seq (.ops [
     .op ⟨(some 76), (.pure (.mv (.tmp 15))), none⟩,
     .op ⟨(some 77), (.pure (.bin .lss (.tmp 76) (.const (.int .i64 (0))))), none⟩])
   (.cond (.tmp 77)
   (.seq (.ops [
      .op ⟨(some 6), (.pure (.mv (.const (.bool false)))), none⟩])
    (.ret))
   (.skip)))
  (.seq (.seq (.ops [
     .op ⟨(some 78), (.pure (.mv (.tmp 15))), none⟩,
     .op ⟨(some 79), (.pure (.mv (.tmp 14))), none⟩,
     .op ⟨(some 80), (.pure (.bin .neq (.tmp 78) (.tmp 79))), none⟩])
   (.cond (.tmp 80)
   (.seq (.ops [
      .op ⟨(some 6), (.pure (.mv (.const (.bool false)))), none⟩])
    (.ret))
   (.skip)))
  (.seq (.ops [
    .op ⟨(some 82), (.pure (.mv (.tmp 0))), none⟩,
    .op ⟨(some 83), (.eff (.call 29 [(.tmp 82)])), none⟩,
    .op ⟨(some 84), (.pure (.mv (.tmp 1))), none⟩,
    .op ⟨(some 85), (.pure (.mv (.tmp 2))), none⟩,
    .op ⟨(some 86), (.eff (.call 30 [(.tmp 83), (.tmp 84), (.tmp 85)])), none⟩,
    .op ⟨(some 81), (.pure (.mv (.tmp 86))), none⟩,
    .op ⟨(some 87), (.pure (.ext 0 (.tmp 81))), none⟩,
    .op ⟨(some 88), (.pure (.ext 1 (.tmp 81))), none⟩,
    .op ⟨(some 16), (.pure (.mv (.tmp 87))), none⟩,
    .op ⟨(some 17), (.pure (.mv (.tmp 88))), none⟩])
  (.seq (.seq (.ops [
     .op ⟨(some 89), (.pure (.mv (.tmp 16))), none⟩,
     .op ⟨(some 90), (.pure (.mv (.tmp 8))), none⟩,
     .op ⟨(some 91), (.eff (.call 22 [(.tmp 89), (.tmp 90)])), none⟩,
     .op ⟨(some 92), (.pure (.bnot (.tmp 91))), none⟩,
     .op ⟨(some 93), (.pure (.mv (.tmp 92))), none⟩,
     .split 93,
     .op ⟨(some 94), (.pure (.mv (.tmp 17))), (some (93, false))⟩,
     .op ⟨(some 95), (.pure (.mv (.tmp 9))), (some (93, false))⟩,
     .op ⟨(some 96), (.pure (.eqb true (.tmp 94) (.tmp 95))), (some (93, false))⟩,
     .op ⟨(some 97), (.pure (.pick (.tmp 93) (.const (.bool true)) (.tmp 96))), none⟩])
   (.cond (.tmp 97)
   (.seq (.ops [
      .op ⟨(some 6), (.pure (.mv (.const (.bool false)))), none⟩])
    (.ret))
   (.skip)))
  (.seq (.ops [
    .op ⟨(some 15), (.pure (.mv (.const (.int .i64 (1))))), none⟩])
  (.seq (.ops [
    .op ⟨(some 98), (.pure (.mv (.tmp 11))), none⟩,
    .op ⟨(some 99), (.pure (.mv (.tmp 15))), none⟩,
    .op ⟨(some 100), (.eff (.call 26 [(.tmp 98), (.tmp 99)])), none⟩,
    .op ⟨(some 15), (.pure (.mv (.tmp 100))), none⟩])
  (.seq (.seq (.ops [
     .op ⟨(some 101), (.pure (.mv (.tmp 15))), none⟩,
     .op ⟨(some 102), (.pure (.bin .lss (.tmp 101) (.const (.int .i64 (0))))), none⟩])
   (.cond (.tmp 102)
   (.seq (.ops [
      .op ⟨(some 6), (.pure (.mv (.const (.bool false)))), none⟩])
    (.ret))
   (.skip)))
  (.seq (.seq (.ops [
     .op ⟨(some 103), (.pure (.mv (.tmp 15))), none⟩,
     .op ⟨(some 104), (.pure (.mv (.tmp 14))), none⟩,
     .op ⟨(some 105), (.pure (.bin .neq (.tmp 103) (.tmp 104))), none⟩])
   (.cond (.tmp 105)
   (.seq (.ops [
      .op ⟨(some 6), (.pure (.mv (.const (.bool false)))), none⟩])
    (.ret))
   (.skip)))
  (.seq (.ops [
    .op ⟨(some 6), (.pure (.mv (.const (.bool true)))), none⟩])
  (.ret))))))))))))))))))))))))),
 [.tmp 6]⟩
theorem r_laws_FnExactWithMisreading : resFun Try.prog f_laws_FnExactWithMisreading = some c_laws_FnExactWithMisreading := by kernel_rfl

/- loop.example/g00940/laws.FnExactWrongShows -/
abbrev f_laws_FnExactWrongShows : Nat := 6
def c_laws_FnExactWrongShows : MFun := ⟨40, .seq (.ops [
    .op ⟨(some 2), (.pure (.mv (.const (.bool false)))), none⟩])
  (.seq (.ops [
    .op ⟨(some 3), (.pure (.mv (.const (.int .i64 (1048576))))), none⟩])
  (.seq (.ops [
    .op ⟨(some 9), (.pure (.mv (.tmp 0))), none⟩,
    .op ⟨(some 10), (.pure (.mv (.tmp 3))), none⟩,
    .op ⟨(some 11), (.eff (.call 27 [(.tmp 9), (.tmp 10)])), none⟩,
    .op ⟨(some 3), (.pure (.mv (.tmp 11))), none⟩])
  (.seq (.seq (.ops [
     .op ⟨(some 12), (.pure (.mv (.tmp 3))), none⟩,
     .op ⟨(some 13), (.pure (.bin .lss (.tmp 12) (.const (.int .i64 (0))))), none⟩])
   (.cond (.tmp 13)
   (.seq (.ops [
      .op ⟨(some 2), (.pure (.mv (.const (.bool true)))), none⟩])
    (.ret))
   (.skip)))
  (.seq (.ops [
    .op ⟨(some 15), (.pure (.mv (.tmp 0))), none⟩,
    .op ⟨(some 16), (.eff (.call 29 [(.tmp 15)])), none⟩,
    .op ⟨(some 17), (.eff (.call 31 [(.tmp 16)])), none⟩,
    .op ⟨(some 14), (.pure (.mv (.tmp 17))), none⟩,
    .op ⟨(some 18), (.pure (.ext 0 (.tmp 14))), none⟩,
    .op ⟨(some 19), (.pure (.ext 1 (.tmp 14))), none⟩,
    .op ⟨(some 4), (.pure (.mv (.tmp 18))), none⟩,
    .op ⟨(some 5), (.pure (.mv (.tmp 19))), none⟩])
  (.seq (.ops [
    .op ⟨(some 20), (.pure (.mv (.tmp 0))), none⟩,
    .op ⟨(some 21), (.eff (.call 29 [(.tmp 20)])), none⟩,
    .op ⟨(some 6), (.pure (.mv (.tmp 21))), none⟩])
  (.seq (.ops [
    .op ⟨(some 23), (.pure (.mv (.tmp 6))), none⟩,
    .op ⟨(some 24), (.eff (.call 32 [(.tmp 23)])), none⟩,
    .op ⟨(some 22), (.pure (.mv (.tmp 24))), none⟩,
    .op ⟨(some 25), (.pure (.ext 0 (.tmp 22))), none⟩,
    .op ⟨(some 26), (.pure (.ext 1 (.tmp 22))), none⟩,
    .op ⟨(some 7), (.pure (.mv (.tmp 25))), none⟩,
    .op ⟨(some 8), (.pure (.mv (.tmp 26))), none⟩])
  (.seq (.seq (.ops [
     .op ⟨(some 27), (.pure (.mv (.tmp 7))), none⟩,
     .op ⟨(some 28), (.pure (.mv (.tmp 4))), none⟩,
     .op ⟨(some 29), (.pure (.bin .neq (.tmp 27) (.tmp 28))), none⟩,
     .op ⟨(some 30), (.pure (.mv (.tmp 29))), none⟩,
     .split 30,
     .op ⟨(some 31), (.pure (.mv (.tmp 8))), (some (30, false))⟩,
     .op ⟨(some 32), (.pure (.mv (.tmp 5))), (some (30, false))⟩,
     .op ⟨(some 33), (.pure (.eqb true (.tmp 31) (.tmp 32))), (some (30, false))⟩,
     .op ⟨(some 34), (.pure (.pick (.tmp 30) (.const (.bool true)) (.tmp 33))), none⟩])
   (.cond (.tmp 34)
   (.seq (.ops [
      .op ⟨(some 2), (.pure (.mv (.const (.bool false)))), none⟩])
    (.ret))
   (.skip)))
  (.seq (.seq (.ops [
     .op ⟨(some 35), (.pure (.mv (.tmp 6))), none⟩,
     .op ⟨(some 36), (.pure (.mv (.tmp 0))), none⟩,
     .op ⟨(some 37), (.eff (.call 29 [(.tmp 36)])), none⟩,
     .op ⟨(some 38), (.eff (.call 22 [(.tmp 35), (.tmp 37)])), none⟩,
     .op ⟨(some 39), (.pure (.bnot (.tmp 38))), none⟩])
   (.cond (.tmp 39)
   (.seq (.ops [
      .op ⟨(some 2), (.pure (.mv (.const (.bool false)))), none⟩])
    (.ret))
   (.skip)))
  (.seq (.ops [
    .op ⟨(some 2), (.pure (.mv (.const (.bool true)))), none⟩])
  (.ret)))))))))),
 [.tmp 2]⟩
theorem r_laws_FnExactWrongShows : resFun Try.prog f_laws_FnExactWrongShows = some c_laws_FnExactWrongShows := by kernel_rfl

/- loop.example/g00940/laws.FnExactShownAfter -/
abbrev f_laws_FnExactShownAfter : Nat := 7
def c_laws_FnExactShownAfter : MFun := ⟨96, .seq (.ops [
    .op ⟨(some 2), (.pure (.mv (.const (.bool false)))), none⟩])
  (.seq (.ops [
    .op ⟨(some 3), (.pure (.mv (.const (.int .i64 (1048576))))), none⟩])
  (.seq (.ops [
    .op ⟨(some 14), (.pure (.mv (.tmp 0))), none⟩,
    .op ⟨(some 15), (.pure (.mv (.tmp 3))), none⟩,
    .op ⟨(some 16), (.eff (.call 27 [(.tmp 14), (.tmp 15)])), none⟩,
    .op ⟨(some 3), (.pure (.mv (.tmp 16))), none⟩])
  (.seq (.seq (.ops [
     .op ⟨(some 17), (.pure (.mv (.tmp 3))), none⟩,
     .op ⟨(some 18), (.pure (.bin .lss (.tmp 17) (.const (.int .i64 (0))))), none⟩])
   (.cond (.tmp 18)
   (.seq (.ops [
      .op ⟨(some 2), (.pure (.mv (.const (.bool true)))), none⟩])
    (.ret))
   (.skip)))
  (.seq (.ops [
    .op ⟨(some 20), (.pure (.mv (.tmp 0))), none⟩,
    .op ⟨(some 21), (.eff (.call 29 [(.tmp 20)])), none⟩,
    .op ⟨(some 22), (.eff (.call 33 [(.tmp 21)])), none⟩,
    .op ⟨(some 19), (.pure (.mv (.tmp 22))), none⟩,
    .op ⟨(some 23), (.pure (.ext 0 (.tmp 19))), none⟩,
    .op ⟨(some 24), (.pure (.ext 1 (.tmp 19))), none⟩,
    .op ⟨(some 4), (.pure (.mv (.tmp 23))), none⟩,
    .op ⟨(some 5), (.pure (.mv (.tmp 24))), none⟩])
  (.seq (.ops [
    .op ⟨(some 25), (.pure (.mv (.tmp 0))), none⟩,
    .op ⟨(some 26), (.eff (.call 29 [(.tmp 25)])), none⟩,
    .op ⟨(some 6), (.pure (.mv (.tmp 26))), none⟩])
  (.seq (.ops [
    .op ⟨(some 28), (.pure (.mv (.tmp 6))), none⟩,
    .op ⟨(some 29), (.eff (.call 34 [(.tmp 28)])), none⟩,
    .op ⟨(some 27), (.pure (.mv (.tmp 29))), none⟩,
    .op ⟨(some 30), (.pure (.ext 0 (.tmp 27))), none⟩,
    .op ⟨(some 31), (.pure (.ext 1 (.tmp 27))), none⟩,
    .op ⟨(some 7), (.pure (.mv (.tmp 30))), none⟩,
    .op ⟨(some 8), (.pure (.mv (.tmp 31))), none⟩])
  (.seq (.seq (.ops [
     .op ⟨(some 32), (.pure (.mv (.tmp 7))), none⟩,
     .op ⟨(some 33), (.pure (.mv (.tmp 4))), none⟩,
     .op ⟨(some 34), (.eff (.call 23 [(.tmp 32), (.tmp 33)])), none⟩,
     .op ⟨(some 35), (.pure (.bnot (.tmp 34))), none⟩,
     .op ⟨(some 36), (.pure (.mv (.tmp 35))), none⟩,
     .split 36,
     .op ⟨(some 37), (.pure (.mv (.tmp 8))), (some (36, false))⟩,
     .op ⟨(some 38), (.pure (.mv (.tmp 5))), (some (36, false))⟩,
     .op ⟨(some 39), (.pure (.eqb true (.tmp 37) (.tmp 38))), (some (36, false))⟩,
     .op ⟨(some 40), (.pure (.pick (.tmp 36) (.const (.bool true)) (.tmp 39))), none⟩])
   (.cond (.tmp 40)
   (.seq (.ops [
      .op ⟨(some 2), (.pure (.mv (.const (.bool false)))), none⟩])
    (.ret))
   (.skip)))
  (.seq (.seq (.ops [
     .op ⟨(some 41), (.pure (.mv (.tmp 6))), none⟩,
     .op ⟨(some 42), (.pure (.mv (.tmp 0))), none⟩,
     .op ⟨(some 43), (.eff (.call 29 [(.tmp 42)])), none⟩,
     .op ⟨(some 44), (.eff (.call 22 [(.tmp 41), (.tmp 43)])), none⟩,
     .op ⟨(some 45), (.pure (.bnot (.tmp 44))), none⟩])
   (.cond (.tmp 45)
   (.seq (.ops [
      .op ⟨(some 2), (.pure (.mv (.const (.bool false)))), none⟩])
    (.ret))
   (.skip)))
  (.seq (.ops [
    .op ⟨(some 9), (.pure (.mv (.const (.int .i64 (1))))), none⟩])
  (.seq (.ops [
    .op ⟨(some 46), (.pure (.mv (.tmp 6))), none⟩,
    .op ⟨(some 47), (.pure (.mv (.tmp 9))), none⟩,
    .op ⟨(some 48), (.eff (.call 25 [(.tmp 46), (.tmp 47)])), none⟩,
    .op ⟨(some 9), (.pure (.mv (.tmp 48))), none⟩])
  (.seq (.seq (.ops [
     .op ⟨(some 49), (.pure (.mv (.tmp 9))), none⟩,
     .op ⟨(some 50), (.pure (.bin .lss (.tmp 49) (.const (.int .i64 (0))))), none⟩,
     .op ⟨(some 51), (.pure (.mv (.tmp 50))), none⟩,
     .split 51,
     .op ⟨(some 52), (.pure (.mv (.tmp 7))), (some (51, false))⟩,
     .op ⟨(some 53), (.pure (.mv (.tmp 4))), (some (51, false))⟩,
     .op ⟨(some 54), (.eff (.call 23 [(.tmp 52), (.tmp 53)])), (some (51, false))⟩,
     .op ⟨(some 55), (.pure (.bnot (.tmp 54))), (some (51, false))⟩,
     .op ⟨(some 56), (.pure (.pick (.tmp 51) (.const (.bool true)) (.tmp 55))), none⟩,
     .op ⟨(some 57), (.pure (.mv (.tmp 56))), none⟩,
     .split 57,
     .op ⟨(some 58), (.pure (.mv (.tmp 8))), (some (57, false))⟩,
     .op ⟨(some 59), (.pure (.mv (.tmp 5))), (some (57, false))⟩,
     .op ⟨(some 60), (.pure (.eqb true (.tmp 58) (.tmp 59))), (some (57, false))⟩,
     .op ⟨(some 61), (.pure (.pick (.tmp 57) (.const (.bool true)) (.tmp 60))), none⟩])
   (.cond (.tmp 61)
   (.seq (.ops [
      .op ⟨(some 2), (.pure (.mv (.const (.bool false)))), none⟩])
    (.ret))
   (.skip)))
  (.seq (.ops [
    .op ⟨(some 10), (.pure (.mv (.const (.int .i64 (1))))), none⟩])
  (.seq (.ops [
    .op ⟨(some 62), (.pure (.mv (.tmp 7))), none⟩,
    .op ⟨(some 63), (.pure (.mv (.tmp 10))), none⟩,
    .op ⟨(some 64), (.eff (.call 24 [(.tmp 62), (.tmp 63)])), none⟩,
    .op ⟨(some 10), (.pure (.mv (.tmp 64))), none⟩])
  (.seq (.ops [
    .op ⟨(some 11), (.pure (.mv (.const (.int .i64 (1))))), none⟩])
  (.seq (.ops [
    .op ⟨(some 65), (.pure (.mv (.tmp 7))), none⟩,
    .op ⟨(some 66), (.pure (.mv (.tmp 11))), none⟩,
    .op ⟨(some 67), (.eff (.call 35 [(.tmp 65), (.tmp 66)])), none⟩,
    .op ⟨(some 11), (.pure (.mv (.tmp 67))), none⟩])
  (.seq (.seq (.ops [
     .op ⟨(some 68), (.pure (.mv (.tmp 11))), none⟩,
     .op ⟨(some 69), (.pure (.bin .lss (.tmp 68) (.const (.int .i64 (0))))), none⟩])
   (.cond (.tmp 69)
   (.seq (.ops [
      .op ⟨(some 2), (.pure (.mv (.const (.bool false)))), none⟩])
    (.ret))
   (.skip)))
  (.seq (.seq (.ops [
     .op ⟨(some 70), (.pure (.mv (.tmp 11))), none⟩,
     .op ⟨(some 71), (.pure (.mv (.tmp 10))), none⟩,
     .op ⟨(some 72), (.pure (.bin .neq (.tmp 70) (.tmp 71))), none⟩])
   (.cond (.tmp 72)
   (.seq (.ops [
      .op ⟨(some 2), (.pure (.mv (.const (.bool false)))), none⟩])
    (.ret))
   (.skip)))
  (.seq (.ops [
    .op ⟨(some 74), (.pure (.mv (.tmp 0))), none⟩,
    .op ⟨(some 75), (.eff (.call 29 [(.tmp 74)])), none⟩,
    .op ⟨(some 76), (.eff (.call 34 [(.tmp 75)])), none⟩,
    .op ⟨(some 73), (.pure (.mv (.tmp 76))), none⟩,
    .op ⟨(some 77), (.pure (.ext 0 (.tmp 73))), none⟩,
    .op ⟨(some 78), (.pure (.ext 1 (.tmp 73))), none⟩,
    .op ⟨(some 12), (.pure (.mv (.tmp 77))), none⟩,
    .op ⟨(some 13), (.pure (.mv (.tmp 78))), none⟩])
  (.seq (.seq (.ops [
     .op ⟨(some 79), (.pure (.mv (.tmp 12))), none⟩,
     .op ⟨(some 80), (.pure (.mv (.tmp 4))), none⟩,
     .op ⟨(some 81), (.eff (.call 23 [(.tmp 79), (.tmp 80)])), none⟩,
     .op ⟨(some 82), (.pure (.bnot (.tmp 81))), none⟩,
     .op ⟨(some 83), (.pure (.mv (.tmp 82))), none⟩,
     .split 83,
     .op ⟨(some 84), (.pure (.mv (.tmp 13))), (some (83, false))⟩,
     .op ⟨(some 85), (.pure (.mv (.tmp 5))), (some (83, false))⟩,
     .op ⟨(some 86), (.pure (.eqb true (.tmp 84) (.tmp 85))), (some (83, false))⟩,
     .op ⟨(some 87), (.pure (.pick (.tmp 83) (.const (.bool true)) (.tmp 86))), none⟩])
   (.cond (.tmp 87)
   (.seq (.ops [
      .op ⟨(some 2), (.pure (.mv (.const (.bool false)))), none⟩])
    (.ret))
   (.skip)))
  (.seq (.ops [
    .op ⟨(some 11), (.pure (.mv (.const (.int .i64 (1))))), none⟩])
  (.seq (.ops [
    .op ⟨(some 88), (.pure (.mv (.tmp 7))), none⟩,
    .op ⟨(some 89), (.pure (.mv (.tmp 11))), none⟩,
    .op ⟨(some 90), (.eff (.call 35 [(.tmp 88), (.tmp 89)])), none⟩,
    .op ⟨(some 11), (.pure (.mv (.tmp 90))), none⟩])
  (.seq (.seq (.ops [
     .op ⟨(some 91), (.pure (.mv (.tmp 11))), none⟩,
     .op ⟨(some 92), (.pure (.bin .lss (.tmp 91) (.const (.int .i64 (0))))), none⟩])
   (.cond (.tmp 92)
   (.seq (.ops [
      .op ⟨(some 2), (.pure (.mv (.const (.bool false)))), none⟩])
    (.ret))
   (.skip)))
  (.seq (.seq (.ops [
     .op ⟨(some 93), (.pure (.mv (.tmp 11))), none⟩,
     .op ⟨(some 94), (.pure (.mv (.tmp 10))), none⟩,
     .op ⟨(some 95), (.pure (.bin .neq (.tmp 93) (.tmp 94))), none⟩])
   (.cond (.tmp 95)
   (.seq (.ops [
      .op ⟨(some 2), (.pure (.mv (.const (.bool false)))), none⟩])
    (.ret))
   (.skip)))
  (.seq (.ops [
    .op ⟨(some 2), (.pure (.mv (.const (.bool true)))), none⟩])
  (.ret))))))))))))))))))))))))),
 [.tmp 2]⟩
theorem r_laws_FnExactShownAfter : resFun Try.prog f_laws_FnExactShownAfter = some c_laws_FnExactShownAfter := by kernel_rfl

/- loop.example/g00940/laws.FnExactUsefulGlances -/
abbrev f_laws_FnExactUsefulGlances : Nat := 8
def c_laws_FnExactUsefulGlances : MFun := ⟨96, .seq (.ops [
    .op ⟨(some 2), (.pure (.mv (.const (.bool false)))), none⟩])
  (.seq (.ops [
    .op ⟨(some 3), (.pure (.mv (.const (.int .i64 (1048576))))), none⟩])
  (.seq (.ops [
    .op ⟨(some 14), (.pure (.mv (.tmp 0))), none⟩,
    .op ⟨(some 15), (.pure (.mv (.tmp 3))), none⟩,
    .op ⟨(some 16), (.eff (.call 27 [(.tmp 14), (.tmp 15)])), none⟩,
    .op ⟨(some 3), (.pure (.mv (.tmp 16))), none⟩])
  (.seq (.seq (.ops [
     .op ⟨(some 17), (.pure (.mv (.tmp 3))), none⟩,
     .op ⟨(some 18), (.pure (.bin .lss (.tmp 17) (.const (.int .i64 (0))))), none⟩])
   (.cond (.tmp 18)
   (.seq (.ops [
      .op ⟨(some 2), (.pure (.mv (.const (.bool true)))), none⟩])
    (.ret))
   (.skip)))
  (.seq (.ops [
    .op ⟨(some 20), (.pure (.mv (.tmp 0))), none⟩,
    .op ⟨(some 21), (.eff (.call 29 [(.tmp 20)])), none⟩,
    .op ⟨(some 22), (.eff (.call 36 [(.tmp 21)])), none⟩,
    .op ⟨(some 19), (.pure (.mv (.tmp 22))), none⟩,
    .op ⟨(some 23), (.pure (.ext 0 (.tmp 19))), none⟩,
    .op ⟨(some 24), (.pure (.ext 1 (.tmp 19))), none⟩,
    .op ⟨(some 4), (.pure (.mv (.tmp 23))), none⟩,
    .op ⟨(some 5), (.pure (.mv (.tmp 24))), none⟩])
  (.seq (.ops [
    .op ⟨(some 25), (.pure (.mv (.tmp 0))), none⟩,
    .op ⟨(some 26), (.eff (.call 29 [(.tmp 25)])), none⟩,
    .op ⟨(some 6), (.pure (.mv (.tmp 26))), none⟩])
  (.seq (.ops [
    .op ⟨(some 28), (.pure (.mv (.tmp 6))), none⟩,
    .op ⟨(some 29), (.eff (.call 37 [(.tmp 28)])), none⟩,
    .op ⟨(some 27), (.pure (.mv (.tmp 29))), none⟩,
    .op ⟨(some 30), (.pure (.ext 0 (.tmp 27))), none⟩,
    .op ⟨(some 31), (.pure (.ext 1 (.tmp 27))), none⟩,
    .op ⟨(some 7), (.pure (.mv (.tmp 30))), none⟩,
    .op ⟨(some 8), (.pure (.mv (.tmp 31))), none⟩])
  (.seq (.seq (.ops [
     .op ⟨(some 32), (.pure (.mv (.tmp 7))), none⟩,
     .op ⟨(some 33), (.pure (.mv (.tmp 4))), none⟩,
     .op ⟨(some 34), (.eff (.call 23 [(.tmp 32), (.tmp 33)])), none⟩,
     .op ⟨(some 35), (.pure (.bnot (.tmp 34))), none⟩,
     .op ⟨(some 36), (.pure (.mv (.tmp 35))), none⟩,
     .split 36,
     .op ⟨(some 37), (.pure (.mv (.tmp 8))), (some (36, false))⟩,
     .op ⟨(some 38), (.pure (.mv (.tmp 5))), (some (36, false))⟩,
     .op ⟨(some 39), (.pure (.eqb true (.tmp 37) (.tmp 38))), (some (36, false))⟩,
     .op ⟨(some 40), (.pure (.pick (.tmp 36) (.const (.bool true)) (.tmp 39))), none⟩])
   (.cond (.tmp 40)
   (.seq (.ops [
      .op ⟨(some 2), (.pure (.mv (.const (.bool false)))), none⟩])
    (.ret))
   (.skip)))
  (.seq (.seq (.ops [
     .op ⟨(some 41), (.pure (.mv (.tmp 6))), none⟩,
     .op ⟨(some 42), (.pure (.mv (.tmp 0))), none⟩,
     .op ⟨(some 43), (.eff (.call 29 [(.tmp 42)])), none⟩,
     .op ⟨(some 44), (.eff (.call 22 [(.tmp 41), (.tmp 43)])), none⟩,
     .op ⟨(some 45), (.pure (.bnot (.tmp 44))), none⟩])
   (.cond (.tmp 45)
   (.seq (.ops [
      .op ⟨(some 2), (.pure (.mv (.const (.bool false)))), none⟩])
    (.ret))
   (.skip)))
  (.seq (.ops [
    .op ⟨(some 9), (.pure (.mv (.const (.int .i64 (1))))), none⟩])
  (.seq (.ops [
    .op ⟨(some 46), (.pure (.mv (.tmp 6))), none⟩,
    .op ⟨(some 47), (.pure (.mv (.tmp 9))), none⟩,
    .op ⟨(some 48), (.eff (.call 25 [(.tmp 46), (.tmp 47)])), none⟩,
    .op ⟨(some 9), (.pure (.mv (.tmp 48))), none⟩])
  (.seq (.seq (.ops [
     .op ⟨(some 49), (.pure (.mv (.tmp 9))), none⟩,
     .op ⟨(some 50), (.pure (.bin .lss (.tmp 49) (.const (.int .i64 (0))))), none⟩,
     .op ⟨(some 51), (.pure (.mv (.tmp 50))), none⟩,
     .split 51,
     .op ⟨(some 52), (.pure (.mv (.tmp 7))), (some (51, false))⟩,
     .op ⟨(some 53), (.pure (.mv (.tmp 4))), (some (51, false))⟩,
     .op ⟨(some 54), (.eff (.call 23 [(.tmp 52), (.tmp 53)])), (some (51, false))⟩,
     .op ⟨(some 55), (.pure (.bnot (.tmp 54))), (some (51, false))⟩,
     .op ⟨(some 56), (.pure (.pick (.tmp 51) (.const (.bool true)) (.tmp 55))), none⟩,
     .op ⟨(some 57), (.pure (.mv (.tmp 56))), none⟩,
     .split 57,
     .op ⟨(some 58), (.pure (.mv (.tmp 8))), (some (57, false))⟩,
     .op ⟨(some 59), (.pure (.mv (.tmp 5))), (some (57, false))⟩,
     .op ⟨(some 60), (.pure (.eqb true (.tmp 58) (.tmp 59))), (some (57, false))⟩,
     .op ⟨(some 61), (.pure (.pick (.tmp 57) (.const (.bool true)) (.tmp 60))), none⟩])
   (.cond (.tmp 61)
   (.seq (.ops [
      .op ⟨(some 2), (.pure (.mv (.const (.bool false)))), none⟩])
    (.ret))
   (.skip)))
  (.seq (.ops [
    .op ⟨(some 10), (.pure (.mv (.const (.int .i64 (1))))), none⟩])
  (.seq (.ops [
    .op ⟨(some 62), (.pure (.mv (.tmp 7))), none⟩,
    .op ⟨(some 63), (.pure (.mv (.tmp 10))), none⟩,
    .op ⟨(some 64), (.eff (.call 24 [(.tmp 62), (.tmp 63)])), none⟩,
    .op ⟨(some 10), (.pure (.mv (.tmp 64))), none⟩])
  (.seq (.ops [
    .op ⟨(some 11), (.pure (.mv (.const (.int .i64 (1))))), none⟩])
  (.seq (.ops [
    .op ⟨(some 65), (.pure (.mv (.tmp 7))), none⟩,
    .op ⟨(some 66), (.pure (.mv (.tmp 11))), none⟩,
    .op ⟨(some 67), (.eff (.call 35 [(.tmp 65), (.tmp 66)])), none⟩,
    .op ⟨(some 11), (.pure (.mv (.tmp 67))), none⟩])
  (.seq (.seq (.ops [
     .op ⟨(some 68), (.pure (.mv (.tmp 11))), none⟩,
     .op ⟨(some 69), (.pure (.bin .lss (.tmp 68) (.const (.int .i64 (0))))), none⟩])
   (.cond (.tmp 69)
   (.seq (.ops [
      .op ⟨(some 2), (.pure (.mv (.const (.bool false)))), none⟩])
    (.ret))
   (.skip)))
  (.seq (.seq (.ops [
     .op ⟨(some 70), (.pure (.mv (.tmp 11))), none⟩,
     .op ⟨(some 71), (.pure (.mv (.tmp 10))), none⟩,
     .op ⟨(some 72), (.pure (.bin .neq (.tmp 70) (.tmp 71))), none⟩])
   (.cond (.tmp 72)
   (.seq (.ops [
      .op ⟨(some 2), (.pure (.mv (.const (.bool false)))), none⟩])
    (.ret))
   (.skip)))
  (.seq (.ops [
    .op ⟨(some 74), (.pure (.mv (.tmp 0))), none⟩,
    .op ⟨(some 75), (.eff (.call 29 [(.tmp 74)])), none⟩,
    .op ⟨(some 76), (.eff (.call 37 [(.tmp 75)])), none⟩,
    .op ⟨(some 73), (.pure (.mv (.tmp 76))), none⟩,
    .op ⟨(some 77), (.pure (.ext 0 (.tmp 73))), none⟩,
    .op ⟨(some 78), (.pure (.ext 1 (.tmp 73))), none⟩,
    .op ⟨(some 12), (.pure (.mv (.tmp 77))), none⟩,
    .op ⟨(some 13), (.pure (.mv (.tmp 78))), none⟩])
  (.seq (.seq (.ops [
     .op ⟨(some 79), (.pure (.mv (.tmp 12))), none⟩,
     .op ⟨(some 80), (.pure (.mv (.tmp 4))), none⟩,
     .op ⟨(some 81), (.eff (.call 23 [(.tmp 79), (.tmp 80)])), none⟩,
     .op ⟨(some 82), (.pure (.bnot (.tmp 81))), none⟩,
     .op ⟨(some 83), (.pure (.mv (.tmp 82))), none⟩,
     .split 83,
     .op ⟨(some 84), (.pure (.mv (.tmp 13))), (some (83, false))⟩,
     .op ⟨(some 85), (.pure (.mv (.tmp 5))), (some (83, false))⟩,
     .op ⟨(some 86), (.pure (.eqb true (.tmp 84) (.tmp 85))), (some (83, false))⟩,
     .op ⟨(some 87), (.pure (.pick (.tmp 83) (.const (.bool true)) (.tmp 86))), none⟩])
   (.cond (.tmp 87)
   (.seq (.ops [
      .op ⟨(some 2), (.pure (.mv (.const (.bool false)))), none⟩])
    (.ret))
   (.skip)))
  (.seq (.ops [
    .op ⟨(some 11), (.pure (.mv (.const (.int .i64 (1))))), none⟩])
  (.seq (.ops [
    .op ⟨(some 88), (.pure (.mv (.tmp 7))), none⟩,
    .op ⟨(some 89), (.pure (.mv (.tmp 11))), none⟩,
    .op ⟨(some 90), (.eff (.call 35 [(.tmp 88), (.tmp 89)])), none⟩,
    .op ⟨(some 11), (.pure (.mv (.tmp 90))), none⟩])
  (.seq (.seq (.ops [
     .op ⟨(some 91), (.pure (.mv (.tmp 11))), none⟩,
     .op ⟨(some 92), (.pure (.bin .lss (.tmp 91) (.const (.int .i64 (0))))), none⟩])
   (.cond (.tmp 92)
   (.seq (.ops [
      .op ⟨(some 2), (.pure (.mv (.const (.bool false)))), none⟩])
    (.ret))
   (.skip)))
  (.seq (.seq (.ops [
     .op ⟨(some 93), (.pure (.mv (.tmp 11))), none⟩,
     .op ⟨(some 94), (.pure (.mv (.tmp 10))), none⟩,
     .op ⟨(some 95), (.pure (.bin .neq (.tmp 93) (.tmp 94))), none⟩])
   (.cond (.tmp 95)
   (.seq (.ops [
      .op ⟨(some 2), (.pure (.mv (.const (.bool false)))), none⟩])
    (.ret))
   (.skip)))
  (.seq (.ops [
    .op ⟨(some 2), (.pure (.mv (.const (.bool true)))), none⟩])
  (.ret))))))))))))))))))))))))),
 [.tmp 2]⟩
theorem r_laws_FnExactUsefulGlances : resFun Try.prog f_laws_FnExactUsefulGlances = some c_laws_FnExactUsefulGlances := by kernel_rfl

/- loop.example/g00940/laws.FnExactGlanceAt -/
abbrev f_laws_FnExactGlanceAt : Nat := 9
def c_laws_FnExactGlanceAt : MFun := ⟨104, .seq (.ops [
    .op ⟨(some 2), (.eff (.box 24 (.tmp 0))), none⟩,
    .op ⟨(some 3), (.eff (.box 51 (.tmp 1))), none⟩,
    .op ⟨(some 4), (.pure (.mv (.const (.bool false)))), none⟩])
  (.seq (.ops [
    .op ⟨(some 5), (.pure (.mv (.const (.int .i64 (1048576))))), none⟩])
  (.seq (.ops [
    .op ⟨(some 16), (.load (some 5) (.tmp 2)), none⟩,
    .op ⟨(some 17), (.pure (.mv (.tmp 5))), none⟩,
    .op ⟨(some 18), (.eff (.call 14 [(.tmp 16), (.tmp 17)])), none⟩,
    .op ⟨(some 5), (.pure (.mv (.tmp 18))), none⟩])
  (.seq (.seq (.ops [
     .op ⟨(some 19), (.pure (.mv (.tmp 5))), none⟩,
     .op ⟨(some 20), (.pure (.bin .lss (.tmp 19) (.const (.int .i64 (0))))), none⟩])
   (.cond (.tmp 20)
   (.seq (.ops [
      .op ⟨(some 4), (.pure (.mv (.const (.bool true)))), none⟩])
    (.ret))
   (.skip)))
  (.seq (.draw true
   (.take ⟨(some 22), (.load (some 5) (.tmp 2)), none⟩
   (.take ⟨(some 24), (.load (some 2) (.tmp 3)), none⟩
   (.fork
   (.only false ⟨(some 23), (.eff (.call 16 [(.tmp 22)])), none⟩
    (.fork
    (.only false ⟨(some 25), (.eff (.call 39 [(.tmp 24)])), none⟩
     (.fork
     (.only false ⟨(some 26), (.eff (.call 38 [(.tmp 23), (.tmp 25)])), none⟩
      (.take ⟨(some 21), (.pure (.mv (.tmp 26))), none⟩
      (.take ⟨(some 27), (.pure (.ext 0 (.tmp 21))), none⟩
      (.take ⟨(some 28), (.pure (.ext 1 (.tmp 21))), none⟩
      (.only false ⟨(some 6), (.eff (.new 27 [(.int .i64 (0)), (.int .i64 (0)), (.int .i64 (0)), (.int .i64 (0)), (.slice none 0 0)])), none⟩
      (.only true ⟨none, (.eff (.store 5 (.tmp 6) (.tmp 27))), none⟩
      (.take ⟨(some 7), (.pure (.mv (.tmp 28))), none⟩
      (.done))))))))
     (.only false ⟨(some 6), (.eff (.new 27 [(.int .i64 (0)), (.int .i64 (0)), (.int .i64 (0)), (.int .i64 (0)), (.slice none 0 0)])), none⟩
      (.only false ⟨(some 26), (.eff (.call 38 [(.tmp 23), (.tmp 25)])), none⟩
      (.take ⟨(some 21), (.pure (.mv (.tmp 26))), none⟩
      (.take ⟨(some 27), (.pure (.ext 0 (.tmp 21))), none⟩
      (.take ⟨(some 28), (.pure (.ext 1 (.tmp 21))), none⟩
      (.only true ⟨none, (.eff (.store 5 (.tmp 6) (.tmp 27))), none⟩
      (.take ⟨(some 7), (.pure (.mv (.tmp 28))), none⟩
      (.done))))))))))
    (.only false ⟨(some 6), (.eff (.new 27 [(.int .i64 (0)), (.int .i64 (0)), (.int .i64 (0)), (.int .i64 (0)), (.slice none 0 0)])), none⟩
     (.only false ⟨(some 25), (.eff (.call 39 [(.tmp 24)])), none⟩
     (.only false ⟨(some 26), (.eff (.call 38 [(.tmp 23), (.tmp 25)])), none⟩
     (.take ⟨(some 21), (.pure (.mv (.tmp 26))), none⟩
     (.take ⟨(some 27), (.pure (.ext 0 (.tmp 21))), none⟩
     (.take ⟨(some 28), (.pure (.ext 1 (.tmp 21))), none⟩
     (.only true ⟨none, (.eff (.store 5 (.tmp 6) (.tmp 27))), none⟩
     (.take ⟨(some 7), (.pure (.mv (.tmp 28))), none⟩
     (.done)))))))))))
   (.only false ⟨(some 6), (.eff (.new 27 [(.int .i64 (0)), (.int .i64 (0)), (.int .i64 (0)), (.int .i64 (0)), (.slice none 0 0)])), none⟩
    (.only false ⟨(some 23), (.eff (.call 16 [(.tmp 22)])), none⟩
    (.only false ⟨(some 25), (.eff (.call 39 [(.tmp 24)])), none⟩
    (.only false ⟨(some 26), (.eff (.call 38 [(.tmp 23), (.tmp 25)])), none⟩
    (.take ⟨(some 21), (.pure (.mv (.tmp 26))), none⟩
    (.take ⟨(some 27), (.pure (.ext 0 (.tmp 21))), none⟩
    (.take ⟨(some 28), (.pure (.ext 1 (.tmp 21))), none⟩
    (.only true ⟨none, (.eff (.store 5 (.tmp 6) (.tmp 27))), none⟩
    (.take ⟨(some 7), (.pure (.mv (.tmp 28))), none⟩
    (.done))))))))))))))
  (.seq (.ops [
    .op ⟨(some 29), (.load (some 5) (.tmp 2)), none⟩,
    .op ⟨(some 30), (.eff (.call 16 [(.tmp 29)])), none⟩,
    .op ⟨(some 8), (.eff (.new 27 [(.int .i64 (0)), (.int .i64 (0)), (.int .i64 (0)), (.int .i64 (0)), (.slice none 0 0)])), none⟩,
    .op ⟨none, (.eff (.store 5 (.tmp 8) (.tmp 30))), none⟩])
  (.seq (.draw true
   (.take ⟨(some 32), (.load (some 5) (.tmp 8)), none⟩
   (.take ⟨(some 33), (.load (some 2) (.tmp 3)), none⟩
   (.fork
   (.only false ⟨(some 34), (.eff (.call 39 [(.tmp 33)])), none⟩
    (.fork
    (.only false ⟨(some 35), (.eff (.call 40 [(.tmp 32), (.tmp 34)])), none⟩
     (.take ⟨(some 31), (.pure (.mv (.tmp 35))), none⟩
     (.take ⟨(some 36), (.pure (.ext 0 (.tmp 31))), none⟩
     (.take ⟨(some 37), (.pure (.ext 1 (.tmp 31))), none⟩
     (.only false ⟨(some 9), (.eff (.new 27 [(.int .i64 (0)), (.int .i64 (0)), (.int .i64 (0)), (.int .i64 (0)), (.slice none 0 0)])), none⟩
     (.only true ⟨none, (.eff (.store 5 (.tmp 9) (.tmp 36))), none⟩
     (.take ⟨(some 10), (.pure (.mv (.tmp 37))), none⟩
     (.done))))))))
    (.only false ⟨(some 9), (.eff (.new 27 [(.int .i64 (0)), (.int .i64 (0)), (.int .i64 (0)), (.int .i64 (0)), (.slice none 0 0)])), none⟩
     (.only false ⟨(some 35), (.eff (.call 40 [(.tmp 32), (.tmp 34)])), none⟩
     (.take ⟨(some 31), (.pure (.mv (.tmp 35))), none⟩
     (.take ⟨(some 36), (.pure (.ext 0 (.tmp 31))), none⟩
     (.take ⟨(some 37), (.pure (.ext 1 (.tmp 31))), none⟩
     (.only true ⟨none, (.eff (.store 5 (.tmp 9) (.tmp 36))), none⟩
     (.take ⟨(some 10), (.pure (.mv (.tmp 37))), none⟩
     (.done))))))))))
   (.only false ⟨(some 9), (.eff (.new 27 [(.int .i64 (0)), (.int .i64 (0)), (.int .i64 (0)), (.int .i64 (0)), (.slice none 0 0)])), none⟩
    (.only false ⟨(some 34), (.eff (.call 39 [(.tmp 33)])), none⟩
    (.only false ⟨(some 35), (.eff (.call 40 [(.tmp 32), (.tmp 34)])), none⟩
    (.take ⟨(some 31), (.pure (.mv (.tmp 35))), none⟩
    (.take ⟨(some 36), (.pure (.ext 0 (.tmp 31))), none⟩
    (.take ⟨(some 37), (.pure (.ext 1 (.tmp 31))), none⟩
    (.only true ⟨none, (.eff (.store 5 (.tmp 9) (.tmp 36))), none⟩
    (.take ⟨(some 10), (.pure (.mv (.tmp 37))), none⟩
    (.done)))))))))))))
  (.seq (.seq (.ops [
     .op ⟨(some 38), (.load (some 5) (.tmp 9)), none⟩,
     .op ⟨(some 39), (.load (some 5) (.tmp 6)), none⟩,
     .op ⟨(some 40), (.eff (.call 18 [(.tmp 38), (.tmp 39)])), none⟩,
     .op ⟨(some 41), (.pure (.bnot (.tmp 40))), none⟩,
     .op ⟨(some 42), (.pure (.mv (.tmp 41))), none⟩,
     .split 42,
     .op ⟨(some 43), (.pure (.mv (.tmp 10))), (some (42, false))⟩,
     .op ⟨(some 44), (.pure (.mv (.tmp 7))), (some (42, false))⟩,
     .op ⟨(some 45), (.pure (.eqb true (.tmp 43) (.tmp 44))), (some (42, false))⟩,
     .op ⟨(some 46), (.pure (.pick (.tmp 42) (.const (.bool true)) (.tmp 45))), none⟩])
   (.cond (.tmp 46)
   (.seq (.ops [
      .op ⟨(some 4), (.pure (.mv (.const (.bool false)))), none⟩])
    (.ret))
   (.skip)))
  (.seq (.seq (.draw true
    (.take ⟨(some 47), (.load (some 5) (.tmp 8)), none⟩
    (.only false ⟨(some 48), (.load (some 5) (.tmp 2)), none⟩
    (.only false ⟨(some 49), (.eff (.call 16 [(.tmp 48)])), none⟩
    (.only false ⟨(some 50), (.eff (.call 18 [(.tmp 47), (.tmp 49)])), none⟩
    (.take ⟨(some 51), (.pure (.bnot (.tmp 50))), none⟩
    (.done)))))))
   (.cond (.tmp 51)
   (.seq (.ops [
      .op ⟨(some 4), (.pure (.mv (.const (.bool false)))), none⟩])
    (.ret))
   (.skip)))
  (.seq (.ops [
    .op ⟨(some 11), (.pure (.mv (.const (.int .i64 (1))))), none⟩])
  (.seq (.ops [
    .op ⟨(some 52), (.load (some 5) (.tmp 8)), none⟩,
    .op ⟨(some 53), (.pure (.mv (.tmp 11))), none⟩,
    .op ⟨(some 54), (.eff (.call 41 [(.tmp 52), (.tmp 53)])), none⟩,
    .op ⟨(some 11), (.pure (.mv (.tmp 54))), none⟩])
  (.seq (.seq (.ops [
     .op ⟨(some 55), (.pure (.mv (.tmp 11))), none⟩,
     .op ⟨(some 56), (.pure (.bin .lss (.tmp 55) (.const (.int .i64 (0))))), none⟩,
     .op ⟨(some 57), (.pure (.mv (.tmp 56))), none⟩,
     .split 57,
     .op ⟨(some 58), (.load (some 5) (.tmp 9)), (some (57, false))⟩,
     .op ⟨(some 59), (.load (some 5) (.tmp 6)), (some (57, false))⟩,
     .op ⟨(some 60), (.eff (.call 18 [(.tmp 58), (.tmp 59)])), (some (57, false))⟩,
     .op ⟨(some 61), (.pure (.bnot (.tmp 60))), (some (57, false))⟩,
     .op ⟨(some 62), (.pure (.pick (.tmp 57) (.const (.bool true)) (.tmp 61))), none⟩,
     .op ⟨(some 63), (.pure (.mv (.tmp 62))), none⟩,
     .split 63,
     .op ⟨(some 64), (.pure (.mv (.tmp 10))), (some (63, false))⟩,
     .op ⟨(some 65), (.pure (.mv (.tmp 7))), (some (63, false))⟩,
     .op ⟨(some 66), (.pure (.eqb true (.tmp 64) (.tmp 65))), (some (63, false))⟩,
     .op ⟨(some 67), (.pure (.pick (.tmp 63) (.const (.bool true)) (.tmp 66))), none⟩])
   (.cond (.tmp 67)
   (.seq (.ops [
      .op ⟨(some 4), (.pure (.mv (.const (.bool false)))), none⟩])
    (.ret))
   (.skip)))
  (.seq (.ops [
    .op ⟨(some 12), (.pure (.mv (.const (.int .i64 (1))))), none⟩])
  (.seq (.ops [
    .op ⟨(some 68), (.load (some 5) (.tmp 9)), none⟩,
    .op ⟨(some 69), (.pure (.mv (.tmp 12))), none⟩,
    .op ⟨(some 70), (.eff (.call 41 [(.tmp 68), (.tmp 69)])), none⟩,
    .op ⟨(some 12), (.pure (.mv (.tmp 70))), none⟩])
  (.seq (.ops [
    .op ⟨(some 13), (.pure (.mv (.const (.int .i64 (1))))), none⟩])
  (.seq (.ops [
    .op ⟨(some 71), (.load (some 5) (.tmp 9)), none⟩,
    .op ⟨(some 72), (.pure (.mv (.tmp 13))), none⟩,
    .op ⟨(some 73), (.eff (.call 42 [(.tmp 71), (.tmp 72)])), none⟩,
    .op ⟨(some 13), (.pure (.mv (.tmp 73))), none⟩])
  (.seq (.seq (.ops [
     .op ⟨(some 74), (.pure (.mv (.tmp 13))), none⟩,
     .op ⟨(some 75), (.pure (.bin .lss (.tmp 74) (.const (.int .i64 (0))))), none⟩])
   (.cond (.tmp 75)
   (.seq (.ops [
      .op ⟨(some 4), (.pure (.mv (.const (.bool false)))), none⟩])
    (.ret))
   (.skip)))
  (.seq (.seq (.ops [
     .op ⟨(some 76), (.pure (.mv (.tmp 13))), none⟩,
     .op ⟨(some 77), (.pure (.mv (.tmp 12))), none⟩,
     .op ⟨(some 78), (.pure (.bin .neq (.tmp 76) (.tmp 77))), none⟩])
   (.cond (.tmp 78)
   (.seq (.ops [
      .op ⟨(some 4), (.pure (.mv (.const (.bool false)))), none⟩])
    (.ret))
   (.skip)))
  (.seq (.draw true
   (.take ⟨(some 80), (.load (some 5) (.tmp 2)), none⟩
   (.take ⟨(some 82), (.load (some 2) (.tmp 3)), none⟩
   (.fork
   (.only false ⟨(some 81), (.eff (.call 16 [(.tmp 80)])), none⟩
    (.fork
    (.only false ⟨(some 83), (.eff (.call 39 [(.tmp 82)])), none⟩
     (.fork
     (.only false ⟨(some 84), (.eff (.call 40 [(.tmp 81), (.tmp 83)])), none⟩
      (.take ⟨(some 79), (.pure (.mv (.tmp 84))), none⟩
      (.take ⟨(some 85), (.pure (.ext 0 (.tmp 79))), none⟩
      (.take ⟨(some 86), (.pure (.ext 1 (.tmp 79))), none⟩
      (.only false ⟨(some 14), (.eff (.new 27 [(.int .i64 (0)), (.int .i64 (0)), (.int .i64 (0)), (.int .i64 (0)), (.slice none 0 0)])), none⟩
      (.only true ⟨none, (.eff (.store 5 (.tmp 14) (.tmp 85))), none⟩
      (.take ⟨(some 15), (.pure (.mv (.tmp 86))), none⟩
      (.done))))))))
     (.only false ⟨(some 14), (.eff (.new 27 [(.int .i64 (0)), (.int .i64 (0)), (.int .i64 (0)), (.int .i64 (0)), (.slice none 0 0)])), none⟩
      (.only false ⟨(some 84), (.eff (.call 40 [(.tmp 81), (.tmp 83)])), none⟩
      (.take ⟨(some 79), (.pure (.mv (.tmp 84))), none⟩
      (.take ⟨(some 85), (.pure (.ext 0 (.tmp 79))), none⟩
      (.take ⟨(some 86), (.pure (.ext 1 (.tmp 79))), none⟩
      (.only true ⟨none, (.eff (.store 5 (.tmp 14) (.tmp 85))), none⟩
      (.take ⟨(some 15), (.pure (.mv (.tmp 86))), none⟩
      (.done))))))))))
    (.only false ⟨(some 14), (.eff (.new 27 [(.int .i64 (0)), (.int .i64 (0)), (.int .i64 (0)), (.int .i64 (0)), (.slice none 0 0)])), none⟩
     (.only false ⟨(some 83), (.eff (.call 39 [(.tmp 82)])), none⟩
     (.only false ⟨(some 84), (.eff (.call 40 [(.tmp 81), (.tmp 83)])), none⟩
     (.take ⟨(some 79), (.pure (.mv (.tmp 84))), none⟩
     (.take ⟨(some 85), (.pure (.ext 0 (.tmp 79))), none⟩
     (.take ⟨(some 86), (.pure (.ext 1 (.tmp 79))), none⟩
     (.only true ⟨none, (.eff (.store 5 (.tmp 14) (.tmp 85))), none⟩
     (.take ⟨(some 15), (.pure (.mv (.tmp 86))), none⟩
     (.done)))))))))))
   (.only false ⟨(some 14), (.eff (.new 27 [(.int .i64 (0)), (.int .i64 (0)), (.int .i64 (0)), (.int .i64 (0)), (.slice none 0 0)])), none⟩
    (.only false ⟨(some 81), (.eff (.call 16 [(.tmp 80)])), none⟩
    (.only false ⟨(some 83), (.eff (.call 39 [(.tmp 82)])), none⟩
    (.only false ⟨(some 84), (.eff (.call 40 [(.tmp 81), (.tmp 83)])), none⟩
    (.take ⟨(some 79), (.pure (.mv (.tmp 84))), none⟩
    (.take ⟨(some 85), (.pure (.ext 0 (.tmp 79))), none⟩
    (.take ⟨(some 86), (.pure (.ext 1 (.tmp 79))), none⟩
    (.only true ⟨none, (.eff (.store 5 (.tmp 14) (.tmp 85))), none⟩
    (.take ⟨(some 15), (.pure (.mv (.tmp 86))), none⟩
    (.done))))))))))))))
  (.seq (.seq (.ops [
     .op ⟨(some 87), (.load (some 5) (.tmp 14)), none⟩,
     .op ⟨(some 88), (.load (some 5) (.tmp 6)), none⟩,
     .op ⟨(some 89), (.eff (.call 18 [(.tmp 87), (.tmp 88)])), none⟩,
     .op ⟨(some 90), (.pure (.bnot (.tmp 89))), none⟩,
     .op ⟨(some 91), (.pure (.mv (.tmp 90))), none⟩,
     .split 91,
     .op ⟨(some 92), (.pure (.mv (.tmp 15))), (some (91, false))⟩,
     .op ⟨(some 93), (.pure (.mv (.tmp 7))), (some (91, false))⟩,
     .op ⟨(some 94), (.pure (.eqb true (.tmp 92) (.tmp 93))), (some (91, false))⟩,
     .op ⟨(some 95), (.pure (.pick (.tmp 91) (.const (.bool true)) (.tmp 94))), none⟩])
   (.cond (.tmp 95)
   (.seq (.ops [
      .op ⟨(some 4), (.pure (.mv (.const (.bool false)))), none⟩])
    (.ret))
   (.skip)))
  (.seq (.ops [
    .op ⟨(some 13), (.pure (.mv (.const (.int .i64 (1))))), none⟩])
  (.seq (.ops [
    .op ⟨(some 96), (.load (some 5) (.tmp 9)), none⟩,
    .op ⟨(some 97), (.pure (.mv (.tmp 13))), none⟩,
    .op ⟨(some 98), (.eff (.call 42 [(.tmp 96), (.tmp 97)])), none⟩,
    .op ⟨(some 13), (.pure (.mv (.tmp 98))), none⟩])
  (.seq (.seq (.ops [
     .op ⟨(some 99), (.pure (.mv (.tmp 13))), none⟩,
     .op ⟨(some 100), (.pure (.bin .lss (.tmp 99) (.const (.int .i64 (0))))), none⟩])
   (.cond (.tmp 100)
   (.seq (.ops [
      .op ⟨(some 4), (.pure (.mv (.const (.bool false)))), none⟩])
    (.ret))
   (.skip)))
  (.seq (.seq (.ops [
     .op ⟨(some 101), (.pure (.mv (.tmp 13))), none⟩,
     .op ⟨(some 102), (.pure (.mv (.tmp 12))), none⟩,
     .op ⟨(some 103), (.pure (.bin .neq (.tmp 101) (.tmp 102))), none⟩])
   (.cond (.tmp 103)
   (.seq (.ops [
      .op ⟨(some 4), (.pure (.mv (.const (.bool false)))), none⟩])
    (.ret))
   (.skip)))
  (.seq (.ops [
    .op ⟨(some 4), (.pure (.mv (.const (.bool true)))), none⟩])
  (.ret))))))))))))))))))))))))),
 [.tmp 4]⟩
theorem r_laws_FnExactGlanceAt : resFun Try.prog f_laws_FnExactGlanceAt = some c_laws_FnExactGlanceAt := by kernel_rfl

/- loop.example/g00940/laws.FnExactPassedBy -/
abbrev f_laws_FnExactPassedBy : Nat := 10
def c_laws_FnExactPassedBy : MFun := ⟨117, .seq (.ops [
    .op ⟨(some 2), (.pure (.mv (.const (.bool false)))), none⟩])
  (.seq (.ops [
    .op ⟨(some 3), (.pure (.mv (.const (.int .i64 (1048576))))), none⟩])
  (.seq (.ops [
    .op ⟨(some 17), (.pure (.mv (.tmp 0))), none⟩,
    .op ⟨(some 18), (.pure (.mv (.tmp 3))), none⟩,
    .op ⟨(some 19), (.eff (.call 27 [(.tmp 17), (.tmp 18)])), none⟩,
    .op ⟨(some 3), (.pure (.mv (.tmp 19))), none⟩])
  (.seq (.seq (.ops [
     .op ⟨(some 20), (.pure (.mv (.tmp 3))), none⟩,
     .op ⟨(some 21), (.pure (.bin .lss (.tmp 20) (.const (.int .i64 (0))))), none⟩])
   (.cond (.tmp 21)
   (.seq (.ops [
      .op ⟨(some 2), (.pure (.mv (.const (.bool true)))), none⟩])
    (.ret))
   (.skip)))
  (.seq (.ops [
    .op ⟨(some 23), (.pure (.mv (.tmp 0))), none⟩,
    .op ⟨(some 24), (.eff (.call 29 [(.tmp 23)])), none⟩,
    .op ⟨(some 25), (.eff (.call 43 [(.tmp 24)])), none⟩,
    .op ⟨(some 22), (.pure (.mv (.tmp 25))), none⟩,
    .op ⟨(some 26), (.pure (.ext 0 (.tmp 22))), none⟩,
    .op ⟨(some 27), (.pure (.ext 1 (.tmp 22))), none⟩,
    .op ⟨(some 28), (.pure (.ext 2 (.tmp 22))), none⟩,
    .op ⟨(some 4), (.pure (.mv (.tmp 26))), none⟩,
    .op ⟨(some 5), (.pure (.mv (.tmp 27))), none⟩,
    .op ⟨(some 6), (.pure (.mv (.tmp 28))), none⟩])
  (.seq (.ops [
    .op ⟨(some 29), (.pure (.mv (.tmp 0))), none⟩,
    .op ⟨(some 30), (.eff (.call 29 [(.tmp 29)])), none⟩,
    .op ⟨(some 7), (.pure (.mv (.tmp 30))), none⟩])
  (.seq (.ops [
    .op ⟨(some 32), (.pure (.mv (.tmp 7))), none⟩,
    .op ⟨(some 33), (.eff (.call 44 [(.tmp 32)])), none⟩,
    .op ⟨(some 31), (.pure (.mv (.tmp 33))), none⟩,
    .op ⟨(some 34), (.pure (.ext 0 (.tmp 31))), none⟩,
    .op ⟨(some 35), (.pure (.ext 1 (.tmp 31))), none⟩,
    .op ⟨(some 36), (.pure (.ext 2 (.tmp 31))), none⟩,
    .op ⟨(some 8), (.pure (.mv (.tmp 34))), none⟩,
    .op ⟨(some 9), (.pure (.mv (.tmp 35))), none⟩,
    .op ⟨(some 10), (.pure (.mv (.tmp 36))), none⟩])
  (.seq (.seq (.ops [
     .op ⟨(some 37), (.pure (.mv (.tmp 8))), none⟩,
     .op ⟨(some 38), (.pure (.mv (.tmp 4))), none⟩,
     .op ⟨(some 39), (.eff (.call 23 [(.tmp 37), (.tmp 38)])), none⟩,
     .op ⟨(some 40), (.pure (.bnot (.tmp 39))), none⟩,
     .op ⟨(some 41), (.pure (.mv (.tmp 40))), none⟩,
     .split 41,
     .op ⟨(some 42), (.pure (.mv (.tmp 9))), (some (41, false))⟩,
     .op ⟨(some 43), (.pure (.mv (.tmp 5))), (some (41, false))⟩,
     .op ⟨(some 44), (.pure (.bin .neq (.tmp 42) (.tmp 43))), (some (41, false))⟩,
     .op ⟨(some 45), (.pure (.pick (.tmp 41) (.const (.bool true)) (.tmp 44))), none⟩,
     .op ⟨(some 46), (.pure (.mv (.tmp 45))), none⟩,
     .split 46,
     .op ⟨(some 47), (.pure (.mv (.tmp 10))), (some (46, false))⟩,
     .op ⟨(some 48), (.pure (.mv (.tmp 6))), (some (46, false))⟩,
     .op ⟨(some 49), (.pure (.eqb true (.tmp 47) (.tmp 48))), (some (46, false))⟩,
     .op ⟨(some 50), (.pure (.pick (.tmp 46) (.const (.bool true)) (.tmp 49))), none⟩])
   (.cond (.tmp 50)
   (.seq (.ops [
      .op ⟨(some 2), (.pure (.mv (.const (.bool false)))), none⟩])
    (.ret))
   (.skip)))
  (.seq (.seq (.ops [
     .op ⟨(some 51), (.pure (.mv (.tmp 7))), none⟩,
     .op ⟨(some 52), (.pure (.mv (.tmp 0))), none⟩,
     .op ⟨(some 53), (.eff (.call 29 [(.tmp 52)])), none⟩,
     .op ⟨(some 54), (.eff (.call 22 [(.tmp 51), (.tmp 53)])), none⟩,
     .op ⟨(some 55), (.pure (.bnot (.tmp 54))), none⟩])
   (.cond (.tmp 55)
   (.seq (.ops [
      .op ⟨(some 2), (.pure (.mv (.const (.bool false)))), none⟩])
    (.ret))
   (.skip)))
  (.seq (.ops [
    .op ⟨(some 11), (.pure (.mv (.const (.int .i64 (1))))), none⟩])
  (.seq (.ops [
    .op ⟨(some 56), (.pure (.mv (.tmp 7))), none⟩,
    .op ⟨(some 57), (.pure (.mv (.tmp 11))), none⟩,
    .op ⟨(some 58), (.eff (.call 25 [(.tmp 56), (.tmp 57)])), none⟩,
    .op ⟨(some 11), (.pure (.mv (.tmp 58))), none⟩])
  (.seq (.seq (.ops [
     .op ⟨(some 59), (.pure (.mv (.tmp 11))), none⟩,
     .op ⟨(some 60), (.pure (.bin .lss (.tmp 59) (.const (.int .i64 (0))))), none⟩,
     .op ⟨(some 61), (.pure (.mv (.tmp 60))), none⟩,
     .split 61,
     .op ⟨(some 62), (.pure (.mv (.tmp 8))), (some (61, false))⟩,
     .op ⟨(some 63), (.pure (.mv (.tmp 4))), (some (61, false))⟩,
     .op ⟨(some 64), (.eff (.call 23 [(.tmp 62), (.tmp 63)])), (some (61, false))⟩,
     .op ⟨(some 65), (.pure (.bnot (.tmp 64))), (some (61, false))⟩,
     .op ⟨(some 66), (.pure (.pick (.tmp 61) (.const (.bool true)) (.tmp 65))), none⟩,
     .op ⟨(some 67), (.pure (.mv (.tmp 66))), none⟩,
     .split 67,
     .op ⟨(some 68), (.pure (.mv (.tmp 9))), (some (67, false))⟩,
     .op ⟨(some 69), (.pure (.mv (.tmp 5))), (some (67, false))⟩,
     .op ⟨(some 70), (.pure (.bin .neq (.tmp 68) (.tmp 69))), (some (67, false))⟩,
     .op ⟨(some 71), (.pure (.pick (.tmp 67) (.const (.bool true)) (.tmp 70))), none⟩,
     .op ⟨(some 72), (.pure (.mv (.tmp 71))), none⟩,
     .split 72,
     .op ⟨(some 73), (.pure (.mv (.tmp 10))), (some (72, false))⟩,
     .op ⟨(some 74), (.pure (.mv (.tmp 6))), (some (72, false))⟩,
     .op ⟨(some 75), (.pure (.eqb true (.tmp 73) (.tmp 74))), (some (72, false))⟩,
     .op ⟨(some 76), (.pure (.pick (.tmp 72) (.const (.bool true)) (.tmp 75))), none⟩])
   (.cond (.tmp 76)
   (.seq (.ops [
      .op ⟨(some 2), (.pure (.mv (.const (.bool false)))), none⟩])
    (.ret))
   (.skip)))
  (.seq (.ops [
    .op ⟨(some 12), (.pure (.mv (.const (.int .i64 (1))))), none⟩])
  (.seq (.ops [
    .op ⟨(some 77), (.pure (.mv (.tmp 8))), none⟩,
    .op ⟨(some 78), (.pure (.mv (.tmp 12))), none⟩,
    .op ⟨(some 79), (.eff (.call 24 [(.tmp 77), (.tmp 78)])), none⟩,
    .op ⟨(some 12), (.pure (.mv (.tmp 79))), none⟩])
  (.seq (.ops [
    .op ⟨(some 13), (.pure (.mv (.const (.int .i64 (1))))), none⟩])
  (.seq (.ops [
    .op ⟨(some 80), (.pure (.mv (.tmp 8))), none⟩,
    .op ⟨(some 81), (.pure (.mv (.tmp 13))), none⟩,
    .op ⟨(some 82), (.eff (.call 35 [(.tmp 80), (.tmp 81)])), none⟩,
    .op ⟨(some 13), (.pure (.mv (.tmp 82))), none⟩])
  (.seq (.seq (.ops [
     .op ⟨(some 83), (.pure (.mv (.tmp 13))), none⟩,
     .op ⟨(some 84), (.pure (.bin .lss (.tmp 83) (.const (.int .i64 (0))))), none⟩])
   (.cond (.tmp 84)
   (.seq (.ops [
      .op ⟨(some 2), (.pure (.mv (.const (.bool false)))), none⟩])
    (.ret))
   (.skip)))
  (.seq (.seq (.ops [
     .op ⟨(some 85), (.pure (.mv (.tmp 13))), none⟩,
     .op ⟨(some 86), (.pure (.mv (.tmp 12))), none⟩,
     .op ⟨(some 87), (.pure (.bin .neq (.tmp 85) (.tmp 86))), none⟩])
   (.cond (.tmp 87)
   (.seq (.ops [
      .op ⟨(some 2), (.pure (.mv (.const (.bool false)))), none⟩])
    (.ret))
   (.skip)))
  (.seq (.ops [
    .op ⟨(some 89), (.pure (.mv (.tmp 0))), none⟩,
    .op ⟨(some 90), (.eff (.call 29 [(.tmp 89)])), none⟩,
    .op ⟨(some 91), (.eff (.call 44 [(.tmp 90)])), none⟩,
    .op ⟨(some 88), (.pure (.mv (.tmp 91))), none⟩,
    .op ⟨(some 92), (.pure (.ext 0 (.tmp 88))), none⟩,
    .op ⟨(some 93), (.pure (.ext 1 (.tmp 88))), none⟩,
    .op ⟨(some 94), (.pure (.ext 2 (.tmp 88))), none⟩,
    .op ⟨(some 14), (.pure (.mv (.tmp 92))), none⟩,
    .op ⟨(some 15), (.pure (.mv (.tmp 93))), none⟩,
    .op ⟨(some 16), (.pure (.mv (.tmp 94))), none⟩])
  (.seq (.seq (.ops [
     .op ⟨(some 95), (.pure (.mv (.tmp 14))), none⟩,
     .op ⟨(some 96), (.pure (.mv (.tmp 4))), none⟩,
     .op ⟨(some 97), (.eff (.call 23 [(.tmp 95), (.tmp 96)])), none⟩,
     .op ⟨(some 98), (.pure (.bnot (.tmp 97))), none⟩,
     .op ⟨(some 99), (.pure (.mv (.tmp 98))), none⟩,
     .split 99,
     .op ⟨(some 100), (.pure (.mv (.tmp 15))), (some (99, false))⟩,
     .op ⟨(some 101), (.pure (.mv (.tmp 5))), (some (99, false))⟩,
     .op ⟨(some 102), (.pure (.bin .neq (.tmp 100) (.tmp 101))), (some (99, false))⟩,
     .op ⟨(some 103), (.pure (.pick (.tmp 99) (.const (.bool true)) (.tmp 102))), none⟩,
     .op ⟨(some 104), (.pure (.mv (.tmp 103))), none⟩,
     .split 104,
     .op ⟨(some 105), (.pure (.mv (.tmp 16))), (some (104, false))⟩,
     .op ⟨(some 106), (.pure (.mv (.tmp 6))), (some (104, false))⟩,
     .op ⟨(some 107), (.pure (.eqb true (.tmp 105) (.tmp 106))), (some (104, false))⟩,
     .op ⟨(some 108), (.pure (.pick (.tmp 104) (.const (.bool true)) (.tmp 107))), none⟩])
   (.cond (.tmp 108)
   (.seq (.ops [
      .op ⟨(some 2), (.pure (.mv (.const (.bool false)))), none⟩])
    (.ret))
   (.skip)))
  (.seq (.ops [
    .op ⟨(some 13), (.pure (.mv (.const (.int .i64 (1))))), none⟩])
  (.seq (.ops [
    .op ⟨(some 109), (.pure (.mv (.tmp 8))), none⟩,
    .op ⟨(some 110), (.pure (.mv (.tmp 13))), none⟩,
    .op ⟨(some 111), (.eff (.call 35 [(.tmp 109), (.tmp 110)])), none⟩,
    .op ⟨(some 13), (.pure (.mv (.tmp 111))), none⟩])
  (.seq (.seq (.ops [
     .op ⟨(some 112), (.pure (.mv (.tmp 13))), none⟩,
     .op ⟨(some 113), (.pure (.bin .lss (.tmp 112) (.const (.int .i64 (0))))), none⟩])
   (.cond (.tmp 113)
   (.seq (.ops [
      .op ⟨(some 2), (.pure (.mv (.const (.bool false)))), none⟩])
    (.ret))
   (.skip)))
  (.seq (.seq (.ops [
     .op ⟨(some 114), (.pure (.mv (.tmp 13))), none⟩,
     .op ⟨(some 115), (.pure (.mv (.tmp 12))), none⟩,
     .op ⟨(some 116), (.pure (.bin .neq (.tmp 114) (.tmp 115))), none⟩])
   (.cond (.tmp 116)
   (.seq (.ops [
      .op ⟨(some 2), (.pure (.mv (.const (.bool false)))), none⟩])
    (.ret))
   (.skip)))
  (.seq (.ops [
    .op ⟨(some 2), (.pure (.mv (.const (.bool true)))), none⟩])
  (.ret))))))))))))))))))))))))),
 [.tmp 2]⟩
theorem r_laws_FnExactPassedBy : resFun Try.prog f_laws_FnExactPassedBy = some c_laws_FnExactPassedBy := by kernel_rfl
end Go.Proofs.Ytgfokmjnfaopaaa
