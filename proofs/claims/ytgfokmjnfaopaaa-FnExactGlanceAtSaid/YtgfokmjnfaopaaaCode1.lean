/- The code of this seat's functions, resolved, written by a program of mine; each is held against the given program by the kernel. Condition: none. -/
import Derived.Test.YtgfokmjnfaopaaaProg
import Derived.Test.YtgfokmjnfaopaaaBase9
import Derived.KernelRfl
namespace Go.Proofs.Ytgfokmjnfaopaaa
open Go.Vc

/- loop.example/g00940/laws.FnExactRunGlances -/
abbrev f_laws_FnExactRunGlances : Nat := 11
def c_laws_FnExactRunGlances : MFun := ⟨119, .seq (.ops [
    .op ⟨(some 2), (.eff (.box 24 (.tmp 0))), none⟩,
    .op ⟨(some 4), (.pure (.mv (.const (.bool false)))), none⟩])
  (.seq (.ops [
    .op ⟨(some 5), (.pure (.mv (.const (.int .i64 (1048576))))), none⟩])
  (.seq (.ops [
    .op ⟨(some 17), (.load (some 5) (.tmp 2)), none⟩,
    .op ⟨(some 18), (.pure (.mv (.tmp 5))), none⟩,
    .op ⟨(some 19), (.eff (.call 14 [(.tmp 17), (.tmp 18)])), none⟩,
    .op ⟨(some 5), (.pure (.mv (.tmp 19))), none⟩])
  (.seq (.seq (.ops [
     .op ⟨(some 20), (.pure (.mv (.tmp 5))), none⟩,
     .op ⟨(some 21), (.pure (.bin .lss (.tmp 20) (.const (.int .i64 (0))))), none⟩])
   (.cond (.tmp 21)
   (.seq (.ops [
      .op ⟨(some 4), (.pure (.mv (.const (.bool true)))), none⟩])
    (.ret))
   (.skip)))
  (.seq (.ops [
    .op ⟨(some 22), (.pure (.mv (.tmp 1))), none⟩,
    .op ⟨(some 23), (.pure (.mv (.tmp 5))), none⟩,
    .op ⟨(some 24), (.eff (.call 27 [(.tmp 22), (.tmp 23)])), none⟩,
    .op ⟨(some 5), (.pure (.mv (.tmp 24))), none⟩])
  (.seq (.seq (.ops [
     .op ⟨(some 25), (.pure (.mv (.tmp 5))), none⟩,
     .op ⟨(some 26), (.pure (.bin .lss (.tmp 25) (.const (.int .i64 (0))))), none⟩])
   (.cond (.tmp 26)
   (.seq (.ops [
      .op ⟨(some 4), (.pure (.mv (.const (.bool true)))), none⟩])
    (.ret))
   (.skip)))
  (.seq (.ops [
    .op ⟨(some 28), (.load (some 5) (.tmp 2)), none⟩,
    .op ⟨(some 29), (.eff (.call 16 [(.tmp 28)])), none⟩,
    .op ⟨(some 30), (.pure (.mv (.tmp 1))), none⟩,
    .op ⟨(some 31), (.eff (.call 29 [(.tmp 30)])), none⟩,
    .op ⟨(some 32), (.eff (.call 45 [(.tmp 29), (.tmp 31)])), none⟩,
    .op ⟨(some 27), (.pure (.mv (.tmp 32))), none⟩,
    .op ⟨(some 33), (.pure (.ext 0 (.tmp 27))), none⟩,
    .op ⟨(some 34), (.pure (.ext 1 (.tmp 27))), none⟩,
    .op ⟨(some 6), (.eff (.new 27 [(.int .i64 (0)), (.int .i64 (0)), (.int .i64 (0)), (.int .i64 (0)), (.slice none 0 0)])), none⟩,
    .op ⟨none, (.eff (.store 5 (.tmp 6) (.tmp 33))), none⟩,
    .op ⟨(some 7), (.pure (.mv (.tmp 34))), none⟩])
  (.seq (.ops [
    .op ⟨(some 35), (.load (some 5) (.tmp 2)), none⟩,
    .op ⟨(some 36), (.eff (.call 16 [(.tmp 35)])), none⟩,
    .op ⟨(some 8), (.eff (.new 27 [(.int .i64 (0)), (.int .i64 (0)), (.int .i64 (0)), (.int .i64 (0)), (.slice none 0 0)])), none⟩,
    .op ⟨none, (.eff (.store 5 (.tmp 8) (.tmp 36))), none⟩])
  (.seq (.ops [
    .op ⟨(some 37), (.pure (.mv (.tmp 1))), none⟩,
    .op ⟨(some 38), (.eff (.call 29 [(.tmp 37)])), none⟩,
    .op ⟨(some 9), (.pure (.mv (.tmp 38))), none⟩])
  (.seq (.ops [
    .op ⟨(some 40), (.load (some 5) (.tmp 8)), none⟩,
    .op ⟨(some 41), (.pure (.mv (.tmp 9))), none⟩,
    .op ⟨(some 42), (.eff (.call 46 [(.tmp 40), (.tmp 41)])), none⟩,
    .op ⟨(some 39), (.pure (.mv (.tmp 42))), none⟩,
    .op ⟨(some 43), (.pure (.ext 0 (.tmp 39))), none⟩,
    .op ⟨(some 44), (.pure (.ext 1 (.tmp 39))), none⟩,
    .op ⟨(some 10), (.eff (.new 27 [(.int .i64 (0)), (.int .i64 (0)), (.int .i64 (0)), (.int .i64 (0)), (.slice none 0 0)])), none⟩,
    .op ⟨none, (.eff (.store 5 (.tmp 10) (.tmp 43))), none⟩,
    .op ⟨(some 11), (.pure (.mv (.tmp 44))), none⟩])
  (.seq (.seq (.ops [
     .op ⟨(some 45), (.load (some 5) (.tmp 10)), none⟩,
     .op ⟨(some 46), (.load (some 5) (.tmp 6)), none⟩,
     .op ⟨(some 47), (.eff (.call 18 [(.tmp 45), (.tmp 46)])), none⟩,
     .op ⟨(some 48), (.pure (.bnot (.tmp 47))), none⟩,
     .op ⟨(some 49), (.pure (.mv (.tmp 48))), none⟩,
     .split 49,
     .op ⟨(some 50), (.pure (.mv (.tmp 11))), (some (49, false))⟩,
     .op ⟨(some 51), (.pure (.mv (.tmp 7))), (some (49, false))⟩,
     .op ⟨(some 52), (.pure (.eqb true (.tmp 50) (.tmp 51))), (some (49, false))⟩,
     .op ⟨(some 53), (.pure (.pick (.tmp 49) (.const (.bool true)) (.tmp 52))), none⟩])
   (.cond (.tmp 53)
   (.seq (.ops [
      .op ⟨(some 4), (.pure (.mv (.const (.bool false)))), none⟩])
    (.ret))
   (.skip)))
  (.seq (.seq (.draw true
    (.take ⟨(some 54), (.load (some 5) (.tmp 8)), none⟩
    (.only false ⟨(some 55), (.load (some 5) (.tmp 2)), none⟩
    (.only false ⟨(some 56), (.eff (.call 16 [(.tmp 55)])), none⟩
    (.only false ⟨(some 57), (.eff (.call 18 [(.tmp 54), (.tmp 56)])), none⟩
    (.take ⟨(some 58), (.pure (.bnot (.tmp 57))), none⟩
    (.done)))))))
   (.cond (.tmp 58)
   (.seq (.ops [
      .op ⟨(some 4), (.pure (.mv (.const (.bool false)))), none⟩])
    (.ret))
   (.skip)))
  (.seq (.seq (.ops [
     .op ⟨(some 59), (.pure (.mv (.tmp 9))), none⟩,
     .op ⟨(some 60), (.pure (.mv (.tmp 1))), none⟩,
     .op ⟨(some 61), (.eff (.call 29 [(.tmp 60)])), none⟩,
     .op ⟨(some 62), (.eff (.call 22 [(.tmp 59), (.tmp 61)])), none⟩,
     .op ⟨(some 63), (.pure (.bnot (.tmp 62))), none⟩])
   (.cond (.tmp 63)
   (.seq (.ops [
      .op ⟨(some 4), (.pure (.mv (.const (.bool false)))), none⟩])
    (.ret))
   (.skip)))
  (.seq (.ops [
    .op ⟨(some 12), (.pure (.mv (.const (.int .i64 (1))))), none⟩])
  (.seq (.ops [
    .op ⟨(some 64), (.load (some 5) (.tmp 8)), none⟩,
    .op ⟨(some 65), (.pure (.mv (.tmp 12))), none⟩,
    .op ⟨(some 66), (.eff (.call 41 [(.tmp 64), (.tmp 65)])), none⟩,
    .op ⟨(some 12), (.pure (.mv (.tmp 66))), none⟩])
  (.seq (.ops [
    .op ⟨(some 67), (.pure (.mv (.tmp 9))), none⟩,
    .op ⟨(some 68), (.pure (.mv (.tmp 12))), none⟩,
    .op ⟨(some 69), (.eff (.call 25 [(.tmp 67), (.tmp 68)])), none⟩,
    .op ⟨(some 12), (.pure (.mv (.tmp 69))), none⟩])
  (.seq (.seq (.ops [
     .op ⟨(some 70), (.pure (.mv (.tmp 12))), none⟩,
     .op ⟨(some 71), (.pure (.bin .lss (.tmp 70) (.const (.int .i64 (0))))), none⟩,
     .op ⟨(some 72), (.pure (.mv (.tmp 71))), none⟩,
     .split 72,
     .op ⟨(some 73), (.load (some 5) (.tmp 10)), (some (72, false))⟩,
     .op ⟨(some 74), (.load (some 5) (.tmp 6)), (some (72, false))⟩,
     .op ⟨(some 75), (.eff (.call 18 [(.tmp 73), (.tmp 74)])), (some (72, false))⟩,
     .op ⟨(some 76), (.pure (.bnot (.tmp 75))), (some (72, false))⟩,
     .op ⟨(some 77), (.pure (.pick (.tmp 72) (.const (.bool true)) (.tmp 76))), none⟩,
     .op ⟨(some 78), (.pure (.mv (.tmp 77))), none⟩,
     .split 78,
     .op ⟨(some 79), (.pure (.mv (.tmp 11))), (some (78, false))⟩,
     .op ⟨(some 80), (.pure (.mv (.tmp 7))), (some (78, false))⟩,
     .op ⟨(some 81), (.pure (.eqb true (.tmp 79) (.tmp 80))), (some (78, false))⟩,
     .op ⟨(some 82), (.pure (.pick (.tmp 78) (.const (.bool true)) (.tmp 81))), none⟩])
   (.cond (.tmp 82)
   (.seq (.ops [
      .op ⟨(some 4), (.pure (.mv (.const (.bool false)))), none⟩])
    (.ret))
   (.skip)))
  (.seq (.ops [
    .op ⟨(some 13), (.pure (.mv (.const (.int .i64 (1))))), none⟩])
  (.seq (.ops [
    .op ⟨(some 83), (.load (some 5) (.tmp 10)), none⟩,
    .op ⟨(some 84), (.pure (.mv (.tmp 13))), none⟩,
    .op ⟨(some 85), (.eff (.call 41 [(.tmp 83), (.tmp 84)])), none⟩,
    .op ⟨(some 13), (.pure (.mv (.tmp 85))), none⟩])
  (.seq (.ops [
    .op ⟨(some 14), (.pure (.mv (.const (.int .i64 (1))))), none⟩])
  (.seq (.ops [
    .op ⟨(some 86), (.load (some 5) (.tmp 10)), none⟩,
    .op ⟨(some 87), (.pure (.mv (.tmp 14))), none⟩,
    .op ⟨(some 88), (.eff (.call 42 [(.tmp 86), (.tmp 87)])), none⟩,
    .op ⟨(some 14), (.pure (.mv (.tmp 88))), none⟩])
  (.seq (.seq (.ops [
     .op ⟨(some 89), (.pure (.mv (.tmp 14))), none⟩,
     .op ⟨(some 90), (.pure (.bin .lss (.tmp 89) (.const (.int .i64 (0))))), none⟩])
   (.cond (.tmp 90)
   (.seq (.ops [
      .op ⟨(some 4), (.pure (.mv (.const (.bool false)))), none⟩])
    (.ret))
   (.skip)))
  (.seq (.seq (.ops [
     .op ⟨(some 91), (.pure (.mv (.tmp 14))), none⟩,
     .op ⟨(some 92), (.pure (.mv (.tmp 13))), none⟩,
     .op ⟨(some 93), (.pure (.bin .neq (.tmp 91) (.tmp 92))), none⟩])
   (.cond (.tmp 93)
   (.seq (.ops [
      .op ⟨(some 4), (.pure (.mv (.const (.bool false)))), none⟩])
    (.ret))
   (.skip)))
  (.seq (.ops [
    .op ⟨(some 95), (.load (some 5) (.tmp 2)), none⟩,
    .op ⟨(some 96), (.eff (.call 16 [(.tmp 95)])), none⟩,
    .op ⟨(some 97), (.pure (.mv (.tmp 1))), none⟩,
    .op ⟨(some 98), (.eff (.call 29 [(.tmp 97)])), none⟩,
    .op ⟨(some 99), (.eff (.call 46 [(.tmp 96), (.tmp 98)])), none⟩,
    .op ⟨(some 94), (.pure (.mv (.tmp 99))), none⟩,
    .op ⟨(some 100), (.pure (.ext 0 (.tmp 94))), none⟩,
    .op ⟨(some 101), (.pure (.ext 1 (.tmp 94))), none⟩,
    .op ⟨(some 15), (.eff (.new 27 [(.int .i64 (0)), (.int .i64 (0)), (.int .i64 (0)), (.int .i64 (0)), (.slice none 0 0)])), none⟩,
    .op ⟨none, (.eff (.store 5 (.tmp 15) (.tmp 100))), none⟩,
    .op ⟨(some 16), (.pure (.mv (.tmp 101))), none⟩])
  (.seq (.seq (.ops [
     .op ⟨(some 102), (.load (some 5) (.tmp 15)), none⟩,
     .op ⟨(some 103), (.load (some 5) (.tmp 6)), none⟩,
     .op ⟨(some 104), (.eff (.call 18 [(.tmp 102), (.tmp 103)])), none⟩,
     .op ⟨(some 105), (.pure (.bnot (.tmp 104))), none⟩,
     .op ⟨(some 106), (.pure (.mv (.tmp 105))), none⟩,
     .split 106,
     .op ⟨(some 107), (.pure (.mv (.tmp 16))), (some (106, false))⟩,
     .op ⟨(some 108), (.pure (.mv (.tmp 7))), (some (106, false))⟩,
     .op ⟨(some 109), (.pure (.eqb true (.tmp 107) (.tmp 108))), (some (106, false))⟩,
     .op ⟨(some 110), (.pure (.pick (.tmp 106) (.const (.bool true)) (.tmp 109))), none⟩])
   (.cond (.tmp 110)
   (.seq (.ops [
      .op ⟨(some 4), (.pure (.mv (.const (.bool false)))), none⟩])
    (.ret))
   (.skip)))
  (.seq (.ops [
    .op ⟨(some 14), (.pure (.mv (.const (.int .i64 (1))))), none⟩])
  (.seq (.ops [
    .op ⟨(some 111), (.load (some 5) (.tmp 10)), none⟩,
    .op ⟨(some 112), (.pure (.mv (.tmp 14))), none⟩,
    .op ⟨(some 113), (.eff (.call 42 [(.tmp 111), (.tmp 112)])), none⟩,
    .op ⟨(some 14), (.pure (.mv (.tmp 113))), none⟩])
  (.seq (.seq (.ops [
     .op ⟨(some 114), (.pure (.mv (.tmp 14))), none⟩,
     .op ⟨(some 115), (.pure (.bin .lss (.tmp 114) (.const (.int .i64 (0))))), none⟩])
   (.cond (.tmp 115)
   (.seq (.ops [
      .op ⟨(some 4), (.pure (.mv (.const (.bool false)))), none⟩])
    (.ret))
   (.skip)))
  (.seq (.seq (.ops [
     .op ⟨(some 116), (.pure (.mv (.tmp 14))), none⟩,
     .op ⟨(some 117), (.pure (.mv (.tmp 13))), none⟩,
     .op ⟨(some 118), (.pure (.bin .neq (.tmp 116) (.tmp 117))), none⟩])
   (.cond (.tmp 118)
   (.seq (.ops [
      .op ⟨(some 4), (.pure (.mv (.const (.bool false)))), none⟩])
    (.ret))
   (.skip)))
  (.seq (.ops [
    .op ⟨(some 4), (.pure (.mv (.const (.bool true)))), none⟩])
  (.ret)))))))))))))))))))))))))))))),
 [.tmp 4]⟩
theorem r_laws_FnExactRunGlances : resFun Try.prog f_laws_FnExactRunGlances = some c_laws_FnExactRunGlances := by kernel_rfl

/- loop.example/g00940/laws.szRepeater -/
abbrev f_laws_szRepeater : Nat := 14
def c_laws_szRepeater : MFun := ⟨12, .seq (.ops [
    .op ⟨(some 2), (.eff (.box 24 (.tmp 0))), none⟩,
    .op ⟨(some 4), (.pure (.mv (.const (.int .i64 (0))))), none⟩])
  (.seq (.ops [
    .op ⟨(some 5), (.pure (.fieldAddr 4 (.tmp 2))), none⟩,
    .op ⟨(some 6), (.load none (.tmp 5)), none⟩,
    .op ⟨(some 7), (.pure (.mv (.tmp 1))), none⟩,
    .op ⟨(some 8), (.eff (.call 56 [(.tmp 6), (.tmp 7)])), none⟩,
    .op ⟨(some 1), (.pure (.mv (.tmp 8))), none⟩])
  (.seq (.seq (.ops [
     .op ⟨(some 9), (.pure (.mv (.tmp 1))), none⟩,
     .op ⟨(some 10), (.pure (.bin .lss (.tmp 9) (.const (.int .i64 (0))))), none⟩])
   (.cond (.tmp 10)
   (.seq (.ops [
      .op ⟨(some 4), (.pure (.mv (.const (.int .i64 (-1))))), none⟩])
    (.ret))
   (.skip)))
  (.seq (.ops [
    .op ⟨(some 11), (.pure (.mv (.tmp 1))), none⟩,
    .op ⟨(some 4), (.pure (.mv (.tmp 11))), none⟩])
  (.ret)))),
 [.tmp 4]⟩
theorem r_laws_szRepeater : resFun Try.prog f_laws_szRepeater = some c_laws_szRepeater := by kernel_rfl

/- loop.example/g00940/spec.IsRepeater -/
abbrev f_spec_IsRepeater : Nat := 15
def c_spec_IsRepeater : MFun := ⟨5, .seq (.ops [
    .op ⟨(some 1), (.eff (.box 27 (.tmp 0))), none⟩,
    .op ⟨(some 2), (.pure (.mv (.const (.bool false)))), none⟩])
  (.seq (.ops [
    .op ⟨(some 3), (.load (some 5) (.tmp 1)), none⟩,
    .op ⟨(some 4), (.eff (.call 57 [(.tmp 3)])), none⟩,
    .op ⟨(some 2), (.pure (.mv (.tmp 4))), none⟩])
  (.ret)),
 [.tmp 2]⟩
theorem r_spec_IsRepeater : resFun Try.prog f_spec_IsRepeater = some c_spec_IsRepeater := by kernel_rfl

/- loop.example/g00940/laws.toRepeater -/
abbrev f_laws_toRepeater : Nat := 16
def c_laws_toRepeater : MFun := ⟨21, .seq (.ops [
    .op ⟨(some 1), (.eff (.box 24 (.tmp 0))), none⟩,
    .op ⟨(some 2), (.eff (.new 27 [(.int .i64 (0)), (.int .i64 (0)), (.int .i64 (0)), (.int .i64 (0)), (.slice none 0 0)])), none⟩])
  (.seq (.ops [
    .op ⟨(some 3), (.eff (.new 27 [(.int .i64 (0)), (.int .i64 (0)), (.int .i64 (0)), (.int .i64 (0)), (.slice none 0 0)])), none⟩])
  (.seq (.ops [
    .op ⟨(some 4), (.pure (.fieldAddr 0 (.tmp 1))), none⟩,
    .op ⟨(some 5), (.load none (.tmp 4)), none⟩,
    .op ⟨(some 6), (.pure (.fieldAddr 0 (.tmp 3))), none⟩,
    .op ⟨none, (.eff (.store 1 (.tmp 6) (.tmp 5))), none⟩])
  (.seq (.ops [
    .op ⟨(some 7), (.pure (.fieldAddr 1 (.tmp 1))), none⟩,
    .op ⟨(some 8), (.load none (.tmp 7)), none⟩,
    .op ⟨(some 9), (.pure (.fieldAddr 1 (.tmp 3))), none⟩,
    .op ⟨none, (.eff (.store 1 (.tmp 9) (.tmp 8))), none⟩])
  (.seq (.ops [
    .op ⟨(some 10), (.pure (.fieldAddr 2 (.tmp 1))), none⟩,
    .op ⟨(some 11), (.load none (.tmp 10)), none⟩,
    .op ⟨(some 12), (.pure (.fieldAddr 2 (.tmp 3))), none⟩,
    .op ⟨none, (.eff (.store 1 (.tmp 12) (.tmp 11))), none⟩])
  (.seq (.ops [
    .op ⟨(some 13), (.pure (.fieldAddr 3 (.tmp 1))), none⟩,
    .op ⟨(some 14), (.load none (.tmp 13)), none⟩,
    .op ⟨(some 15), (.pure (.fieldAddr 3 (.tmp 3))), none⟩,
    .op ⟨none, (.eff (.store 1 (.tmp 15) (.tmp 14))), none⟩])
  (.seq (.ops [
    .op ⟨(some 16), (.pure (.fieldAddr 4 (.tmp 1))), none⟩,
    .op ⟨(some 17), (.load none (.tmp 16)), none⟩,
    .op ⟨(some 18), (.eff (.call 20 [(.tmp 17)])), none⟩,
    .op ⟨(some 19), (.pure (.fieldAddr 4 (.tmp 3))), none⟩,
    .op ⟨none, (.eff (.store 1 (.tmp 19) (.tmp 18))), none⟩])
  (.seq (.ops [
    .op ⟨(some 20), (.load (some 5) (.tmp 3)), none⟩,
    .op ⟨none, (.eff (.store 5 (.tmp 2) (.tmp 20))), none⟩])
  (.ret)))))))),
 [.cell 2 (some 5)]⟩
theorem r_laws_toRepeater : resFun Try.prog f_laws_toRepeater = some c_laws_toRepeater := by kernel_rfl

/- loop.example/g00940/impl.IsRepeater -/
abbrev f_impl_IsRepeater : Nat := 17
def c_impl_IsRepeater : MFun := ⟨119, .seq (.ops [
    .op ⟨(some 1), (.eff (.box 27 (.tmp 0))), none⟩,
    .op ⟨(some 2), (.pure (.mv (.const (.bool false)))), none⟩])
  (.seq (.ops [
    .op ⟨(some 6), (.pure (.fieldAddr 4 (.tmp 1))), none⟩,
    .op ⟨(some 7), (.load none (.tmp 6)), none⟩,
    .op ⟨(some 8), (.pure (.len (.tmp 7))), none⟩,
    .op ⟨(some 9), (.pure (.bin .sub (.tmp 8) (.const (.int .i64 (1))))), none⟩,
    .op ⟨(some 3), (.pure (.mv (.tmp 9))), none⟩])
  (.seq (.seq (.ops [
     .op ⟨(some 10), (.pure (.mv (.tmp 3))), none⟩,
     .op ⟨(some 11), (.pure (.bin .geq (.tmp 10) (.const (.int .i64 (80))))), none⟩])
   (.cond (.tmp 11)
   (.seq (.ops [
      .op ⟨(some 2), (.pure (.mv (.const (.bool false)))), none⟩])
    (.ret))
   (.skip)))
  (.seq (.seq (.ops [
     .op ⟨(some 12), (.pure (.fieldAddr 4 (.tmp 1))), none⟩,
     .op ⟨(some 13), (.load none (.tmp 12)), none⟩,
     .op ⟨(some 14), (.pure (.len (.tmp 13))), none⟩,
     .op ⟨(some 15), (.pure (.mv (.const (.int .i64 (0))))), none⟩])
   (.block 0 (.loop (.seq (.ops [
     .op ⟨(some 16), (.pure (.bin .lss (.tmp 15) (.tmp 14))), none⟩])
   (.seq (.cond (.tmp 16)
    (.skip)
    (.exit 0))
   (.seq (.block 1 (.seq (.ops [
      .op ⟨(some 17), (.pure (.mv (.tmp 15))), none⟩,
      .op ⟨(some 18), (.pure (.idx 1 (.tmp 13) (.tmp 15))), none⟩,
      .op ⟨(some 19), (.load none (.tmp 18)), none⟩,
      .op ⟨(some 4), (.pure (.mv (.tmp 17))), none⟩,
      .op ⟨(some 5), (.pure (.mv (.tmp 19))), none⟩])
    (.seq (.ops [
      .op ⟨(some 20), (.pure (.mv (.tmp 5))), none⟩,
      .op ⟨(some 21), (.eff (.call 58 [(.tmp 20)])), none⟩,
      .op ⟨(some 22), (.pure (.bnot (.tmp 21))), none⟩,
      .op ⟨(some 23), (.pure (.mv (.tmp 22))), none⟩,
      .split 23,
      .op ⟨(some 24), (.pure (.mv (.tmp 5))), (some (23, false))⟩,
      .op ⟨(some 25), (.pure (.bin .eql (.tmp 24) (.const (.int .i64 (61))))), (some (23, false))⟩,
      .op ⟨(some 26), (.pure (.mv (.tmp 25))), (some (23, false))⟩,
      .split 26,
      .op ⟨(some 27), (.pure (.mv (.tmp 4))), (some (26, true))⟩,
      .op ⟨(some 28), (.pure (.mv (.tmp 3))), (some (26, true))⟩,
      .op ⟨(some 29), (.pure (.bin .lss (.tmp 27) (.tmp 28))), (some (26, true))⟩,
      .op ⟨(some 30), (.pure (.mv (.tmp 29))), (some (26, true))⟩,
      .split 30,
      .op ⟨(some 31), (.pure (.fieldAddr 0 (.tmp 1))), (some (30, false))⟩,
      .op ⟨(some 32), (.load none (.tmp 31)), (some (30, false))⟩,
      .op ⟨(some 33), (.pure (.bin .neq (.tmp 32) (.const (.int .i64 (3))))), (some (30, false))⟩,
      .op ⟨(some 34), (.pure (.pick (.tmp 30) (.const (.bool true)) (.tmp 33))), (some (26, true))⟩,
      .op ⟨(some 35), (.pure (.pick (.tmp 26) (.tmp 34) (.const (.bool false)))), (some (23, false))⟩,
      .op ⟨(some 36), (.pure (.pick (.tmp 23) (.const (.bool true)) (.tmp 35))), none⟩])
    (.cond (.tmp 36)
    (.seq (.ops [
       .op ⟨(some 2), (.pure (.mv (.const (.bool false)))), none⟩])
     (.ret))
    (.skip)))))
   (.ops [
    .op ⟨(some 37), (.pure (.bin .add (.tmp 15) (.const (.int .i64 (1))))), none⟩,
    .op ⟨(some 15), (.pure (.mv (.tmp 37))), none⟩])))))))
  (.seq (.seq (.ops [
     .op ⟨(some 38), (.pure (.fieldAddr 0 (.tmp 1))), none⟩,
     .op ⟨(some 39), (.load none (.tmp 38)), none⟩])
   (.block 2 (.seq (.ops [
     .op ⟨(some 41), (.pure (.bin .eql (.tmp 39) (.const (.int .i64 (0))))), none⟩,
     .op ⟨(some 40), (.pure (.mv (.tmp 41))), none⟩])
   (.cond (.tmp 40)
   (.seq (.ops [
      .op ⟨(some 42), (.pure (.fieldAddr 1 (.tmp 1))), none⟩,
      .op ⟨(some 43), (.load none (.tmp 42)), none⟩,
      .op ⟨(some 44), (.pure (.bin .eql (.tmp 43) (.const (.int .i64 (0))))), none⟩,
      .op ⟨(some 45), (.pure (.mv (.tmp 44))), none⟩,
      .split 45,
      .op ⟨(some 46), (.pure (.fieldAddr 2 (.tmp 1))), (some (45, true))⟩,
      .op ⟨(some 47), (.load none (.tmp 46)), (some (45, true))⟩,
      .op ⟨(some 48), (.pure (.bin .eql (.tmp 47) (.const (.int .i64 (0))))), (some (45, true))⟩,
      .op ⟨(some 49), (.pure (.pick (.tmp 45) (.tmp 48) (.const (.bool false)))), none⟩,
      .op ⟨(some 50), (.pure (.mv (.tmp 49))), none⟩,
      .split 50,
      .op ⟨(some 51), (.pure (.fieldAddr 3 (.tmp 1))), (some (50, true))⟩,
      .op ⟨(some 52), (.load none (.tmp 51)), (some (50, true))⟩,
      .op ⟨(some 53), (.pure (.bin .eql (.tmp 52) (.const (.int .i64 (0))))), (some (50, true))⟩,
      .op ⟨(some 54), (.pure (.mv (.tmp 53))), (some (50, true))⟩,
      .split 54,
      .op ⟨(some 55), (.pure (.fieldAddr 3 (.tmp 1))), (some (54, false))⟩,
      .op ⟨(some 56), (.load none (.tmp 55)), (some (54, false))⟩,
      .op ⟨(some 57), (.pure (.bin .eql (.tmp 56) (.const (.int .i64 (62))))), (some (54, false))⟩,
      .op ⟨(some 58), (.pure (.pick (.tmp 54) (.const (.bool true)) (.tmp 57))), (some (50, true))⟩,
      .op ⟨(some 59), (.pure (.pick (.tmp 50) (.tmp 58) (.const (.bool false)))), none⟩,
      .op ⟨(some 2), (.pure (.mv (.tmp 59))), none⟩])
    (.ret))
   (.seq (.ops [
      .op ⟨(some 61), (.pure (.bin .eql (.tmp 39) (.const (.int .i64 (1))))), none⟩,
      .op ⟨(some 60), (.pure (.mv (.tmp 61))), none⟩])
    (.cond (.tmp 60)
    (.seq (.ops [
       .op ⟨(some 62), (.pure (.fieldAddr 1 (.tmp 1))), none⟩,
       .op ⟨(some 63), (.load none (.tmp 62)), none⟩,
       .op ⟨(some 64), (.eff (.call 58 [(.tmp 63)])), none⟩,
       .op ⟨(some 65), (.pure (.mv (.tmp 64))), none⟩,
       .split 65,
       .op ⟨(some 66), (.pure (.fieldAddr 3 (.tmp 1))), (some (65, true))⟩,
       .op ⟨(some 67), (.load none (.tmp 66)), (some (65, true))⟩,
       .op ⟨(some 68), (.pure (.fieldAddr 1 (.tmp 1))), (some (65, true))⟩,
       .op ⟨(some 69), (.load none (.tmp 68)), (some (65, true))⟩,
       .op ⟨(some 70), (.pure (.bin .eql (.tmp 67) (.tmp 69))), (some (65, true))⟩,
       .op ⟨(some 71), (.pure (.pick (.tmp 65) (.tmp 70) (.const (.bool false)))), none⟩,
       .op ⟨(some 72), (.pure (.mv (.tmp 71))), none⟩,
       .split 72,
       .op ⟨(some 73), (.pure (.fieldAddr 2 (.tmp 1))), (some (72, true))⟩,
       .op ⟨(some 74), (.load none (.tmp 73)), (some (72, true))⟩,
       .op ⟨(some 75), (.eff (.call 59 [(.tmp 74), (.const (.int .i64 (0))), (.const (.int .i64 (3)))])), (some (72, true))⟩,
       .op ⟨(some 76), (.pure (.pick (.tmp 72) (.tmp 75) (.const (.bool false)))), none⟩,
       .op ⟨(some 2), (.pure (.mv (.tmp 76))), none⟩])
     (.ret))
    (.seq (.ops [
       .op ⟨(some 78), (.pure (.bin .eql (.tmp 39) (.const (.int .i64 (2))))), none⟩,
       .op ⟨(some 77), (.pure (.mv (.tmp 78))), none⟩])
     (.cond (.tmp 77)
     (.seq (.ops [
        .op ⟨(some 79), (.pure (.fieldAddr 1 (.tmp 1))), none⟩,
        .op ⟨(some 80), (.load none (.tmp 79)), none⟩,
        .op ⟨(some 81), (.eff (.call 58 [(.tmp 80)])), none⟩,
        .op ⟨(some 82), (.pure (.mv (.tmp 81))), none⟩,
        .split 82,
        .op ⟨(some 83), (.pure (.fieldAddr 2 (.tmp 1))), (some (82, true))⟩,
        .op ⟨(some 84), (.load none (.tmp 83)), (some (82, true))⟩,
        .op ⟨(some 85), (.pure (.bin .eql (.tmp 84) (.const (.int .i64 (3))))), (some (82, true))⟩,
        .op ⟨(some 86), (.pure (.pick (.tmp 82) (.tmp 85) (.const (.bool false)))), none⟩,
        .op ⟨(some 87), (.pure (.mv (.tmp 86))), none⟩,
        .split 87,
        .op ⟨(some 88), (.pure (.fieldAddr 3 (.tmp 1))), (some (87, true))⟩,
        .op ⟨(some 89), (.load none (.tmp 88)), (some (87, true))⟩,
        .op ⟨(some 90), (.pure (.bin .eql (.tmp 89) (.const (.int .i64 (63))))), (some (87, true))⟩,
        .op ⟨(some 91), (.pure (.pick (.tmp 87) (.tmp 90) (.const (.bool false)))), none⟩,
        .op ⟨(some 2), (.pure (.mv (.tmp 91))), none⟩])
      (.ret))
     (.seq (.ops [
        .op ⟨(some 93), (.pure (.bin .eql (.tmp 39) (.const (.int .i64 (3))))), none⟩,
        .op ⟨(some 92), (.pure (.mv (.tmp 93))), none⟩])
      (.cond (.tmp 92)
      (.seq (.ops [
         .op ⟨(some 94), (.pure (.fieldAddr 1 (.tmp 1))), none⟩,
         .op ⟨(some 95), (.load none (.tmp 94)), none⟩,
         .op ⟨(some 96), (.pure (.bin .eql (.tmp 95) (.const (.int .i64 (0))))), none⟩,
         .op ⟨(some 97), (.pure (.mv (.tmp 96))), none⟩,
         .split 97,
         .op ⟨(some 98), (.pure (.fieldAddr 2 (.tmp 1))), (some (97, true))⟩,
         .op ⟨(some 99), (.load none (.tmp 98)), (some (97, true))⟩,
         .op ⟨(some 100), (.pure (.bin .eql (.tmp 99) (.const (.int .i64 (0))))), (some (97, true))⟩,
         .op ⟨(some 101), (.pure (.pick (.tmp 97) (.tmp 100) (.const (.bool false)))), none⟩,
         .op ⟨(some 102), (.pure (.mv (.tmp 101))), none⟩,
         .split 102,
         .op ⟨(some 103), (.pure (.fieldAddr 3 (.tmp 1))), (some (102, true))⟩,
         .op ⟨(some 104), (.load none (.tmp 103)), (some (102, true))⟩,
         .op ⟨(some 105), (.pure (.bin .eql (.tmp 104) (.const (.int .i64 (0))))), (some (102, true))⟩,
         .op ⟨(some 106), (.pure (.pick (.tmp 102) (.tmp 105) (.const (.bool false)))), none⟩,
         .op ⟨(some 107), (.pure (.mv (.tmp 106))), none⟩,
         .split 107,
         .op ⟨(some 108), (.pure (.mv (.tmp 3))), (some (107, true))⟩,
         .op ⟨(some 109), (.pure (.bin .geq (.tmp 108) (.const (.int .i64 (0))))), (some (107, true))⟩,
         .op ⟨(some 110), (.pure (.pick (.tmp 107) (.tmp 109) (.const (.bool false)))), none⟩,
         .op ⟨(some 111), (.pure (.mv (.tmp 110))), none⟩,
         .split 111,
         .op ⟨(some 112), (.pure (.fieldAddr 4 (.tmp 1))), (some (111, true))⟩,
         .op ⟨(some 113), (.load none (.tmp 112)), (some (111, true))⟩,
         .op ⟨(some 114), (.pure (.mv (.tmp 3))), (some (111, true))⟩,
         .op ⟨(some 115), (.pure (.idx 1 (.tmp 113) (.tmp 114))), (some (111, true))⟩,
         .op ⟨(some 116), (.load none (.tmp 115)), (some (111, true))⟩,
         .op ⟨(some 117), (.pure (.bin .eql (.tmp 116) (.const (.int .i64 (61))))), (some (111, true))⟩,
         .op ⟨(some 118), (.pure (.pick (.tmp 111) (.tmp 117) (.const (.bool false)))), none⟩,
         .op ⟨(some 2), (.pure (.mv (.tmp 118))), none⟩])
       (.ret))
      (.skip)))))))))))
  (.seq (.ops [
    .op ⟨(some 2), (.pure (.mv (.const (.bool false)))), none⟩])
  (.ret)))))),
 [.tmp 2]⟩
theorem r_impl_IsRepeater : resFun Try.prog f_impl_IsRepeater = some c_impl_IsRepeater := by kernel_rfl

/- loop.example/g00940/laws.eqRepeater -/
abbrev f_laws_eqRepeater : Nat := 18
def c_laws_eqRepeater : MFun := ⟨31, .seq (.ops [
    .op ⟨(some 2), (.eff (.box 27 (.tmp 0))), none⟩,
    .op ⟨(some 3), (.eff (.box 27 (.tmp 1))), none⟩,
    .op ⟨(some 4), (.pure (.mv (.const (.bool false)))), none⟩])
  (.seq (.seq (.ops [
     .op ⟨(some 5), (.pure (.fieldAddr 0 (.tmp 2))), none⟩,
     .op ⟨(some 6), (.load none (.tmp 5)), none⟩,
     .op ⟨(some 7), (.pure (.fieldAddr 0 (.tmp 3))), none⟩,
     .op ⟨(some 8), (.load none (.tmp 7)), none⟩,
     .op ⟨(some 9), (.pure (.bin .neq (.tmp 6) (.tmp 8))), none⟩])
   (.cond (.tmp 9)
   (.seq (.ops [
      .op ⟨(some 4), (.pure (.mv (.const (.bool false)))), none⟩])
    (.ret))
   (.skip)))
  (.seq (.seq (.ops [
     .op ⟨(some 10), (.pure (.fieldAddr 1 (.tmp 2))), none⟩,
     .op ⟨(some 11), (.load none (.tmp 10)), none⟩,
     .op ⟨(some 12), (.pure (.fieldAddr 1 (.tmp 3))), none⟩,
     .op ⟨(some 13), (.load none (.tmp 12)), none⟩,
     .op ⟨(some 14), (.pure (.bin .neq (.tmp 11) (.tmp 13))), none⟩])
   (.cond (.tmp 14)
   (.seq (.ops [
      .op ⟨(some 4), (.pure (.mv (.const (.bool false)))), none⟩])
    (.ret))
   (.skip)))
  (.seq (.seq (.ops [
     .op ⟨(some 15), (.pure (.fieldAddr 2 (.tmp 2))), none⟩,
     .op ⟨(some 16), (.load none (.tmp 15)), none⟩,
     .op ⟨(some 17), (.pure (.fieldAddr 2 (.tmp 3))), none⟩,
     .op ⟨(some 18), (.load none (.tmp 17)), none⟩,
     .op ⟨(some 19), (.pure (.bin .neq (.tmp 16) (.tmp 18))), none⟩])
   (.cond (.tmp 19)
   (.seq (.ops [
      .op ⟨(some 4), (.pure (.mv (.const (.bool false)))), none⟩])
    (.ret))
   (.skip)))
  (.seq (.seq (.ops [
     .op ⟨(some 20), (.pure (.fieldAddr 3 (.tmp 2))), none⟩,
     .op ⟨(some 21), (.load none (.tmp 20)), none⟩,
     .op ⟨(some 22), (.pure (.fieldAddr 3 (.tmp 3))), none⟩,
     .op ⟨(some 23), (.load none (.tmp 22)), none⟩,
     .op ⟨(some 24), (.pure (.bin .neq (.tmp 21) (.tmp 23))), none⟩])
   (.cond (.tmp 24)
   (.seq (.ops [
      .op ⟨(some 4), (.pure (.mv (.const (.bool false)))), none⟩])
    (.ret))
   (.skip)))
  (.seq (.seq (.ops [
     .op ⟨(some 25), (.pure (.fieldAddr 4 (.tmp 2))), none⟩,
     .op ⟨(some 26), (.load none (.tmp 25)), none⟩,
     .op ⟨(some 27), (.pure (.fieldAddr 4 (.tmp 3))), none⟩,
     .op ⟨(some 28), (.load none (.tmp 27)), none⟩,
     .op ⟨(some 29), (.eff (.call 23 [(.tmp 26), (.tmp 28)])), none⟩,
     .op ⟨(some 30), (.pure (.bnot (.tmp 29))), none⟩])
   (.cond (.tmp 30)
   (.seq (.ops [
      .op ⟨(some 4), (.pure (.mv (.const (.bool false)))), none⟩])
    (.ret))
   (.skip)))
  (.seq (.ops [
    .op ⟨(some 4), (.pure (.mv (.const (.bool true)))), none⟩])
  (.ret))))))),
 [.tmp 4]⟩
theorem r_laws_eqRepeater : resFun Try.prog f_laws_eqRepeater = some c_laws_eqRepeater := by kernel_rfl

/- loop.example/g00940/spec.PlainGlances -/
abbrev f_spec_PlainGlances : Nat := 19
def c_spec_PlainGlances : MFun := ⟨28, .seq (.ops [
    .op ⟨(some 2), (.pure (.mv (.const (.slice none 0 0)))), none⟩,
    .op ⟨(some 3), (.pure (.mv (.const (.bool false)))), none⟩])
  (.seq (.seq (.ops [
     .op ⟨(some 7), (.pure (.mv (.tmp 0))), none⟩,
     .op ⟨(some 8), (.pure (.len (.tmp 7))), none⟩,
     .op ⟨(some 9), (.pure (.bin .gtr (.tmp 8) (.const (.int .i64 (40))))), none⟩])
   (.cond (.tmp 9)
   (.seq (.ops [
      .op ⟨(some 2), (.pure (.mv (.const (.slice none 0 0)))), none⟩,
      .op ⟨(some 3), (.pure (.mv (.const (.bool false)))), none⟩])
    (.ret))
   (.skip)))
  (.seq (.ops [
    .op ⟨(some 4), (.pure (.mv (.const (.slice none 0 0)))), none⟩])
  (.seq (.seq (.ops [
     .op ⟨(some 10), (.pure (.mv (.tmp 0))), none⟩,
     .op ⟨(some 11), (.pure (.len (.tmp 10))), none⟩,
     .op ⟨(some 12), (.pure (.mv (.const (.int .i64 (0))))), none⟩])
   (.block 0 (.loop (.seq (.ops [
     .op ⟨(some 13), (.pure (.bin .lss (.tmp 12) (.tmp 11))), none⟩])
   (.seq (.cond (.tmp 13)
    (.skip)
    (.exit 0))
   (.seq (.block 1 (.seq (.ops [
      .op ⟨(some 14), (.pure (.idx 1 (.tmp 10) (.tmp 12))), none⟩,
      .op ⟨(some 15), (.load none (.tmp 14)), none⟩,
      .op ⟨(some 6), (.pure (.mv (.tmp 15))), none⟩])
    (.seq (.seq (.ops [
       .op ⟨(some 16), (.pure (.mv (.tmp 6))), none⟩,
       .op ⟨(some 17), (.eff (.call 60 [(.tmp 16)])), none⟩,
       .op ⟨(some 18), (.pure (.bnot (.tmp 17))), none⟩])
     (.cond (.tmp 18)
     (.seq (.ops [
        .op ⟨(some 2), (.pure (.mv (.const (.slice none 0 0)))), none⟩,
        .op ⟨(some 3), (.pure (.mv (.const (.bool false)))), none⟩])
      (.ret))
     (.skip)))
    (.ops [
     .op ⟨(some 19), (.pure (.mv (.tmp 4))), none⟩,
     .op ⟨(some 20), (.pure (.mv (.tmp 6))), none⟩,
     .op ⟨(some 21), (.pure (.build [(.bool false), (.int .i64 (0))] [(1, 1, (.tmp 20))])), none⟩,
     .op ⟨(some 22), (.pure (.mv (.tmp 6))), none⟩,
     .op ⟨(some 23), (.pure (.build [(.bool false), (.int .i64 (0))] [(0, 1, (.const (.bool true))), (1, 1, (.tmp 22))])), none⟩,
     .op ⟨(some 24), (.eff (.row 54 2 [(.bool false), (.int .i64 (0)), (.bool false), (.int .i64 (0))] [(0, 2, (.tmp 21)), (2, 2, (.tmp 23))])), none⟩,
     .op ⟨(some 25), (.eff (.app 54 2 16 (.tmp 19) (.tmp 24))), none⟩,
     .op ⟨(some 4), (.pure (.mv (.tmp 25))), none⟩]))))
   (.ops [
    .op ⟨(some 26), (.pure (.bin .add (.tmp 12) (.const (.int .i64 (1))))), none⟩,
    .op ⟨(some 12), (.pure (.mv (.tmp 26))), none⟩])))))))
  (.seq (.ops [
    .op ⟨(some 27), (.pure (.mv (.tmp 4))), none⟩,
    .op ⟨(some 2), (.pure (.mv (.tmp 27))), none⟩,
    .op ⟨(some 3), (.pure (.mv (.const (.bool true)))), none⟩])
  (.ret))))),
 [.tmp 2, .tmp 3]⟩
theorem r_spec_PlainGlances : resFun Try.prog f_spec_PlainGlances = some c_spec_PlainGlances := by kernel_rfl

/- loop.example/g00940/laws.toIntS -/
abbrev f_laws_toIntS : Nat := 20
def c_laws_toIntS : MFun := ⟨22, .seq (.ops [
    .op ⟨(some 2), (.pure (.mv (.const (.slice none 0 0)))), none⟩])
  (.seq (.ops [
    .op ⟨(some 5), (.pure (.mv (.tmp 0))), none⟩,
    .op ⟨(some 6), (.pure (.len (.tmp 5))), none⟩,
    .op ⟨(some 7), (.eff (.mk 3 1 8 [(.int .i64 (0))] (.tmp 6) (.tmp 6))), none⟩,
    .op ⟨(some 3), (.pure (.mv (.tmp 7))), none⟩])
  (.seq (.seq (.ops [
     .op ⟨(some 4), (.pure (.mv (.const (.int .i64 (0))))), none⟩])
   (.block 0 (.loop (.seq (.seq (.ops [
      .op ⟨(some 8), (.pure (.mv (.tmp 4))), none⟩,
      .op ⟨(some 9), (.pure (.mv (.tmp 0))), none⟩,
      .op ⟨(some 10), (.pure (.len (.tmp 9))), none⟩,
      .op ⟨(some 11), (.pure (.bin .lss (.tmp 8) (.tmp 10))), none⟩])
    (.cond (.tmp 11)
    (.skip)
    (.exit 0)))
   (.seq (.block 1 (.ops [
     .op ⟨(some 14), (.pure (.mv (.tmp 3))), none⟩,
     .op ⟨(some 15), (.pure (.mv (.tmp 4))), none⟩,
     .op ⟨(some 16), (.pure (.mv (.tmp 0))), none⟩,
     .op ⟨(some 17), (.pure (.mv (.tmp 4))), none⟩,
     .op ⟨(some 18), (.pure (.idx 1 (.tmp 16) (.tmp 17))), none⟩,
     .op ⟨(some 19), (.load none (.tmp 18)), none⟩,
     .op ⟨(some 20), (.pure (.idx 1 (.tmp 14) (.tmp 15))), none⟩,
     .op ⟨none, (.eff (.store 1 (.tmp 20) (.tmp 19))), none⟩]))
   (.ops [
    .op ⟨(some 12), (.pure (.mv (.tmp 4))), none⟩,
    .op ⟨(some 13), (.pure (.bin .add (.tmp 12) (.const (.int .i64 (1))))), none⟩,
    .op ⟨(some 4), (.pure (.mv (.tmp 13))), none⟩]))))))
  (.seq (.ops [
    .op ⟨(some 21), (.pure (.mv (.tmp 3))), none⟩,
    .op ⟨(some 2), (.pure (.mv (.tmp 21))), none⟩])
  (.ret)))),
 [.tmp 2]⟩
theorem r_laws_toIntS : resFun Try.prog f_laws_toIntS = some c_laws_toIntS := by kernel_rfl

/- loop.example/g00940/impl.PlainGlances -/
abbrev f_impl_PlainGlances : Nat := 21
def c_impl_PlainGlances : MFun := ⟨28, .seq (.ops [
    .op ⟨(some 2), (.pure (.mv (.const (.slice none 0 0)))), none⟩,
    .op ⟨(some 3), (.pure (.mv (.const (.bool false)))), none⟩])
  (.seq (.seq (.ops [
     .op ⟨(some 7), (.pure (.mv (.tmp 0))), none⟩,
     .op ⟨(some 8), (.pure (.len (.tmp 7))), none⟩,
     .op ⟨(some 9), (.pure (.bin .gtr (.tmp 8) (.const (.int .i64 (40))))), none⟩])
   (.cond (.tmp 9)
   (.seq (.ops [
      .op ⟨(some 2), (.pure (.mv (.const (.slice none 0 0)))), none⟩,
      .op ⟨(some 3), (.pure (.mv (.const (.bool false)))), none⟩])
    (.ret))
   (.skip)))
  (.seq (.ops [
    .op ⟨(some 4), (.pure (.mv (.const (.slice none 0 0)))), none⟩])
  (.seq (.seq (.ops [
     .op ⟨(some 10), (.pure (.mv (.tmp 0))), none⟩,
     .op ⟨(some 11), (.pure (.len (.tmp 10))), none⟩,
     .op ⟨(some 12), (.pure (.mv (.const (.int .i64 (0))))), none⟩])
   (.block 0 (.loop (.seq (.ops [
     .op ⟨(some 13), (.pure (.bin .lss (.tmp 12) (.tmp 11))), none⟩])
   (.seq (.cond (.tmp 13)
    (.skip)
    (.exit 0))
   (.seq (.block 1 (.seq (.ops [
      .op ⟨(some 14), (.pure (.idx 1 (.tmp 10) (.tmp 12))), none⟩,
      .op ⟨(some 15), (.load none (.tmp 14)), none⟩,
      .op ⟨(some 6), (.pure (.mv (.tmp 15))), none⟩])
    (.seq (.seq (.ops [
       .op ⟨(some 16), (.pure (.mv (.tmp 6))), none⟩,
       .op ⟨(some 17), (.eff (.call 58 [(.tmp 16)])), none⟩,
       .op ⟨(some 18), (.pure (.bnot (.tmp 17))), none⟩])
     (.cond (.tmp 18)
     (.seq (.ops [
        .op ⟨(some 2), (.pure (.mv (.const (.slice none 0 0)))), none⟩,
        .op ⟨(some 3), (.pure (.mv (.const (.bool false)))), none⟩])
      (.ret))
     (.skip)))
    (.ops [
     .op ⟨(some 19), (.pure (.mv (.tmp 4))), none⟩,
     .op ⟨(some 20), (.pure (.mv (.tmp 6))), none⟩,
     .op ⟨(some 21), (.pure (.build [(.bool false), (.int .i64 (0))] [(0, 1, (.const (.bool false))), (1, 1, (.tmp 20))])), none⟩,
     .op ⟨(some 22), (.pure (.mv (.tmp 6))), none⟩,
     .op ⟨(some 23), (.pure (.build [(.bool false), (.int .i64 (0))] [(0, 1, (.const (.bool true))), (1, 1, (.tmp 22))])), none⟩,
     .op ⟨(some 24), (.eff (.row 54 2 [(.bool false), (.int .i64 (0)), (.bool false), (.int .i64 (0))] [(0, 2, (.tmp 21)), (2, 2, (.tmp 23))])), none⟩,
     .op ⟨(some 25), (.eff (.app 54 2 16 (.tmp 19) (.tmp 24))), none⟩,
     .op ⟨(some 4), (.pure (.mv (.tmp 25))), none⟩]))))
   (.ops [
    .op ⟨(some 26), (.pure (.bin .add (.tmp 12) (.const (.int .i64 (1))))), none⟩,
    .op ⟨(some 12), (.pure (.mv (.tmp 26))), none⟩])))))))
  (.seq (.ops [
    .op ⟨(some 27), (.pure (.mv (.tmp 4))), none⟩,
    .op ⟨(some 2), (.pure (.mv (.tmp 27))), none⟩,
    .op ⟨(some 3), (.pure (.mv (.const (.bool true)))), none⟩])
  (.ret))))),
 [.tmp 2, .tmp 3]⟩
theorem r_impl_PlainGlances : resFun Try.prog f_impl_PlainGlances = some c_impl_PlainGlances := by kernel_rfl

/- loop.example/g00940/laws.eqGlanceS -/
abbrev f_laws_eqGlanceS : Nat := 22
def c_laws_eqGlanceS : MFun := ⟨27, .seq (.ops [
    .op ⟨(some 4), (.pure (.mv (.const (.bool false)))), none⟩])
  (.seq (.seq (.ops [
     .op ⟨(some 6), (.pure (.mv (.tmp 0))), none⟩,
     .op ⟨(some 7), (.pure (.len (.tmp 6))), none⟩,
     .op ⟨(some 8), (.pure (.mv (.tmp 1))), none⟩,
     .op ⟨(some 9), (.pure (.len (.tmp 8))), none⟩,
     .op ⟨(some 10), (.pure (.bin .neq (.tmp 7) (.tmp 9))), none⟩])
   (.cond (.tmp 10)
   (.seq (.ops [
      .op ⟨(some 4), (.pure (.mv (.const (.bool false)))), none⟩])
    (.ret))
   (.skip)))
  (.seq (.seq (.ops [
     .op ⟨(some 5), (.pure (.mv (.const (.int .i64 (0))))), none⟩])
   (.block 0 (.loop (.seq (.seq (.ops [
      .op ⟨(some 11), (.pure (.mv (.tmp 5))), none⟩,
      .op ⟨(some 12), (.pure (.mv (.tmp 0))), none⟩,
      .op ⟨(some 13), (.pure (.len (.tmp 12))), none⟩,
      .op ⟨(some 14), (.pure (.bin .lss (.tmp 11) (.tmp 13))), none⟩])
    (.cond (.tmp 14)
    (.skip)
    (.exit 0)))
   (.seq (.block 1 (.seq (.draw true
     (.take ⟨(some 17), (.pure (.mv (.tmp 0))), none⟩
     (.take ⟨(some 18), (.pure (.mv (.tmp 5))), none⟩
     (.take ⟨(some 19), (.pure (.idx 2 (.tmp 17) (.tmp 18))), none⟩
     (.take ⟨(some 21), (.pure (.mv (.tmp 1))), none⟩
     (.take ⟨(some 22), (.pure (.mv (.tmp 5))), none⟩
     (.take ⟨(some 23), (.pure (.idx 2 (.tmp 21) (.tmp 22))), none⟩
     (.take ⟨(some 20), (.load (some 2) (.tmp 19)), none⟩
     (.only false ⟨(some 24), (.load (some 2) (.tmp 23)), none⟩
     (.only true ⟨(some 25), (.eff (.call 61 [(.tmp 20), (.tmp 24)])), none⟩
     (.take ⟨(some 26), (.pure (.bnot (.tmp 25))), none⟩
     (.done))))))))))))
    (.cond (.tmp 26)
    (.seq (.ops [
       .op ⟨(some 4), (.pure (.mv (.const (.bool false)))), none⟩])
     (.ret))
    (.skip))))
   (.ops [
    .op ⟨(some 15), (.pure (.mv (.tmp 5))), none⟩,
    .op ⟨(some 16), (.pure (.bin .add (.tmp 15) (.const (.int .i64 (1))))), none⟩,
    .op ⟨(some 5), (.pure (.mv (.tmp 16))), none⟩]))))))
  (.seq (.ops [
    .op ⟨(some 4), (.pure (.mv (.const (.bool true)))), none⟩])
  (.ret)))),
 [.tmp 4]⟩
theorem r_laws_eqGlanceS : resFun Try.prog f_laws_eqGlanceS = some c_laws_eqGlanceS := by kernel_rfl

/- loop.example/g00940/laws.eqIntS -/
abbrev f_laws_eqIntS : Nat := 23
def c_laws_eqIntS : MFun := ⟨26, .seq (.ops [
    .op ⟨(some 4), (.pure (.mv (.const (.bool false)))), none⟩])
  (.seq (.seq (.ops [
     .op ⟨(some 6), (.pure (.mv (.tmp 0))), none⟩,
     .op ⟨(some 7), (.pure (.len (.tmp 6))), none⟩,
     .op ⟨(some 8), (.pure (.mv (.tmp 1))), none⟩,
     .op ⟨(some 9), (.pure (.len (.tmp 8))), none⟩,
     .op ⟨(some 10), (.pure (.bin .neq (.tmp 7) (.tmp 9))), none⟩])
   (.cond (.tmp 10)
   (.seq (.ops [
      .op ⟨(some 4), (.pure (.mv (.const (.bool false)))), none⟩])
    (.ret))
   (.skip)))
  (.seq (.seq (.ops [
     .op ⟨(some 5), (.pure (.mv (.const (.int .i64 (0))))), none⟩])
   (.block 0 (.loop (.seq (.seq (.ops [
      .op ⟨(some 11), (.pure (.mv (.tmp 5))), none⟩,
      .op ⟨(some 12), (.pure (.mv (.tmp 0))), none⟩,
      .op ⟨(some 13), (.pure (.len (.tmp 12))), none⟩,
      .op ⟨(some 14), (.pure (.bin .lss (.tmp 11) (.tmp 13))), none⟩])
    (.cond (.tmp 14)
    (.skip)
    (.exit 0)))
   (.seq (.block 1 (.seq (.ops [
      .op ⟨(some 17), (.pure (.mv (.tmp 0))), none⟩,
      .op ⟨(some 18), (.pure (.mv (.tmp 5))), none⟩,
      .op ⟨(some 19), (.pure (.idx 1 (.tmp 17) (.tmp 18))), none⟩,
      .op ⟨(some 21), (.pure (.mv (.tmp 1))), none⟩,
      .op ⟨(some 22), (.pure (.mv (.tmp 5))), none⟩,
      .op ⟨(some 23), (.pure (.idx 1 (.tmp 21) (.tmp 22))), none⟩,
      .op ⟨(some 20), (.load none (.tmp 19)), none⟩,
      .op ⟨(some 24), (.load none (.tmp 23)), none⟩,
      .op ⟨(some 25), (.pure (.bin .neq (.tmp 20) (.tmp 24))), none⟩])
    (.cond (.tmp 25)
    (.seq (.ops [
       .op ⟨(some 4), (.pure (.mv (.const (.bool false)))), none⟩])
     (.ret))
    (.skip))))
   (.ops [
    .op ⟨(some 15), (.pure (.mv (.tmp 5))), none⟩,
    .op ⟨(some 16), (.pure (.bin .add (.tmp 15) (.const (.int .i64 (1))))), none⟩,
    .op ⟨(some 5), (.pure (.mv (.tmp 16))), none⟩]))))))
  (.seq (.ops [
    .op ⟨(some 4), (.pure (.mv (.const (.bool true)))), none⟩])
  (.ret)))),
 [.tmp 4]⟩
theorem r_laws_eqIntS : resFun Try.prog f_laws_eqIntS = some c_laws_eqIntS := by kernel_rfl

/- loop.example/g00940/laws.markIntS -/
abbrev f_laws_markIntS : Nat := 24
def c_laws_markIntS : MFun := ⟨19, .seq (.ops [
    .op ⟨(some 4), (.pure (.mv (.const (.int .i64 (0))))), none⟩])
  (.seq (.seq (.ops [
     .op ⟨(some 5), (.pure (.mv (.const (.int .i64 (0))))), none⟩])
   (.block 0 (.loop (.seq (.seq (.ops [
      .op ⟨(some 6), (.pure (.mv (.tmp 5))), none⟩,
      .op ⟨(some 7), (.pure (.mv (.tmp 0))), none⟩,
      .op ⟨(some 8), (.pure (.len (.tmp 7))), none⟩,
      .op ⟨(some 9), (.pure (.bin .lss (.tmp 6) (.tmp 8))), none⟩])
    (.cond (.tmp 9)
    (.skip)
    (.exit 0)))
   (.seq (.block 1 (.seq (.ops [
      .op ⟨(some 12), (.pure (.mv (.tmp 0))), none⟩,
      .op ⟨(some 13), (.pure (.mv (.tmp 5))), none⟩,
      .op ⟨(some 14), (.pure (.mv (.tmp 1))), none⟩,
      .op ⟨(some 15), (.pure (.idx 1 (.tmp 12) (.tmp 13))), none⟩,
      .op ⟨none, (.eff (.store 1 (.tmp 15) (.tmp 14))), none⟩])
    (.ops [
     .op ⟨(some 16), (.pure (.mv (.tmp 1))), none⟩,
     .op ⟨(some 17), (.pure (.bin .add (.tmp 16) (.const (.int .i64 (1))))), none⟩,
     .op ⟨(some 1), (.pure (.mv (.tmp 17))), none⟩])))
   (.ops [
    .op ⟨(some 10), (.pure (.mv (.tmp 5))), none⟩,
    .op ⟨(some 11), (.pure (.bin .add (.tmp 10) (.const (.int .i64 (1))))), none⟩,
    .op ⟨(some 5), (.pure (.mv (.tmp 11))), none⟩]))))))
  (.seq (.ops [
    .op ⟨(some 18), (.pure (.mv (.tmp 1))), none⟩,
    .op ⟨(some 4), (.pure (.mv (.tmp 18))), none⟩])
  (.ret))),
 [.tmp 4]⟩
theorem r_laws_markIntS : resFun Try.prog f_laws_markIntS = some c_laws_markIntS := by kernel_rfl

/- loop.example/g00940/laws.markGlanceS -/
abbrev f_laws_markGlanceS : Nat := 25
def c_laws_markGlanceS : MFun := ⟨29, .seq (.ops [
    .op ⟨(some 4), (.pure (.mv (.const (.int .i64 (0))))), none⟩])
  (.seq (.seq (.ops [
     .op ⟨(some 5), (.pure (.mv (.const (.int .i64 (0))))), none⟩])
   (.block 0 (.loop (.seq (.seq (.ops [
      .op ⟨(some 6), (.pure (.mv (.tmp 5))), none⟩,
      .op ⟨(some 7), (.pure (.mv (.tmp 0))), none⟩,
      .op ⟨(some 8), (.pure (.len (.tmp 7))), none⟩,
      .op ⟨(some 9), (.pure (.bin .lss (.tmp 6) (.tmp 8))), none⟩])
    (.cond (.tmp 9)
    (.skip)
    (.exit 0)))
   (.seq (.block 1 (.seq (.ops [
      .op ⟨(some 12), (.pure (.mv (.tmp 0))), none⟩,
      .op ⟨(some 13), (.pure (.mv (.tmp 5))), none⟩,
      .op ⟨(some 14), (.pure (.mv (.tmp 1))), none⟩,
      .op ⟨(some 15), (.pure (.bin .rem (.tmp 14) (.const (.int .i64 (3))))), none⟩,
      .op ⟨(some 16), (.pure (.bin .eql (.tmp 15) (.const (.int .i64 (0))))), none⟩,
      .op ⟨(some 17), (.pure (.idx 2 (.tmp 12) (.tmp 13))), none⟩,
      .op ⟨(some 18), (.pure (.fieldAddr 0 (.tmp 17))), none⟩,
      .op ⟨none, (.eff (.store 1 (.tmp 18) (.tmp 16))), none⟩])
    (.seq (.ops [
      .op ⟨(some 19), (.pure (.mv (.tmp 1))), none⟩,
      .op ⟨(some 20), (.pure (.bin .add (.tmp 19) (.const (.int .i64 (1))))), none⟩,
      .op ⟨(some 1), (.pure (.mv (.tmp 20))), none⟩])
    (.seq (.ops [
      .op ⟨(some 21), (.pure (.mv (.tmp 0))), none⟩,
      .op ⟨(some 22), (.pure (.mv (.tmp 5))), none⟩,
      .op ⟨(some 23), (.pure (.mv (.tmp 1))), none⟩,
      .op ⟨(some 24), (.pure (.idx 2 (.tmp 21) (.tmp 22))), none⟩,
      .op ⟨(some 25), (.pure (.fieldAddr 1 (.tmp 24))), none⟩,
      .op ⟨none, (.eff (.store 1 (.tmp 25) (.tmp 23))), none⟩])
    (.ops [
     .op ⟨(some 26), (.pure (.mv (.tmp 1))), none⟩,
     .op ⟨(some 27), (.pure (.bin .add (.tmp 26) (.const (.int .i64 (1))))), none⟩,
     .op ⟨(some 1), (.pure (.mv (.tmp 27))), none⟩])))))
   (.ops [
    .op ⟨(some 10), (.pure (.mv (.tmp 5))), none⟩,
    .op ⟨(some 11), (.pure (.bin .add (.tmp 10) (.const (.int .i64 (1))))), none⟩,
    .op ⟨(some 5), (.pure (.mv (.tmp 11))), none⟩]))))))
  (.seq (.ops [
    .op ⟨(some 28), (.pure (.mv (.tmp 1))), none⟩,
    .op ⟨(some 4), (.pure (.mv (.tmp 28))), none⟩])
  (.ret))),
 [.tmp 4]⟩
theorem r_laws_markGlanceS : resFun Try.prog f_laws_markGlanceS = some c_laws_markGlanceS := by kernel_rfl

/- loop.example/g00940/laws.heldGlanceS -/
abbrev f_laws_heldGlanceS : Nat := 26
def c_laws_heldGlanceS : MFun := ⟨33, .seq (.ops [
    .op ⟨(some 4), (.pure (.mv (.const (.int .i64 (0))))), none⟩])
  (.seq (.seq (.ops [
     .op ⟨(some 5), (.pure (.mv (.const (.int .i64 (0))))), none⟩])
   (.block 0 (.loop (.seq (.seq (.ops [
      .op ⟨(some 6), (.pure (.mv (.tmp 5))), none⟩,
      .op ⟨(some 7), (.pure (.mv (.tmp 0))), none⟩,
      .op ⟨(some 8), (.pure (.len (.tmp 7))), none⟩,
      .op ⟨(some 9), (.pure (.bin .lss (.tmp 6) (.tmp 8))), none⟩])
    (.cond (.tmp 9)
    (.skip)
    (.exit 0)))
   (.seq (.block 1 (.seq (.seq (.ops [
       .op ⟨(some 12), (.pure (.mv (.tmp 0))), none⟩,
       .op ⟨(some 13), (.pure (.mv (.tmp 5))), none⟩,
       .op ⟨(some 14), (.pure (.idx 2 (.tmp 12) (.tmp 13))), none⟩,
       .op ⟨(some 15), (.pure (.fieldAddr 0 (.tmp 14))), none⟩,
       .op ⟨(some 16), (.load none (.tmp 15)), none⟩,
       .op ⟨(some 17), (.pure (.mv (.tmp 1))), none⟩,
       .op ⟨(some 18), (.pure (.bin .rem (.tmp 17) (.const (.int .i64 (3))))), none⟩,
       .op ⟨(some 19), (.pure (.bin .eql (.tmp 18) (.const (.int .i64 (0))))), none⟩,
       .op ⟨(some 20), (.pure (.eqb true (.tmp 16) (.tmp 19))), none⟩])
     (.cond (.tmp 20)
     (.seq (.ops [
        .op ⟨(some 4), (.pure (.mv (.const (.int .i64 (-1))))), none⟩])
      (.ret))
     (.skip)))
    (.seq (.ops [
      .op ⟨(some 21), (.pure (.mv (.tmp 1))), none⟩,
      .op ⟨(some 22), (.pure (.bin .add (.tmp 21) (.const (.int .i64 (1))))), none⟩,
      .op ⟨(some 1), (.pure (.mv (.tmp 22))), none⟩])
    (.seq (.seq (.ops [
       .op ⟨(some 23), (.pure (.mv (.tmp 0))), none⟩,
       .op ⟨(some 24), (.pure (.mv (.tmp 5))), none⟩,
       .op ⟨(some 25), (.pure (.idx 2 (.tmp 23) (.tmp 24))), none⟩,
       .op ⟨(some 26), (.pure (.fieldAddr 1 (.tmp 25))), none⟩,
       .op ⟨(some 27), (.load none (.tmp 26)), none⟩,
       .op ⟨(some 28), (.pure (.mv (.tmp 1))), none⟩,
       .op ⟨(some 29), (.pure (.bin .neq (.tmp 27) (.tmp 28))), none⟩])
     (.cond (.tmp 29)
     (.seq (.ops [
        .op ⟨(some 4), (.pure (.mv (.const (.int .i64 (-1))))), none⟩])
      (.ret))
     (.skip)))
    (.ops [
     .op ⟨(some 30), (.pure (.mv (.tmp 1))), none⟩,
     .op ⟨(some 31), (.pure (.bin .add (.tmp 30) (.const (.int .i64 (1))))), none⟩,
     .op ⟨(some 1), (.pure (.mv (.tmp 31))), none⟩])))))
   (.ops [
    .op ⟨(some 10), (.pure (.mv (.tmp 5))), none⟩,
    .op ⟨(some 11), (.pure (.bin .add (.tmp 10) (.const (.int .i64 (1))))), none⟩,
    .op ⟨(some 5), (.pure (.mv (.tmp 11))), none⟩]))))))
  (.seq (.ops [
    .op ⟨(some 32), (.pure (.mv (.tmp 1))), none⟩,
    .op ⟨(some 4), (.pure (.mv (.tmp 32))), none⟩])
  (.ret))),
 [.tmp 4]⟩
theorem r_laws_heldGlanceS : resFun Try.prog f_laws_heldGlanceS = some c_laws_heldGlanceS := by kernel_rfl

/- loop.example/g00940/laws.szGlanceS -/
abbrev f_laws_szGlanceS : Nat := 27
def c_laws_szGlanceS : MFun := ⟨12, .seq (.ops [
    .op ⟨(some 4), (.pure (.mv (.const (.int .i64 (0))))), none⟩])
  (.seq (.ops [
    .op ⟨(some 5), (.pure (.mv (.tmp 1))), none⟩,
    .op ⟨(some 6), (.pure (.mv (.tmp 0))), none⟩,
    .op ⟨(some 7), (.pure (.len (.tmp 6))), none⟩,
    .op ⟨(some 8), (.pure (.bin .sub (.tmp 5) (.tmp 7))), none⟩,
    .op ⟨(some 1), (.pure (.mv (.tmp 8))), none⟩])
  (.seq (.seq (.ops [
     .op ⟨(some 9), (.pure (.mv (.tmp 1))), none⟩,
     .op ⟨(some 10), (.pure (.bin .lss (.tmp 9) (.const (.int .i64 (0))))), none⟩])
   (.cond (.tmp 10)
   (.seq (.ops [
      .op ⟨(some 4), (.pure (.mv (.const (.int .i64 (-1))))), none⟩])
    (.ret))
   (.skip)))
  (.seq (.ops [
    .op ⟨(some 11), (.pure (.mv (.tmp 1))), none⟩,
    .op ⟨(some 4), (.pure (.mv (.tmp 11))), none⟩])
  (.ret)))),
 [.tmp 4]⟩
theorem r_laws_szGlanceS : resFun Try.prog f_laws_szGlanceS = some c_laws_szGlanceS := by kernel_rfl

/- loop.example/g00940/spec.WithMisreading -/
abbrev f_spec_WithMisreading : Nat := 28
def c_spec_WithMisreading : MFun := ⟨34, .seq (.ops [
    .op ⟨(some 6), (.pure (.mv (.const (.slice none 0 0)))), none⟩,
    .op ⟨(some 7), (.pure (.mv (.const (.bool false)))), none⟩])
  (.seq (.seq (.ops [
     .op ⟨(some 9), (.pure (.mv (.tmp 0))), none⟩,
     .op ⟨(some 10), (.eff (.call 62 [(.tmp 9)])), none⟩,
     .op ⟨(some 11), (.pure (.bnot (.tmp 10))), none⟩,
     .op ⟨(some 12), (.pure (.mv (.tmp 11))), none⟩,
     .split 12,
     .op ⟨(some 13), (.pure (.mv (.tmp 1))), (some (12, false))⟩,
     .op ⟨(some 14), (.pure (.mv (.tmp 0))), (some (12, false))⟩,
     .op ⟨(some 15), (.pure (.len (.tmp 14))), (some (12, false))⟩,
     .op ⟨(some 16), (.pure (.bin .sub (.tmp 15) (.const (.int .i64 (1))))), (some (12, false))⟩,
     .op ⟨(some 17), (.eff (.call 63 [(.tmp 13), (.const (.int .i64 (0))), (.tmp 16)])), (some (12, false))⟩,
     .op ⟨(some 18), (.pure (.bnot (.tmp 17))), (some (12, false))⟩,
     .op ⟨(some 19), (.pure (.pick (.tmp 12) (.const (.bool true)) (.tmp 18))), none⟩,
     .op ⟨(some 20), (.pure (.mv (.tmp 19))), none⟩,
     .split 20,
     .op ⟨(some 21), (.pure (.mv (.tmp 2))), (some (20, false))⟩,
     .op ⟨(some 22), (.eff (.call 64 [(.tmp 21)])), (some (20, false))⟩,
     .op ⟨(some 23), (.pure (.bnot (.tmp 22))), (some (20, false))⟩,
     .op ⟨(some 24), (.pure (.pick (.tmp 20) (.const (.bool true)) (.tmp 23))), none⟩])
   (.cond (.tmp 24)
   (.seq (.ops [
      .op ⟨(some 6), (.pure (.mv (.const (.slice none 0 0)))), none⟩,
      .op ⟨(some 7), (.pure (.mv (.const (.bool false)))), none⟩])
    (.ret))
   (.skip)))
  (.seq (.ops [
    .op ⟨(some 25), (.eff (.row 54 0 [] [])), none⟩,
    .op ⟨(some 26), (.pure (.mv (.tmp 0))), none⟩,
    .op ⟨(some 27), (.eff (.app 54 2 16 (.tmp 25) (.tmp 26))), none⟩,
    .op ⟨(some 8), (.pure (.mv (.tmp 27))), none⟩])
  (.seq (.ops [
    .op ⟨(some 28), (.pure (.mv (.tmp 8))), none⟩,
    .op ⟨(some 29), (.pure (.mv (.tmp 1))), none⟩,
    .op ⟨(some 30), (.pure (.mv (.tmp 2))), none⟩,
    .op ⟨(some 31), (.pure (.idx 2 (.tmp 28) (.tmp 29))), none⟩,
    .op ⟨(some 32), (.pure (.fieldAddr 1 (.tmp 31))), none⟩,
    .op ⟨none, (.eff (.store 1 (.tmp 32) (.tmp 30))), none⟩])
  (.seq (.ops [
    .op ⟨(some 33), (.pure (.mv (.tmp 8))), none⟩,
    .op ⟨(some 6), (.pure (.mv (.tmp 33))), none⟩,
    .op ⟨(some 7), (.pure (.mv (.const (.bool true)))), none⟩])
  (.ret))))),
 [.tmp 6, .tmp 7]⟩
theorem r_spec_WithMisreading : resFun Try.prog f_spec_WithMisreading = some c_spec_WithMisreading := by kernel_rfl

/- loop.example/g00940/laws.toGlanceS -/
abbrev f_laws_toGlanceS : Nat := 29
def c_laws_toGlanceS : MFun := ⟨23, .seq (.ops [
    .op ⟨(some 2), (.pure (.mv (.const (.slice none 0 0)))), none⟩])
  (.seq (.ops [
    .op ⟨(some 5), (.pure (.mv (.tmp 0))), none⟩,
    .op ⟨(some 6), (.pure (.len (.tmp 5))), none⟩,
    .op ⟨(some 7), (.eff (.mk 54 2 16 [(.bool false), (.int .i64 (0))] (.tmp 6) (.tmp 6))), none⟩,
    .op ⟨(some 3), (.pure (.mv (.tmp 7))), none⟩])
  (.seq (.seq (.ops [
     .op ⟨(some 4), (.pure (.mv (.const (.int .i64 (0))))), none⟩])
   (.block 0 (.loop (.seq (.seq (.ops [
      .op ⟨(some 8), (.pure (.mv (.tmp 4))), none⟩,
      .op ⟨(some 9), (.pure (.mv (.tmp 0))), none⟩,
      .op ⟨(some 10), (.pure (.len (.tmp 9))), none⟩,
      .op ⟨(some 11), (.pure (.bin .lss (.tmp 8) (.tmp 10))), none⟩])
    (.cond (.tmp 11)
    (.skip)
    (.exit 0)))
   (.seq (.block 1 (.ops [
     .op ⟨(some 14), (.pure (.mv (.tmp 3))), none⟩,
     .op ⟨(some 15), (.pure (.mv (.tmp 4))), none⟩,
     .op ⟨(some 16), (.pure (.mv (.tmp 0))), none⟩,
     .op ⟨(some 17), (.pure (.mv (.tmp 4))), none⟩,
     .op ⟨(some 18), (.pure (.idx 2 (.tmp 16) (.tmp 17))), none⟩,
     .op ⟨(some 19), (.load (some 2) (.tmp 18)), none⟩,
     .op ⟨(some 20), (.eff (.call 39 [(.tmp 19)])), none⟩,
     .op ⟨(some 21), (.pure (.idx 2 (.tmp 14) (.tmp 15))), none⟩,
     .op ⟨none, (.eff (.store 2 (.tmp 21) (.tmp 20))), none⟩]))
   (.ops [
    .op ⟨(some 12), (.pure (.mv (.tmp 4))), none⟩,
    .op ⟨(some 13), (.pure (.bin .add (.tmp 12) (.const (.int .i64 (1))))), none⟩,
    .op ⟨(some 4), (.pure (.mv (.tmp 13))), none⟩]))))))
  (.seq (.ops [
    .op ⟨(some 22), (.pure (.mv (.tmp 3))), none⟩,
    .op ⟨(some 2), (.pure (.mv (.tmp 22))), none⟩])
  (.ret)))),
 [.tmp 2]⟩
theorem r_laws_toGlanceS : resFun Try.prog f_laws_toGlanceS = some c_laws_toGlanceS := by kernel_rfl

/- loop.example/g00940/impl.WithMisreading -/
abbrev f_impl_WithMisreading : Nat := 30
def c_impl_WithMisreading : MFun := ⟨33, .seq (.ops [
    .op ⟨(some 6), (.pure (.mv (.const (.slice none 0 0)))), none⟩,
    .op ⟨(some 7), (.pure (.mv (.const (.bool false)))), none⟩])
  (.seq (.seq (.ops [
     .op ⟨(some 9), (.pure (.mv (.tmp 0))), none⟩,
     .op ⟨(some 10), (.eff (.call 65 [(.tmp 9)])), none⟩,
     .op ⟨(some 11), (.pure (.bnot (.tmp 10))), none⟩,
     .op ⟨(some 12), (.pure (.mv (.tmp 11))), none⟩,
     .split 12,
     .op ⟨(some 13), (.pure (.mv (.tmp 1))), (some (12, false))⟩,
     .op ⟨(some 14), (.pure (.mv (.tmp 0))), (some (12, false))⟩,
     .op ⟨(some 15), (.pure (.len (.tmp 14))), (some (12, false))⟩,
     .op ⟨(some 16), (.pure (.bin .sub (.tmp 15) (.const (.int .i64 (1))))), (some (12, false))⟩,
     .op ⟨(some 17), (.eff (.call 59 [(.tmp 13), (.const (.int .i64 (0))), (.tmp 16)])), (some (12, false))⟩,
     .op ⟨(some 18), (.pure (.bnot (.tmp 17))), (some (12, false))⟩,
     .op ⟨(some 19), (.pure (.pick (.tmp 12) (.const (.bool true)) (.tmp 18))), none⟩,
     .op ⟨(some 20), (.pure (.mv (.tmp 19))), none⟩,
     .split 20,
     .op ⟨(some 21), (.pure (.mv (.tmp 2))), (some (20, false))⟩,
     .op ⟨(some 22), (.eff (.call 66 [(.tmp 21)])), (some (20, false))⟩,
     .op ⟨(some 23), (.pure (.bnot (.tmp 22))), (some (20, false))⟩,
     .op ⟨(some 24), (.pure (.pick (.tmp 20) (.const (.bool true)) (.tmp 23))), none⟩])
   (.cond (.tmp 24)
   (.seq (.ops [
      .op ⟨(some 6), (.pure (.mv (.const (.slice none 0 0)))), none⟩,
      .op ⟨(some 7), (.pure (.mv (.const (.bool false)))), none⟩])
    (.ret))
   (.skip)))
  (.seq (.ops [
    .op ⟨(some 25), (.pure (.mv (.tmp 0))), none⟩,
    .op ⟨(some 26), (.eff (.call 67 [(.tmp 25)])), none⟩,
    .op ⟨(some 8), (.pure (.mv (.tmp 26))), none⟩])
  (.seq (.ops [
    .op ⟨(some 27), (.pure (.mv (.tmp 8))), none⟩,
    .op ⟨(some 28), (.pure (.mv (.tmp 1))), none⟩,
    .op ⟨(some 29), (.pure (.mv (.tmp 2))), none⟩,
    .op ⟨(some 30), (.pure (.idx 2 (.tmp 27) (.tmp 28))), none⟩,
    .op ⟨(some 31), (.pure (.fieldAddr 1 (.tmp 30))), none⟩,
    .op ⟨none, (.eff (.store 1 (.tmp 31) (.tmp 29))), none⟩])
  (.seq (.ops [
    .op ⟨(some 32), (.pure (.mv (.tmp 8))), none⟩,
    .op ⟨(some 6), (.pure (.mv (.tmp 32))), none⟩,
    .op ⟨(some 7), (.pure (.mv (.const (.bool true)))), none⟩])
  (.ret))))),
 [.tmp 6, .tmp 7]⟩
theorem r_impl_WithMisreading : resFun Try.prog f_impl_WithMisreading = some c_impl_WithMisreading := by kernel_rfl

/- loop.example/g00940/spec.WrongShows -/
abbrev f_spec_WrongShows : Nat := 31
def c_spec_WrongShows : MFun := ⟨42, .seq (.ops [
    .op ⟨(some 2), (.pure (.mv (.const (.int .i64 (0))))), none⟩,
    .op ⟨(some 3), (.pure (.mv (.const (.bool false)))), none⟩])
  (.seq (.seq (.ops [
     .op ⟨(some 9), (.pure (.mv (.tmp 0))), none⟩,
     .op ⟨(some 10), (.eff (.call 62 [(.tmp 9)])), none⟩,
     .op ⟨(some 11), (.pure (.bnot (.tmp 10))), none⟩])
   (.cond (.tmp 11)
   (.seq (.ops [
      .op ⟨(some 2), (.pure (.mv (.const (.int .i64 (0))))), none⟩,
      .op ⟨(some 3), (.pure (.mv (.const (.bool false)))), none⟩])
    (.ret))
   (.skip)))
  (.seq (.ops [
    .op ⟨(some 4), (.pure (.mv (.const (.int .i64 (0))))), none⟩])
  (.seq (.ops [
    .op ⟨(some 12), (.eff (.call 68 [])), none⟩,
    .op ⟨(some 5), (.eff (.new 27 [(.int .i64 (0)), (.int .i64 (0)), (.int .i64 (0)), (.int .i64 (0)), (.slice none 0 0)])), none⟩,
    .op ⟨none, (.eff (.store 5 (.tmp 5) (.tmp 12))), none⟩])
  (.seq (.seq (.ops [
     .op ⟨(some 13), (.pure (.mv (.tmp 0))), none⟩,
     .op ⟨(some 14), (.pure (.len (.tmp 13))), none⟩,
     .op ⟨(some 15), (.pure (.mv (.const (.int .i64 (0))))), none⟩])
   (.block 0 (.loop (.seq (.ops [
     .op ⟨(some 16), (.pure (.bin .lss (.tmp 15) (.tmp 14))), none⟩])
   (.seq (.cond (.tmp 16)
    (.skip)
    (.exit 0))
   (.seq (.block 1 (.seq (.ops [
      .op ⟨(some 17), (.pure (.idx 2 (.tmp 13) (.tmp 15))), none⟩,
      .op ⟨(some 18), (.load (some 2) (.tmp 17)), none⟩,
      .op ⟨(some 7), (.eff (.new 54 [(.bool false), (.int .i64 (0))])), none⟩,
      .op ⟨none, (.eff (.store 2 (.tmp 7) (.tmp 18))), none⟩])
    (.seq (.ops [
      .op ⟨(some 19), (.load (some 5) (.tmp 5)), none⟩,
      .op ⟨(some 20), (.load (some 2) (.tmp 7)), none⟩,
      .op ⟨(some 21), (.eff (.call 69 [(.tmp 19), (.tmp 20)])), none⟩,
      .op ⟨(some 8), (.eff (.new 27 [(.int .i64 (0)), (.int .i64 (0)), (.int .i64 (0)), (.int .i64 (0)), (.slice none 0 0)])), none⟩,
      .op ⟨none, (.eff (.store 5 (.tmp 8) (.tmp 21))), none⟩])
    (.seq (.seq (.ops [
       .op ⟨(some 22), (.pure (.fieldAddr 2 (.tmp 8))), none⟩,
       .op ⟨(some 23), (.load none (.tmp 22)), none⟩,
       .op ⟨(some 24), (.pure (.fieldAddr 2 (.tmp 5))), none⟩,
       .op ⟨(some 25), (.load none (.tmp 24)), none⟩,
       .op ⟨(some 26), (.pure (.bin .gtr (.tmp 23) (.tmp 25))), none⟩,
       .op ⟨(some 27), (.pure (.mv (.tmp 26))), none⟩,
       .split 27,
       .op ⟨(some 28), (.pure (.fieldAddr 0 (.tmp 8))), (some (27, false))⟩,
       .op ⟨(some 29), (.load none (.tmp 28)), (some (27, false))⟩,
       .op ⟨(some 30), (.pure (.bin .eql (.tmp 29) (.const (.int .i64 (2))))), (some (27, false))⟩,
       .op ⟨(some 31), (.pure (.mv (.tmp 30))), (some (27, false))⟩,
       .split 31,
       .op ⟨(some 32), (.pure (.fieldAddr 0 (.tmp 5))), (some (31, true))⟩,
       .op ⟨(some 33), (.load none (.tmp 32)), (some (31, true))⟩,
       .op ⟨(some 34), (.pure (.bin .neq (.tmp 33) (.const (.int .i64 (2))))), (some (31, true))⟩,
       .op ⟨(some 35), (.pure (.pick (.tmp 31) (.tmp 34) (.const (.bool false)))), (some (27, false))⟩,
       .op ⟨(some 36), (.pure (.pick (.tmp 27) (.const (.bool true)) (.tmp 35))), none⟩])
     (.cond (.tmp 36)
     (.ops [
       .op ⟨(some 37), (.pure (.mv (.tmp 4))), none⟩,
       .op ⟨(some 38), (.pure (.bin .add (.tmp 37) (.const (.int .i64 (1))))), none⟩,
       .op ⟨(some 4), (.pure (.mv (.tmp 38))), none⟩])
     (.skip)))
    (.ops [
     .op ⟨(some 39), (.load (some 5) (.tmp 8)), none⟩,
     .op ⟨none, (.eff (.store 5 (.tmp 5) (.tmp 39))), none⟩])))))
   (.ops [
    .op ⟨(some 40), (.pure (.bin .add (.tmp 15) (.const (.int .i64 (1))))), none⟩,
    .op ⟨(some 15), (.pure (.mv (.tmp 40))), none⟩])))))))
  (.seq (.ops [
    .op ⟨(some 41), (.pure (.mv (.tmp 4))), none⟩,
    .op ⟨(some 2), (.pure (.mv (.tmp 41))), none⟩,
    .op ⟨(some 3), (.pure (.mv (.const (.bool true)))), none⟩])
  (.ret)))))),
 [.tmp 2, .tmp 3]⟩
theorem r_spec_WrongShows : resFun Try.prog f_spec_WrongShows = some c_spec_WrongShows := by kernel_rfl

/- loop.example/g00940/impl.WrongShows -/
abbrev f_impl_WrongShows : Nat := 32
def c_impl_WrongShows : MFun := ⟨31, .seq (.ops [
    .op ⟨(some 2), (.pure (.mv (.const (.int .i64 (0))))), none⟩,
    .op ⟨(some 3), (.pure (.mv (.const (.bool false)))), none⟩])
  (.seq (.seq (.ops [
     .op ⟨(some 10), (.pure (.mv (.tmp 0))), none⟩,
     .op ⟨(some 11), (.eff (.call 65 [(.tmp 10)])), none⟩,
     .op ⟨(some 12), (.pure (.bnot (.tmp 11))), none⟩])
   (.cond (.tmp 12)
   (.seq (.ops [
      .op ⟨(some 2), (.pure (.mv (.const (.int .i64 (0))))), none⟩,
      .op ⟨(some 3), (.pure (.mv (.const (.bool false)))), none⟩])
    (.ret))
   (.skip)))
  (.seq (.ops [
    .op ⟨(some 4), (.eff (.new 27 [(.int .i64 (0)), (.int .i64 (0)), (.int .i64 (0)), (.int .i64 (0)), (.slice none 0 0)])), none⟩])
  (.seq (.ops [
    .op ⟨(some 5), (.pure (.mv (.const (.int .i64 (0))))), none⟩])
  (.seq (.seq (.ops [
     .op ⟨(some 13), (.pure (.mv (.tmp 0))), none⟩,
     .op ⟨(some 14), (.pure (.len (.tmp 13))), none⟩,
     .op ⟨(some 15), (.pure (.mv (.const (.int .i64 (0))))), none⟩])
   (.block 0 (.loop (.seq (.ops [
     .op ⟨(some 16), (.pure (.bin .lss (.tmp 15) (.tmp 14))), none⟩])
   (.seq (.cond (.tmp 16)
    (.skip)
    (.exit 0))
   (.seq (.block 1 (.seq (.ops [
      .op ⟨(some 17), (.pure (.idx 2 (.tmp 13) (.tmp 15))), none⟩,
      .op ⟨(some 18), (.load (some 2) (.tmp 17)), none⟩,
      .op ⟨(some 7), (.eff (.new 54 [(.bool false), (.int .i64 (0))])), none⟩,
      .op ⟨none, (.eff (.store 2 (.tmp 7) (.tmp 18))), none⟩])
    (.seq (.ops [
      .op ⟨(some 20), (.load (some 5) (.tmp 4)), none⟩,
      .op ⟨(some 21), (.load (some 2) (.tmp 7)), none⟩,
      .op ⟨(some 22), (.eff (.call 70 [(.tmp 20), (.tmp 21)])), none⟩,
      .op ⟨(some 19), (.pure (.mv (.tmp 22))), none⟩,
      .op ⟨(some 23), (.pure (.ext 0 (.tmp 19))), none⟩,
      .op ⟨(some 24), (.pure (.ext 1 (.tmp 19))), none⟩,
      .op ⟨(some 8), (.eff (.new 27 [(.int .i64 (0)), (.int .i64 (0)), (.int .i64 (0)), (.int .i64 (0)), (.slice none 0 0)])), none⟩,
      .op ⟨none, (.eff (.store 5 (.tmp 8) (.tmp 23))), none⟩,
      .op ⟨(some 9), (.pure (.mv (.tmp 24))), none⟩])
    (.seq (.seq (.ops [
       .op ⟨(some 25), (.pure (.mv (.tmp 9))), none⟩])
     (.cond (.tmp 25)
     (.ops [
       .op ⟨(some 26), (.pure (.mv (.tmp 5))), none⟩,
       .op ⟨(some 27), (.pure (.bin .add (.tmp 26) (.const (.int .i64 (1))))), none⟩,
       .op ⟨(some 5), (.pure (.mv (.tmp 27))), none⟩])
     (.skip)))
    (.ops [
     .op ⟨(some 28), (.load (some 5) (.tmp 8)), none⟩,
     .op ⟨none, (.eff (.store 5 (.tmp 4) (.tmp 28))), none⟩])))))
   (.ops [
    .op ⟨(some 29), (.pure (.bin .add (.tmp 15) (.const (.int .i64 (1))))), none⟩,
    .op ⟨(some 15), (.pure (.mv (.tmp 29))), none⟩])))))))
  (.seq (.ops [
    .op ⟨(some 30), (.pure (.mv (.tmp 5))), none⟩,
    .op ⟨(some 2), (.pure (.mv (.tmp 30))), none⟩,
    .op ⟨(some 3), (.pure (.mv (.const (.bool true)))), none⟩])
  (.ret)))))),
 [.tmp 2, .tmp 3]⟩
theorem r_impl_WrongShows : resFun Try.prog f_impl_WrongShows = some c_impl_WrongShows := by kernel_rfl

/- loop.example/g00940/spec.ShownAfter -/
abbrev f_spec_ShownAfter : Nat := 33
def c_spec_ShownAfter : MFun := ⟨28, .seq (.ops [
    .op ⟨(some 2), (.pure (.mv (.const (.slice none 0 0)))), none⟩,
    .op ⟨(some 3), (.pure (.mv (.const (.bool false)))), none⟩])
  (.seq (.seq (.ops [
     .op ⟨(some 8), (.pure (.mv (.tmp 0))), none⟩,
     .op ⟨(some 9), (.eff (.call 62 [(.tmp 8)])), none⟩,
     .op ⟨(some 10), (.pure (.bnot (.tmp 9))), none⟩])
   (.cond (.tmp 10)
   (.seq (.ops [
      .op ⟨(some 2), (.pure (.mv (.const (.slice none 0 0)))), none⟩,
      .op ⟨(some 3), (.pure (.mv (.const (.bool false)))), none⟩])
    (.ret))
   (.skip)))
  (.seq (.ops [
    .op ⟨(some 4), (.pure (.mv (.const (.slice none 0 0)))), none⟩])
  (.seq (.ops [
    .op ⟨(some 11), (.eff (.call 68 [])), none⟩,
    .op ⟨(some 5), (.eff (.new 27 [(.int .i64 (0)), (.int .i64 (0)), (.int .i64 (0)), (.int .i64 (0)), (.slice none 0 0)])), none⟩,
    .op ⟨none, (.eff (.store 5 (.tmp 5) (.tmp 11))), none⟩])
  (.seq (.seq (.ops [
     .op ⟨(some 12), (.pure (.mv (.tmp 0))), none⟩,
     .op ⟨(some 13), (.pure (.len (.tmp 12))), none⟩,
     .op ⟨(some 14), (.pure (.mv (.const (.int .i64 (0))))), none⟩])
   (.block 0 (.loop (.seq (.ops [
     .op ⟨(some 15), (.pure (.bin .lss (.tmp 14) (.tmp 13))), none⟩])
   (.seq (.cond (.tmp 15)
    (.skip)
    (.exit 0))
   (.seq (.block 1 (.seq (.ops [
      .op ⟨(some 16), (.pure (.idx 2 (.tmp 12) (.tmp 14))), none⟩,
      .op ⟨(some 17), (.load (some 2) (.tmp 16)), none⟩,
      .op ⟨(some 7), (.eff (.new 54 [(.bool false), (.int .i64 (0))])), none⟩,
      .op ⟨none, (.eff (.store 2 (.tmp 7) (.tmp 17))), none⟩])
    (.seq (.ops [
      .op ⟨(some 18), (.load (some 5) (.tmp 5)), none⟩,
      .op ⟨(some 19), (.load (some 2) (.tmp 7)), none⟩,
      .op ⟨(some 20), (.eff (.call 69 [(.tmp 18), (.tmp 19)])), none⟩,
      .op ⟨none, (.eff (.store 5 (.tmp 5) (.tmp 20))), none⟩])
    (.ops [
     .op ⟨(some 21), (.pure (.mv (.tmp 4))), none⟩,
     .op ⟨(some 22), (.pure (.fieldAddr 3 (.tmp 5))), none⟩,
     .op ⟨(some 23), (.load none (.tmp 22)), none⟩,
     .op ⟨(some 24), (.eff (.row 3 1 [(.int .i64 (0))] [(0, 1, (.tmp 23))])), none⟩,
     .op ⟨(some 25), (.eff (.app 3 1 8 (.tmp 21) (.tmp 24))), none⟩,
     .op ⟨(some 4), (.pure (.mv (.tmp 25))), none⟩]))))
   (.ops [
    .op ⟨(some 26), (.pure (.bin .add (.tmp 14) (.const (.int .i64 (1))))), none⟩,
    .op ⟨(some 14), (.pure (.mv (.tmp 26))), none⟩])))))))
  (.seq (.ops [
    .op ⟨(some 27), (.pure (.mv (.tmp 4))), none⟩,
    .op ⟨(some 2), (.pure (.mv (.tmp 27))), none⟩,
    .op ⟨(some 3), (.pure (.mv (.const (.bool true)))), none⟩])
  (.ret)))))),
 [.tmp 2, .tmp 3]⟩
theorem r_spec_ShownAfter : resFun Try.prog f_spec_ShownAfter = some c_spec_ShownAfter := by kernel_rfl

/- loop.example/g00940/impl.ShownAfter -/
abbrev f_impl_ShownAfter : Nat := 34
def c_impl_ShownAfter : MFun := ⟨30, .seq (.ops [
    .op ⟨(some 2), (.pure (.mv (.const (.slice none 0 0)))), none⟩,
    .op ⟨(some 3), (.pure (.mv (.const (.bool false)))), none⟩])
  (.seq (.seq (.ops [
     .op ⟨(some 8), (.pure (.mv (.tmp 0))), none⟩,
     .op ⟨(some 9), (.eff (.call 65 [(.tmp 8)])), none⟩,
     .op ⟨(some 10), (.pure (.bnot (.tmp 9))), none⟩])
   (.cond (.tmp 10)
   (.seq (.ops [
      .op ⟨(some 2), (.pure (.mv (.const (.slice none 0 0)))), none⟩,
      .op ⟨(some 3), (.pure (.mv (.const (.bool false)))), none⟩])
    (.ret))
   (.skip)))
  (.seq (.ops [
    .op ⟨(some 4), (.eff (.new 27 [(.int .i64 (0)), (.int .i64 (0)), (.int .i64 (0)), (.int .i64 (0)), (.slice none 0 0)])), none⟩])
  (.seq (.ops [
    .op ⟨(some 5), (.pure (.mv (.const (.slice none 0 0)))), none⟩])
  (.seq (.seq (.ops [
     .op ⟨(some 11), (.pure (.mv (.tmp 0))), none⟩,
     .op ⟨(some 12), (.pure (.len (.tmp 11))), none⟩,
     .op ⟨(some 13), (.pure (.mv (.const (.int .i64 (0))))), none⟩])
   (.block 0 (.loop (.seq (.ops [
     .op ⟨(some 14), (.pure (.bin .lss (.tmp 13) (.tmp 12))), none⟩])
   (.seq (.cond (.tmp 14)
    (.skip)
    (.exit 0))
   (.seq (.block 1 (.seq (.ops [
      .op ⟨(some 15), (.pure (.idx 2 (.tmp 11) (.tmp 13))), none⟩,
      .op ⟨(some 16), (.load (some 2) (.tmp 15)), none⟩,
      .op ⟨(some 7), (.eff (.new 54 [(.bool false), (.int .i64 (0))])), none⟩,
      .op ⟨none, (.eff (.store 2 (.tmp 7) (.tmp 16))), none⟩])
    (.seq (.ops [
      .op ⟨(some 18), (.load (some 5) (.tmp 4)), none⟩,
      .op ⟨(some 19), (.load (some 2) (.tmp 7)), none⟩,
      .op ⟨(some 20), (.eff (.call 70 [(.tmp 18), (.tmp 19)])), none⟩,
      .op ⟨(some 17), (.pure (.mv (.tmp 20))), none⟩,
      .op ⟨(some 21), (.pure (.ext 0 (.tmp 17))), none⟩,
      .op ⟨(some 22), (.pure (.ext 1 (.tmp 17))), none⟩,
      .op ⟨none, (.eff (.store 5 (.tmp 4) (.tmp 21))), none⟩])
    (.ops [
     .op ⟨(some 23), (.pure (.mv (.tmp 5))), none⟩,
     .op ⟨(some 24), (.pure (.fieldAddr 3 (.tmp 4))), none⟩,
     .op ⟨(some 25), (.load none (.tmp 24)), none⟩,
     .op ⟨(some 26), (.eff (.row 3 1 [(.int .i64 (0))] [(0, 1, (.tmp 25))])), none⟩,
     .op ⟨(some 27), (.eff (.app 3 1 8 (.tmp 23) (.tmp 26))), none⟩,
     .op ⟨(some 5), (.pure (.mv (.tmp 27))), none⟩]))))
   (.ops [
    .op ⟨(some 28), (.pure (.bin .add (.tmp 13) (.const (.int .i64 (1))))), none⟩,
    .op ⟨(some 13), (.pure (.mv (.tmp 28))), none⟩])))))))
  (.seq (.ops [
    .op ⟨(some 29), (.pure (.mv (.tmp 5))), none⟩,
    .op ⟨(some 2), (.pure (.mv (.tmp 29))), none⟩,
    .op ⟨(some 3), (.pure (.mv (.const (.bool true)))), none⟩])
  (.ret)))))),
 [.tmp 2, .tmp 3]⟩
theorem r_impl_ShownAfter : resFun Try.prog f_impl_ShownAfter = some c_impl_ShownAfter := by kernel_rfl
end Go.Proofs.Ytgfokmjnfaopaaa
