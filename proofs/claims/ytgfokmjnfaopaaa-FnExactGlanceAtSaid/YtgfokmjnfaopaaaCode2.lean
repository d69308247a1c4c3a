/- The code of this seat's functions, resolved, written by a program of mine; each is held against the given program by the kernel. Condition: none. -/
import Derived.Test.YtgfokmjnfaopaaaProg
import Derived.Test.YtgfokmjnfaopaaaBase9
import Derived.KernelRfl
namespace Go.Proofs.Ytgfokmjnfaopaaa
open Go.Vc

/- loop.example/g00940/laws.heldIntS -/
abbrev f_laws_heldIntS : Nat := 35
def c_laws_heldIntS : MFun := ⟨21, .seq (.ops [
    .op ⟨(some 4), (.pure (.mv (.const (.int .i64 (0))))), none⟩])
  (.seq (.seq (.ops [
     .op ⟨(some 5), (.pure (.mv (.const (.int .i64 (0))))), none⟩])
   (.block 0 (.loop (.seq (.seq (.ops [
      .op ⟨(some 6), (.pure (.mv (.tmp 5))), none⟩,
      .op ⟨(some 7), (.pure (.mv (.tmp 0))), none⟩,
      .op ⟨(some 8), (.pure (.len (.tmp 7))), none⟩,
      .op ⟨(some 9), (.pure (.bin .lss (.tmp 6) (.tmp 8))), none⟩])
    (.cond (.tmp 9)
    (.skip)
    (.exit 0)))
   (.seq (.block 1 (.seq (.seq (.ops [
       .op ⟨(some 12), (.pure (.mv (.tmp 0))), none⟩,
       .op ⟨(some 13), (.pure (.mv (.tmp 5))), none⟩,
       .op ⟨(some 14), (.pure (.idx 1 (.tmp 12) (.tmp 13))), none⟩,
       .op ⟨(some 15), (.load none (.tmp 14)), none⟩,
       .op ⟨(some 16), (.pure (.mv (.tmp 1))), none⟩,
       .op ⟨(some 17), (.pure (.bin .neq (.tmp 15) (.tmp 16))), none⟩])
     (.cond (.tmp 17)
     (.seq (.ops [
        .op ⟨(some 4), (.pure (.mv (.const (.int .i64 (-1))))), none⟩])
      (.ret))
     (.skip)))
    (.ops [
     .op ⟨(some 18), (.pure (.mv (.tmp 1))), none⟩,
     .op ⟨(some 19), (.pure (.bin .add (.tmp 18) (.const (.int .i64 (1))))), none⟩,
     .op ⟨(some 1), (.pure (.mv (.tmp 19))), none⟩])))
   (.ops [
    .op ⟨(some 10), (.pure (.mv (.tmp 5))), none⟩,
    .op ⟨(some 11), (.pure (.bin .add (.tmp 10) (.const (.int .i64 (1))))), none⟩,
    .op ⟨(some 5), (.pure (.mv (.tmp 11))), none⟩]))))))
  (.seq (.ops [
    .op ⟨(some 20), (.pure (.mv (.tmp 1))), none⟩,
    .op ⟨(some 4), (.pure (.mv (.tmp 20))), none⟩])
  (.ret))),
 [.tmp 4]⟩
theorem r_laws_heldIntS : resFun Try.prog f_laws_heldIntS = some c_laws_heldIntS := by kernel_rfl

/- loop.example/g00940/spec.UsefulGlances -/
abbrev f_spec_UsefulGlances : Nat := 36
def c_spec_UsefulGlances : MFun := ⟨34, .seq (.ops [
    .op ⟨(some 2), (.pure (.mv (.const (.slice none 0 0)))), none⟩,
    .op ⟨(some 3), (.pure (.mv (.const (.bool false)))), none⟩])
  (.seq (.seq (.ops [
     .op ⟨(some 9), (.pure (.mv (.tmp 0))), none⟩,
     .op ⟨(some 10), (.eff (.call 62 [(.tmp 9)])), none⟩,
     .op ⟨(some 11), (.pure (.bnot (.tmp 10))), none⟩])
   (.cond (.tmp 11)
   (.seq (.ops [
      .op ⟨(some 2), (.pure (.mv (.const (.slice none 0 0)))), none⟩,
      .op ⟨(some 3), (.pure (.mv (.const (.bool false)))), none⟩])
    (.ret))
   (.skip)))
  (.seq (.ops [
    .op ⟨(some 4), (.pure (.mv (.const (.slice none 0 0)))), none⟩])
  (.seq (.ops [
    .op ⟨(some 12), (.eff (.call 68 [])), none⟩,
    .op ⟨(some 5), (.eff (.new 27 [(.int .i64 (0)), (.int .i64 (0)), (.int .i64 (0)), (.int .i64 (0)), (.slice none 0 0)])), none⟩,
    .op ⟨none, (.eff (.store 5 (.tmp 5) (.tmp 12))), none⟩])
  (.seq (.seq (.ops [
     .op ⟨(some 13), (.pure (.mv (.tmp 0))), none⟩,
     .op ⟨(some 14), (.pure (.len (.tmp 13))), none⟩,
     .op ⟨(some 15), (.pure (.mv (.const (.int .i64 (0))))), none⟩])
   (.block 0 (.loop (.seq (.ops [
     .op ⟨(some 16), (.pure (.bin .lss (.tmp 15) (.tmp 14))), none⟩])
   (.seq (.cond (.tmp 16)
    (.skip)
    (.exit 0))
   (.seq (.block 1 (.seq (.ops [
      .op ⟨(some 17), (.pure (.mv (.tmp 15))), none⟩,
      .op ⟨(some 18), (.pure (.idx 2 (.tmp 13) (.tmp 15))), none⟩,
      .op ⟨(some 19), (.load (some 2) (.tmp 18)), none⟩,
      .op ⟨(some 7), (.eff (.new 54 [(.bool false), (.int .i64 (0))])), none⟩,
      .op ⟨(some 6), (.pure (.mv (.tmp 17))), none⟩,
      .op ⟨none, (.eff (.store 2 (.tmp 7) (.tmp 19))), none⟩])
    (.seq (.ops [
      .op ⟨(some 20), (.load (some 5) (.tmp 5)), none⟩,
      .op ⟨(some 21), (.load (some 2) (.tmp 7)), none⟩,
      .op ⟨(some 22), (.eff (.call 69 [(.tmp 20), (.tmp 21)])), none⟩,
      .op ⟨(some 8), (.eff (.new 27 [(.int .i64 (0)), (.int .i64 (0)), (.int .i64 (0)), (.int .i64 (0)), (.slice none 0 0)])), none⟩,
      .op ⟨none, (.eff (.store 5 (.tmp 8) (.tmp 22))), none⟩])
    (.seq (.seq (.ops [
       .op ⟨(some 23), (.load (some 5) (.tmp 5)), none⟩,
       .op ⟨(some 24), (.load (some 5) (.tmp 8)), none⟩,
       .op ⟨(some 25), (.eff (.call 71 [(.tmp 23), (.tmp 24)])), none⟩,
       .op ⟨(some 26), (.pure (.bnot (.tmp 25))), none⟩])
     (.cond (.tmp 26)
     (.ops [
       .op ⟨(some 27), (.pure (.mv (.tmp 4))), none⟩,
       .op ⟨(some 28), (.pure (.mv (.tmp 6))), none⟩,
       .op ⟨(some 29), (.eff (.row 3 1 [(.int .i64 (0))] [(0, 1, (.tmp 28))])), none⟩,
       .op ⟨(some 30), (.eff (.app 3 1 8 (.tmp 27) (.tmp 29))), none⟩,
       .op ⟨(some 4), (.pure (.mv (.tmp 30))), none⟩])
     (.skip)))
    (.ops [
     .op ⟨(some 31), (.load (some 5) (.tmp 8)), none⟩,
     .op ⟨none, (.eff (.store 5 (.tmp 5) (.tmp 31))), none⟩])))))
   (.ops [
    .op ⟨(some 32), (.pure (.bin .add (.tmp 15) (.const (.int .i64 (1))))), none⟩,
    .op ⟨(some 15), (.pure (.mv (.tmp 32))), none⟩])))))))
  (.seq (.ops [
    .op ⟨(some 33), (.pure (.mv (.tmp 4))), none⟩,
    .op ⟨(some 2), (.pure (.mv (.tmp 33))), none⟩,
    .op ⟨(some 3), (.pure (.mv (.const (.bool true)))), none⟩])
  (.ret)))))),
 [.tmp 2, .tmp 3]⟩
theorem r_spec_UsefulGlances : resFun Try.prog f_spec_UsefulGlances = some c_spec_UsefulGlances := by kernel_rfl

/- loop.example/g00940/impl.UsefulGlances -/
abbrev f_impl_UsefulGlances : Nat := 37
def c_impl_UsefulGlances : MFun := ⟨68, .seq (.ops [
    .op ⟨(some 2), (.pure (.mv (.const (.slice none 0 0)))), none⟩,
    .op ⟨(some 3), (.pure (.mv (.const (.bool false)))), none⟩])
  (.seq (.seq (.ops [
     .op ⟨(some 10), (.pure (.mv (.tmp 0))), none⟩,
     .op ⟨(some 11), (.eff (.call 65 [(.tmp 10)])), none⟩,
     .op ⟨(some 12), (.pure (.bnot (.tmp 11))), none⟩])
   (.cond (.tmp 12)
   (.seq (.ops [
      .op ⟨(some 2), (.pure (.mv (.const (.slice none 0 0)))), none⟩,
      .op ⟨(some 3), (.pure (.mv (.const (.bool false)))), none⟩])
    (.ret))
   (.skip)))
  (.seq (.ops [
    .op ⟨(some 4), (.eff (.new 27 [(.int .i64 (0)), (.int .i64 (0)), (.int .i64 (0)), (.int .i64 (0)), (.slice none 0 0)])), none⟩])
  (.seq (.ops [
    .op ⟨(some 5), (.pure (.mv (.const (.slice none 0 0)))), none⟩])
  (.seq (.seq (.ops [
     .op ⟨(some 13), (.pure (.mv (.tmp 0))), none⟩,
     .op ⟨(some 14), (.pure (.len (.tmp 13))), none⟩,
     .op ⟨(some 15), (.pure (.mv (.const (.int .i64 (0))))), none⟩])
   (.block 0 (.loop (.seq (.ops [
     .op ⟨(some 16), (.pure (.bin .lss (.tmp 15) (.tmp 14))), none⟩])
   (.seq (.cond (.tmp 16)
    (.skip)
    (.exit 0))
   (.seq (.block 1 (.seq (.ops [
      .op ⟨(some 17), (.pure (.mv (.tmp 15))), none⟩,
      .op ⟨(some 18), (.pure (.idx 2 (.tmp 13) (.tmp 15))), none⟩,
      .op ⟨(some 19), (.load (some 2) (.tmp 18)), none⟩,
      .op ⟨(some 7), (.eff (.new 54 [(.bool false), (.int .i64 (0))])), none⟩,
      .op ⟨(some 6), (.pure (.mv (.tmp 17))), none⟩,
      .op ⟨none, (.eff (.store 2 (.tmp 7) (.tmp 19))), none⟩])
    (.seq (.ops [
      .op ⟨(some 21), (.load (some 5) (.tmp 4)), none⟩,
      .op ⟨(some 22), (.load (some 2) (.tmp 7)), none⟩,
      .op ⟨(some 23), (.eff (.call 70 [(.tmp 21), (.tmp 22)])), none⟩,
      .op ⟨(some 20), (.pure (.mv (.tmp 23))), none⟩,
      .op ⟨(some 24), (.pure (.ext 0 (.tmp 20))), none⟩,
      .op ⟨(some 25), (.pure (.ext 1 (.tmp 20))), none⟩,
      .op ⟨(some 8), (.eff (.new 27 [(.int .i64 (0)), (.int .i64 (0)), (.int .i64 (0)), (.int .i64 (0)), (.slice none 0 0)])), none⟩,
      .op ⟨none, (.eff (.store 5 (.tmp 8) (.tmp 24))), none⟩,
      .op ⟨(some 9), (.pure (.mv (.tmp 25))), none⟩])
    (.seq (.seq (.ops [
       .op ⟨(some 26), (.pure (.fieldAddr 0 (.tmp 8))), none⟩,
       .op ⟨(some 27), (.load none (.tmp 26)), none⟩,
       .op ⟨(some 28), (.pure (.fieldAddr 0 (.tmp 4))), none⟩,
       .op ⟨(some 29), (.load none (.tmp 28)), none⟩,
       .op ⟨(some 30), (.pure (.bin .neq (.tmp 27) (.tmp 29))), none⟩,
       .op ⟨(some 31), (.pure (.mv (.tmp 30))), none⟩,
       .split 31,
       .op ⟨(some 32), (.pure (.fieldAddr 1 (.tmp 8))), (some (31, false))⟩,
       .op ⟨(some 33), (.load none (.tmp 32)), (some (31, false))⟩,
       .op ⟨(some 34), (.pure (.fieldAddr 1 (.tmp 4))), (some (31, false))⟩,
       .op ⟨(some 35), (.load none (.tmp 34)), (some (31, false))⟩,
       .op ⟨(some 36), (.pure (.bin .neq (.tmp 33) (.tmp 35))), (some (31, false))⟩,
       .op ⟨(some 37), (.pure (.pick (.tmp 31) (.const (.bool true)) (.tmp 36))), none⟩,
       .op ⟨(some 38), (.pure (.mv (.tmp 37))), none⟩,
       .split 38,
       .op ⟨(some 39), (.pure (.fieldAddr 2 (.tmp 8))), (some (38, false))⟩,
       .op ⟨(some 40), (.load none (.tmp 39)), (some (38, false))⟩,
       .op ⟨(some 41), (.pure (.fieldAddr 2 (.tmp 4))), (some (38, false))⟩,
       .op ⟨(some 42), (.load none (.tmp 41)), (some (38, false))⟩,
       .op ⟨(some 43), (.pure (.bin .neq (.tmp 40) (.tmp 42))), (some (38, false))⟩,
       .op ⟨(some 44), (.pure (.pick (.tmp 38) (.const (.bool true)) (.tmp 43))), none⟩,
       .op ⟨(some 45), (.pure (.mv (.tmp 44))), none⟩,
       .split 45,
       .op ⟨(some 46), (.pure (.fieldAddr 3 (.tmp 8))), (some (45, false))⟩,
       .op ⟨(some 47), (.load none (.tmp 46)), (some (45, false))⟩,
       .op ⟨(some 48), (.pure (.fieldAddr 3 (.tmp 4))), (some (45, false))⟩,
       .op ⟨(some 49), (.load none (.tmp 48)), (some (45, false))⟩,
       .op ⟨(some 50), (.pure (.bin .neq (.tmp 47) (.tmp 49))), (some (45, false))⟩,
       .op ⟨(some 51), (.pure (.pick (.tmp 45) (.const (.bool true)) (.tmp 50))), none⟩,
       .op ⟨(some 52), (.pure (.mv (.tmp 51))), none⟩,
       .split 52,
       .op ⟨(some 53), (.pure (.fieldAddr 4 (.tmp 8))), (some (52, false))⟩,
       .op ⟨(some 54), (.load none (.tmp 53)), (some (52, false))⟩,
       .op ⟨(some 55), (.pure (.len (.tmp 54))), (some (52, false))⟩,
       .op ⟨(some 56), (.pure (.fieldAddr 4 (.tmp 4))), (some (52, false))⟩,
       .op ⟨(some 57), (.load none (.tmp 56)), (some (52, false))⟩,
       .op ⟨(some 58), (.pure (.len (.tmp 57))), (some (52, false))⟩,
       .op ⟨(some 59), (.pure (.bin .neq (.tmp 55) (.tmp 58))), (some (52, false))⟩,
       .op ⟨(some 60), (.pure (.pick (.tmp 52) (.const (.bool true)) (.tmp 59))), none⟩])
     (.cond (.tmp 60)
     (.ops [
       .op ⟨(some 61), (.pure (.mv (.tmp 5))), none⟩,
       .op ⟨(some 62), (.pure (.mv (.tmp 6))), none⟩,
       .op ⟨(some 63), (.eff (.row 3 1 [(.int .i64 (0))] [(0, 1, (.tmp 62))])), none⟩,
       .op ⟨(some 64), (.eff (.app 3 1 8 (.tmp 61) (.tmp 63))), none⟩,
       .op ⟨(some 5), (.pure (.mv (.tmp 64))), none⟩])
     (.skip)))
    (.ops [
     .op ⟨(some 65), (.load (some 5) (.tmp 8)), none⟩,
     .op ⟨none, (.eff (.store 5 (.tmp 4) (.tmp 65))), none⟩])))))
   (.ops [
    .op ⟨(some 66), (.pure (.bin .add (.tmp 15) (.const (.int .i64 (1))))), none⟩,
    .op ⟨(some 15), (.pure (.mv (.tmp 66))), none⟩])))))))
  (.seq (.ops [
    .op ⟨(some 67), (.pure (.mv (.tmp 5))), none⟩,
    .op ⟨(some 2), (.pure (.mv (.tmp 67))), none⟩,
    .op ⟨(some 3), (.pure (.mv (.const (.bool true)))), none⟩])
  (.ret)))))),
 [.tmp 2, .tmp 3]⟩
theorem r_impl_UsefulGlances : resFun Try.prog f_impl_UsefulGlances = some c_impl_UsefulGlances := by kernel_rfl

/- loop.example/g00940/spec.GlanceAt -/
abbrev f_spec_GlanceAt : Nat := 38
def c_spec_GlanceAt : MFun := ⟨12, .seq (.ops [
    .op ⟨(some 2), (.eff (.box 27 (.tmp 0))), none⟩,
    .op ⟨(some 3), (.eff (.box 54 (.tmp 1))), none⟩,
    .op ⟨(some 4), (.eff (.new 27 [(.int .i64 (0)), (.int .i64 (0)), (.int .i64 (0)), (.int .i64 (0)), (.slice none 0 0)])), none⟩,
    .op ⟨(some 5), (.pure (.mv (.const (.bool false)))), none⟩])
  (.seq (.ops [
    .op ⟨(some 6), (.load (some 5) (.tmp 2)), none⟩,
    .op ⟨(some 7), (.load (some 2) (.tmp 3)), none⟩,
    .op ⟨(some 8), (.eff (.row 54 1 [(.bool false), (.int .i64 (0))] [(0, 2, (.tmp 7))])), none⟩,
    .op ⟨(some 9), (.eff (.call 45 [(.tmp 6), (.tmp 8)])), none⟩,
    .op ⟨(some 10), (.pure (.ext 0 (.tmp 9))), none⟩,
    .op ⟨(some 11), (.pure (.ext 1 (.tmp 9))), none⟩,
    .op ⟨none, (.eff (.store 5 (.tmp 4) (.tmp 10))), none⟩,
    .op ⟨(some 5), (.pure (.mv (.tmp 11))), none⟩])
  (.ret)),
 [.cell 4 (some 5), .tmp 5]⟩
theorem r_spec_GlanceAt : resFun Try.prog f_spec_GlanceAt = some c_spec_GlanceAt := by kernel_rfl

/- loop.example/g00940/laws.toGlance -/
abbrev f_laws_toGlance : Nat := 39
def c_laws_toGlance : MFun := ⟨11, .seq (.ops [
    .op ⟨(some 1), (.eff (.box 51 (.tmp 0))), none⟩,
    .op ⟨(some 2), (.eff (.new 54 [(.bool false), (.int .i64 (0))])), none⟩])
  (.seq (.ops [
    .op ⟨(some 3), (.eff (.new 54 [(.bool false), (.int .i64 (0))])), none⟩])
  (.seq (.ops [
    .op ⟨(some 4), (.pure (.fieldAddr 0 (.tmp 1))), none⟩,
    .op ⟨(some 5), (.load none (.tmp 4)), none⟩,
    .op ⟨(some 6), (.pure (.fieldAddr 0 (.tmp 3))), none⟩,
    .op ⟨none, (.eff (.store 1 (.tmp 6) (.tmp 5))), none⟩])
  (.seq (.ops [
    .op ⟨(some 7), (.pure (.fieldAddr 1 (.tmp 1))), none⟩,
    .op ⟨(some 8), (.load none (.tmp 7)), none⟩,
    .op ⟨(some 9), (.pure (.fieldAddr 1 (.tmp 3))), none⟩,
    .op ⟨none, (.eff (.store 1 (.tmp 9) (.tmp 8))), none⟩])
  (.seq (.ops [
    .op ⟨(some 10), (.load (some 2) (.tmp 3)), none⟩,
    .op ⟨none, (.eff (.store 2 (.tmp 2) (.tmp 10))), none⟩])
  (.ret))))),
 [.cell 2 (some 2)]⟩
theorem r_laws_toGlance : resFun Try.prog f_laws_toGlance = some c_laws_toGlance := by kernel_rfl

/- loop.example/g00940/impl.GlanceAt -/
abbrev f_impl_GlanceAt : Nat := 40
def c_impl_GlanceAt : MFun := ⟨31, .seq (.ops [
    .op ⟨(some 2), (.eff (.box 27 (.tmp 0))), none⟩,
    .op ⟨(some 3), (.eff (.box 54 (.tmp 1))), none⟩,
    .op ⟨(some 4), (.eff (.new 27 [(.int .i64 (0)), (.int .i64 (0)), (.int .i64 (0)), (.int .i64 (0)), (.slice none 0 0)])), none⟩,
    .op ⟨(some 5), (.pure (.mv (.const (.bool false)))), none⟩])
  (.seq (.seq (.ops [
     .op ⟨(some 8), (.load (some 5) (.tmp 2)), none⟩,
     .op ⟨(some 9), (.eff (.call 17 [(.tmp 8)])), none⟩,
     .op ⟨(some 10), (.pure (.bnot (.tmp 9))), none⟩,
     .op ⟨(some 11), (.pure (.mv (.tmp 10))), none⟩,
     .split 11,
     .op ⟨(some 12), (.pure (.fieldAddr 1 (.tmp 3))), (some (11, false))⟩,
     .op ⟨(some 13), (.load none (.tmp 12)), (some (11, false))⟩,
     .op ⟨(some 14), (.eff (.call 66 [(.tmp 13)])), (some (11, false))⟩,
     .op ⟨(some 15), (.pure (.bnot (.tmp 14))), (some (11, false))⟩,
     .op ⟨(some 16), (.pure (.pick (.tmp 11) (.const (.bool true)) (.tmp 15))), none⟩])
   (.cond (.tmp 16)
   (.seq (.ops [
      .op ⟨(some 17), (.pure (.build [(.int .i64 (0)), (.int .i64 (0)), (.int .i64 (0)), (.int .i64 (0)), (.slice none 0 0)] [])), none⟩,
      .op ⟨none, (.eff (.store 5 (.tmp 4) (.tmp 17))), none⟩,
      .op ⟨(some 5), (.pure (.mv (.const (.bool false)))), none⟩])
    (.ret))
   (.skip)))
  (.seq (.draw true
   (.take ⟨(some 19), (.load (some 5) (.tmp 2)), none⟩
   (.take ⟨(some 21), (.load (some 2) (.tmp 3)), none⟩
   (.fork
   (.only false ⟨(some 20), (.eff (.call 72 [(.tmp 19)])), none⟩
    (.fork
    (.only false ⟨(some 22), (.eff (.call 70 [(.tmp 20), (.tmp 21)])), none⟩
     (.take ⟨(some 18), (.pure (.mv (.tmp 22))), none⟩
     (.take ⟨(some 23), (.pure (.ext 0 (.tmp 18))), none⟩
     (.take ⟨(some 24), (.pure (.ext 1 (.tmp 18))), none⟩
     (.only false ⟨(some 6), (.eff (.new 27 [(.int .i64 (0)), (.int .i64 (0)), (.int .i64 (0)), (.int .i64 (0)), (.slice none 0 0)])), none⟩
     (.only true ⟨none, (.eff (.store 5 (.tmp 6) (.tmp 23))), none⟩
     (.take ⟨(some 7), (.pure (.mv (.tmp 24))), none⟩
     (.done))))))))
    (.only false ⟨(some 6), (.eff (.new 27 [(.int .i64 (0)), (.int .i64 (0)), (.int .i64 (0)), (.int .i64 (0)), (.slice none 0 0)])), none⟩
     (.only false ⟨(some 22), (.eff (.call 70 [(.tmp 20), (.tmp 21)])), none⟩
     (.take ⟨(some 18), (.pure (.mv (.tmp 22))), none⟩
     (.take ⟨(some 23), (.pure (.ext 0 (.tmp 18))), none⟩
     (.take ⟨(some 24), (.pure (.ext 1 (.tmp 18))), none⟩
     (.only true ⟨none, (.eff (.store 5 (.tmp 6) (.tmp 23))), none⟩
     (.take ⟨(some 7), (.pure (.mv (.tmp 24))), none⟩
     (.done))))))))))
   (.only false ⟨(some 6), (.eff (.new 27 [(.int .i64 (0)), (.int .i64 (0)), (.int .i64 (0)), (.int .i64 (0)), (.slice none 0 0)])), none⟩
    (.only false ⟨(some 20), (.eff (.call 72 [(.tmp 19)])), none⟩
    (.only false ⟨(some 22), (.eff (.call 70 [(.tmp 20), (.tmp 21)])), none⟩
    (.take ⟨(some 18), (.pure (.mv (.tmp 22))), none⟩
    (.take ⟨(some 23), (.pure (.ext 0 (.tmp 18))), none⟩
    (.take ⟨(some 24), (.pure (.ext 1 (.tmp 18))), none⟩
    (.only true ⟨none, (.eff (.store 5 (.tmp 6) (.tmp 23))), none⟩
    (.take ⟨(some 7), (.pure (.mv (.tmp 24))), none⟩
    (.done)))))))))))))
  (.seq (.seq (.ops [
     .op ⟨(some 25), (.pure (.fieldAddr 4 (.tmp 6))), none⟩,
     .op ⟨(some 26), (.load none (.tmp 25)), none⟩,
     .op ⟨(some 27), (.pure (.len (.tmp 26))), none⟩,
     .op ⟨(some 28), (.pure (.bin .gtr (.tmp 27) (.const (.int .i64 (80))))), none⟩])
   (.cond (.tmp 28)
   (.seq (.ops [
      .op ⟨(some 29), (.pure (.build [(.int .i64 (0)), (.int .i64 (0)), (.int .i64 (0)), (.int .i64 (0)), (.slice none 0 0)] [])), none⟩,
      .op ⟨none, (.eff (.store 5 (.tmp 4) (.tmp 29))), none⟩,
      .op ⟨(some 5), (.pure (.mv (.const (.bool false)))), none⟩])
    (.ret))
   (.skip)))
  (.seq (.ops [
    .op ⟨(some 30), (.load (some 5) (.tmp 6)), none⟩,
    .op ⟨none, (.eff (.store 5 (.tmp 4) (.tmp 30))), none⟩,
    .op ⟨(some 5), (.pure (.mv (.const (.bool true)))), none⟩])
  (.ret))))),
 [.cell 4 (some 5), .tmp 5]⟩
theorem r_impl_GlanceAt : resFun Try.prog f_impl_GlanceAt = some c_impl_GlanceAt := by kernel_rfl

/- loop.example/g00940/laws.markRepeater -/
abbrev f_laws_markRepeater : Nat := 41
def c_laws_markRepeater : MFun := ⟨10, .seq (.ops [
    .op ⟨(some 2), (.eff (.box 27 (.tmp 0))), none⟩,
    .op ⟨(some 4), (.pure (.mv (.const (.int .i64 (0))))), none⟩])
  (.seq (.ops [
    .op ⟨(some 5), (.pure (.fieldAddr 4 (.tmp 2))), none⟩,
    .op ⟨(some 6), (.load none (.tmp 5)), none⟩,
    .op ⟨(some 7), (.pure (.mv (.tmp 1))), none⟩,
    .op ⟨(some 8), (.eff (.call 24 [(.tmp 6), (.tmp 7)])), none⟩,
    .op ⟨(some 1), (.pure (.mv (.tmp 8))), none⟩])
  (.seq (.ops [
    .op ⟨(some 9), (.pure (.mv (.tmp 1))), none⟩,
    .op ⟨(some 4), (.pure (.mv (.tmp 9))), none⟩])
  (.ret))),
 [.tmp 4]⟩
theorem r_laws_markRepeater : resFun Try.prog f_laws_markRepeater = some c_laws_markRepeater := by kernel_rfl

/- loop.example/g00940/laws.heldRepeater -/
abbrev f_laws_heldRepeater : Nat := 42
def c_laws_heldRepeater : MFun := ⟨12, .seq (.ops [
    .op ⟨(some 2), (.eff (.box 27 (.tmp 0))), none⟩,
    .op ⟨(some 4), (.pure (.mv (.const (.int .i64 (0))))), none⟩])
  (.seq (.ops [
    .op ⟨(some 5), (.pure (.fieldAddr 4 (.tmp 2))), none⟩,
    .op ⟨(some 6), (.load none (.tmp 5)), none⟩,
    .op ⟨(some 7), (.pure (.mv (.tmp 1))), none⟩,
    .op ⟨(some 8), (.eff (.call 35 [(.tmp 6), (.tmp 7)])), none⟩,
    .op ⟨(some 1), (.pure (.mv (.tmp 8))), none⟩])
  (.seq (.seq (.ops [
     .op ⟨(some 9), (.pure (.mv (.tmp 1))), none⟩,
     .op ⟨(some 10), (.pure (.bin .lss (.tmp 9) (.const (.int .i64 (0))))), none⟩])
   (.cond (.tmp 10)
   (.seq (.ops [
      .op ⟨(some 4), (.pure (.mv (.const (.int .i64 (-1))))), none⟩])
    (.ret))
   (.skip)))
  (.seq (.ops [
    .op ⟨(some 11), (.pure (.mv (.tmp 1))), none⟩,
    .op ⟨(some 4), (.pure (.mv (.tmp 11))), none⟩])
  (.ret)))),
 [.tmp 4]⟩
theorem r_laws_heldRepeater : resFun Try.prog f_laws_heldRepeater = some c_laws_heldRepeater := by kernel_rfl

/- loop.example/g00940/spec.PassedBy -/
abbrev f_spec_PassedBy : Nat := 43
def c_spec_PassedBy : MFun := ⟨19, .seq (.ops [
    .op ⟨(some 2), (.pure (.mv (.const (.slice none 0 0)))), none⟩,
    .op ⟨(some 3), (.pure (.mv (.const (.int .i64 (0))))), none⟩,
    .op ⟨(some 4), (.pure (.mv (.const (.bool false)))), none⟩])
  (.seq (.ops [
    .op ⟨(some 8), (.eff (.call 68 [])), none⟩,
    .op ⟨(some 9), (.pure (.mv (.tmp 0))), none⟩,
    .op ⟨(some 10), (.eff (.call 45 [(.tmp 8), (.tmp 9)])), none⟩,
    .op ⟨(some 7), (.pure (.mv (.tmp 10))), none⟩,
    .op ⟨(some 11), (.pure (.ext 0 (.tmp 7))), none⟩,
    .op ⟨(some 12), (.pure (.ext 1 (.tmp 7))), none⟩,
    .op ⟨(some 5), (.eff (.new 27 [(.int .i64 (0)), (.int .i64 (0)), (.int .i64 (0)), (.int .i64 (0)), (.slice none 0 0)])), none⟩,
    .op ⟨none, (.eff (.store 5 (.tmp 5) (.tmp 11))), none⟩,
    .op ⟨(some 6), (.pure (.mv (.tmp 12))), none⟩])
  (.seq (.seq (.ops [
     .op ⟨(some 13), (.pure (.mv (.tmp 6))), none⟩,
     .op ⟨(some 14), (.pure (.bnot (.tmp 13))), none⟩])
   (.cond (.tmp 14)
   (.seq (.ops [
      .op ⟨(some 2), (.pure (.mv (.const (.slice none 0 0)))), none⟩,
      .op ⟨(some 3), (.pure (.mv (.const (.int .i64 (0))))), none⟩,
      .op ⟨(some 4), (.pure (.mv (.const (.bool false)))), none⟩])
    (.ret))
   (.skip)))
  (.seq (.ops [
    .op ⟨(some 15), (.pure (.fieldAddr 4 (.tmp 5))), none⟩,
    .op ⟨(some 17), (.pure (.fieldAddr 0 (.tmp 5))), none⟩,
    .op ⟨(some 16), (.load none (.tmp 15)), none⟩,
    .op ⟨(some 2), (.pure (.mv (.tmp 16))), none⟩,
    .op ⟨(some 18), (.load none (.tmp 17)), none⟩,
    .op ⟨(some 3), (.pure (.mv (.tmp 18))), none⟩,
    .op ⟨(some 4), (.pure (.mv (.const (.bool true)))), none⟩])
  (.ret)))),
 [.tmp 2, .tmp 3, .tmp 4]⟩
theorem r_spec_PassedBy : resFun Try.prog f_spec_PassedBy = some c_spec_PassedBy := by kernel_rfl

/- loop.example/g00940/impl.PassedBy -/
abbrev f_impl_PassedBy : Nat := 44
def c_impl_PassedBy : MFun := ⟨18, .seq (.ops [
    .op ⟨(some 2), (.pure (.mv (.const (.slice none 0 0)))), none⟩,
    .op ⟨(some 3), (.pure (.mv (.const (.int .i64 (0))))), none⟩,
    .op ⟨(some 4), (.pure (.mv (.const (.bool false)))), none⟩])
  (.seq (.ops [
    .op ⟨(some 8), (.pure (.build [(.int .i64 (0)), (.int .i64 (0)), (.int .i64 (0)), (.int .i64 (0)), (.slice none 0 0)] [])), none⟩,
    .op ⟨(some 9), (.pure (.mv (.tmp 0))), none⟩,
    .op ⟨(some 10), (.eff (.call 46 [(.tmp 8), (.tmp 9)])), none⟩,
    .op ⟨(some 7), (.pure (.mv (.tmp 10))), none⟩,
    .op ⟨(some 11), (.pure (.ext 0 (.tmp 7))), none⟩,
    .op ⟨(some 12), (.pure (.ext 1 (.tmp 7))), none⟩,
    .op ⟨(some 5), (.eff (.new 27 [(.int .i64 (0)), (.int .i64 (0)), (.int .i64 (0)), (.int .i64 (0)), (.slice none 0 0)])), none⟩,
    .op ⟨none, (.eff (.store 5 (.tmp 5) (.tmp 11))), none⟩,
    .op ⟨(some 6), (.pure (.mv (.tmp 12))), none⟩])
  (.seq (.ops [
    .op ⟨(some 13), (.pure (.fieldAddr 4 (.tmp 5))), none⟩,
    .op ⟨(some 15), (.pure (.fieldAddr 0 (.tmp 5))), none⟩,
    .op ⟨(some 17), (.pure (.mv (.tmp 6))), none⟩,
    .op ⟨(some 14), (.load none (.tmp 13)), none⟩,
    .op ⟨(some 2), (.pure (.mv (.tmp 14))), none⟩,
    .op ⟨(some 16), (.load none (.tmp 15)), none⟩,
    .op ⟨(some 3), (.pure (.mv (.tmp 16))), none⟩,
    .op ⟨(some 4), (.pure (.mv (.tmp 17))), none⟩])
  (.ret))),
 [.tmp 2, .tmp 3, .tmp 4]⟩
theorem r_impl_PassedBy : resFun Try.prog f_impl_PassedBy = some c_impl_PassedBy := by kernel_rfl

/- loop.example/g00940/spec.RunGlances -/
abbrev f_spec_RunGlances : Nat := 45
def c_spec_RunGlances : MFun := ⟨39, .seq (.ops [
    .op ⟨(some 2), (.eff (.box 27 (.tmp 0))), none⟩,
    .op ⟨(some 4), (.eff (.new 27 [(.int .i64 (0)), (.int .i64 (0)), (.int .i64 (0)), (.int .i64 (0)), (.slice none 0 0)])), none⟩,
    .op ⟨(some 5), (.pure (.mv (.const (.bool false)))), none⟩])
  (.seq (.seq (.ops [
     .op ⟨(some 9), (.load (some 5) (.tmp 2)), none⟩,
     .op ⟨(some 10), (.eff (.call 57 [(.tmp 9)])), none⟩,
     .op ⟨(some 11), (.pure (.bnot (.tmp 10))), none⟩,
     .op ⟨(some 12), (.pure (.mv (.tmp 11))), none⟩,
     .split 12,
     .op ⟨(some 13), (.pure (.mv (.tmp 1))), (some (12, false))⟩,
     .op ⟨(some 14), (.eff (.call 62 [(.tmp 13)])), (some (12, false))⟩,
     .op ⟨(some 15), (.pure (.bnot (.tmp 14))), (some (12, false))⟩,
     .op ⟨(some 16), (.pure (.pick (.tmp 12) (.const (.bool true)) (.tmp 15))), none⟩])
   (.cond (.tmp 16)
   (.seq (.ops [
      .op ⟨(some 17), (.pure (.build [(.int .i64 (0)), (.int .i64 (0)), (.int .i64 (0)), (.int .i64 (0)), (.slice none 0 0)] [])), none⟩,
      .op ⟨none, (.eff (.store 5 (.tmp 4) (.tmp 17))), none⟩,
      .op ⟨(some 5), (.pure (.mv (.const (.bool false)))), none⟩])
    (.ret))
   (.skip)))
  (.seq (.ops [
    .op ⟨(some 18), (.load (some 5) (.tmp 2)), none⟩,
    .op ⟨(some 6), (.eff (.new 27 [(.int .i64 (0)), (.int .i64 (0)), (.int .i64 (0)), (.int .i64 (0)), (.slice none 0 0)])), none⟩,
    .op ⟨none, (.eff (.store 5 (.tmp 6) (.tmp 18))), none⟩])
  (.seq (.ops [
    .op ⟨(some 19), (.pure (.fieldAddr 4 (.tmp 2))), none⟩,
    .op ⟨(some 20), (.load none (.tmp 19)), none⟩,
    .op ⟨(some 21), (.eff (.call 73 [(.tmp 20)])), none⟩,
    .op ⟨(some 22), (.pure (.fieldAddr 4 (.tmp 6))), none⟩,
    .op ⟨none, (.eff (.store 1 (.tmp 22) (.tmp 21))), none⟩])
  (.seq (.seq (.ops [
     .op ⟨(some 23), (.pure (.mv (.tmp 1))), none⟩,
     .op ⟨(some 24), (.pure (.len (.tmp 23))), none⟩,
     .op ⟨(some 25), (.pure (.mv (.const (.int .i64 (0))))), none⟩])
   (.block 0 (.loop (.seq (.ops [
     .op ⟨(some 26), (.pure (.bin .lss (.tmp 25) (.tmp 24))), none⟩])
   (.seq (.cond (.tmp 26)
    (.skip)
    (.exit 0))
   (.seq (.block 1 (.seq (.ops [
      .op ⟨(some 27), (.pure (.idx 2 (.tmp 23) (.tmp 25))), none⟩,
      .op ⟨(some 28), (.load (some 2) (.tmp 27)), none⟩,
      .op ⟨(some 8), (.eff (.new 54 [(.bool false), (.int .i64 (0))])), none⟩,
      .op ⟨none, (.eff (.store 2 (.tmp 8) (.tmp 28))), none⟩])
    (.seq (.ops [
      .op ⟨(some 29), (.load (some 5) (.tmp 6)), none⟩,
      .op ⟨(some 30), (.load (some 2) (.tmp 8)), none⟩,
      .op ⟨(some 31), (.eff (.call 69 [(.tmp 29), (.tmp 30)])), none⟩,
      .op ⟨none, (.eff (.store 5 (.tmp 6) (.tmp 31))), none⟩])
    (.seq (.ops [
      .op ⟨(some 32), (.pure (.fieldAddr 4 (.tmp 6))), none⟩,
      .op ⟨(some 33), (.load none (.tmp 32)), none⟩,
      .op ⟨(some 34), (.pure (.len (.tmp 33))), none⟩,
      .op ⟨(some 35), (.pure (.bin .gtr (.tmp 34) (.const (.int .i64 (80))))), none⟩])
    (.cond (.tmp 35)
    (.seq (.ops [
       .op ⟨(some 36), (.pure (.build [(.int .i64 (0)), (.int .i64 (0)), (.int .i64 (0)), (.int .i64 (0)), (.slice none 0 0)] [])), none⟩,
       .op ⟨none, (.eff (.store 5 (.tmp 4) (.tmp 36))), none⟩,
       .op ⟨(some 5), (.pure (.mv (.const (.bool false)))), none⟩])
     (.ret))
    (.skip))))))
   (.ops [
    .op ⟨(some 37), (.pure (.bin .add (.tmp 25) (.const (.int .i64 (1))))), none⟩,
    .op ⟨(some 25), (.pure (.mv (.tmp 37))), none⟩])))))))
  (.seq (.ops [
    .op ⟨(some 38), (.load (some 5) (.tmp 6)), none⟩,
    .op ⟨none, (.eff (.store 5 (.tmp 4) (.tmp 38))), none⟩,
    .op ⟨(some 5), (.pure (.mv (.const (.bool true)))), none⟩])
  (.ret)))))),
 [.cell 4 (some 5), .tmp 5]⟩
theorem r_spec_RunGlances : resFun Try.prog f_spec_RunGlances = some c_spec_RunGlances := by kernel_rfl

/- loop.example/g00940/impl.RunGlances -/
abbrev f_impl_RunGlances : Nat := 46
def c_impl_RunGlances : MFun := ⟨38, .seq (.ops [
    .op ⟨(some 2), (.eff (.box 27 (.tmp 0))), none⟩,
    .op ⟨(some 4), (.eff (.new 27 [(.int .i64 (0)), (.int .i64 (0)), (.int .i64 (0)), (.int .i64 (0)), (.slice none 0 0)])), none⟩,
    .op ⟨(some 5), (.pure (.mv (.const (.bool false)))), none⟩])
  (.seq (.seq (.ops [
     .op ⟨(some 8), (.load (some 5) (.tmp 2)), none⟩,
     .op ⟨(some 9), (.eff (.call 17 [(.tmp 8)])), none⟩,
     .op ⟨(some 10), (.pure (.bnot (.tmp 9))), none⟩,
     .op ⟨(some 11), (.pure (.mv (.tmp 10))), none⟩,
     .split 11,
     .op ⟨(some 12), (.pure (.mv (.tmp 1))), (some (11, false))⟩,
     .op ⟨(some 13), (.eff (.call 65 [(.tmp 12)])), (some (11, false))⟩,
     .op ⟨(some 14), (.pure (.bnot (.tmp 13))), (some (11, false))⟩,
     .op ⟨(some 15), (.pure (.pick (.tmp 11) (.const (.bool true)) (.tmp 14))), none⟩])
   (.cond (.tmp 15)
   (.seq (.ops [
      .op ⟨(some 16), (.pure (.build [(.int .i64 (0)), (.int .i64 (0)), (.int .i64 (0)), (.int .i64 (0)), (.slice none 0 0)] [])), none⟩,
      .op ⟨none, (.eff (.store 5 (.tmp 4) (.tmp 16))), none⟩,
      .op ⟨(some 5), (.pure (.mv (.const (.bool false)))), none⟩])
    (.ret))
   (.skip)))
  (.seq (.ops [
    .op ⟨(some 17), (.load (some 5) (.tmp 2)), none⟩,
    .op ⟨(some 18), (.eff (.call 72 [(.tmp 17)])), none⟩,
    .op ⟨none, (.eff (.store 5 (.tmp 2) (.tmp 18))), none⟩])
  (.seq (.seq (.ops [
     .op ⟨(some 19), (.pure (.mv (.tmp 1))), none⟩,
     .op ⟨(some 20), (.pure (.len (.tmp 19))), none⟩,
     .op ⟨(some 21), (.pure (.mv (.const (.int .i64 (0))))), none⟩])
   (.block 0 (.loop (.seq (.ops [
     .op ⟨(some 22), (.pure (.bin .lss (.tmp 21) (.tmp 20))), none⟩])
   (.seq (.cond (.tmp 22)
    (.skip)
    (.exit 0))
   (.seq (.block 1 (.seq (.ops [
      .op ⟨(some 23), (.pure (.idx 2 (.tmp 19) (.tmp 21))), none⟩,
      .op ⟨(some 24), (.load (some 2) (.tmp 23)), none⟩,
      .op ⟨(some 7), (.eff (.new 54 [(.bool false), (.int .i64 (0))])), none⟩,
      .op ⟨none, (.eff (.store 2 (.tmp 7) (.tmp 24))), none⟩])
    (.seq (.ops [
      .op ⟨(some 26), (.load (some 5) (.tmp 2)), none⟩,
      .op ⟨(some 27), (.load (some 2) (.tmp 7)), none⟩,
      .op ⟨(some 28), (.eff (.call 70 [(.tmp 26), (.tmp 27)])), none⟩,
      .op ⟨(some 25), (.pure (.mv (.tmp 28))), none⟩,
      .op ⟨(some 29), (.pure (.ext 0 (.tmp 25))), none⟩,
      .op ⟨(some 30), (.pure (.ext 1 (.tmp 25))), none⟩,
      .op ⟨none, (.eff (.store 5 (.tmp 2) (.tmp 29))), none⟩])
    (.seq (.ops [
      .op ⟨(some 31), (.pure (.fieldAddr 4 (.tmp 2))), none⟩,
      .op ⟨(some 32), (.load none (.tmp 31)), none⟩,
      .op ⟨(some 33), (.pure (.len (.tmp 32))), none⟩,
      .op ⟨(some 34), (.pure (.bin .gtr (.tmp 33) (.const (.int .i64 (80))))), none⟩])
    (.cond (.tmp 34)
    (.seq (.ops [
       .op ⟨(some 35), (.pure (.build [(.int .i64 (0)), (.int .i64 (0)), (.int .i64 (0)), (.int .i64 (0)), (.slice none 0 0)] [])), none⟩,
       .op ⟨none, (.eff (.store 5 (.tmp 4) (.tmp 35))), none⟩,
       .op ⟨(some 5), (.pure (.mv (.const (.bool false)))), none⟩])
     (.ret))
    (.skip))))))
   (.ops [
    .op ⟨(some 36), (.pure (.bin .add (.tmp 21) (.const (.int .i64 (1))))), none⟩,
    .op ⟨(some 21), (.pure (.mv (.tmp 36))), none⟩])))))))
  (.seq (.ops [
    .op ⟨(some 37), (.load (some 5) (.tmp 2)), none⟩,
    .op ⟨none, (.eff (.store 5 (.tmp 4) (.tmp 37))), none⟩,
    .op ⟨(some 5), (.pure (.mv (.const (.bool true)))), none⟩])
  (.ret))))),
 [.cell 4 (some 5), .tmp 5]⟩
theorem r_impl_RunGlances : resFun Try.prog f_impl_RunGlances = some c_impl_RunGlances := by kernel_rfl

/- loop.example/g00940/spec.DrawRunGlances -/
abbrev f_spec_DrawRunGlances : Nat := 47
def c_spec_DrawRunGlances : MFun := ⟨12, .seq (.ops [
    .op ⟨(some 2), (.eff (.new 27 [(.int .i64 (0)), (.int .i64 (0)), (.int .i64 (0)), (.int .i64 (0)), (.slice none 0 0)])), none⟩,
    .op ⟨(some 3), (.pure (.mv (.const (.slice none 0 0)))), none⟩])
  (.seq (.ops [
    .op ⟨(some 5), (.pure (.mv (.tmp 0))), none⟩,
    .op ⟨(some 6), (.pure (.build [(.slice none 0 0), (.int .i64 (0)), (.int .u64 (0))] [(0, 1, (.tmp 5))])), none⟩,
    .op ⟨(some 7), (.eff (.box 84 (.tmp 6))), none⟩,
    .op ⟨(some 4), (.pure (.mv (.tmp 7))), none⟩])
  (.seq (.ops [
    .op ⟨(some 8), (.pure (.mv (.tmp 4))), none⟩,
    .op ⟨(some 9), (.eff (.call 74 [(.tmp 8)])), none⟩,
    .op ⟨(some 10), (.pure (.mv (.tmp 4))), none⟩,
    .op ⟨(some 11), (.eff (.call 75 [(.tmp 10)])), none⟩,
    .op ⟨none, (.eff (.store 5 (.tmp 2) (.tmp 9))), none⟩,
    .op ⟨(some 3), (.pure (.mv (.tmp 11))), none⟩])
  (.ret))),
 [.cell 2 (some 5), .tmp 3]⟩
theorem r_spec_DrawRunGlances : resFun Try.prog f_spec_DrawRunGlances = some c_spec_DrawRunGlances := by kernel_rfl

/- loop.example/g00940/spec.DrawPlainGlances -/
abbrev f_spec_DrawPlainGlances : Nat := 49
def c_spec_DrawPlainGlances : MFun := ⟨54, .seq (.ops [
    .op ⟨(some 2), (.pure (.mv (.const (.slice none 0 0)))), none⟩])
  (.seq (.ops [
    .op ⟨(some 6), (.pure (.mv (.tmp 0))), none⟩,
    .op ⟨(some 7), (.pure (.build [(.slice none 0 0), (.int .i64 (0)), (.int .u64 (0))] [(0, 1, (.tmp 6))])), none⟩,
    .op ⟨(some 8), (.eff (.box 84 (.tmp 7))), none⟩,
    .op ⟨(some 3), (.pure (.mv (.tmp 8))), none⟩])
  (.seq (.ops [
    .op ⟨(some 4), (.pure (.mv (.const (.slice none 0 0)))), none⟩])
  (.seq (.ops [
    .op ⟨(some 9), (.pure (.mv (.tmp 3))), none⟩,
    .op ⟨(some 10), (.eff (.call 78 [(.tmp 9), (.const (.int .i64 (9)))])), none⟩,
    .op ⟨(some 5), (.pure (.mv (.tmp 10))), none⟩])
  (.seq (.seq (.ops [
     .op ⟨(some 11), (.pure (.mv (.tmp 3))), none⟩,
     .op ⟨(some 12), (.eff (.call 76 [(.tmp 11), (.const (.int .i64 (20)))])), none⟩])
   (.cond (.tmp 12)
   (.ops [
     .op ⟨(some 13), (.pure (.mv (.tmp 3))), none⟩,
     .op ⟨(some 14), (.eff (.call 78 [(.tmp 13), (.const (.int .i64 (2)))])), none⟩,
     .op ⟨(some 15), (.pure (.bin .add (.const (.int .i64 (40))) (.tmp 14))), none⟩,
     .op ⟨(some 5), (.pure (.mv (.tmp 15))), none⟩])
   (.skip)))
  (.seq (.block 0 (.loop (.seq (.seq (.ops [
      .op ⟨(some 16), (.pure (.mv (.tmp 4))), none⟩,
      .op ⟨(some 17), (.pure (.len (.tmp 16))), none⟩,
      .op ⟨(some 18), (.pure (.mv (.tmp 5))), none⟩,
      .op ⟨(some 19), (.pure (.bin .lss (.tmp 17) (.tmp 18))), none⟩])
    (.cond (.tmp 19)
    (.skip)
    (.exit 0)))
   (.block 1 (.ops [
    .op ⟨(some 20), (.pure (.mv (.tmp 4))), none⟩,
    .op ⟨(some 21), (.pure (.mv (.tmp 3))), none⟩,
    .op ⟨(some 22), (.eff (.call 78 [(.tmp 21), (.const (.int .i64 (60)))])), none⟩,
    .op ⟨(some 23), (.pure (.bin .add (.const (.int .i64 (1))) (.tmp 22))), none⟩,
    .op ⟨(some 24), (.eff (.row 3 1 [(.int .i64 (0))] [(0, 1, (.tmp 23))])), none⟩,
    .op ⟨(some 25), (.eff (.app 3 1 8 (.tmp 20) (.tmp 24))), none⟩,
    .op ⟨(some 4), (.pure (.mv (.tmp 25))), none⟩])))))
  (.seq (.seq (.ops [
     .op ⟨(some 26), (.pure (.mv (.tmp 3))), none⟩,
     .op ⟨(some 27), (.eff (.call 76 [(.tmp 26), (.const (.int .i64 (2)))])), none⟩,
     .op ⟨(some 28), (.pure (.mv (.tmp 27))), none⟩,
     .split 28,
     .op ⟨(some 29), (.pure (.mv (.tmp 5))), (some (28, true))⟩,
     .op ⟨(some 30), (.pure (.bin .gtr (.tmp 29) (.const (.int .i64 (0))))), (some (28, true))⟩,
     .op ⟨(some 31), (.pure (.pick (.tmp 28) (.tmp 30) (.const (.bool false)))), none⟩,
     .op ⟨(some 32), (.pure (.mv (.tmp 31))), none⟩,
     .split 32,
     .op ⟨(some 33), (.pure (.mv (.tmp 5))), (some (32, true))⟩,
     .op ⟨(some 34), (.pure (.bin .lss (.tmp 33) (.const (.int .i64 (40))))), (some (32, true))⟩,
     .op ⟨(some 35), (.pure (.pick (.tmp 32) (.tmp 34) (.const (.bool false)))), none⟩])
   (.cond (.tmp 35)
   (.ops [
     .op ⟨(some 36), (.pure (.mv (.tmp 4))), none⟩,
     .op ⟨(some 37), (.eff (.row 3 1 [(.int .i64 (0))] [(0, 1, (.const (.int .i64 (61))))])), none⟩,
     .op ⟨(some 38), (.eff (.app 3 1 8 (.tmp 36) (.tmp 37))), none⟩,
     .op ⟨(some 4), (.pure (.mv (.tmp 38))), none⟩])
   (.skip)))
  (.seq (.seq (.ops [
     .op ⟨(some 39), (.pure (.mv (.tmp 5))), none⟩,
     .op ⟨(some 40), (.pure (.bin .gtr (.tmp 39) (.const (.int .i64 (0))))), none⟩,
     .op ⟨(some 41), (.pure (.mv (.tmp 40))), none⟩,
     .split 41,
     .op ⟨(some 42), (.pure (.mv (.tmp 3))), (some (41, true))⟩,
     .op ⟨(some 43), (.eff (.call 76 [(.tmp 42), (.const (.int .i64 (20)))])), (some (41, true))⟩,
     .op ⟨(some 44), (.pure (.pick (.tmp 41) (.tmp 43) (.const (.bool false)))), none⟩])
   (.cond (.tmp 44)
   (.ops [
     .op ⟨(some 45), (.pure (.mv (.tmp 4))), none⟩,
     .op ⟨(some 46), (.pure (.mv (.tmp 3))), none⟩,
     .op ⟨(some 47), (.pure (.mv (.tmp 5))), none⟩,
     .op ⟨(some 48), (.eff (.call 78 [(.tmp 46), (.tmp 47)])), none⟩,
     .op ⟨(some 49), (.pure (.mv (.tmp 3))), none⟩,
     .op ⟨(some 50), (.eff (.row 3 4 [(.int .i64 (0)), (.int .i64 (0)), (.int .i64 (0)), (.int .i64 (0))] [(0, 1, (.const (.int .i64 (0)))), (1, 1, (.const (.int .i64 (60)))), (2, 1, (.const (.int .i64 (61)))), (3, 1, (.const (.int .i64 (62))))])), none⟩,
     .op ⟨(some 51), (.eff (.call 77 [(.tmp 49), (.tmp 50)])), none⟩,
     .op ⟨(some 52), (.pure (.idx 1 (.tmp 45) (.tmp 48))), none⟩,
     .op ⟨none, (.eff (.store 1 (.tmp 52) (.tmp 51))), none⟩])
   (.skip)))
  (.seq (.ops [
    .op ⟨(some 53), (.pure (.mv (.tmp 4))), none⟩,
    .op ⟨(some 2), (.pure (.mv (.tmp 53))), none⟩])
  (.ret))))))))),
 [.tmp 2]⟩
theorem r_spec_DrawPlainGlances : resFun Try.prog f_spec_DrawPlainGlances = some c_spec_DrawPlainGlances := by kernel_rfl

/- loop.example/g00940/laws.qRepeater -/
abbrev f_laws_qRepeater : Nat := 50
def c_laws_qRepeater : MFun := ⟨38, .seq (.ops [
    .op ⟨(some 2), (.eff (.box 27 (.tmp 0))), none⟩,
    .op ⟨(some 3), (.eff (.box 27 (.tmp 1))), none⟩,
    .op ⟨(some 4), (.pure (.mv (.const (.bool false)))), none⟩])
  (.seq (.ops [
    .op ⟨(some 5), (.pure (.fieldAddr 0 (.tmp 2))), none⟩,
    .op ⟨(some 6), (.load none (.tmp 5)), none⟩,
    .op ⟨(some 7), (.pure (.fieldAddr 0 (.tmp 3))), none⟩,
    .op ⟨(some 8), (.load none (.tmp 7)), none⟩,
    .op ⟨(some 9), (.pure (.bin .eql (.tmp 6) (.tmp 8))), none⟩,
    .op ⟨(some 10), (.pure (.mv (.tmp 9))), none⟩,
    .split 10,
    .op ⟨(some 11), (.pure (.fieldAddr 1 (.tmp 2))), (some (10, true))⟩,
    .op ⟨(some 12), (.load none (.tmp 11)), (some (10, true))⟩,
    .op ⟨(some 13), (.pure (.fieldAddr 1 (.tmp 3))), (some (10, true))⟩,
    .op ⟨(some 14), (.load none (.tmp 13)), (some (10, true))⟩,
    .op ⟨(some 15), (.pure (.bin .eql (.tmp 12) (.tmp 14))), (some (10, true))⟩,
    .op ⟨(some 16), (.pure (.pick (.tmp 10) (.tmp 15) (.const (.bool false)))), none⟩,
    .op ⟨(some 17), (.pure (.mv (.tmp 16))), none⟩,
    .split 17,
    .op ⟨(some 18), (.pure (.fieldAddr 2 (.tmp 2))), (some (17, true))⟩,
    .op ⟨(some 19), (.load none (.tmp 18)), (some (17, true))⟩,
    .op ⟨(some 20), (.pure (.fieldAddr 2 (.tmp 3))), (some (17, true))⟩,
    .op ⟨(some 21), (.load none (.tmp 20)), (some (17, true))⟩,
    .op ⟨(some 22), (.pure (.bin .eql (.tmp 19) (.tmp 21))), (some (17, true))⟩,
    .op ⟨(some 23), (.pure (.pick (.tmp 17) (.tmp 22) (.const (.bool false)))), none⟩,
    .op ⟨(some 24), (.pure (.mv (.tmp 23))), none⟩,
    .split 24,
    .op ⟨(some 25), (.pure (.fieldAddr 3 (.tmp 2))), (some (24, true))⟩,
    .op ⟨(some 26), (.load none (.tmp 25)), (some (24, true))⟩,
    .op ⟨(some 27), (.pure (.fieldAddr 3 (.tmp 3))), (some (24, true))⟩,
    .op ⟨(some 28), (.load none (.tmp 27)), (some (24, true))⟩,
    .op ⟨(some 29), (.pure (.bin .eql (.tmp 26) (.tmp 28))), (some (24, true))⟩,
    .op ⟨(some 30), (.pure (.pick (.tmp 24) (.tmp 29) (.const (.bool false)))), none⟩,
    .op ⟨(some 31), (.pure (.mv (.tmp 30))), none⟩,
    .split 31,
    .op ⟨(some 32), (.pure (.fieldAddr 4 (.tmp 2))), (some (31, true))⟩,
    .op ⟨(some 33), (.load none (.tmp 32)), (some (31, true))⟩,
    .op ⟨(some 34), (.pure (.fieldAddr 4 (.tmp 3))), (some (31, true))⟩,
    .op ⟨(some 35), (.load none (.tmp 34)), (some (31, true))⟩,
    .op ⟨(some 36), (.eff (.call 52 [(.tmp 33), (.tmp 35)])), (some (31, true))⟩,
    .op ⟨(some 37), (.pure (.pick (.tmp 31) (.tmp 36) (.const (.bool false)))), none⟩,
    .op ⟨(some 4), (.pure (.mv (.tmp 37))), none⟩])
  (.ret)),
 [.tmp 4]⟩
theorem r_laws_qRepeater : resFun Try.prog f_laws_qRepeater = some c_laws_qRepeater := by kernel_rfl

/- loop.example/g00940/laws.qGlances -/
abbrev f_laws_qGlances : Nat := 51
def c_laws_qGlances : MFun := ⟨26, .seq (.ops [
    .op ⟨(some 4), (.pure (.mv (.const (.bool false)))), none⟩])
  (.seq (.seq (.ops [
     .op ⟨(some 6), (.pure (.mv (.tmp 0))), none⟩,
     .op ⟨(some 7), (.pure (.len (.tmp 6))), none⟩,
     .op ⟨(some 8), (.pure (.mv (.tmp 1))), none⟩,
     .op ⟨(some 9), (.pure (.len (.tmp 8))), none⟩,
     .op ⟨(some 10), (.pure (.bin .neq (.tmp 7) (.tmp 9))), none⟩])
   (.cond (.tmp 10)
   (.seq (.ops [
      .op ⟨(some 4), (.pure (.mv (.const (.bool false)))), none⟩])
    (.ret))
   (.skip)))
  (.seq (.seq (.ops [
     .op ⟨(some 11), (.pure (.mv (.tmp 0))), none⟩,
     .op ⟨(some 12), (.pure (.len (.tmp 11))), none⟩,
     .op ⟨(some 13), (.pure (.mv (.const (.int .i64 (0))))), none⟩])
   (.block 0 (.loop (.seq (.ops [
     .op ⟨(some 14), (.pure (.bin .lss (.tmp 13) (.tmp 12))), none⟩])
   (.seq (.cond (.tmp 14)
    (.skip)
    (.exit 0))
   (.seq (.block 1 (.seq (.ops [
      .op ⟨(some 15), (.pure (.mv (.tmp 13))), none⟩,
      .op ⟨(some 5), (.pure (.mv (.tmp 15))), none⟩])
    (.seq (.draw true
     (.take ⟨(some 16), (.pure (.mv (.tmp 0))), none⟩
     (.take ⟨(some 17), (.pure (.mv (.tmp 5))), none⟩
     (.take ⟨(some 18), (.pure (.idx 2 (.tmp 16) (.tmp 17))), none⟩
     (.take ⟨(some 20), (.pure (.mv (.tmp 1))), none⟩
     (.take ⟨(some 21), (.pure (.mv (.tmp 5))), none⟩
     (.take ⟨(some 22), (.pure (.idx 2 (.tmp 20) (.tmp 21))), none⟩
     (.take ⟨(some 19), (.load (some 2) (.tmp 18)), none⟩
     (.only false ⟨(some 23), (.load (some 2) (.tmp 22)), none⟩
     (.only true ⟨(some 24), (.eff (.fail)), none⟩
     (.done)))))))))))
    (.cond (.tmp 24)
    (.seq (.ops [
       .op ⟨(some 4), (.pure (.mv (.const (.bool false)))), none⟩])
     (.ret))
    (.skip)))))
   (.ops [
    .op ⟨(some 25), (.pure (.bin .add (.tmp 13) (.const (.int .i64 (1))))), none⟩,
    .op ⟨(some 13), (.pure (.mv (.tmp 25))), none⟩])))))))
  (.seq (.ops [
    .op ⟨(some 4), (.pure (.mv (.const (.bool true)))), none⟩])
  (.ret)))),
 [.tmp 4]⟩
theorem r_laws_qGlances : resFun Try.prog f_laws_qGlances = some c_laws_qGlances := by kernel_rfl

/- loop.example/g00940/laws.qInts -/
abbrev f_laws_qInts : Nat := 52
def c_laws_qInts : MFun := ⟨26, .seq (.ops [
    .op ⟨(some 4), (.pure (.mv (.const (.bool false)))), none⟩])
  (.seq (.seq (.ops [
     .op ⟨(some 6), (.pure (.mv (.tmp 0))), none⟩,
     .op ⟨(some 7), (.pure (.len (.tmp 6))), none⟩,
     .op ⟨(some 8), (.pure (.mv (.tmp 1))), none⟩,
     .op ⟨(some 9), (.pure (.len (.tmp 8))), none⟩,
     .op ⟨(some 10), (.pure (.bin .neq (.tmp 7) (.tmp 9))), none⟩])
   (.cond (.tmp 10)
   (.seq (.ops [
      .op ⟨(some 4), (.pure (.mv (.const (.bool false)))), none⟩])
    (.ret))
   (.skip)))
  (.seq (.seq (.ops [
     .op ⟨(some 11), (.pure (.mv (.tmp 0))), none⟩,
     .op ⟨(some 12), (.pure (.len (.tmp 11))), none⟩,
     .op ⟨(some 13), (.pure (.mv (.const (.int .i64 (0))))), none⟩])
   (.block 0 (.loop (.seq (.ops [
     .op ⟨(some 14), (.pure (.bin .lss (.tmp 13) (.tmp 12))), none⟩])
   (.seq (.cond (.tmp 14)
    (.skip)
    (.exit 0))
   (.seq (.block 1 (.seq (.ops [
      .op ⟨(some 15), (.pure (.mv (.tmp 13))), none⟩,
      .op ⟨(some 5), (.pure (.mv (.tmp 15))), none⟩])
    (.seq (.ops [
      .op ⟨(some 16), (.pure (.mv (.tmp 0))), none⟩,
      .op ⟨(some 17), (.pure (.mv (.tmp 5))), none⟩,
      .op ⟨(some 18), (.pure (.idx 1 (.tmp 16) (.tmp 17))), none⟩,
      .op ⟨(some 20), (.pure (.mv (.tmp 1))), none⟩,
      .op ⟨(some 21), (.pure (.mv (.tmp 5))), none⟩,
      .op ⟨(some 22), (.pure (.idx 1 (.tmp 20) (.tmp 21))), none⟩,
      .op ⟨(some 19), (.load none (.tmp 18)), none⟩,
      .op ⟨(some 23), (.load none (.tmp 22)), none⟩,
      .op ⟨(some 24), (.pure (.bin .neq (.tmp 19) (.tmp 23))), none⟩])
    (.cond (.tmp 24)
    (.seq (.ops [
       .op ⟨(some 4), (.pure (.mv (.const (.bool false)))), none⟩])
     (.ret))
    (.skip)))))
   (.ops [
    .op ⟨(some 25), (.pure (.bin .add (.tmp 13) (.const (.int .i64 (1))))), none⟩,
    .op ⟨(some 13), (.pure (.mv (.tmp 25))), none⟩])))))))
  (.seq (.ops [
    .op ⟨(some 4), (.pure (.mv (.const (.bool true)))), none⟩])
  (.ret)))),
 [.tmp 4]⟩
theorem r_laws_qInts : resFun Try.prog f_laws_qInts = some c_laws_qInts := by kernel_rfl

/- loop.example/g00940/spec.DrawUsefulGlances -/
abbrev f_spec_DrawUsefulGlances : Nat := 53
def c_spec_DrawUsefulGlances : MFun := ⟨5, .seq (.ops [
    .op ⟨(some 2), (.pure (.mv (.const (.slice none 0 0)))), none⟩])
  (.seq (.ops [
    .op ⟨(some 3), (.pure (.mv (.tmp 0))), none⟩,
    .op ⟨(some 4), (.eff (.call 79 [(.tmp 3)])), none⟩,
    .op ⟨(some 2), (.pure (.mv (.tmp 4))), none⟩])
  (.ret)),
 [.tmp 2]⟩
theorem r_spec_DrawUsefulGlances : resFun Try.prog f_spec_DrawUsefulGlances = some c_spec_DrawUsefulGlances := by kernel_rfl

/- loop.example/g00940/spec.DrawWithMisreading -/
abbrev f_spec_DrawWithMisreading : Nat := 54
def c_spec_DrawWithMisreading : MFun := ⟨31, .seq (.ops [
    .op ⟨(some 2), (.pure (.mv (.const (.slice none 0 0)))), none⟩,
    .op ⟨(some 3), (.pure (.mv (.const (.int .i64 (0))))), none⟩,
    .op ⟨(some 4), (.pure (.mv (.const (.int .i64 (0))))), none⟩])
  (.seq (.ops [
    .op ⟨(some 7), (.pure (.mv (.tmp 0))), none⟩,
    .op ⟨(some 8), (.pure (.build [(.slice none 0 0), (.int .i64 (0)), (.int .u64 (0))] [(0, 1, (.tmp 7))])), none⟩,
    .op ⟨(some 9), (.eff (.box 84 (.tmp 8))), none⟩,
    .op ⟨(some 5), (.pure (.mv (.tmp 9))), none⟩])
  (.seq (.ops [
    .op ⟨(some 10), (.pure (.mv (.tmp 5))), none⟩,
    .op ⟨(some 11), (.eff (.call 75 [(.tmp 10)])), none⟩,
    .op ⟨(some 6), (.pure (.mv (.tmp 11))), none⟩])
  (.seq (.ops [
    .op ⟨(some 12), (.pure (.mv (.tmp 6))), none⟩,
    .op ⟨(some 13), (.pure (.mv (.tmp 5))), none⟩,
    .op ⟨(some 14), (.pure (.mv (.tmp 6))), none⟩,
    .op ⟨(some 15), (.pure (.len (.tmp 14))), none⟩,
    .op ⟨(some 16), (.pure (.mv (.tmp 5))), none⟩,
    .op ⟨(some 17), (.eff (.call 78 [(.tmp 16), (.const (.int .i64 (16)))])), none⟩,
    .op ⟨(some 18), (.pure (.bin .quo (.tmp 17) (.const (.int .i64 (15))))), none⟩,
    .op ⟨(some 19), (.pure (.bin .add (.tmp 15) (.tmp 18))), none⟩,
    .op ⟨(some 20), (.eff (.call 78 [(.tmp 13), (.tmp 19)])), none⟩,
    .op ⟨(some 21), (.pure (.mv (.tmp 5))), none⟩,
    .op ⟨(some 22), (.eff (.call 78 [(.tmp 21), (.const (.int .i64 (20)))])), none⟩,
    .op ⟨(some 23), (.pure (.bin .quo (.tmp 22) (.const (.int .i64 (19))))), none⟩,
    .op ⟨(some 24), (.pure (.bin .sub (.tmp 20) (.tmp 23))), none⟩,
    .op ⟨(some 25), (.pure (.mv (.tmp 5))), none⟩,
    .op ⟨(some 26), (.pure (.mv (.tmp 5))), none⟩,
    .op ⟨(some 27), (.eff (.row 3 2 [(.int .i64 (0)), (.int .i64 (0))] [(0, 1, (.const (.int .i64 (-1)))), (1, 1, (.const (.int .i64 (64))))])), none⟩,
    .op ⟨(some 28), (.eff (.call 77 [(.tmp 26), (.tmp 27)])), none⟩,
    .op ⟨(some 29), (.eff (.row 3 5 [(.int .i64 (0)), (.int .i64 (0)), (.int .i64 (0)), (.int .i64 (0)), (.int .i64 (0))] [(0, 1, (.const (.int .i64 (0)))), (1, 1, (.const (.int .i64 (5)))), (2, 1, (.const (.int .i64 (63)))), (3, 1, (.const (.int .i64 (62)))), (4, 1, (.tmp 28))])), none⟩,
    .op ⟨(some 30), (.eff (.call 77 [(.tmp 25), (.tmp 29)])), none⟩,
    .op ⟨(some 2), (.pure (.mv (.tmp 12))), none⟩,
    .op ⟨(some 3), (.pure (.mv (.tmp 24))), none⟩,
    .op ⟨(some 4), (.pure (.mv (.tmp 30))), none⟩])
  (.ret)))),
 [.tmp 2, .tmp 3, .tmp 4]⟩
theorem r_spec_DrawWithMisreading : resFun Try.prog f_spec_DrawWithMisreading = some c_spec_DrawWithMisreading := by kernel_rfl

/- loop.example/g00940/laws.qHas -/
abbrev f_laws_qHas : Nat := 55
def c_laws_qHas : MFun := ⟨17, .seq (.ops [
    .op ⟨(some 4), (.pure (.mv (.const (.bool false)))), none⟩])
  (.seq (.seq (.ops [
     .op ⟨(some 7), (.pure (.mv (.tmp 0))), none⟩,
     .op ⟨(some 8), (.pure (.len (.tmp 7))), none⟩,
     .op ⟨(some 9), (.pure (.mv (.const (.int .i64 (0))))), none⟩])
   (.block 0 (.loop (.seq (.ops [
     .op ⟨(some 10), (.pure (.bin .lss (.tmp 9) (.tmp 8))), none⟩])
   (.seq (.cond (.tmp 10)
    (.skip)
    (.exit 0))
   (.seq (.block 1 (.seq (.ops [
      .op ⟨(some 11), (.pure (.idx 1 (.tmp 7) (.tmp 9))), none⟩,
      .op ⟨(some 12), (.load none (.tmp 11)), none⟩,
      .op ⟨(some 6), (.pure (.mv (.tmp 12))), none⟩])
    (.seq (.ops [
      .op ⟨(some 13), (.pure (.mv (.tmp 6))), none⟩,
      .op ⟨(some 14), (.pure (.mv (.tmp 1))), none⟩,
      .op ⟨(some 15), (.pure (.bin .eql (.tmp 13) (.tmp 14))), none⟩])
    (.cond (.tmp 15)
    (.seq (.ops [
       .op ⟨(some 4), (.pure (.mv (.const (.bool true)))), none⟩])
     (.ret))
    (.skip)))))
   (.ops [
    .op ⟨(some 16), (.pure (.bin .add (.tmp 9) (.const (.int .i64 (1))))), none⟩,
    .op ⟨(some 9), (.pure (.mv (.tmp 16))), none⟩])))))))
  (.seq (.ops [
    .op ⟨(some 4), (.pure (.mv (.const (.bool false)))), none⟩])
  (.ret))),
 [.tmp 4]⟩
theorem r_laws_qHas : resFun Try.prog f_laws_qHas = some c_laws_qHas := by kernel_rfl

/- loop.example/g00940/laws.szIntS -/
abbrev f_laws_szIntS : Nat := 56
def c_laws_szIntS : MFun := ⟨12, .seq (.ops [
    .op ⟨(some 4), (.pure (.mv (.const (.int .i64 (0))))), none⟩])
  (.seq (.ops [
    .op ⟨(some 5), (.pure (.mv (.tmp 1))), none⟩,
    .op ⟨(some 6), (.pure (.mv (.tmp 0))), none⟩,
    .op ⟨(some 7), (.pure (.len (.tmp 6))), none⟩,
    .op ⟨(some 8), (.pure (.bin .sub (.tmp 5) (.tmp 7))), none⟩,
    .op ⟨(some 1), (.pure (.mv (.tmp 8))), none⟩])
  (.seq (.seq (.ops [
     .op ⟨(some 9), (.pure (.mv (.tmp 1))), none⟩,
     .op ⟨(some 10), (.pure (.bin .lss (.tmp 9) (.const (.int .i64 (0))))), none⟩])
   (.cond (.tmp 10)
   (.seq (.ops [
      .op ⟨(some 4), (.pure (.mv (.const (.int .i64 (-1))))), none⟩])
    (.ret))
   (.skip)))
  (.seq (.ops [
    .op ⟨(some 11), (.pure (.mv (.tmp 1))), none⟩,
    .op ⟨(some 4), (.pure (.mv (.tmp 11))), none⟩])
  (.ret)))),
 [.tmp 4]⟩
theorem r_laws_szIntS : resFun Try.prog f_laws_szIntS = some c_laws_szIntS := by kernel_rfl

/- loop.example/g00940/spec.rpGood -/
abbrev f_spec_rpGood : Nat := 57
def c_spec_rpGood : MFun := ⟨120, .seq (.ops [
    .op ⟨(some 1), (.eff (.box 27 (.tmp 0))), none⟩,
    .op ⟨(some 2), (.pure (.mv (.const (.bool false)))), none⟩])
  (.seq (.seq (.ops [
     .op ⟨(some 6), (.pure (.fieldAddr 4 (.tmp 1))), none⟩,
     .op ⟨(some 7), (.load none (.tmp 6)), none⟩,
     .op ⟨(some 8), (.pure (.len (.tmp 7))), none⟩,
     .op ⟨(some 9), (.pure (.mv (.const (.int .i64 (0))))), none⟩])
   (.block 0 (.loop (.seq (.ops [
     .op ⟨(some 10), (.pure (.bin .lss (.tmp 9) (.tmp 8))), none⟩])
   (.seq (.cond (.tmp 10)
    (.skip)
    (.exit 0))
   (.seq (.block 1 (.seq (.ops [
      .op ⟨(some 11), (.pure (.mv (.tmp 9))), none⟩,
      .op ⟨(some 12), (.pure (.idx 1 (.tmp 7) (.tmp 9))), none⟩,
      .op ⟨(some 13), (.load none (.tmp 12)), none⟩,
      .op ⟨(some 3), (.pure (.mv (.tmp 11))), none⟩,
      .op ⟨(some 4), (.pure (.mv (.tmp 13))), none⟩])
    (.seq (.ops [
      .op ⟨(some 14), (.pure (.mv (.tmp 4))), none⟩,
      .op ⟨(some 15), (.eff (.call 60 [(.tmp 14)])), none⟩,
      .op ⟨(some 16), (.pure (.bnot (.tmp 15))), none⟩,
      .op ⟨(some 17), (.pure (.mv (.tmp 16))), none⟩,
      .split 17,
      .op ⟨(some 18), (.pure (.mv (.tmp 4))), (some (17, false))⟩,
      .op ⟨(some 19), (.pure (.bin .eql (.tmp 18) (.const (.int .i64 (61))))), (some (17, false))⟩,
      .op ⟨(some 20), (.pure (.mv (.tmp 19))), (some (17, false))⟩,
      .split 20,
      .op ⟨(some 21), (.pure (.fieldAddr 0 (.tmp 1))), (some (20, true))⟩,
      .op ⟨(some 22), (.load none (.tmp 21)), (some (20, true))⟩,
      .op ⟨(some 23), (.pure (.bin .neq (.tmp 22) (.const (.int .i64 (3))))), (some (20, true))⟩,
      .op ⟨(some 24), (.pure (.mv (.tmp 23))), (some (20, true))⟩,
      .split 24,
      .op ⟨(some 25), (.pure (.mv (.tmp 3))), (some (24, false))⟩,
      .op ⟨(some 26), (.pure (.fieldAddr 4 (.tmp 1))), (some (24, false))⟩,
      .op ⟨(some 27), (.load none (.tmp 26)), (some (24, false))⟩,
      .op ⟨(some 28), (.pure (.len (.tmp 27))), (some (24, false))⟩,
      .op ⟨(some 29), (.pure (.bin .sub (.tmp 28) (.const (.int .i64 (1))))), (some (24, false))⟩,
      .op ⟨(some 30), (.pure (.bin .lss (.tmp 25) (.tmp 29))), (some (24, false))⟩,
      .op ⟨(some 31), (.pure (.pick (.tmp 24) (.const (.bool true)) (.tmp 30))), (some (20, true))⟩,
      .op ⟨(some 32), (.pure (.pick (.tmp 20) (.tmp 31) (.const (.bool false)))), (some (17, false))⟩,
      .op ⟨(some 33), (.pure (.pick (.tmp 17) (.const (.bool true)) (.tmp 32))), none⟩])
    (.cond (.tmp 33)
    (.seq (.ops [
       .op ⟨(some 2), (.pure (.mv (.const (.bool false)))), none⟩])
     (.ret))
    (.skip)))))
   (.ops [
    .op ⟨(some 34), (.pure (.bin .add (.tmp 9) (.const (.int .i64 (1))))), none⟩,
    .op ⟨(some 9), (.pure (.mv (.tmp 34))), none⟩])))))))
  (.seq (.seq (.ops [
     .op ⟨(some 35), (.pure (.fieldAddr 4 (.tmp 1))), none⟩,
     .op ⟨(some 36), (.load none (.tmp 35)), none⟩,
     .op ⟨(some 37), (.pure (.len (.tmp 36))), none⟩,
     .op ⟨(some 38), (.pure (.bin .gtr (.tmp 37) (.const (.int .i64 (80))))), none⟩,
     .op ⟨(some 39), (.pure (.mv (.tmp 38))), none⟩,
     .split 39,
     .op ⟨(some 40), (.pure (.fieldAddr 2 (.tmp 1))), (some (39, false))⟩,
     .op ⟨(some 41), (.load none (.tmp 40)), (some (39, false))⟩,
     .op ⟨(some 42), (.eff (.call 63 [(.tmp 41), (.const (.int .i64 (0))), (.const (.int .i64 (3)))])), (some (39, false))⟩,
     .op ⟨(some 43), (.pure (.bnot (.tmp 42))), (some (39, false))⟩,
     .op ⟨(some 44), (.pure (.pick (.tmp 39) (.const (.bool true)) (.tmp 43))), none⟩])
   (.cond (.tmp 44)
   (.seq (.ops [
      .op ⟨(some 2), (.pure (.mv (.const (.bool false)))), none⟩])
    (.ret))
   (.skip)))
  (.seq (.ops [
    .op ⟨(some 45), (.pure (.fieldAddr 1 (.tmp 1))), none⟩,
    .op ⟨(some 46), (.load none (.tmp 45)), none⟩,
    .op ⟨(some 47), (.pure (.bin .eql (.tmp 46) (.const (.int .i64 (0))))), none⟩,
    .op ⟨(some 48), (.pure (.mv (.tmp 47))), none⟩,
    .split 48,
    .op ⟨(some 49), (.pure (.fieldAddr 2 (.tmp 1))), (some (48, true))⟩,
    .op ⟨(some 50), (.load none (.tmp 49)), (some (48, true))⟩,
    .op ⟨(some 51), (.pure (.bin .eql (.tmp 50) (.const (.int .i64 (0))))), (some (48, true))⟩,
    .op ⟨(some 52), (.pure (.pick (.tmp 48) (.tmp 51) (.const (.bool false)))), none⟩,
    .op ⟨(some 5), (.pure (.mv (.tmp 52))), none⟩])
  (.seq (.seq (.ops [
     .op ⟨(some 53), (.pure (.fieldAddr 0 (.tmp 1))), none⟩,
     .op ⟨(some 54), (.load none (.tmp 53)), none⟩])
   (.block 2 (.seq (.ops [
     .op ⟨(some 56), (.pure (.bin .eql (.tmp 54) (.const (.int .i64 (0))))), none⟩,
     .op ⟨(some 55), (.pure (.mv (.tmp 56))), none⟩])
   (.cond (.tmp 55)
   (.seq (.ops [
      .op ⟨(some 57), (.pure (.mv (.tmp 5))), none⟩,
      .op ⟨(some 58), (.pure (.mv (.tmp 57))), none⟩,
      .split 58,
      .op ⟨(some 59), (.pure (.fieldAddr 3 (.tmp 1))), (some (58, true))⟩,
      .op ⟨(some 60), (.load none (.tmp 59)), (some (58, true))⟩,
      .op ⟨(some 61), (.pure (.bin .eql (.tmp 60) (.const (.int .i64 (0))))), (some (58, true))⟩,
      .op ⟨(some 62), (.pure (.mv (.tmp 61))), (some (58, true))⟩,
      .split 62,
      .op ⟨(some 63), (.pure (.fieldAddr 3 (.tmp 1))), (some (62, false))⟩,
      .op ⟨(some 64), (.load none (.tmp 63)), (some (62, false))⟩,
      .op ⟨(some 65), (.pure (.bin .eql (.tmp 64) (.const (.int .i64 (62))))), (some (62, false))⟩,
      .op ⟨(some 66), (.pure (.pick (.tmp 62) (.const (.bool true)) (.tmp 65))), (some (58, true))⟩,
      .op ⟨(some 67), (.pure (.pick (.tmp 58) (.tmp 66) (.const (.bool false)))), none⟩,
      .op ⟨(some 2), (.pure (.mv (.tmp 67))), none⟩])
    (.ret))
   (.seq (.ops [
      .op ⟨(some 69), (.pure (.bin .eql (.tmp 54) (.const (.int .i64 (1))))), none⟩,
      .op ⟨(some 68), (.pure (.mv (.tmp 69))), none⟩])
    (.cond (.tmp 68)
    (.seq (.ops [
       .op ⟨(some 70), (.pure (.fieldAddr 1 (.tmp 1))), none⟩,
       .op ⟨(some 71), (.load none (.tmp 70)), none⟩,
       .op ⟨(some 72), (.eff (.call 60 [(.tmp 71)])), none⟩,
       .op ⟨(some 73), (.pure (.mv (.tmp 72))), none⟩,
       .split 73,
       .op ⟨(some 74), (.pure (.fieldAddr 3 (.tmp 1))), (some (73, true))⟩,
       .op ⟨(some 75), (.load none (.tmp 74)), (some (73, true))⟩,
       .op ⟨(some 76), (.pure (.fieldAddr 1 (.tmp 1))), (some (73, true))⟩,
       .op ⟨(some 77), (.load none (.tmp 76)), (some (73, true))⟩,
       .op ⟨(some 78), (.pure (.bin .eql (.tmp 75) (.tmp 77))), (some (73, true))⟩,
       .op ⟨(some 79), (.pure (.pick (.tmp 73) (.tmp 78) (.const (.bool false)))), none⟩,
       .op ⟨(some 2), (.pure (.mv (.tmp 79))), none⟩])
     (.ret))
    (.seq (.ops [
       .op ⟨(some 81), (.pure (.bin .eql (.tmp 54) (.const (.int .i64 (2))))), none⟩,
       .op ⟨(some 80), (.pure (.mv (.tmp 81))), none⟩])
     (.cond (.tmp 80)
     (.seq (.ops [
        .op ⟨(some 82), (.pure (.fieldAddr 1 (.tmp 1))), none⟩,
        .op ⟨(some 83), (.load none (.tmp 82)), none⟩,
        .op ⟨(some 84), (.eff (.call 60 [(.tmp 83)])), none⟩,
        .op ⟨(some 85), (.pure (.mv (.tmp 84))), none⟩,
        .split 85,
        .op ⟨(some 86), (.pure (.fieldAddr 2 (.tmp 1))), (some (85, true))⟩,
        .op ⟨(some 87), (.load none (.tmp 86)), (some (85, true))⟩,
        .op ⟨(some 88), (.pure (.bin .eql (.tmp 87) (.const (.int .i64 (3))))), (some (85, true))⟩,
        .op ⟨(some 89), (.pure (.pick (.tmp 85) (.tmp 88) (.const (.bool false)))), none⟩,
        .op ⟨(some 90), (.pure (.mv (.tmp 89))), none⟩,
        .split 90,
        .op ⟨(some 91), (.pure (.fieldAddr 3 (.tmp 1))), (some (90, true))⟩,
        .op ⟨(some 92), (.load none (.tmp 91)), (some (90, true))⟩,
        .op ⟨(some 93), (.pure (.bin .eql (.tmp 92) (.const (.int .i64 (63))))), (some (90, true))⟩,
        .op ⟨(some 94), (.pure (.pick (.tmp 90) (.tmp 93) (.const (.bool false)))), none⟩,
        .op ⟨(some 2), (.pure (.mv (.tmp 94))), none⟩])
      (.ret))
     (.seq (.ops [
        .op ⟨(some 96), (.pure (.bin .eql (.tmp 54) (.const (.int .i64 (3))))), none⟩,
        .op ⟨(some 95), (.pure (.mv (.tmp 96))), none⟩])
      (.cond (.tmp 95)
      (.seq (.ops [
         .op ⟨(some 97), (.pure (.mv (.tmp 5))), none⟩,
         .op ⟨(some 98), (.pure (.mv (.tmp 97))), none⟩,
         .split 98,
         .op ⟨(some 99), (.pure (.fieldAddr 3 (.tmp 1))), (some (98, true))⟩,
         .op ⟨(some 100), (.load none (.tmp 99)), (some (98, true))⟩,
         .op ⟨(some 101), (.pure (.bin .eql (.tmp 100) (.const (.int .i64 (0))))), (some (98, true))⟩,
         .op ⟨(some 102), (.pure (.pick (.tmp 98) (.tmp 101) (.const (.bool false)))), none⟩,
         .op ⟨(some 103), (.pure (.mv (.tmp 102))), none⟩,
         .split 103,
         .op ⟨(some 104), (.pure (.fieldAddr 4 (.tmp 1))), (some (103, true))⟩,
         .op ⟨(some 105), (.load none (.tmp 104)), (some (103, true))⟩,
         .op ⟨(some 106), (.pure (.len (.tmp 105))), (some (103, true))⟩,
         .op ⟨(some 107), (.pure (.bin .gtr (.tmp 106) (.const (.int .i64 (0))))), (some (103, true))⟩,
         .op ⟨(some 108), (.pure (.pick (.tmp 103) (.tmp 107) (.const (.bool false)))), none⟩,
         .op ⟨(some 109), (.pure (.mv (.tmp 108))), none⟩,
         .split 109,
         .op ⟨(some 110), (.pure (.fieldAddr 4 (.tmp 1))), (some (109, true))⟩,
         .op ⟨(some 111), (.load none (.tmp 110)), (some (109, true))⟩,
         .op ⟨(some 112), (.pure (.fieldAddr 4 (.tmp 1))), (some (109, true))⟩,
         .op ⟨(some 113), (.load none (.tmp 112)), (some (109, true))⟩,
         .op ⟨(some 114), (.pure (.len (.tmp 113))), (some (109, true))⟩,
         .op ⟨(some 115), (.pure (.bin .sub (.tmp 114) (.const (.int .i64 (1))))), (some (109, true))⟩,
         .op ⟨(some 116), (.pure (.idx 1 (.tmp 111) (.tmp 115))), (some (109, true))⟩,
         .op ⟨(some 117), (.load none (.tmp 116)), (some (109, true))⟩,
         .op ⟨(some 118), (.pure (.bin .eql (.tmp 117) (.const (.int .i64 (61))))), (some (109, true))⟩,
         .op ⟨(some 119), (.pure (.pick (.tmp 109) (.tmp 118) (.const (.bool false)))), none⟩,
         .op ⟨(some 2), (.pure (.mv (.tmp 119))), none⟩])
       (.ret))
      (.skip)))))))))))
  (.seq (.ops [
    .op ⟨(some 2), (.pure (.mv (.const (.bool false)))), none⟩])
  (.ret)))))),
 [.tmp 2]⟩
theorem r_spec_rpGood : resFun Try.prog f_spec_rpGood = some c_spec_rpGood := by kernel_rfl

/- loop.example/g00940/impl.isPassed -/
abbrev f_impl_isPassed : Nat := 58
def c_impl_isPassed : MFun := ⟨9, .seq (.ops [
    .op ⟨(some 2), (.pure (.mv (.const (.bool false)))), none⟩])
  (.seq (.ops [
    .op ⟨(some 3), (.pure (.mv (.tmp 0))), none⟩,
    .op ⟨(some 4), (.eff (.call 80 [(.tmp 3)])), none⟩,
    .op ⟨(some 5), (.pure (.mv (.tmp 4))), none⟩,
    .split 5,
    .op ⟨(some 6), (.pure (.mv (.tmp 0))), (some (5, false))⟩,
    .op ⟨(some 7), (.pure (.bin .eql (.tmp 6) (.const (.int .i64 (61))))), (some (5, false))⟩,
    .op ⟨(some 8), (.pure (.pick (.tmp 5) (.const (.bool true)) (.tmp 7))), none⟩,
    .op ⟨(some 2), (.pure (.mv (.tmp 8))), none⟩])
  (.ret)),
 [.tmp 2]⟩
theorem r_impl_isPassed : resFun Try.prog f_impl_isPassed = some c_impl_isPassed := by kernel_rfl

/- loop.example/g00940/impl.within -/
abbrev f_impl_within : Nat := 59
def c_impl_within : MFun := ⟨15, .seq (.ops [
    .op ⟨(some 6), (.pure (.mv (.const (.bool false)))), none⟩])
  (.seq (.ops [
    .op ⟨(some 7), (.pure (.mv (.tmp 0))), none⟩,
    .op ⟨(some 8), (.pure (.mv (.tmp 1))), none⟩,
    .op ⟨(some 9), (.pure (.bin .geq (.tmp 7) (.tmp 8))), none⟩,
    .op ⟨(some 10), (.pure (.mv (.tmp 9))), none⟩,
    .split 10,
    .op ⟨(some 11), (.pure (.mv (.tmp 0))), (some (10, true))⟩,
    .op ⟨(some 12), (.pure (.mv (.tmp 2))), (some (10, true))⟩,
    .op ⟨(some 13), (.pure (.bin .leq (.tmp 11) (.tmp 12))), (some (10, true))⟩,
    .op ⟨(some 14), (.pure (.pick (.tmp 10) (.tmp 13) (.const (.bool false)))), none⟩,
    .op ⟨(some 6), (.pure (.mv (.tmp 14))), none⟩])
  (.ret)),
 [.tmp 6]⟩
theorem r_impl_within : resFun Try.prog f_impl_within = some c_impl_within := by kernel_rfl

/- loop.example/g00940/spec.rpPass -/
abbrev f_spec_rpPass : Nat := 60
def c_spec_rpPass : MFun := ⟨9, .seq (.ops [
    .op ⟨(some 2), (.pure (.mv (.const (.bool false)))), none⟩])
  (.seq (.ops [
    .op ⟨(some 3), (.pure (.mv (.tmp 0))), none⟩,
    .op ⟨(some 4), (.eff (.call 81 [(.tmp 3)])), none⟩,
    .op ⟨(some 5), (.pure (.mv (.tmp 4))), none⟩,
    .split 5,
    .op ⟨(some 6), (.pure (.mv (.tmp 0))), (some (5, false))⟩,
    .op ⟨(some 7), (.pure (.bin .eql (.tmp 6) (.const (.int .i64 (61))))), (some (5, false))⟩,
    .op ⟨(some 8), (.pure (.pick (.tmp 5) (.const (.bool true)) (.tmp 7))), none⟩,
    .op ⟨(some 2), (.pure (.mv (.tmp 8))), none⟩])
  (.ret)),
 [.tmp 2]⟩
theorem r_spec_rpPass : resFun Try.prog f_spec_rpPass = some c_spec_rpPass := by kernel_rfl

/- loop.example/g00940/laws.eqGlance -/
abbrev f_laws_eqGlance : Nat := 61
def c_laws_eqGlance : MFun := ⟨15, .seq (.ops [
    .op ⟨(some 2), (.eff (.box 54 (.tmp 0))), none⟩,
    .op ⟨(some 3), (.eff (.box 54 (.tmp 1))), none⟩,
    .op ⟨(some 4), (.pure (.mv (.const (.bool false)))), none⟩])
  (.seq (.seq (.ops [
     .op ⟨(some 5), (.pure (.fieldAddr 0 (.tmp 2))), none⟩,
     .op ⟨(some 6), (.load none (.tmp 5)), none⟩,
     .op ⟨(some 7), (.pure (.fieldAddr 0 (.tmp 3))), none⟩,
     .op ⟨(some 8), (.load none (.tmp 7)), none⟩,
     .op ⟨(some 9), (.pure (.eqb true (.tmp 6) (.tmp 8))), none⟩])
   (.cond (.tmp 9)
   (.seq (.ops [
      .op ⟨(some 4), (.pure (.mv (.const (.bool false)))), none⟩])
    (.ret))
   (.skip)))
  (.seq (.seq (.ops [
     .op ⟨(some 10), (.pure (.fieldAddr 1 (.tmp 2))), none⟩,
     .op ⟨(some 11), (.load none (.tmp 10)), none⟩,
     .op ⟨(some 12), (.pure (.fieldAddr 1 (.tmp 3))), none⟩,
     .op ⟨(some 13), (.load none (.tmp 12)), none⟩,
     .op ⟨(some 14), (.pure (.bin .neq (.tmp 11) (.tmp 13))), none⟩])
   (.cond (.tmp 14)
   (.seq (.ops [
      .op ⟨(some 4), (.pure (.mv (.const (.bool false)))), none⟩])
    (.ret))
   (.skip)))
  (.seq (.ops [
    .op ⟨(some 4), (.pure (.mv (.const (.bool true)))), none⟩])
  (.ret)))),
 [.tmp 4]⟩
theorem r_laws_eqGlance : resFun Try.prog f_laws_eqGlance = some c_laws_eqGlance := by kernel_rfl

/- loop.example/g00940/spec.rpGlances -/
abbrev f_spec_rpGlances : Nat := 62
def c_spec_rpGlances : MFun := ⟨19, .seq (.ops [
    .op ⟨(some 2), (.pure (.mv (.const (.bool false)))), none⟩])
  (.seq (.seq (.ops [
     .op ⟨(some 5), (.pure (.mv (.tmp 0))), none⟩,
     .op ⟨(some 6), (.pure (.len (.tmp 5))), none⟩,
     .op ⟨(some 7), (.pure (.mv (.const (.int .i64 (0))))), none⟩])
   (.block 0 (.loop (.seq (.ops [
     .op ⟨(some 8), (.pure (.bin .lss (.tmp 7) (.tmp 6))), none⟩])
   (.seq (.cond (.tmp 8)
    (.skip)
    (.exit 0))
   (.seq (.block 1 (.seq (.ops [
      .op ⟨(some 9), (.pure (.idx 2 (.tmp 5) (.tmp 7))), none⟩,
      .op ⟨(some 10), (.load (some 2) (.tmp 9)), none⟩,
      .op ⟨(some 4), (.eff (.new 54 [(.bool false), (.int .i64 (0))])), none⟩,
      .op ⟨none, (.eff (.store 2 (.tmp 4) (.tmp 10))), none⟩])
    (.seq (.ops [
      .op ⟨(some 11), (.pure (.fieldAddr 1 (.tmp 4))), none⟩,
      .op ⟨(some 12), (.load none (.tmp 11)), none⟩,
      .op ⟨(some 13), (.eff (.call 64 [(.tmp 12)])), none⟩,
      .op ⟨(some 14), (.pure (.bnot (.tmp 13))), none⟩])
    (.cond (.tmp 14)
    (.seq (.ops [
       .op ⟨(some 2), (.pure (.mv (.const (.bool false)))), none⟩])
     (.ret))
    (.skip)))))
   (.ops [
    .op ⟨(some 15), (.pure (.bin .add (.tmp 7) (.const (.int .i64 (1))))), none⟩,
    .op ⟨(some 7), (.pure (.mv (.tmp 15))), none⟩])))))))
  (.seq (.ops [
    .op ⟨(some 16), (.pure (.mv (.tmp 0))), none⟩,
    .op ⟨(some 17), (.pure (.len (.tmp 16))), none⟩,
    .op ⟨(some 18), (.pure (.bin .leq (.tmp 17) (.const (.int .i64 (80))))), none⟩,
    .op ⟨(some 2), (.pure (.mv (.tmp 18))), none⟩])
  (.ret))),
 [.tmp 2]⟩
theorem r_spec_rpGlances : resFun Try.prog f_spec_rpGlances = some c_spec_rpGlances := by kernel_rfl

/- loop.example/g00940/spec.l1In -/
abbrev f_spec_l1In : Nat := 63
def c_spec_l1In : MFun := ⟨15, .seq (.ops [
    .op ⟨(some 6), (.pure (.mv (.const (.bool false)))), none⟩])
  (.seq (.ops [
    .op ⟨(some 7), (.pure (.mv (.tmp 0))), none⟩,
    .op ⟨(some 8), (.pure (.mv (.tmp 1))), none⟩,
    .op ⟨(some 9), (.pure (.bin .geq (.tmp 7) (.tmp 8))), none⟩,
    .op ⟨(some 10), (.pure (.mv (.tmp 9))), none⟩,
    .split 10,
    .op ⟨(some 11), (.pure (.mv (.tmp 0))), (some (10, true))⟩,
    .op ⟨(some 12), (.pure (.mv (.tmp 2))), (some (10, true))⟩,
    .op ⟨(some 13), (.pure (.bin .leq (.tmp 11) (.tmp 12))), (some (10, true))⟩,
    .op ⟨(some 14), (.pure (.pick (.tmp 10) (.tmp 13) (.const (.bool false)))), none⟩,
    .op ⟨(some 6), (.pure (.mv (.tmp 14))), none⟩])
  (.ret)),
 [.tmp 6]⟩
theorem r_spec_l1In : resFun Try.prog f_spec_l1In = some c_spec_l1In := by kernel_rfl

/- loop.example/g00940/spec.sgGood -/
abbrev f_spec_sgGood : Nat := 64
def c_spec_sgGood : MFun := ⟨5, .seq (.ops [
    .op ⟨(some 2), (.pure (.mv (.const (.bool false)))), none⟩])
  (.seq (.ops [
    .op ⟨(some 3), (.pure (.mv (.tmp 0))), none⟩,
    .op ⟨(some 4), (.eff (.call 63 [(.tmp 3), (.const (.int .i64 (0))), (.const (.int .i64 (63)))])), none⟩,
    .op ⟨(some 2), (.pure (.mv (.tmp 4))), none⟩])
  (.ret)),
 [.tmp 2]⟩
theorem r_spec_sgGood : resFun Try.prog f_spec_sgGood = some c_spec_sgGood := by kernel_rfl

/- loop.example/g00940/impl.areGlances -/
abbrev f_impl_areGlances : Nat := 65
def c_impl_areGlances : MFun := ⟨11, .seq (.ops [
    .op ⟨(some 2), (.pure (.mv (.const (.bool false)))), none⟩])
  (.seq (.ops [
    .op ⟨(some 3), (.pure (.mv (.tmp 0))), none⟩,
    .op ⟨(some 4), (.pure (.len (.tmp 3))), none⟩,
    .op ⟨(some 5), (.pure (.bin .leq (.tmp 4) (.const (.int .i64 (80))))), none⟩,
    .op ⟨(some 6), (.pure (.mv (.tmp 5))), none⟩,
    .split 6,
    .op ⟨(some 7), (.pure (.mv (.tmp 0))), (some (6, true))⟩,
    .op ⟨(some 8), (.eff (.call 82 [(.tmp 7), (.func 83)])), (some (6, true))⟩,
    .op ⟨(some 9), (.pure (.bnot (.tmp 8))), (some (6, true))⟩,
    .op ⟨(some 10), (.pure (.pick (.tmp 6) (.tmp 9) (.const (.bool false)))), none⟩,
    .op ⟨(some 2), (.pure (.mv (.tmp 10))), none⟩])
  (.ret)),
 [.tmp 2]⟩
theorem r_impl_areGlances : resFun Try.prog f_impl_areGlances = some c_impl_areGlances := by kernel_rfl
end Go.Proofs.Ytgfokmjnfaopaaa
