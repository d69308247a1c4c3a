/- The code of this seat's functions, resolved, written by a program of mine; each is held against the given program by the kernel. Condition: none. -/
import Derived.Test.YtibhbphikijecaaProg
import Derived.Test.YtibhbphikijecaaBase9
import Derived.KernelRfl
namespace Go.Proofs.Ytibhbphikijecaa
open Go.Vc

/- loop.example/g00940/laws.FnExactIsAckScript -/
abbrev f_laws_FnExactIsAckScript : Nat := 3
def c_laws_FnExactIsAckScript : MFun := ⟨24, .seq (.ops [
    .op ⟨(some 2), (.pure (.mv (.const (.bool false)))), none⟩])
  (.seq (.seq (.ops [
     .op ⟨(some 6), (.pure (.mv (.tmp 0))), none⟩,
     .op ⟨(some 7), (.pure (.len (.tmp 6))), none⟩,
     .op ⟨(some 8), (.pure (.bin .gtr (.tmp 7) (.const (.int .i64 (1048576))))), none⟩])
   (.cond (.tmp 8)
   (.seq (.ops [
      .op ⟨(some 2), (.pure (.mv (.const (.bool true)))), none⟩])
    (.ret))
   (.skip)))
  (.seq (.ops [
    .op ⟨(some 9), (.pure (.mv (.tmp 0))), none⟩,
    .op ⟨(some 10), (.eff (.call 8 [(.tmp 9)])), none⟩,
    .op ⟨(some 11), (.eff (.call 7 [(.tmp 10)])), none⟩,
    .op ⟨(some 3), (.pure (.mv (.tmp 11))), none⟩])
  (.seq (.ops [
    .op ⟨(some 12), (.pure (.mv (.tmp 0))), none⟩,
    .op ⟨(some 13), (.eff (.call 8 [(.tmp 12)])), none⟩,
    .op ⟨(some 4), (.pure (.mv (.tmp 13))), none⟩])
  (.seq (.ops [
    .op ⟨(some 14), (.pure (.mv (.tmp 4))), none⟩,
    .op ⟨(some 15), (.eff (.call 9 [(.tmp 14)])), none⟩,
    .op ⟨(some 5), (.pure (.mv (.tmp 15))), none⟩])
  (.seq (.seq (.ops [
     .op ⟨(some 16), (.pure (.mv (.tmp 5))), none⟩,
     .op ⟨(some 17), (.pure (.mv (.tmp 3))), none⟩,
     .op ⟨(some 18), (.pure (.eqb true (.tmp 16) (.tmp 17))), none⟩])
   (.cond (.tmp 18)
   (.seq (.ops [
      .op ⟨(some 2), (.pure (.mv (.const (.bool false)))), none⟩])
    (.ret))
   (.skip)))
  (.seq (.seq (.ops [
     .op ⟨(some 19), (.pure (.mv (.tmp 4))), none⟩,
     .op ⟨(some 20), (.pure (.mv (.tmp 0))), none⟩,
     .op ⟨(some 21), (.eff (.call 8 [(.tmp 20)])), none⟩,
     .op ⟨(some 22), (.eff (.call 10 [(.tmp 19), (.tmp 21)])), none⟩,
     .op ⟨(some 23), (.pure (.bnot (.tmp 22))), none⟩])
   (.cond (.tmp 23)
   (.seq (.ops [
      .op ⟨(some 2), (.pure (.mv (.const (.bool false)))), none⟩])
    (.ret))
   (.skip)))
  (.seq (.ops [
    .op ⟨(some 2), (.pure (.mv (.const (.bool true)))), none⟩])
  (.ret)))))))),
 [.tmp 2]⟩
theorem r_laws_FnExactIsAckScript : resFun Try.prog f_laws_FnExactIsAckScript = some c_laws_FnExactIsAckScript := by kernel_rfl

/- loop.example/g00940/laws.FnExactDoubleArrivals -/
abbrev f_laws_FnExactDoubleArrivals : Nat := 4
def c_laws_FnExactDoubleArrivals : MFun := ⟨45, .seq (.ops [
    .op ⟨(some 6), (.pure (.mv (.const (.bool false)))), none⟩])
  (.seq (.seq (.ops [
     .op ⟨(some 12), (.pure (.mv (.tmp 2))), none⟩,
     .op ⟨(some 13), (.pure (.len (.tmp 12))), none⟩,
     .op ⟨(some 14), (.pure (.bin .gtr (.tmp 13) (.const (.int .i64 (1048576))))), none⟩])
   (.cond (.tmp 14)
   (.seq (.ops [
      .op ⟨(some 6), (.pure (.mv (.const (.bool true)))), none⟩])
    (.ret))
   (.skip)))
  (.seq (.ops [
    .op ⟨(some 16), (.pure (.mv (.tmp 0))), none⟩,
    .op ⟨(some 17), (.pure (.mv (.tmp 1))), none⟩,
    .op ⟨(some 18), (.pure (.mv (.tmp 2))), none⟩,
    .op ⟨(some 19), (.eff (.call 8 [(.tmp 18)])), none⟩,
    .op ⟨(some 20), (.eff (.call 11 [(.tmp 16), (.tmp 17), (.tmp 19)])), none⟩,
    .op ⟨(some 15), (.pure (.mv (.tmp 20))), none⟩,
    .op ⟨(some 21), (.pure (.ext 0 (.tmp 15))), none⟩,
    .op ⟨(some 22), (.pure (.ext 1 (.tmp 15))), none⟩,
    .op ⟨(some 7), (.pure (.mv (.tmp 21))), none⟩,
    .op ⟨(some 8), (.pure (.mv (.tmp 22))), none⟩])
  (.seq (.ops [
    .op ⟨(some 23), (.pure (.mv (.tmp 2))), none⟩,
    .op ⟨(some 24), (.eff (.call 8 [(.tmp 23)])), none⟩,
    .op ⟨(some 9), (.pure (.mv (.tmp 24))), none⟩])
  (.seq (.ops [
    .op ⟨(some 26), (.pure (.mv (.tmp 0))), none⟩,
    .op ⟨(some 27), (.pure (.mv (.tmp 1))), none⟩,
    .op ⟨(some 28), (.pure (.mv (.tmp 9))), none⟩,
    .op ⟨(some 29), (.eff (.call 12 [(.tmp 26), (.tmp 27), (.tmp 28)])), none⟩,
    .op ⟨(some 25), (.pure (.mv (.tmp 29))), none⟩,
    .op ⟨(some 30), (.pure (.ext 0 (.tmp 25))), none⟩,
    .op ⟨(some 31), (.pure (.ext 1 (.tmp 25))), none⟩,
    .op ⟨(some 10), (.pure (.mv (.tmp 30))), none⟩,
    .op ⟨(some 11), (.pure (.mv (.tmp 31))), none⟩])
  (.seq (.seq (.ops [
     .op ⟨(some 32), (.pure (.mv (.tmp 10))), none⟩,
     .op ⟨(some 33), (.pure (.mv (.tmp 7))), none⟩,
     .op ⟨(some 34), (.pure (.bin .neq (.tmp 32) (.tmp 33))), none⟩,
     .op ⟨(some 35), (.pure (.mv (.tmp 34))), none⟩,
     .split 35,
     .op ⟨(some 36), (.pure (.mv (.tmp 11))), (some (35, false))⟩,
     .op ⟨(some 37), (.pure (.mv (.tmp 8))), (some (35, false))⟩,
     .op ⟨(some 38), (.pure (.eqb true (.tmp 36) (.tmp 37))), (some (35, false))⟩,
     .op ⟨(some 39), (.pure (.pick (.tmp 35) (.const (.bool true)) (.tmp 38))), none⟩])
   (.cond (.tmp 39)
   (.seq (.ops [
      .op ⟨(some 6), (.pure (.mv (.const (.bool false)))), none⟩])
    (.ret))
   (.skip)))
  (.seq (.seq (.ops [
     .op ⟨(some 40), (.pure (.mv (.tmp 9))), none⟩,
     .op ⟨(some 41), (.pure (.mv (.tmp 2))), none⟩,
     .op ⟨(some 42), (.eff (.call 8 [(.tmp 41)])), none⟩,
     .op ⟨(some 43), (.eff (.call 10 [(.tmp 40), (.tmp 42)])), none⟩,
     .op ⟨(some 44), (.pure (.bnot (.tmp 43))), none⟩])
   (.cond (.tmp 44)
   (.seq (.ops [
      .op ⟨(some 6), (.pure (.mv (.const (.bool false)))), none⟩])
    (.ret))
   (.skip)))
  (.seq (.ops [
    .op ⟨(some 6), (.pure (.mv (.const (.bool true)))), none⟩])
  (.ret)))))))),
 [.tmp 6]⟩
theorem r_laws_FnExactDoubleArrivals : resFun Try.prog f_laws_FnExactDoubleArrivals = some c_laws_FnExactDoubleArrivals := by kernel_rfl

/- loop.example/g00940/laws.FnExactPacketsSent -/
abbrev f_laws_FnExactPacketsSent : Nat := 5
def c_laws_FnExactPacketsSent : MFun := ⟨45, .seq (.ops [
    .op ⟨(some 6), (.pure (.mv (.const (.bool false)))), none⟩])
  (.seq (.seq (.ops [
     .op ⟨(some 12), (.pure (.mv (.tmp 2))), none⟩,
     .op ⟨(some 13), (.pure (.len (.tmp 12))), none⟩,
     .op ⟨(some 14), (.pure (.bin .gtr (.tmp 13) (.const (.int .i64 (1048576))))), none⟩])
   (.cond (.tmp 14)
   (.seq (.ops [
      .op ⟨(some 6), (.pure (.mv (.const (.bool true)))), none⟩])
    (.ret))
   (.skip)))
  (.seq (.ops [
    .op ⟨(some 16), (.pure (.mv (.tmp 0))), none⟩,
    .op ⟨(some 17), (.pure (.mv (.tmp 1))), none⟩,
    .op ⟨(some 18), (.pure (.mv (.tmp 2))), none⟩,
    .op ⟨(some 19), (.eff (.call 8 [(.tmp 18)])), none⟩,
    .op ⟨(some 20), (.eff (.call 13 [(.tmp 16), (.tmp 17), (.tmp 19)])), none⟩,
    .op ⟨(some 15), (.pure (.mv (.tmp 20))), none⟩,
    .op ⟨(some 21), (.pure (.ext 0 (.tmp 15))), none⟩,
    .op ⟨(some 22), (.pure (.ext 1 (.tmp 15))), none⟩,
    .op ⟨(some 7), (.pure (.mv (.tmp 21))), none⟩,
    .op ⟨(some 8), (.pure (.mv (.tmp 22))), none⟩])
  (.seq (.ops [
    .op ⟨(some 23), (.pure (.mv (.tmp 2))), none⟩,
    .op ⟨(some 24), (.eff (.call 8 [(.tmp 23)])), none⟩,
    .op ⟨(some 9), (.pure (.mv (.tmp 24))), none⟩])
  (.seq (.ops [
    .op ⟨(some 26), (.pure (.mv (.tmp 0))), none⟩,
    .op ⟨(some 27), (.pure (.mv (.tmp 1))), none⟩,
    .op ⟨(some 28), (.pure (.mv (.tmp 9))), none⟩,
    .op ⟨(some 29), (.eff (.call 14 [(.tmp 26), (.tmp 27), (.tmp 28)])), none⟩,
    .op ⟨(some 25), (.pure (.mv (.tmp 29))), none⟩,
    .op ⟨(some 30), (.pure (.ext 0 (.tmp 25))), none⟩,
    .op ⟨(some 31), (.pure (.ext 1 (.tmp 25))), none⟩,
    .op ⟨(some 10), (.pure (.mv (.tmp 30))), none⟩,
    .op ⟨(some 11), (.pure (.mv (.tmp 31))), none⟩])
  (.seq (.seq (.ops [
     .op ⟨(some 32), (.pure (.mv (.tmp 10))), none⟩,
     .op ⟨(some 33), (.pure (.mv (.tmp 7))), none⟩,
     .op ⟨(some 34), (.pure (.bin .neq (.tmp 32) (.tmp 33))), none⟩,
     .op ⟨(some 35), (.pure (.mv (.tmp 34))), none⟩,
     .split 35,
     .op ⟨(some 36), (.pure (.mv (.tmp 11))), (some (35, false))⟩,
     .op ⟨(some 37), (.pure (.mv (.tmp 8))), (some (35, false))⟩,
     .op ⟨(some 38), (.pure (.eqb true (.tmp 36) (.tmp 37))), (some (35, false))⟩,
     .op ⟨(some 39), (.pure (.pick (.tmp 35) (.const (.bool true)) (.tmp 38))), none⟩])
   (.cond (.tmp 39)
   (.seq (.ops [
      .op ⟨(some 6), (.pure (.mv (.const (.bool false)))), none⟩])
    (.ret))
   (.skip)))
  (.seq (.seq (.ops [
     .op ⟨(some 40), (.pure (.mv (.tmp 9))), none⟩,
     .op ⟨(some 41), (.pure (.mv (.tmp 2))), none⟩,
     .op ⟨(some 42), (.eff (.call 8 [(.tmp 41)])), none⟩,
     .op ⟨(some 43), (.eff (.call 10 [(.tmp 40), (.tmp 42)])), none⟩,
     .op ⟨(some 44), (.pure (.bnot (.tmp 43))), none⟩])
   (.cond (.tmp 44)
   (.seq (.ops [
      .op ⟨(some 6), (.pure (.mv (.const (.bool false)))), none⟩])
    (.ret))
   (.skip)))
  (.seq (.ops [
    .op ⟨(some 6), (.pure (.mv (.const (.bool true)))), none⟩])
  (.ret)))))))),
 [.tmp 6]⟩
theorem r_laws_FnExactPacketsSent : resFun Try.prog f_laws_FnExactPacketsSent = some c_laws_FnExactPacketsSent := by kernel_rfl

/- loop.example/g00940/laws.FnExactRoundsNeeded -/
abbrev f_laws_FnExactRoundsNeeded : Nat := 6
def c_laws_FnExactRoundsNeeded : MFun := ⟨45, .seq (.ops [
    .op ⟨(some 6), (.pure (.mv (.const (.bool false)))), none⟩])
  (.seq (.seq (.ops [
     .op ⟨(some 12), (.pure (.mv (.tmp 2))), none⟩,
     .op ⟨(some 13), (.pure (.len (.tmp 12))), none⟩,
     .op ⟨(some 14), (.pure (.bin .gtr (.tmp 13) (.const (.int .i64 (1048576))))), none⟩])
   (.cond (.tmp 14)
   (.seq (.ops [
      .op ⟨(some 6), (.pure (.mv (.const (.bool true)))), none⟩])
    (.ret))
   (.skip)))
  (.seq (.ops [
    .op ⟨(some 16), (.pure (.mv (.tmp 0))), none⟩,
    .op ⟨(some 17), (.pure (.mv (.tmp 1))), none⟩,
    .op ⟨(some 18), (.pure (.mv (.tmp 2))), none⟩,
    .op ⟨(some 19), (.eff (.call 8 [(.tmp 18)])), none⟩,
    .op ⟨(some 20), (.eff (.call 15 [(.tmp 16), (.tmp 17), (.tmp 19)])), none⟩,
    .op ⟨(some 15), (.pure (.mv (.tmp 20))), none⟩,
    .op ⟨(some 21), (.pure (.ext 0 (.tmp 15))), none⟩,
    .op ⟨(some 22), (.pure (.ext 1 (.tmp 15))), none⟩,
    .op ⟨(some 7), (.pure (.mv (.tmp 21))), none⟩,
    .op ⟨(some 8), (.pure (.mv (.tmp 22))), none⟩])
  (.seq (.ops [
    .op ⟨(some 23), (.pure (.mv (.tmp 2))), none⟩,
    .op ⟨(some 24), (.eff (.call 8 [(.tmp 23)])), none⟩,
    .op ⟨(some 9), (.pure (.mv (.tmp 24))), none⟩])
  (.seq (.ops [
    .op ⟨(some 26), (.pure (.mv (.tmp 0))), none⟩,
    .op ⟨(some 27), (.pure (.mv (.tmp 1))), none⟩,
    .op ⟨(some 28), (.pure (.mv (.tmp 9))), none⟩,
    .op ⟨(some 29), (.eff (.call 16 [(.tmp 26), (.tmp 27), (.tmp 28)])), none⟩,
    .op ⟨(some 25), (.pure (.mv (.tmp 29))), none⟩,
    .op ⟨(some 30), (.pure (.ext 0 (.tmp 25))), none⟩,
    .op ⟨(some 31), (.pure (.ext 1 (.tmp 25))), none⟩,
    .op ⟨(some 10), (.pure (.mv (.tmp 30))), none⟩,
    .op ⟨(some 11), (.pure (.mv (.tmp 31))), none⟩])
  (.seq (.seq (.ops [
     .op ⟨(some 32), (.pure (.mv (.tmp 10))), none⟩,
     .op ⟨(some 33), (.pure (.mv (.tmp 7))), none⟩,
     .op ⟨(some 34), (.pure (.bin .neq (.tmp 32) (.tmp 33))), none⟩,
     .op ⟨(some 35), (.pure (.mv (.tmp 34))), none⟩,
     .split 35,
     .op ⟨(some 36), (.pure (.mv (.tmp 11))), (some (35, false))⟩,
     .op ⟨(some 37), (.pure (.mv (.tmp 8))), (some (35, false))⟩,
     .op ⟨(some 38), (.pure (.eqb true (.tmp 36) (.tmp 37))), (some (35, false))⟩,
     .op ⟨(some 39), (.pure (.pick (.tmp 35) (.const (.bool true)) (.tmp 38))), none⟩])
   (.cond (.tmp 39)
   (.seq (.ops [
      .op ⟨(some 6), (.pure (.mv (.const (.bool false)))), none⟩])
    (.ret))
   (.skip)))
  (.seq (.seq (.ops [
     .op ⟨(some 40), (.pure (.mv (.tmp 9))), none⟩,
     .op ⟨(some 41), (.pure (.mv (.tmp 2))), none⟩,
     .op ⟨(some 42), (.eff (.call 8 [(.tmp 41)])), none⟩,
     .op ⟨(some 43), (.eff (.call 10 [(.tmp 40), (.tmp 42)])), none⟩,
     .op ⟨(some 44), (.pure (.bnot (.tmp 43))), none⟩])
   (.cond (.tmp 44)
   (.seq (.ops [
      .op ⟨(some 6), (.pure (.mv (.const (.bool false)))), none⟩])
    (.ret))
   (.skip)))
  (.seq (.ops [
    .op ⟨(some 6), (.pure (.mv (.const (.bool true)))), none⟩])
  (.ret)))))))),
 [.tmp 6]⟩
theorem r_laws_FnExactRoundsNeeded : resFun Try.prog f_laws_FnExactRoundsNeeded = some c_laws_FnExactRoundsNeeded := by kernel_rfl

/- loop.example/g00940/spec.IsAckScript -/
abbrev f_spec_IsAckScript : Nat := 7
def c_spec_IsAckScript : MFun := ⟨5, .seq (.ops [
    .op ⟨(some 2), (.pure (.mv (.const (.bool false)))), none⟩])
  (.seq (.ops [
    .op ⟨(some 3), (.pure (.mv (.tmp 0))), none⟩,
    .op ⟨(some 4), (.eff (.call 17 [(.tmp 3)])), none⟩,
    .op ⟨(some 2), (.pure (.mv (.tmp 4))), none⟩])
  (.ret)),
 [.tmp 2]⟩
theorem r_spec_IsAckScript : resFun Try.prog f_spec_IsAckScript = some c_spec_IsAckScript := by kernel_rfl

/- loop.example/g00940/laws.toIntS -/
abbrev f_laws_toIntS : Nat := 8
def c_laws_toIntS : MFun := ⟨22, .seq (.ops [
    .op ⟨(some 2), (.pure (.mv (.const (.slice none 0 0)))), none⟩])
  (.seq (.ops [
    .op ⟨(some 5), (.pure (.mv (.tmp 0))), none⟩,
    .op ⟨(some 6), (.pure (.len (.tmp 5))), none⟩,
    .op ⟨(some 7), (.eff (.mk 3 1 8 [(.int .i64 (0))] (.tmp 6) (.tmp 6))), none⟩,
    .op ⟨(some 3), (.pure (.mv (.tmp 7))), none⟩])
  (.seq (.seq (.ops [
     .op ⟨(some 4), (.pure (.mv (.const (.int .i64 (0))))), none⟩])
   (.block 0 (.loop (.seq (.seq (.ops [
      .op ⟨(some 8), (.pure (.mv (.tmp 4))), none⟩,
      .op ⟨(some 9), (.pure (.mv (.tmp 0))), none⟩,
      .op ⟨(some 10), (.pure (.len (.tmp 9))), none⟩,
      .op ⟨(some 11), (.pure (.bin .lss (.tmp 8) (.tmp 10))), none⟩])
    (.cond (.tmp 11)
    (.skip)
    (.exit 0)))
   (.seq (.block 1 (.ops [
     .op ⟨(some 14), (.pure (.mv (.tmp 3))), none⟩,
     .op ⟨(some 15), (.pure (.mv (.tmp 4))), none⟩,
     .op ⟨(some 16), (.pure (.mv (.tmp 0))), none⟩,
     .op ⟨(some 17), (.pure (.mv (.tmp 4))), none⟩,
     .op ⟨(some 18), (.pure (.idx 1 (.tmp 16) (.tmp 17))), none⟩,
     .op ⟨(some 19), (.load none (.tmp 18)), none⟩,
     .op ⟨(some 20), (.pure (.idx 1 (.tmp 14) (.tmp 15))), none⟩,
     .op ⟨none, (.eff (.store 1 (.tmp 20) (.tmp 19))), none⟩]))
   (.ops [
    .op ⟨(some 12), (.pure (.mv (.tmp 4))), none⟩,
    .op ⟨(some 13), (.pure (.bin .add (.tmp 12) (.const (.int .i64 (1))))), none⟩,
    .op ⟨(some 4), (.pure (.mv (.tmp 13))), none⟩]))))))
  (.seq (.ops [
    .op ⟨(some 21), (.pure (.mv (.tmp 3))), none⟩,
    .op ⟨(some 2), (.pure (.mv (.tmp 21))), none⟩])
  (.ret)))),
 [.tmp 2]⟩
theorem r_laws_toIntS : resFun Try.prog f_laws_toIntS = some c_laws_toIntS := by kernel_rfl

/- loop.example/g00940/impl.IsAckScript -/
abbrev f_impl_IsAckScript : Nat := 9
def c_impl_IsAckScript : MFun := ⟨10, .seq (.ops [
    .op ⟨(some 2), (.pure (.mv (.const (.bool false)))), none⟩])
  (.seq (.ops [
    .op ⟨(some 3), (.pure (.mv (.tmp 0))), none⟩,
    .op ⟨(some 4), (.pure (.len (.tmp 3))), none⟩,
    .op ⟨(some 5), (.pure (.bin .leq (.tmp 4) (.const (.int .i64 (30))))), none⟩,
    .op ⟨(some 6), (.pure (.mv (.tmp 5))), none⟩,
    .split 6,
    .op ⟨(some 7), (.pure (.mv (.tmp 0))), (some (6, true))⟩,
    .op ⟨(some 8), (.eff (.call 18 [(.tmp 7), (.const (.int .i64 (0))), (.const (.int .i64 (1023)))])), (some (6, true))⟩,
    .op ⟨(some 9), (.pure (.pick (.tmp 6) (.tmp 8) (.const (.bool false)))), none⟩,
    .op ⟨(some 2), (.pure (.mv (.tmp 9))), none⟩])
  (.ret)),
 [.tmp 2]⟩
theorem r_impl_IsAckScript : resFun Try.prog f_impl_IsAckScript = some c_impl_IsAckScript := by kernel_rfl

/- loop.example/g00940/laws.eqIntS -/
abbrev f_laws_eqIntS : Nat := 10
def c_laws_eqIntS : MFun := ⟨26, .seq (.ops [
    .op ⟨(some 4), (.pure (.mv (.const (.bool false)))), none⟩])
  (.seq (.seq (.ops [
     .op ⟨(some 6), (.pure (.mv (.tmp 0))), none⟩,
     .op ⟨(some 7), (.pure (.len (.tmp 6))), none⟩,
     .op ⟨(some 8), (.pure (.mv (.tmp 1))), none⟩,
     .op ⟨(some 9), (.pure (.len (.tmp 8))), none⟩,
     .op ⟨(some 10), (.pure (.bin .neq (.tmp 7) (.tmp 9))), none⟩])
   (.cond (.tmp 10)
   (.seq (.ops [
      .op ⟨(some 4), (.pure (.mv (.const (.bool false)))), none⟩])
    (.ret))
   (.skip)))
  (.seq (.seq (.ops [
     .op ⟨(some 5), (.pure (.mv (.const (.int .i64 (0))))), none⟩])
   (.block 0 (.loop (.seq (.seq (.ops [
      .op ⟨(some 11), (.pure (.mv (.tmp 5))), none⟩,
      .op ⟨(some 12), (.pure (.mv (.tmp 0))), none⟩,
      .op ⟨(some 13), (.pure (.len (.tmp 12))), none⟩,
      .op ⟨(some 14), (.pure (.bin .lss (.tmp 11) (.tmp 13))), none⟩])
    (.cond (.tmp 14)
    (.skip)
    (.exit 0)))
   (.seq (.block 1 (.seq (.ops [
      .op ⟨(some 17), (.pure (.mv (.tmp 0))), none⟩,
      .op ⟨(some 18), (.pure (.mv (.tmp 5))), none⟩,
      .op ⟨(some 19), (.pure (.idx 1 (.tmp 17) (.tmp 18))), none⟩,
      .op ⟨(some 21), (.pure (.mv (.tmp 1))), none⟩,
      .op ⟨(some 22), (.pure (.mv (.tmp 5))), none⟩,
      .op ⟨(some 23), (.pure (.idx 1 (.tmp 21) (.tmp 22))), none⟩,
      .op ⟨(some 20), (.load none (.tmp 19)), none⟩,
      .op ⟨(some 24), (.load none (.tmp 23)), none⟩,
      .op ⟨(some 25), (.pure (.bin .neq (.tmp 20) (.tmp 24))), none⟩])
    (.cond (.tmp 25)
    (.seq (.ops [
       .op ⟨(some 4), (.pure (.mv (.const (.bool false)))), none⟩])
     (.ret))
    (.skip))))
   (.ops [
    .op ⟨(some 15), (.pure (.mv (.tmp 5))), none⟩,
    .op ⟨(some 16), (.pure (.bin .add (.tmp 15) (.const (.int .i64 (1))))), none⟩,
    .op ⟨(some 5), (.pure (.mv (.tmp 16))), none⟩]))))))
  (.seq (.ops [
    .op ⟨(some 4), (.pure (.mv (.const (.bool true)))), none⟩])
  (.ret)))),
 [.tmp 4]⟩
theorem r_laws_eqIntS : resFun Try.prog f_laws_eqIntS = some c_laws_eqIntS := by kernel_rfl

/- loop.example/g00940/spec.DoubleArrivals -/
abbrev f_spec_DoubleArrivals : Nat := 11
def c_spec_DoubleArrivals : MFun := ⟨20, .seq (.ops [
    .op ⟨(some 6), (.pure (.mv (.const (.int .i64 (0))))), none⟩,
    .op ⟨(some 7), (.pure (.mv (.const (.bool false)))), none⟩])
  (.seq (.seq (.ops [
     .op ⟨(some 8), (.pure (.mv (.tmp 0))), none⟩,
     .op ⟨(some 9), (.pure (.mv (.tmp 1))), none⟩,
     .op ⟨(some 10), (.pure (.mv (.tmp 2))), none⟩,
     .op ⟨(some 11), (.eff (.call 19 [(.tmp 8), (.tmp 9), (.tmp 10)])), none⟩,
     .op ⟨(some 12), (.pure (.bnot (.tmp 11))), none⟩])
   (.cond (.tmp 12)
   (.seq (.ops [
      .op ⟨(some 6), (.pure (.mv (.const (.int .i64 (0))))), none⟩,
      .op ⟨(some 7), (.pure (.mv (.const (.bool false)))), none⟩])
    (.ret))
   (.skip)))
  (.seq (.ops [
    .op ⟨(some 13), (.pure (.mv (.tmp 0))), none⟩,
    .op ⟨(some 14), (.pure (.mv (.tmp 1))), none⟩,
    .op ⟨(some 15), (.pure (.mv (.tmp 2))), none⟩,
    .op ⟨(some 16), (.eff (.call 20 [(.tmp 13), (.tmp 14), (.tmp 15)])), none⟩,
    .op ⟨(some 17), (.pure (.nilc (.tmp 16))), none⟩,
    .op ⟨(some 18), (.pure (.fieldAddr 4 (.tmp 17))), none⟩,
    .op ⟨(some 19), (.load none (.tmp 18)), none⟩,
    .op ⟨(some 6), (.pure (.mv (.tmp 19))), none⟩,
    .op ⟨(some 7), (.pure (.mv (.const (.bool true)))), none⟩])
  (.ret))),
 [.tmp 6, .tmp 7]⟩
theorem r_spec_DoubleArrivals : resFun Try.prog f_spec_DoubleArrivals = some c_spec_DoubleArrivals := by kernel_rfl

/- loop.example/g00940/impl.DoubleArrivals -/
abbrev f_impl_DoubleArrivals : Nat := 12
def c_impl_DoubleArrivals : MFun := ⟨18, .seq (.ops [
    .op ⟨(some 6), (.pure (.mv (.const (.int .i64 (0))))), none⟩,
    .op ⟨(some 7), (.pure (.mv (.const (.bool false)))), none⟩])
  (.seq (.seq (.ops [
     .op ⟨(some 8), (.pure (.mv (.tmp 0))), none⟩,
     .op ⟨(some 9), (.pure (.mv (.tmp 1))), none⟩,
     .op ⟨(some 10), (.pure (.mv (.tmp 2))), none⟩,
     .op ⟨(some 11), (.eff (.call 21 [(.tmp 8), (.tmp 9), (.tmp 10), (.const (.int .i64 (0)))])), none⟩,
     .op ⟨(some 12), (.pure (.bnot (.tmp 11))), none⟩])
   (.cond (.tmp 12)
   (.seq (.ops [
      .op ⟨(some 6), (.pure (.mv (.const (.int .i64 (0))))), none⟩,
      .op ⟨(some 7), (.pure (.mv (.const (.bool false)))), none⟩])
    (.ret))
   (.skip)))
  (.seq (.ops [
    .op ⟨(some 13), (.pure (.mv (.tmp 0))), none⟩,
    .op ⟨(some 14), (.pure (.mv (.tmp 1))), none⟩,
    .op ⟨(some 15), (.pure (.mv (.tmp 2))), none⟩,
    .op ⟨(some 16), (.eff (.call 22 [(.tmp 13), (.tmp 14), (.tmp 15), (.const (.int .i64 (1000)))])), none⟩,
    .op ⟨(some 17), (.pure (.field 4 none (.tmp 16))), none⟩,
    .op ⟨(some 6), (.pure (.mv (.tmp 17))), none⟩,
    .op ⟨(some 7), (.pure (.mv (.const (.bool true)))), none⟩])
  (.ret))),
 [.tmp 6, .tmp 7]⟩
theorem r_impl_DoubleArrivals : resFun Try.prog f_impl_DoubleArrivals = some c_impl_DoubleArrivals := by kernel_rfl

/- loop.example/g00940/spec.PacketsSent -/
abbrev f_spec_PacketsSent : Nat := 13
def c_spec_PacketsSent : MFun := ⟨20, .seq (.ops [
    .op ⟨(some 6), (.pure (.mv (.const (.int .i64 (0))))), none⟩,
    .op ⟨(some 7), (.pure (.mv (.const (.bool false)))), none⟩])
  (.seq (.seq (.ops [
     .op ⟨(some 8), (.pure (.mv (.tmp 0))), none⟩,
     .op ⟨(some 9), (.pure (.mv (.tmp 1))), none⟩,
     .op ⟨(some 10), (.pure (.mv (.tmp 2))), none⟩,
     .op ⟨(some 11), (.eff (.call 19 [(.tmp 8), (.tmp 9), (.tmp 10)])), none⟩,
     .op ⟨(some 12), (.pure (.bnot (.tmp 11))), none⟩])
   (.cond (.tmp 12)
   (.seq (.ops [
      .op ⟨(some 6), (.pure (.mv (.const (.int .i64 (0))))), none⟩,
      .op ⟨(some 7), (.pure (.mv (.const (.bool false)))), none⟩])
    (.ret))
   (.skip)))
  (.seq (.ops [
    .op ⟨(some 13), (.pure (.mv (.tmp 0))), none⟩,
    .op ⟨(some 14), (.pure (.mv (.tmp 1))), none⟩,
    .op ⟨(some 15), (.pure (.mv (.tmp 2))), none⟩,
    .op ⟨(some 16), (.eff (.call 20 [(.tmp 13), (.tmp 14), (.tmp 15)])), none⟩,
    .op ⟨(some 17), (.pure (.nilc (.tmp 16))), none⟩,
    .op ⟨(some 18), (.pure (.fieldAddr 3 (.tmp 17))), none⟩,
    .op ⟨(some 19), (.load none (.tmp 18)), none⟩,
    .op ⟨(some 6), (.pure (.mv (.tmp 19))), none⟩,
    .op ⟨(some 7), (.pure (.mv (.const (.bool true)))), none⟩])
  (.ret))),
 [.tmp 6, .tmp 7]⟩
theorem r_spec_PacketsSent : resFun Try.prog f_spec_PacketsSent = some c_spec_PacketsSent := by kernel_rfl

/- loop.example/g00940/impl.PacketsSent -/
abbrev f_impl_PacketsSent : Nat := 14
def c_impl_PacketsSent : MFun := ⟨18, .seq (.ops [
    .op ⟨(some 6), (.pure (.mv (.const (.int .i64 (0))))), none⟩,
    .op ⟨(some 7), (.pure (.mv (.const (.bool false)))), none⟩])
  (.seq (.seq (.ops [
     .op ⟨(some 8), (.pure (.mv (.tmp 0))), none⟩,
     .op ⟨(some 9), (.pure (.mv (.tmp 1))), none⟩,
     .op ⟨(some 10), (.pure (.mv (.tmp 2))), none⟩,
     .op ⟨(some 11), (.eff (.call 21 [(.tmp 8), (.tmp 9), (.tmp 10), (.const (.int .i64 (0)))])), none⟩,
     .op ⟨(some 12), (.pure (.bnot (.tmp 11))), none⟩])
   (.cond (.tmp 12)
   (.seq (.ops [
      .op ⟨(some 6), (.pure (.mv (.const (.int .i64 (0))))), none⟩,
      .op ⟨(some 7), (.pure (.mv (.const (.bool false)))), none⟩])
    (.ret))
   (.skip)))
  (.seq (.ops [
    .op ⟨(some 13), (.pure (.mv (.tmp 0))), none⟩,
    .op ⟨(some 14), (.pure (.mv (.tmp 1))), none⟩,
    .op ⟨(some 15), (.pure (.mv (.tmp 2))), none⟩,
    .op ⟨(some 16), (.eff (.call 22 [(.tmp 13), (.tmp 14), (.tmp 15), (.const (.int .i64 (1000)))])), none⟩,
    .op ⟨(some 17), (.pure (.field 3 none (.tmp 16))), none⟩,
    .op ⟨(some 6), (.pure (.mv (.tmp 17))), none⟩,
    .op ⟨(some 7), (.pure (.mv (.const (.bool true)))), none⟩])
  (.ret))),
 [.tmp 6, .tmp 7]⟩
theorem r_impl_PacketsSent : resFun Try.prog f_impl_PacketsSent = some c_impl_PacketsSent := by kernel_rfl

/- loop.example/g00940/spec.RoundsNeeded -/
abbrev f_spec_RoundsNeeded : Nat := 15
def c_spec_RoundsNeeded : MFun := ⟨20, .seq (.ops [
    .op ⟨(some 6), (.pure (.mv (.const (.int .i64 (0))))), none⟩,
    .op ⟨(some 7), (.pure (.mv (.const (.bool false)))), none⟩])
  (.seq (.seq (.ops [
     .op ⟨(some 8), (.pure (.mv (.tmp 0))), none⟩,
     .op ⟨(some 9), (.pure (.mv (.tmp 1))), none⟩,
     .op ⟨(some 10), (.pure (.mv (.tmp 2))), none⟩,
     .op ⟨(some 11), (.eff (.call 19 [(.tmp 8), (.tmp 9), (.tmp 10)])), none⟩,
     .op ⟨(some 12), (.pure (.bnot (.tmp 11))), none⟩])
   (.cond (.tmp 12)
   (.seq (.ops [
      .op ⟨(some 6), (.pure (.mv (.const (.int .i64 (0))))), none⟩,
      .op ⟨(some 7), (.pure (.mv (.const (.bool false)))), none⟩])
    (.ret))
   (.skip)))
  (.seq (.ops [
    .op ⟨(some 13), (.pure (.mv (.tmp 0))), none⟩,
    .op ⟨(some 14), (.pure (.mv (.tmp 1))), none⟩,
    .op ⟨(some 15), (.pure (.mv (.tmp 2))), none⟩,
    .op ⟨(some 16), (.eff (.call 20 [(.tmp 13), (.tmp 14), (.tmp 15)])), none⟩,
    .op ⟨(some 17), (.pure (.nilc (.tmp 16))), none⟩,
    .op ⟨(some 18), (.pure (.fieldAddr 2 (.tmp 17))), none⟩,
    .op ⟨(some 19), (.load none (.tmp 18)), none⟩,
    .op ⟨(some 6), (.pure (.mv (.tmp 19))), none⟩,
    .op ⟨(some 7), (.pure (.mv (.const (.bool true)))), none⟩])
  (.ret))),
 [.tmp 6, .tmp 7]⟩
theorem r_spec_RoundsNeeded : resFun Try.prog f_spec_RoundsNeeded = some c_spec_RoundsNeeded := by kernel_rfl

/- loop.example/g00940/impl.RoundsNeeded -/
abbrev f_impl_RoundsNeeded : Nat := 16
def c_impl_RoundsNeeded : MFun := ⟨18, .seq (.ops [
    .op ⟨(some 6), (.pure (.mv (.const (.int .i64 (0))))), none⟩,
    .op ⟨(some 7), (.pure (.mv (.const (.bool false)))), none⟩])
  (.seq (.seq (.ops [
     .op ⟨(some 8), (.pure (.mv (.tmp 0))), none⟩,
     .op ⟨(some 9), (.pure (.mv (.tmp 1))), none⟩,
     .op ⟨(some 10), (.pure (.mv (.tmp 2))), none⟩,
     .op ⟨(some 11), (.eff (.call 21 [(.tmp 8), (.tmp 9), (.tmp 10), (.const (.int .i64 (0)))])), none⟩,
     .op ⟨(some 12), (.pure (.bnot (.tmp 11))), none⟩])
   (.cond (.tmp 12)
   (.seq (.ops [
      .op ⟨(some 6), (.pure (.mv (.const (.int .i64 (0))))), none⟩,
      .op ⟨(some 7), (.pure (.mv (.const (.bool false)))), none⟩])
    (.ret))
   (.skip)))
  (.seq (.ops [
    .op ⟨(some 13), (.pure (.mv (.tmp 0))), none⟩,
    .op ⟨(some 14), (.pure (.mv (.tmp 1))), none⟩,
    .op ⟨(some 15), (.pure (.mv (.tmp 2))), none⟩,
    .op ⟨(some 16), (.eff (.call 22 [(.tmp 13), (.tmp 14), (.tmp 15), (.const (.int .i64 (1000)))])), none⟩,
    .op ⟨(some 17), (.pure (.field 2 none (.tmp 16))), none⟩,
    .op ⟨(some 6), (.pure (.mv (.tmp 17))), none⟩,
    .op ⟨(some 7), (.pure (.mv (.const (.bool true)))), none⟩])
  (.ret))),
 [.tmp 6, .tmp 7]⟩
theorem r_impl_RoundsNeeded : resFun Try.prog f_impl_RoundsNeeded = some c_impl_RoundsNeeded := by kernel_rfl

/- loop.example/g00940/spec.akScript -/
abbrev f_spec_akScript : Nat := 17
def c_spec_akScript : MFun := ⟨10, .seq (.ops [
    .op ⟨(some 2), (.pure (.mv (.const (.bool false)))), none⟩])
  (.seq (.ops [
    .op ⟨(some 3), (.pure (.mv (.tmp 0))), none⟩,
    .op ⟨(some 4), (.pure (.len (.tmp 3))), none⟩,
    .op ⟨(some 5), (.pure (.bin .leq (.tmp 4) (.const (.int .i64 (30))))), none⟩,
    .op ⟨(some 6), (.pure (.mv (.tmp 5))), none⟩,
    .split 6,
    .op ⟨(some 7), (.pure (.mv (.tmp 0))), (some (6, true))⟩,
    .op ⟨(some 8), (.eff (.call 23 [(.tmp 7), (.const (.int .i64 (0))), (.const (.int .i64 (1023)))])), (some (6, true))⟩,
    .op ⟨(some 9), (.pure (.pick (.tmp 6) (.tmp 8) (.const (.bool false)))), none⟩,
    .op ⟨(some 2), (.pure (.mv (.tmp 9))), none⟩])
  (.ret)),
 [.tmp 2]⟩
theorem r_spec_akScript : resFun Try.prog f_spec_akScript = some c_spec_akScript := by kernel_rfl

/- loop.example/g00940/impl.allWithin -/
abbrev f_impl_allWithin : Nat := 18
def c_impl_allWithin : MFun := ⟨21, .seq (.ops [
    .op ⟨(some 6), (.pure (.mv (.const (.bool false)))), none⟩])
  (.seq (.seq (.ops [
     .op ⟨(some 9), (.pure (.mv (.tmp 0))), none⟩,
     .op ⟨(some 10), (.pure (.len (.tmp 9))), none⟩,
     .op ⟨(some 11), (.pure (.mv (.const (.int .i64 (0))))), none⟩])
   (.block 0 (.loop (.seq (.ops [
     .op ⟨(some 12), (.pure (.bin .lss (.tmp 11) (.tmp 10))), none⟩])
   (.seq (.cond (.tmp 12)
    (.skip)
    (.exit 0))
   (.seq (.block 1 (.seq (.ops [
      .op ⟨(some 13), (.pure (.idx 1 (.tmp 9) (.tmp 11))), none⟩,
      .op ⟨(some 14), (.load none (.tmp 13)), none⟩,
      .op ⟨(some 8), (.pure (.mv (.tmp 14))), none⟩])
    (.seq (.ops [
      .op ⟨(some 15), (.pure (.mv (.tmp 8))), none⟩,
      .op ⟨(some 16), (.pure (.mv (.tmp 1))), none⟩,
      .op ⟨(some 17), (.pure (.mv (.tmp 2))), none⟩,
      .op ⟨(some 18), (.eff (.call 24 [(.tmp 15), (.tmp 16), (.tmp 17)])), none⟩,
      .op ⟨(some 19), (.pure (.bnot (.tmp 18))), none⟩])
    (.cond (.tmp 19)
    (.seq (.ops [
       .op ⟨(some 6), (.pure (.mv (.const (.bool false)))), none⟩])
     (.ret))
    (.skip)))))
   (.ops [
    .op ⟨(some 20), (.pure (.bin .add (.tmp 11) (.const (.int .i64 (1))))), none⟩,
    .op ⟨(some 11), (.pure (.mv (.tmp 20))), none⟩])))))))
  (.seq (.ops [
    .op ⟨(some 6), (.pure (.mv (.const (.bool true)))), none⟩])
  (.ret))),
 [.tmp 6]⟩
theorem r_impl_allWithin : resFun Try.prog f_impl_allWithin = some c_impl_allWithin := by kernel_rfl

/- loop.example/g00940/spec.akGood -/
abbrev f_spec_akGood : Nat := 19
def c_spec_akGood : MFun := ⟨17, .seq (.ops [
    .op ⟨(some 6), (.pure (.mv (.const (.bool false)))), none⟩])
  (.seq (.ops [
    .op ⟨(some 7), (.pure (.mv (.tmp 0))), none⟩,
    .op ⟨(some 8), (.eff (.call 25 [(.tmp 7), (.const (.int .i64 (1))), (.const (.int .i64 (9)))])), none⟩,
    .op ⟨(some 9), (.pure (.mv (.tmp 8))), none⟩,
    .split 9,
    .op ⟨(some 10), (.pure (.mv (.tmp 1))), (some (9, true))⟩,
    .op ⟨(some 11), (.eff (.call 25 [(.tmp 10), (.const (.int .i64 (1))), (.const (.int .i64 (9)))])), (some (9, true))⟩,
    .op ⟨(some 12), (.pure (.pick (.tmp 9) (.tmp 11) (.const (.bool false)))), none⟩,
    .op ⟨(some 13), (.pure (.mv (.tmp 12))), none⟩,
    .split 13,
    .op ⟨(some 14), (.pure (.mv (.tmp 2))), (some (13, true))⟩,
    .op ⟨(some 15), (.eff (.call 17 [(.tmp 14)])), (some (13, true))⟩,
    .op ⟨(some 16), (.pure (.pick (.tmp 13) (.tmp 15) (.const (.bool false)))), none⟩,
    .op ⟨(some 6), (.pure (.mv (.tmp 16))), none⟩])
  (.ret)),
 [.tmp 6]⟩
theorem r_spec_akGood : resFun Try.prog f_spec_akGood = some c_spec_akGood := by kernel_rfl

/- loop.example/g00940/spec.akAll -/
abbrev f_spec_akAll : Nat := 20
def c_spec_akAll : MFun := ⟨11, .seq (.ops [
    .op ⟨(some 6), (.pure (.mv (.const (.pointer none)))), none⟩])
  (.seq (.ops [
    .op ⟨(some 7), (.pure (.mv (.tmp 0))), none⟩,
    .op ⟨(some 8), (.pure (.mv (.tmp 1))), none⟩,
    .op ⟨(some 9), (.pure (.mv (.tmp 2))), none⟩,
    .op ⟨(some 10), (.eff (.call 26 [(.tmp 7), (.tmp 8), (.tmp 9), (.const (.int .i64 (39)))])), none⟩,
    .op ⟨(some 6), (.pure (.mv (.tmp 10))), none⟩])
  (.ret)),
 [.tmp 6]⟩
theorem r_spec_akAll : resFun Try.prog f_spec_akAll = some c_spec_akAll := by kernel_rfl

/- loop.example/g00940/impl.roundsAsked -/
abbrev f_impl_roundsAsked : Nat := 21
def c_impl_roundsAsked : MFun := ⟨23, .seq (.ops [
    .op ⟨(some 8), (.pure (.mv (.const (.bool false)))), none⟩])
  (.seq (.ops [
    .op ⟨(some 9), (.pure (.mv (.tmp 0))), none⟩,
    .op ⟨(some 10), (.eff (.call 24 [(.tmp 9), (.const (.int .i64 (1))), (.const (.int .i64 (9)))])), none⟩,
    .op ⟨(some 11), (.pure (.mv (.tmp 10))), none⟩,
    .split 11,
    .op ⟨(some 12), (.pure (.mv (.tmp 1))), (some (11, true))⟩,
    .op ⟨(some 13), (.eff (.call 24 [(.tmp 12), (.const (.int .i64 (1))), (.const (.int .i64 (9)))])), (some (11, true))⟩,
    .op ⟨(some 14), (.pure (.pick (.tmp 11) (.tmp 13) (.const (.bool false)))), none⟩,
    .op ⟨(some 15), (.pure (.mv (.tmp 14))), none⟩,
    .split 15,
    .op ⟨(some 16), (.pure (.mv (.tmp 2))), (some (15, true))⟩,
    .op ⟨(some 17), (.eff (.call 9 [(.tmp 16)])), (some (15, true))⟩,
    .op ⟨(some 18), (.pure (.pick (.tmp 15) (.tmp 17) (.const (.bool false)))), none⟩,
    .op ⟨(some 19), (.pure (.mv (.tmp 18))), none⟩,
    .split 19,
    .op ⟨(some 20), (.pure (.mv (.tmp 3))), (some (19, true))⟩,
    .op ⟨(some 21), (.eff (.call 24 [(.tmp 20), (.const (.int .i64 (0))), (.const (.int .i64 (60)))])), (some (19, true))⟩,
    .op ⟨(some 22), (.pure (.pick (.tmp 19) (.tmp 21) (.const (.bool false)))), none⟩,
    .op ⟨(some 8), (.pure (.mv (.tmp 22))), none⟩])
  (.ret)),
 [.tmp 8]⟩
theorem r_impl_roundsAsked : resFun Try.prog f_impl_roundsAsked = some c_impl_roundsAsked := by kernel_rfl

/- loop.example/g00940/impl.runRounds -/
abbrev f_impl_runRounds : Nat := 22
def c_impl_runRounds : MFun := ⟨94, .seq (.ops [
    .op ⟨(some 8), (.eff (.new 37 [(.int .u64 (0)), (.int .u64 (0)), (.int .i64 (0)), (.int .i64 (0)), (.int .i64 (0))])), none⟩])
  (.seq (.ops [
    .op ⟨(some 9), (.eff (.new 37 [(.int .u64 (0)), (.int .u64 (0)), (.int .i64 (0)), (.int .i64 (0)), (.int .i64 (0))])), none⟩])
  (.seq (.seq (.ops [
     .op ⟨(some 15), (.pure (.mv (.tmp 0))), none⟩,
     .op ⟨(some 16), (.pure (.bin .shl (.const (.int .u64 (1))) (.tmp 15))), none⟩,
     .op ⟨(some 17), (.pure (.bin .sub (.tmp 16) (.const (.int .u64 (1))))), none⟩,
     .op ⟨(some 10), (.pure (.mv (.tmp 17))), none⟩])
   (.block 0 (.loop (.seq (.seq (.ops [
      .op ⟨(some 18), (.pure (.fieldAddr 1 (.tmp 9))), none⟩,
      .op ⟨(some 19), (.load none (.tmp 18)), none⟩,
      .op ⟨(some 20), (.pure (.mv (.tmp 10))), none⟩,
      .op ⟨(some 21), (.pure (.bin .neq (.tmp 19) (.tmp 20))), none⟩,
      .op ⟨(some 22), (.pure (.mv (.tmp 21))), none⟩,
      .split 22,
      .op ⟨(some 23), (.pure (.fieldAddr 2 (.tmp 9))), (some (22, true))⟩,
      .op ⟨(some 24), (.load none (.tmp 23)), (some (22, true))⟩,
      .op ⟨(some 25), (.pure (.mv (.tmp 3))), (some (22, true))⟩,
      .op ⟨(some 26), (.pure (.bin .lss (.tmp 24) (.tmp 25))), (some (22, true))⟩,
      .op ⟨(some 27), (.pure (.pick (.tmp 22) (.tmp 26) (.const (.bool false)))), none⟩])
    (.cond (.tmp 27)
    (.skip)
    (.exit 0)))
   (.seq (.block 1 (.seq (.ops [
      .op ⟨(some 11), (.pure (.mv (.const (.int .i64 (0))))), none⟩])
    (.seq (.seq (.ops [
       .op ⟨(some 32), (.pure (.fieldAddr 2 (.tmp 9))), none⟩,
       .op ⟨(some 33), (.load none (.tmp 32)), none⟩,
       .op ⟨(some 34), (.pure (.mv (.tmp 2))), none⟩,
       .op ⟨(some 35), (.pure (.len (.tmp 34))), none⟩,
       .op ⟨(some 36), (.pure (.bin .lss (.tmp 33) (.tmp 35))), none⟩])
     (.cond (.tmp 36)
     (.ops [
       .op ⟨(some 37), (.pure (.mv (.tmp 2))), none⟩,
       .op ⟨(some 38), (.pure (.fieldAddr 2 (.tmp 9))), none⟩,
       .op ⟨(some 39), (.load none (.tmp 38)), none⟩,
       .op ⟨(some 40), (.pure (.idx 1 (.tmp 37) (.tmp 39))), none⟩,
       .op ⟨(some 41), (.load none (.tmp 40)), none⟩,
       .op ⟨(some 11), (.pure (.mv (.tmp 41))), none⟩])
     (.skip)))
    (.seq (.ops [
      .op ⟨(some 42), (.pure (.fieldAddr 0 (.tmp 9))), none⟩,
      .op ⟨(some 43), (.load none (.tmp 42)), none⟩,
      .op ⟨(some 12), (.pure (.mv (.tmp 43))), none⟩])
    (.seq (.seq (.ops [
       .op ⟨(some 44), (.pure (.mv (.tmp 1))), none⟩,
       .op ⟨(some 13), (.pure (.mv (.const (.int .i64 (0))))), none⟩,
       .op ⟨(some 14), (.pure (.mv (.tmp 44))), none⟩])
     (.block 2 (.loop (.seq (.seq (.ops [
        .op ⟨(some 45), (.pure (.mv (.tmp 13))), none⟩,
        .op ⟨(some 46), (.pure (.mv (.tmp 0))), none⟩,
        .op ⟨(some 47), (.pure (.bin .lss (.tmp 45) (.tmp 46))), none⟩,
        .op ⟨(some 48), (.pure (.mv (.tmp 47))), none⟩,
        .split 48,
        .op ⟨(some 49), (.pure (.mv (.tmp 14))), (some (48, true))⟩,
        .op ⟨(some 50), (.pure (.bin .gtr (.tmp 49) (.const (.int .i64 (0))))), (some (48, true))⟩,
        .op ⟨(some 51), (.pure (.pick (.tmp 48) (.tmp 50) (.const (.bool false)))), none⟩])
      (.cond (.tmp 51)
      (.skip)
      (.exit 2)))
     (.seq (.block 3 (.seq (.seq (.ops [
         .op ⟨(some 54), (.pure (.fieldAddr 1 (.tmp 9))), none⟩,
         .op ⟨(some 55), (.load none (.tmp 54)), none⟩,
         .op ⟨(some 56), (.pure (.mv (.tmp 13))), none⟩,
         .op ⟨(some 57), (.pure (.bin .shr (.tmp 55) (.tmp 56))), none⟩,
         .op ⟨(some 58), (.pure (.bin .and (.tmp 57) (.const (.int .u64 (1))))), none⟩,
         .op ⟨(some 59), (.pure (.bin .eql (.tmp 58) (.const (.int .u64 (1))))), none⟩])
       (.cond (.tmp 59)
       (.exit 3)
       (.skip)))
      (.seq (.ops [
        .op ⟨(some 60), (.pure (.mv (.tmp 14))), none⟩,
        .op ⟨(some 61), (.pure (.bin .sub (.tmp 60) (.const (.int .i64 (1))))), none⟩,
        .op ⟨(some 14), (.pure (.mv (.tmp 61))), none⟩])
      (.seq (.ops [
        .op ⟨(some 62), (.pure (.fieldAddr 3 (.tmp 9))), none⟩,
        .op ⟨(some 63), (.load none (.tmp 62)), none⟩,
        .op ⟨(some 64), (.pure (.bin .add (.tmp 63) (.const (.int .i64 (1))))), none⟩,
        .op ⟨(some 65), (.pure (.fieldAddr 3 (.tmp 9))), none⟩,
        .op ⟨none, (.eff (.store 1 (.tmp 65) (.tmp 64))), none⟩])
      (.seq (.seq (.ops [
         .op ⟨(some 66), (.pure (.mv (.tmp 11))), none⟩,
         .op ⟨(some 67), (.pure (.mv (.tmp 13))), none⟩,
         .op ⟨(some 68), (.pure (.bin .shr (.tmp 66) (.tmp 67))), none⟩,
         .op ⟨(some 69), (.pure (.bin .and (.tmp 68) (.const (.int .i64 (1))))), none⟩,
         .op ⟨(some 70), (.pure (.bin .eql (.tmp 69) (.const (.int .i64 (1))))), none⟩])
       (.cond (.tmp 70)
       (.exit 3)
       (.skip)))
      (.seq (.seq (.ops [
         .op ⟨(some 71), (.pure (.fieldAddr 0 (.tmp 9))), none⟩,
         .op ⟨(some 72), (.load none (.tmp 71)), none⟩,
         .op ⟨(some 73), (.pure (.mv (.tmp 13))), none⟩,
         .op ⟨(some 74), (.pure (.bin .shr (.tmp 72) (.tmp 73))), none⟩,
         .op ⟨(some 75), (.pure (.bin .and (.tmp 74) (.const (.int .u64 (1))))), none⟩,
         .op ⟨(some 76), (.pure (.bin .eql (.tmp 75) (.const (.int .u64 (1))))), none⟩])
       (.cond (.tmp 76)
       (.ops [
         .op ⟨(some 77), (.pure (.fieldAddr 4 (.tmp 9))), none⟩,
         .op ⟨(some 78), (.load none (.tmp 77)), none⟩,
         .op ⟨(some 79), (.pure (.bin .add (.tmp 78) (.const (.int .i64 (1))))), none⟩,
         .op ⟨(some 80), (.pure (.fieldAddr 4 (.tmp 9))), none⟩,
         .op ⟨none, (.eff (.store 1 (.tmp 80) (.tmp 79))), none⟩])
       (.skip)))
      (.ops [
       .op ⟨(some 81), (.pure (.mv (.tmp 12))), none⟩,
       .op ⟨(some 82), (.pure (.mv (.tmp 13))), none⟩,
       .op ⟨(some 83), (.pure (.bin .shl (.const (.int .u64 (1))) (.tmp 82))), none⟩,
       .op ⟨(some 84), (.pure (.bin .or (.tmp 81) (.tmp 83))), none⟩,
       .op ⟨(some 12), (.pure (.mv (.tmp 84))), none⟩])))))))
     (.ops [
      .op ⟨(some 52), (.pure (.mv (.tmp 13))), none⟩,
      .op ⟨(some 53), (.pure (.bin .add (.tmp 52) (.const (.int .i64 (1))))), none⟩,
      .op ⟨(some 13), (.pure (.mv (.tmp 53))), none⟩]))))))
    (.seq (.ops [
      .op ⟨(some 85), (.pure (.mv (.tmp 12))), none⟩,
      .op ⟨(some 86), (.pure (.fieldAddr 0 (.tmp 9))), none⟩,
      .op ⟨none, (.eff (.store 1 (.tmp 86) (.tmp 85))), none⟩])
    (.seq (.ops [
      .op ⟨(some 87), (.pure (.mv (.tmp 11))), none⟩,
      .op ⟨(some 88), (.pure (.bin .and (.tmp 87) (.const (.int .i64 (512))))), none⟩,
      .op ⟨(some 89), (.pure (.bin .eql (.tmp 88) (.const (.int .i64 (0))))), none⟩])
    (.cond (.tmp 89)
    (.ops [
      .op ⟨(some 90), (.pure (.fieldAddr 0 (.tmp 9))), none⟩,
      .op ⟨(some 91), (.load none (.tmp 90)), none⟩,
      .op ⟨(some 92), (.pure (.fieldAddr 1 (.tmp 9))), none⟩,
      .op ⟨none, (.eff (.store 1 (.tmp 92) (.tmp 91))), none⟩])
    (.skip)))))))))
   (.ops [
    .op ⟨(some 28), (.pure (.fieldAddr 2 (.tmp 9))), none⟩,
    .op ⟨(some 29), (.load none (.tmp 28)), none⟩,
    .op ⟨(some 30), (.pure (.bin .add (.tmp 29) (.const (.int .i64 (1))))), none⟩,
    .op ⟨(some 31), (.pure (.fieldAddr 2 (.tmp 9))), none⟩,
    .op ⟨none, (.eff (.store 1 (.tmp 31) (.tmp 30))), none⟩]))))))
  (.seq (.ops [
    .op ⟨(some 93), (.load (some 5) (.tmp 9)), none⟩,
    .op ⟨none, (.eff (.store 5 (.tmp 8) (.tmp 93))), none⟩])
  (.ret)))),
 [.cell 8 (some 5)]⟩
theorem r_impl_runRounds : resFun Try.prog f_impl_runRounds = some c_impl_runRounds := by kernel_rfl

/- loop.example/g00940/spec.l1All -/
abbrev f_spec_l1All : Nat := 23
def c_spec_l1All : MFun := ⟨21, .seq (.ops [
    .op ⟨(some 6), (.pure (.mv (.const (.bool false)))), none⟩])
  (.seq (.seq (.ops [
     .op ⟨(some 9), (.pure (.mv (.tmp 0))), none⟩,
     .op ⟨(some 10), (.pure (.len (.tmp 9))), none⟩,
     .op ⟨(some 11), (.pure (.mv (.const (.int .i64 (0))))), none⟩])
   (.block 0 (.loop (.seq (.ops [
     .op ⟨(some 12), (.pure (.bin .lss (.tmp 11) (.tmp 10))), none⟩])
   (.seq (.cond (.tmp 12)
    (.skip)
    (.exit 0))
   (.seq (.block 1 (.seq (.ops [
      .op ⟨(some 13), (.pure (.idx 1 (.tmp 9) (.tmp 11))), none⟩,
      .op ⟨(some 14), (.load none (.tmp 13)), none⟩,
      .op ⟨(some 8), (.pure (.mv (.tmp 14))), none⟩])
    (.seq (.ops [
      .op ⟨(some 15), (.pure (.mv (.tmp 8))), none⟩,
      .op ⟨(some 16), (.pure (.mv (.tmp 1))), none⟩,
      .op ⟨(some 17), (.pure (.mv (.tmp 2))), none⟩,
      .op ⟨(some 18), (.eff (.call 25 [(.tmp 15), (.tmp 16), (.tmp 17)])), none⟩,
      .op ⟨(some 19), (.pure (.bnot (.tmp 18))), none⟩])
    (.cond (.tmp 19)
    (.seq (.ops [
       .op ⟨(some 6), (.pure (.mv (.const (.bool false)))), none⟩])
     (.ret))
    (.skip)))))
   (.ops [
    .op ⟨(some 20), (.pure (.bin .add (.tmp 11) (.const (.int .i64 (1))))), none⟩,
    .op ⟨(some 11), (.pure (.mv (.tmp 20))), none⟩])))))))
  (.seq (.ops [
    .op ⟨(some 6), (.pure (.mv (.const (.bool true)))), none⟩])
  (.ret))),
 [.tmp 6]⟩
theorem r_spec_l1All : resFun Try.prog f_spec_l1All = some c_spec_l1All := by kernel_rfl

/- loop.example/g00940/impl.within -/
abbrev f_impl_within : Nat := 24
def c_impl_within : MFun := ⟨15, .seq (.ops [
    .op ⟨(some 6), (.pure (.mv (.const (.bool false)))), none⟩])
  (.seq (.ops [
    .op ⟨(some 7), (.pure (.mv (.tmp 0))), none⟩,
    .op ⟨(some 8), (.pure (.mv (.tmp 1))), none⟩,
    .op ⟨(some 9), (.pure (.bin .geq (.tmp 7) (.tmp 8))), none⟩,
    .op ⟨(some 10), (.pure (.mv (.tmp 9))), none⟩,
    .split 10,
    .op ⟨(some 11), (.pure (.mv (.tmp 0))), (some (10, true))⟩,
    .op ⟨(some 12), (.pure (.mv (.tmp 2))), (some (10, true))⟩,
    .op ⟨(some 13), (.pure (.bin .leq (.tmp 11) (.tmp 12))), (some (10, true))⟩,
    .op ⟨(some 14), (.pure (.pick (.tmp 10) (.tmp 13) (.const (.bool false)))), none⟩,
    .op ⟨(some 6), (.pure (.mv (.tmp 14))), none⟩])
  (.ret)),
 [.tmp 6]⟩
theorem r_impl_within : resFun Try.prog f_impl_within = some c_impl_within := by kernel_rfl

/- loop.example/g00940/spec.l1In -/
abbrev f_spec_l1In : Nat := 25
def c_spec_l1In : MFun := ⟨15, .seq (.ops [
    .op ⟨(some 6), (.pure (.mv (.const (.bool false)))), none⟩])
  (.seq (.ops [
    .op ⟨(some 7), (.pure (.mv (.tmp 0))), none⟩,
    .op ⟨(some 8), (.pure (.mv (.tmp 1))), none⟩,
    .op ⟨(some 9), (.pure (.bin .geq (.tmp 7) (.tmp 8))), none⟩,
    .op ⟨(some 10), (.pure (.mv (.tmp 9))), none⟩,
    .split 10,
    .op ⟨(some 11), (.pure (.mv (.tmp 0))), (some (10, true))⟩,
    .op ⟨(some 12), (.pure (.mv (.tmp 2))), (some (10, true))⟩,
    .op ⟨(some 13), (.pure (.bin .leq (.tmp 11) (.tmp 12))), (some (10, true))⟩,
    .op ⟨(some 14), (.pure (.pick (.tmp 10) (.tmp 13) (.const (.bool false)))), none⟩,
    .op ⟨(some 6), (.pure (.mv (.tmp 14))), none⟩])
  (.ret)),
 [.tmp 6]⟩
theorem r_spec_l1In : resFun Try.prog f_spec_l1In = some c_spec_l1In := by kernel_rfl

/- loop.example/g00940/spec.akRun -/
abbrev f_spec_akRun : Nat := 26
def c_spec_akRun : MFun := ⟨48, .seq (.ops [
    .op ⟨(some 8), (.pure (.mv (.const (.pointer none)))), none⟩])
  (.seq (.ops [
    .op ⟨(some 11), (.pure (.build [(.slice none 0 0), (.slice none 0 0), (.int .i64 (0)), (.int .i64 (0)), (.int .i64 (0))] [])), none⟩,
    .op ⟨(some 12), (.eff (.box 31 (.tmp 11))), none⟩,
    .op ⟨(some 9), (.pure (.mv (.tmp 12))), none⟩])
  (.seq (.block 0 (.loop (.seq (.seq (.ops [
      .op ⟨(some 13), (.pure (.mv (.tmp 9))), none⟩,
      .op ⟨(some 14), (.pure (.nilc (.tmp 13))), none⟩,
      .op ⟨(some 15), (.pure (.fieldAddr 2 (.tmp 14))), none⟩,
      .op ⟨(some 16), (.load none (.tmp 15)), none⟩,
      .op ⟨(some 17), (.pure (.mv (.tmp 3))), none⟩,
      .op ⟨(some 18), (.pure (.bin .lss (.tmp 16) (.tmp 17))), none⟩,
      .op ⟨(some 19), (.pure (.mv (.tmp 18))), none⟩,
      .split 19,
      .op ⟨(some 20), (.pure (.mv (.tmp 9))), (some (19, true))⟩,
      .op ⟨(some 21), (.pure (.nilc (.tmp 20))), (some (19, true))⟩,
      .op ⟨(some 22), (.pure (.fieldAddr 1 (.tmp 21))), (some (19, true))⟩,
      .op ⟨(some 23), (.load none (.tmp 22)), (some (19, true))⟩,
      .op ⟨(some 24), (.pure (.len (.tmp 23))), (some (19, true))⟩,
      .op ⟨(some 25), (.pure (.mv (.tmp 0))), (some (19, true))⟩,
      .op ⟨(some 26), (.pure (.bin .lss (.tmp 24) (.tmp 25))), (some (19, true))⟩,
      .op ⟨(some 27), (.pure (.pick (.tmp 19) (.tmp 26) (.const (.bool false)))), none⟩])
    (.cond (.tmp 27)
    (.skip)
    (.exit 0)))
   (.block 1 (.seq (.ops [
     .op ⟨(some 10), (.pure (.mv (.const (.int .i64 (0))))), none⟩])
   (.seq (.seq (.ops [
      .op ⟨(some 28), (.pure (.mv (.tmp 9))), none⟩,
      .op ⟨(some 29), (.pure (.nilc (.tmp 28))), none⟩,
      .op ⟨(some 30), (.pure (.fieldAddr 2 (.tmp 29))), none⟩,
      .op ⟨(some 31), (.load none (.tmp 30)), none⟩,
      .op ⟨(some 32), (.pure (.mv (.tmp 2))), none⟩,
      .op ⟨(some 33), (.pure (.len (.tmp 32))), none⟩,
      .op ⟨(some 34), (.pure (.bin .lss (.tmp 31) (.tmp 33))), none⟩])
    (.cond (.tmp 34)
    (.ops [
      .op ⟨(some 35), (.pure (.mv (.tmp 2))), none⟩,
      .op ⟨(some 36), (.pure (.mv (.tmp 9))), none⟩,
      .op ⟨(some 37), (.pure (.nilc (.tmp 36))), none⟩,
      .op ⟨(some 38), (.pure (.fieldAddr 2 (.tmp 37))), none⟩,
      .op ⟨(some 39), (.load none (.tmp 38)), none⟩,
      .op ⟨(some 40), (.pure (.idx 1 (.tmp 35) (.tmp 39))), none⟩,
      .op ⟨(some 41), (.load none (.tmp 40)), none⟩,
      .op ⟨(some 10), (.pure (.mv (.tmp 41))), none⟩])
    (.skip)))
   (.ops [
    .op ⟨(some 42), (.pure (.mv (.tmp 9))), none⟩,
    .op ⟨(some 43), (.pure (.mv (.tmp 0))), none⟩,
    .op ⟨(some 44), (.pure (.mv (.tmp 1))), none⟩,
    .op ⟨(some 45), (.pure (.mv (.tmp 10))), none⟩,
    .op ⟨(some 46), (.eff (.call 27 [(.tmp 42), (.tmp 43), (.tmp 44), (.tmp 45)])), none⟩])))))))
  (.seq (.ops [
    .op ⟨(some 47), (.pure (.mv (.tmp 9))), none⟩,
    .op ⟨(some 8), (.pure (.mv (.tmp 47))), none⟩])
  (.ret)))),
 [.tmp 8]⟩
theorem r_spec_akRun : resFun Try.prog f_spec_akRun = some c_spec_akRun := by kernel_rfl

/- (*loop.example/g00940/spec.akState).round -/
abbrev f_spec_akState_round : Nat := 27
def c_spec_akState_round : MFun := ⟨81, .seq (.ops [
    .op ⟨(some 8), (.pure (.mv (.const (.int .i64 (0))))), none⟩])
  (.seq (.seq (.ops [
     .op ⟨(some 9), (.pure (.mv (.const (.int .i64 (0))))), none⟩])
   (.block 0 (.loop (.seq (.seq (.ops [
      .op ⟨(some 10), (.pure (.mv (.tmp 9))), none⟩,
      .op ⟨(some 11), (.pure (.mv (.tmp 1))), none⟩,
      .op ⟨(some 12), (.pure (.bin .lss (.tmp 10) (.tmp 11))), none⟩,
      .op ⟨(some 13), (.pure (.mv (.tmp 12))), none⟩,
      .split 13,
      .op ⟨(some 14), (.pure (.mv (.tmp 8))), (some (13, true))⟩,
      .op ⟨(some 15), (.pure (.mv (.tmp 2))), (some (13, true))⟩,
      .op ⟨(some 16), (.pure (.bin .lss (.tmp 14) (.tmp 15))), (some (13, true))⟩,
      .op ⟨(some 17), (.pure (.pick (.tmp 13) (.tmp 16) (.const (.bool false)))), none⟩])
    (.cond (.tmp 17)
    (.skip)
    (.exit 0)))
   (.seq (.block 1 (.seq (.seq (.ops [
       .op ⟨(some 20), (.pure (.mv (.tmp 0))), none⟩,
       .op ⟨(some 21), (.pure (.nilc (.tmp 20))), none⟩,
       .op ⟨(some 22), (.pure (.fieldAddr 1 (.tmp 21))), none⟩,
       .op ⟨(some 23), (.load none (.tmp 22)), none⟩,
       .op ⟨(some 24), (.pure (.mv (.tmp 9))), none⟩,
       .op ⟨(some 25), (.eff (.call 28 [(.tmp 23), (.tmp 24)])), none⟩])
     (.cond (.tmp 25)
     (.exit 1)
     (.skip)))
    (.seq (.ops [
      .op ⟨(some 26), (.pure (.mv (.tmp 8))), none⟩,
      .op ⟨(some 27), (.pure (.bin .add (.tmp 26) (.const (.int .i64 (1))))), none⟩,
      .op ⟨(some 8), (.pure (.mv (.tmp 27))), none⟩])
    (.seq (.seq (.ops [
       .op ⟨(some 28), (.pure (.mv (.tmp 3))), none⟩,
       .op ⟨(some 29), (.pure (.mv (.tmp 9))), none⟩,
       .op ⟨(some 30), (.pure (.conv .u64 (.tmp 29))), none⟩,
       .op ⟨(some 31), (.pure (.bin .shr (.tmp 28) (.tmp 30))), none⟩,
       .op ⟨(some 32), (.pure (.bin .and (.tmp 31) (.const (.int .i64 (1))))), none⟩,
       .op ⟨(some 33), (.pure (.bin .eql (.tmp 32) (.const (.int .i64 (1))))), none⟩])
     (.cond (.tmp 33)
     (.exit 1)
     (.skip)))
    (.seq (.seq (.ops [
       .op ⟨(some 34), (.pure (.mv (.tmp 0))), none⟩,
       .op ⟨(some 35), (.pure (.nilc (.tmp 34))), none⟩,
       .op ⟨(some 36), (.pure (.fieldAddr 0 (.tmp 35))), none⟩,
       .op ⟨(some 37), (.load none (.tmp 36)), none⟩,
       .op ⟨(some 38), (.pure (.mv (.tmp 9))), none⟩,
       .op ⟨(some 39), (.eff (.call 28 [(.tmp 37), (.tmp 38)])), none⟩])
     (.cond (.tmp 39)
     (.ops [
       .op ⟨(some 40), (.pure (.mv (.tmp 0))), none⟩,
       .op ⟨(some 41), (.pure (.nilc (.tmp 40))), none⟩,
       .op ⟨(some 42), (.pure (.fieldAddr 4 (.tmp 41))), none⟩,
       .op ⟨(some 43), (.load none (.tmp 42)), none⟩,
       .op ⟨(some 44), (.pure (.bin .add (.tmp 43) (.const (.int .i64 (1))))), none⟩,
       .op ⟨(some 45), (.pure (.nilc (.tmp 40))), none⟩,
       .op ⟨(some 46), (.pure (.fieldAddr 4 (.tmp 45))), none⟩,
       .op ⟨none, (.eff (.store 1 (.tmp 46) (.tmp 44))), none⟩])
     (.skip)))
    (.ops [
     .op ⟨(some 47), (.pure (.mv (.tmp 0))), none⟩,
     .op ⟨(some 48), (.pure (.mv (.tmp 0))), none⟩,
     .op ⟨(some 49), (.pure (.nilc (.tmp 48))), none⟩,
     .op ⟨(some 50), (.pure (.fieldAddr 0 (.tmp 49))), none⟩,
     .op ⟨(some 51), (.load none (.tmp 50)), none⟩,
     .op ⟨(some 52), (.pure (.mv (.tmp 9))), none⟩,
     .op ⟨(some 53), (.eff (.call 29 [(.tmp 51), (.tmp 52)])), none⟩,
     .op ⟨(some 54), (.pure (.nilc (.tmp 47))), none⟩,
     .op ⟨(some 55), (.pure (.fieldAddr 0 (.tmp 54))), none⟩,
     .op ⟨none, (.eff (.store 1 (.tmp 55) (.tmp 53))), none⟩]))))))
   (.ops [
    .op ⟨(some 18), (.pure (.mv (.tmp 9))), none⟩,
    .op ⟨(some 19), (.pure (.bin .add (.tmp 18) (.const (.int .i64 (1))))), none⟩,
    .op ⟨(some 9), (.pure (.mv (.tmp 19))), none⟩]))))))
  (.seq (.ops [
    .op ⟨(some 56), (.pure (.mv (.tmp 0))), none⟩,
    .op ⟨(some 57), (.pure (.nilc (.tmp 56))), none⟩,
    .op ⟨(some 58), (.pure (.fieldAddr 3 (.tmp 57))), none⟩,
    .op ⟨(some 59), (.load none (.tmp 58)), none⟩,
    .op ⟨(some 60), (.pure (.mv (.tmp 8))), none⟩,
    .op ⟨(some 61), (.pure (.bin .add (.tmp 59) (.tmp 60))), none⟩,
    .op ⟨(some 62), (.pure (.nilc (.tmp 56))), none⟩,
    .op ⟨(some 63), (.pure (.fieldAddr 3 (.tmp 62))), none⟩,
    .op ⟨none, (.eff (.store 1 (.tmp 63) (.tmp 61))), none⟩])
  (.seq (.ops [
    .op ⟨(some 64), (.pure (.mv (.tmp 0))), none⟩,
    .op ⟨(some 65), (.pure (.nilc (.tmp 64))), none⟩,
    .op ⟨(some 66), (.pure (.fieldAddr 2 (.tmp 65))), none⟩,
    .op ⟨(some 67), (.load none (.tmp 66)), none⟩,
    .op ⟨(some 68), (.pure (.bin .add (.tmp 67) (.const (.int .i64 (1))))), none⟩,
    .op ⟨(some 69), (.pure (.nilc (.tmp 64))), none⟩,
    .op ⟨(some 70), (.pure (.fieldAddr 2 (.tmp 69))), none⟩,
    .op ⟨none, (.eff (.store 1 (.tmp 70) (.tmp 68))), none⟩])
  (.seq (.ops [
    .op ⟨(some 71), (.pure (.mv (.tmp 3))), none⟩,
    .op ⟨(some 72), (.pure (.bin .lss (.tmp 71) (.const (.int .i64 (512))))), none⟩])
  (.cond (.tmp 72)
  (.ops [
    .op ⟨(some 73), (.pure (.mv (.tmp 0))), none⟩,
    .op ⟨(some 74), (.pure (.mv (.tmp 0))), none⟩,
    .op ⟨(some 75), (.pure (.nilc (.tmp 74))), none⟩,
    .op ⟨(some 76), (.pure (.fieldAddr 0 (.tmp 75))), none⟩,
    .op ⟨(some 77), (.load none (.tmp 76)), none⟩,
    .op ⟨(some 78), (.eff (.call 30 [(.tmp 77)])), none⟩,
    .op ⟨(some 79), (.pure (.nilc (.tmp 73))), none⟩,
    .op ⟨(some 80), (.pure (.fieldAddr 1 (.tmp 79))), none⟩,
    .op ⟨none, (.eff (.store 1 (.tmp 80) (.tmp 78))), none⟩])
  (.skip)))))),
 []⟩
theorem r_spec_akState_round : resFun Try.prog f_spec_akState_round = some c_spec_akState_round := by kernel_rfl

/- loop.example/g00940/spec.l1Has -/
abbrev f_spec_l1Has : Nat := 28
def c_spec_l1Has : MFun := ⟨17, .seq (.ops [
    .op ⟨(some 4), (.pure (.mv (.const (.bool false)))), none⟩])
  (.seq (.seq (.ops [
     .op ⟨(some 7), (.pure (.mv (.tmp 0))), none⟩,
     .op ⟨(some 8), (.pure (.len (.tmp 7))), none⟩,
     .op ⟨(some 9), (.pure (.mv (.const (.int .i64 (0))))), none⟩])
   (.block 0 (.loop (.seq (.ops [
     .op ⟨(some 10), (.pure (.bin .lss (.tmp 9) (.tmp 8))), none⟩])
   (.seq (.cond (.tmp 10)
    (.skip)
    (.exit 0))
   (.seq (.block 1 (.seq (.ops [
      .op ⟨(some 11), (.pure (.idx 1 (.tmp 7) (.tmp 9))), none⟩,
      .op ⟨(some 12), (.load none (.tmp 11)), none⟩,
      .op ⟨(some 6), (.pure (.mv (.tmp 12))), none⟩])
    (.seq (.ops [
      .op ⟨(some 13), (.pure (.mv (.tmp 6))), none⟩,
      .op ⟨(some 14), (.pure (.mv (.tmp 1))), none⟩,
      .op ⟨(some 15), (.pure (.bin .eql (.tmp 13) (.tmp 14))), none⟩])
    (.cond (.tmp 15)
    (.seq (.ops [
       .op ⟨(some 4), (.pure (.mv (.const (.bool true)))), none⟩])
     (.ret))
    (.skip)))))
   (.ops [
    .op ⟨(some 16), (.pure (.bin .add (.tmp 9) (.const (.int .i64 (1))))), none⟩,
    .op ⟨(some 9), (.pure (.mv (.tmp 16))), none⟩])))))))
  (.seq (.ops [
    .op ⟨(some 4), (.pure (.mv (.const (.bool false)))), none⟩])
  (.ret))),
 [.tmp 4]⟩
theorem r_spec_l1Has : resFun Try.prog f_spec_l1Has = some c_spec_l1Has := by kernel_rfl

/- loop.example/g00940/spec.l1Put -/
abbrev f_spec_l1Put : Nat := 29
def c_spec_l1Put : MFun := ⟨48, .seq (.ops [
    .op ⟨(some 4), (.pure (.mv (.const (.slice none 0 0)))), none⟩])
  (.seq (.ops [
    .op ⟨(some 5), (.pure (.mv (.const (.int .i64 (0))))), none⟩])
  (.seq (.block 0 (.loop (.seq (.seq (.ops [
      .op ⟨(some 7), (.pure (.mv (.tmp 5))), none⟩,
      .op ⟨(some 8), (.pure (.mv (.tmp 0))), none⟩,
      .op ⟨(some 9), (.pure (.len (.tmp 8))), none⟩,
      .op ⟨(some 10), (.pure (.bin .lss (.tmp 7) (.tmp 9))), none⟩,
      .op ⟨(some 11), (.pure (.mv (.tmp 10))), none⟩,
      .split 11,
      .op ⟨(some 12), (.pure (.mv (.tmp 0))), (some (11, true))⟩,
      .op ⟨(some 13), (.pure (.mv (.tmp 5))), (some (11, true))⟩,
      .op ⟨(some 14), (.pure (.idx 1 (.tmp 12) (.tmp 13))), (some (11, true))⟩,
      .op ⟨(some 15), (.load none (.tmp 14)), (some (11, true))⟩,
      .op ⟨(some 16), (.pure (.mv (.tmp 1))), (some (11, true))⟩,
      .op ⟨(some 17), (.pure (.bin .lss (.tmp 15) (.tmp 16))), (some (11, true))⟩,
      .op ⟨(some 18), (.pure (.pick (.tmp 11) (.tmp 17) (.const (.bool false)))), none⟩])
    (.cond (.tmp 18)
    (.skip)
    (.exit 0)))
   (.block 1 (.ops [
    .op ⟨(some 19), (.pure (.mv (.tmp 5))), none⟩,
    .op ⟨(some 20), (.pure (.bin .add (.tmp 19) (.const (.int .i64 (1))))), none⟩,
    .op ⟨(some 5), (.pure (.mv (.tmp 20))), none⟩])))))
  (.seq (.seq (.ops [
     .op ⟨(some 21), (.pure (.mv (.tmp 5))), none⟩,
     .op ⟨(some 22), (.pure (.mv (.tmp 0))), none⟩,
     .op ⟨(some 23), (.pure (.len (.tmp 22))), none⟩,
     .op ⟨(some 24), (.pure (.bin .lss (.tmp 21) (.tmp 23))), none⟩,
     .op ⟨(some 25), (.pure (.mv (.tmp 24))), none⟩,
     .split 25,
     .op ⟨(some 26), (.pure (.mv (.tmp 0))), (some (25, true))⟩,
     .op ⟨(some 27), (.pure (.mv (.tmp 5))), (some (25, true))⟩,
     .op ⟨(some 28), (.pure (.idx 1 (.tmp 26) (.tmp 27))), (some (25, true))⟩,
     .op ⟨(some 29), (.load none (.tmp 28)), (some (25, true))⟩,
     .op ⟨(some 30), (.pure (.mv (.tmp 1))), (some (25, true))⟩,
     .op ⟨(some 31), (.pure (.bin .eql (.tmp 29) (.tmp 30))), (some (25, true))⟩,
     .op ⟨(some 32), (.pure (.pick (.tmp 25) (.tmp 31) (.const (.bool false)))), none⟩])
   (.cond (.tmp 32)
   (.seq (.ops [
      .op ⟨(some 33), (.pure (.mv (.tmp 0))), none⟩,
      .op ⟨(some 4), (.pure (.mv (.tmp 33))), none⟩])
    (.ret))
   (.skip)))
  (.seq (.ops [
    .op ⟨(some 34), (.eff (.row 3 0 [] [])), none⟩,
    .op ⟨(some 35), (.pure (.mv (.tmp 0))), none⟩,
    .op ⟨(some 36), (.pure (.mv (.tmp 5))), none⟩,
    .op ⟨(some 37), (.pure (.slc 1 (.tmp 35) none (some (.tmp 36)) none)), none⟩,
    .op ⟨(some 38), (.eff (.app 3 1 8 (.tmp 34) (.tmp 37))), none⟩,
    .op ⟨(some 6), (.pure (.mv (.tmp 38))), none⟩])
  (.seq (.ops [
    .op ⟨(some 39), (.pure (.mv (.tmp 6))), none⟩,
    .op ⟨(some 40), (.pure (.mv (.tmp 1))), none⟩,
    .op ⟨(some 41), (.eff (.row 3 1 [(.int .i64 (0))] [(0, 1, (.tmp 40))])), none⟩,
    .op ⟨(some 42), (.eff (.app 3 1 8 (.tmp 39) (.tmp 41))), none⟩,
    .op ⟨(some 6), (.pure (.mv (.tmp 42))), none⟩])
  (.seq (.ops [
    .op ⟨(some 43), (.pure (.mv (.tmp 6))), none⟩,
    .op ⟨(some 44), (.pure (.mv (.tmp 0))), none⟩,
    .op ⟨(some 45), (.pure (.mv (.tmp 5))), none⟩,
    .op ⟨(some 46), (.pure (.slc 1 (.tmp 44) (some (.tmp 45)) none none)), none⟩,
    .op ⟨(some 47), (.eff (.app 3 1 8 (.tmp 43) (.tmp 46))), none⟩,
    .op ⟨(some 4), (.pure (.mv (.tmp 47))), none⟩])
  (.ret))))))),
 [.tmp 4]⟩
theorem r_spec_l1Put : resFun Try.prog f_spec_l1Put = some c_spec_l1Put := by kernel_rfl

/- loop.example/g00940/spec.l1Own -/
abbrev f_spec_l1Own : Nat := 30
def c_spec_l1Own : MFun := ⟨6, .seq (.ops [
    .op ⟨(some 2), (.pure (.mv (.const (.slice none 0 0)))), none⟩])
  (.seq (.ops [
    .op ⟨(some 3), (.eff (.row 3 0 [] [])), none⟩,
    .op ⟨(some 4), (.pure (.mv (.tmp 0))), none⟩,
    .op ⟨(some 5), (.eff (.app 3 1 8 (.tmp 3) (.tmp 4))), none⟩,
    .op ⟨(some 2), (.pure (.mv (.tmp 5))), none⟩])
  (.ret)),
 [.tmp 2]⟩
theorem r_spec_l1Own : resFun Try.prog f_spec_l1Own = some c_spec_l1Own := by kernel_rfl
end Go.Proofs.Ytibhbphikijecaa
