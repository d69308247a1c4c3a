/- The code of this seat's functions, resolved, written by a program of mine; each is held against the given program by the kernel. Condition: none. -/
import Derived.Test.YthagdkmalchhgaaProg
import Derived.Test.YthagdkmalchhgaaBase9
import Derived.KernelRfl
namespace Go.Proofs.Ythagdkmalchhgaa
open Go.Vc

/- loop.example/g00940/laws.markIntSS -/
abbrev f_laws_markIntSS : Nat := 40
def c_laws_markIntSS : MFun := ⟨19, .seq (.ops [
.op ⟨(some 4), (.pure (.mv (.const (.int .i64 (0))))), none⟩])
(.seq (.seq (.ops [
.op ⟨(some 5), (.pure (.mv (.const (.int .i64 (0))))), none⟩])
(.block 0 (.loop (.seq (.seq (.ops [
.op ⟨(some 6), (.pure (.mv (.tmp 5))), none⟩,
.op ⟨(some 7), (.pure (.mv (.tmp 0))), none⟩,
.op ⟨(some 8), (.pure (.len (.tmp 7))), none⟩,
.op ⟨(some 9), (.pure (.bin .lss (.tmp 6) (.tmp 8))), none⟩])
(.cond (.tmp 9)
(.skip)
(.exit 0)))
(.seq (.block 1 (.ops [
.op ⟨(some 12), (.pure (.mv (.tmp 0))), none⟩,
.op ⟨(some 13), (.pure (.mv (.tmp 5))), none⟩,
.op ⟨(some 14), (.pure (.idx 1 (.tmp 12) (.tmp 13))), none⟩,
.op ⟨(some 15), (.load none (.tmp 14)), none⟩,
.op ⟨(some 16), (.pure (.mv (.tmp 1))), none⟩,
.op ⟨(some 17), (.eff (.call 45 [(.tmp 15), (.tmp 16)])), none⟩,
.op ⟨(some 1), (.pure (.mv (.tmp 17))), none⟩]))
(.ops [
.op ⟨(some 10), (.pure (.mv (.tmp 5))), none⟩,
.op ⟨(some 11), (.pure (.bin .add (.tmp 10) (.const (.int .i64 (1))))), none⟩,
.op ⟨(some 5), (.pure (.mv (.tmp 11))), none⟩]))))))
(.seq (.ops [
.op ⟨(some 18), (.pure (.mv (.tmp 1))), none⟩,
.op ⟨(some 4), (.pure (.mv (.tmp 18))), none⟩])
(.ret))),
[.tmp 4]⟩
theorem r_laws_markIntSS : resFun Try.prog f_laws_markIntSS = some c_laws_markIntSS := by kernel_rfl

/- loop.example/g00940/laws.heldIntSS -/
abbrev f_laws_heldIntSS : Nat := 41
def c_laws_heldIntSS : MFun := ⟨21, .seq (.ops [
.op ⟨(some 4), (.pure (.mv (.const (.int .i64 (0))))), none⟩])
(.seq (.seq (.ops [
.op ⟨(some 5), (.pure (.mv (.const (.int .i64 (0))))), none⟩])
(.block 0 (.loop (.seq (.seq (.ops [
.op ⟨(some 6), (.pure (.mv (.tmp 5))), none⟩,
.op ⟨(some 7), (.pure (.mv (.tmp 0))), none⟩,
.op ⟨(some 8), (.pure (.len (.tmp 7))), none⟩,
.op ⟨(some 9), (.pure (.bin .lss (.tmp 6) (.tmp 8))), none⟩])
(.cond (.tmp 9)
(.skip)
(.exit 0)))
(.seq (.block 1 (.seq (.ops [
.op ⟨(some 12), (.pure (.mv (.tmp 0))), none⟩,
.op ⟨(some 13), (.pure (.mv (.tmp 5))), none⟩,
.op ⟨(some 14), (.pure (.idx 1 (.tmp 12) (.tmp 13))), none⟩,
.op ⟨(some 15), (.load none (.tmp 14)), none⟩,
.op ⟨(some 16), (.pure (.mv (.tmp 1))), none⟩,
.op ⟨(some 17), (.eff (.call 46 [(.tmp 15), (.tmp 16)])), none⟩,
.op ⟨(some 1), (.pure (.mv (.tmp 17))), none⟩])
(.seq (.ops [
.op ⟨(some 18), (.pure (.mv (.tmp 1))), none⟩,
.op ⟨(some 19), (.pure (.bin .lss (.tmp 18) (.const (.int .i64 (0))))), none⟩])
(.cond (.tmp 19)
(.seq (.ops [
.op ⟨(some 4), (.pure (.mv (.const (.int .i64 (-1))))), none⟩])
(.ret))
(.skip)))))
(.ops [
.op ⟨(some 10), (.pure (.mv (.tmp 5))), none⟩,
.op ⟨(some 11), (.pure (.bin .add (.tmp 10) (.const (.int .i64 (1))))), none⟩,
.op ⟨(some 5), (.pure (.mv (.tmp 11))), none⟩]))))))
(.seq (.ops [
.op ⟨(some 20), (.pure (.mv (.tmp 1))), none⟩,
.op ⟨(some 4), (.pure (.mv (.tmp 20))), none⟩])
(.ret))),
[.tmp 4]⟩
theorem r_laws_heldIntSS : resFun Try.prog f_laws_heldIntSS = some c_laws_heldIntSS := by kernel_rfl

/- loop.example/g00940/spec.LinksThatMatter -/
abbrev f_spec_LinksThatMatter : Nat := 42
def c_spec_LinksThatMatter : MFun := ⟨51, .seq (.ops [
.op ⟨(some 3), (.eff (.box 32 (.tmp 0))), none⟩,
.op ⟨(some 6), (.pure (.mv (.const (.slice none 0 0)))), none⟩,
.op ⟨(some 7), (.pure (.mv (.const (.bool false)))), none⟩])
(.seq (.ops [
.op ⟨(some 15), (.load (some 2) (.tmp 3)), none⟩,
.op ⟨(some 16), (.pure (.mv (.tmp 1))), none⟩,
.op ⟨(some 17), (.pure (.mv (.tmp 2))), none⟩,
.op ⟨(some 18), (.eff (.call 20 [(.tmp 15), (.tmp 16), (.tmp 17)])), none⟩,
.op ⟨(some 14), (.pure (.mv (.tmp 18))), none⟩,
.op ⟨(some 19), (.pure (.ext 0 (.tmp 14))), none⟩,
.op ⟨(some 20), (.pure (.ext 1 (.tmp 14))), none⟩,
.op ⟨(some 8), (.pure (.mv (.tmp 19))), none⟩,
.op ⟨(some 9), (.pure (.mv (.tmp 20))), none⟩])
(.seq (.seq (.ops [
.op ⟨(some 21), (.pure (.mv (.tmp 9))), none⟩,
.op ⟨(some 22), (.pure (.bnot (.tmp 21))), none⟩])
(.cond (.tmp 22)
(.seq (.ops [
.op ⟨(some 6), (.pure (.mv (.const (.slice none 0 0)))), none⟩,
.op ⟨(some 7), (.pure (.mv (.const (.bool false)))), none⟩])
(.ret))
(.skip)))
(.seq (.ops [
.op ⟨(some 10), (.pure (.mv (.const (.slice none 0 0)))), none⟩])
(.seq (.seq (.ops [
.op ⟨(some 23), (.pure (.fieldAddr 1 (.tmp 3))), none⟩,
.op ⟨(some 24), (.load none (.tmp 23)), none⟩,
.op ⟨(some 25), (.pure (.len (.tmp 24))), none⟩,
.op ⟨(some 26), (.pure (.mv (.const (.int .i64 (0))))), none⟩])
(.block 0 (.loop (.seq (.ops [
.op ⟨(some 27), (.pure (.bin .lss (.tmp 26) (.tmp 25))), none⟩])
(.seq (.cond (.tmp 27)
(.skip)
(.exit 0))
(.seq (.block 1 (.seq (.ops [
.op ⟨(some 28), (.pure (.mv (.tmp 26))), none⟩,
.op ⟨(some 11), (.pure (.mv (.tmp 28))), none⟩])
(.seq (.ops [
.op ⟨(some 30), (.load (some 2) (.tmp 3)), none⟩,
.op ⟨(some 31), (.pure (.mv (.tmp 11))), none⟩,
.op ⟨(some 32), (.eff (.call 109 [(.tmp 30), (.tmp 31)])), none⟩,
.op ⟨(some 33), (.pure (.mv (.tmp 1))), none⟩,
.op ⟨(some 34), (.pure (.mv (.tmp 2))), none⟩,
.op ⟨(some 35), (.eff (.call 20 [(.tmp 32), (.tmp 33), (.tmp 34)])), none⟩,
.op ⟨(some 29), (.pure (.mv (.tmp 35))), none⟩,
.op ⟨(some 36), (.pure (.ext 0 (.tmp 29))), none⟩,
.op ⟨(some 37), (.pure (.ext 1 (.tmp 29))), none⟩,
.op ⟨(some 12), (.pure (.mv (.tmp 36))), none⟩,
.op ⟨(some 13), (.pure (.mv (.tmp 37))), none⟩])
(.seq (.ops [
.op ⟨(some 38), (.pure (.mv (.tmp 13))), none⟩,
.op ⟨(some 39), (.pure (.bnot (.tmp 38))), none⟩,
.op ⟨(some 40), (.pure (.mv (.tmp 39))), none⟩,
.split 40,
.op ⟨(some 41), (.pure (.mv (.tmp 12))), (some (40, false))⟩,
.op ⟨(some 42), (.pure (.mv (.tmp 8))), (some (40, false))⟩,
.op ⟨(some 43), (.pure (.bin .gtr (.tmp 41) (.tmp 42))), (some (40, false))⟩,
.op ⟨(some 44), (.pure (.pick (.tmp 40) (.const (.bool true)) (.tmp 43))), none⟩])
(.cond (.tmp 44)
(.ops [
.op ⟨(some 45), (.pure (.mv (.tmp 10))), none⟩,
.op ⟨(some 46), (.pure (.mv (.tmp 11))), none⟩,
.op ⟨(some 47), (.eff (.row 3 1 [(.int .i64 (0))] [(0, 1, (.tmp 46))])), none⟩,
.op ⟨(some 48), (.eff (.app 3 1 8 (.tmp 45) (.tmp 47))), none⟩,
.op ⟨(some 10), (.pure (.mv (.tmp 48))), none⟩])
(.skip))))))
(.ops [
.op ⟨(some 49), (.pure (.bin .add (.tmp 26) (.const (.int .i64 (1))))), none⟩,
.op ⟨(some 26), (.pure (.mv (.tmp 49))), none⟩])))))))
(.seq (.ops [
.op ⟨(some 50), (.pure (.mv (.tmp 10))), none⟩,
.op ⟨(some 6), (.pure (.mv (.tmp 50))), none⟩,
.op ⟨(some 7), (.pure (.mv (.const (.bool true)))), none⟩])
(.ret)))))),
[.tmp 6, .tmp 7]⟩
theorem r_spec_LinksThatMatter : resFun Try.prog f_spec_LinksThatMatter = some c_spec_LinksThatMatter := by kernel_rfl

/- loop.example/g00940/impl.LinksThatMatter -/
abbrev f_impl_LinksThatMatter : Nat := 43
def c_impl_LinksThatMatter : MFun := ⟨51, .seq (.ops [
.op ⟨(some 3), (.eff (.box 32 (.tmp 0))), none⟩,
.op ⟨(some 6), (.pure (.mv (.const (.slice none 0 0)))), none⟩,
.op ⟨(some 7), (.pure (.mv (.const (.bool false)))), none⟩])
(.seq (.ops [
.op ⟨(some 15), (.load (some 2) (.tmp 3)), none⟩,
.op ⟨(some 16), (.pure (.mv (.tmp 1))), none⟩,
.op ⟨(some 17), (.pure (.mv (.tmp 2))), none⟩,
.op ⟨(some 18), (.eff (.call 22 [(.tmp 15), (.tmp 16), (.tmp 17)])), none⟩,
.op ⟨(some 14), (.pure (.mv (.tmp 18))), none⟩,
.op ⟨(some 19), (.pure (.ext 0 (.tmp 14))), none⟩,
.op ⟨(some 20), (.pure (.ext 1 (.tmp 14))), none⟩,
.op ⟨(some 8), (.pure (.mv (.tmp 19))), none⟩,
.op ⟨(some 9), (.pure (.mv (.tmp 20))), none⟩])
(.seq (.seq (.ops [
.op ⟨(some 21), (.pure (.mv (.tmp 9))), none⟩,
.op ⟨(some 22), (.pure (.bnot (.tmp 21))), none⟩])
(.cond (.tmp 22)
(.seq (.ops [
.op ⟨(some 6), (.pure (.mv (.const (.slice none 0 0)))), none⟩,
.op ⟨(some 7), (.pure (.mv (.const (.bool false)))), none⟩])
(.ret))
(.skip)))
(.seq (.ops [
.op ⟨(some 10), (.pure (.mv (.const (.slice none 0 0)))), none⟩])
(.seq (.seq (.ops [
.op ⟨(some 23), (.pure (.fieldAddr 1 (.tmp 3))), none⟩,
.op ⟨(some 24), (.load none (.tmp 23)), none⟩,
.op ⟨(some 25), (.pure (.len (.tmp 24))), none⟩,
.op ⟨(some 26), (.pure (.mv (.const (.int .i64 (0))))), none⟩])
(.block 0 (.loop (.seq (.ops [
.op ⟨(some 27), (.pure (.bin .lss (.tmp 26) (.tmp 25))), none⟩])
(.seq (.cond (.tmp 27)
(.skip)
(.exit 0))
(.seq (.block 1 (.seq (.ops [
.op ⟨(some 28), (.pure (.mv (.tmp 26))), none⟩,
.op ⟨(some 11), (.pure (.mv (.tmp 28))), none⟩])
(.seq (.ops [
.op ⟨(some 30), (.load (some 2) (.tmp 3)), none⟩,
.op ⟨(some 31), (.pure (.mv (.tmp 11))), none⟩,
.op ⟨(some 32), (.eff (.call 111 [(.tmp 30), (.tmp 31)])), none⟩,
.op ⟨(some 33), (.pure (.mv (.tmp 1))), none⟩,
.op ⟨(some 34), (.pure (.mv (.tmp 2))), none⟩,
.op ⟨(some 35), (.eff (.call 104 [(.tmp 32), (.tmp 33), (.tmp 34)])), none⟩,
.op ⟨(some 29), (.pure (.mv (.tmp 35))), none⟩,
.op ⟨(some 36), (.pure (.ext 0 (.tmp 29))), none⟩,
.op ⟨(some 37), (.pure (.ext 1 (.tmp 29))), none⟩,
.op ⟨(some 12), (.pure (.mv (.tmp 36))), none⟩,
.op ⟨(some 13), (.pure (.mv (.tmp 37))), none⟩])
(.seq (.ops [
.op ⟨(some 38), (.pure (.mv (.tmp 13))), none⟩,
.op ⟨(some 39), (.pure (.bnot (.tmp 38))), none⟩,
.op ⟨(some 40), (.pure (.mv (.tmp 39))), none⟩,
.split 40,
.op ⟨(some 41), (.pure (.mv (.tmp 12))), (some (40, false))⟩,
.op ⟨(some 42), (.pure (.mv (.tmp 8))), (some (40, false))⟩,
.op ⟨(some 43), (.pure (.bin .gtr (.tmp 41) (.tmp 42))), (some (40, false))⟩,
.op ⟨(some 44), (.pure (.pick (.tmp 40) (.const (.bool true)) (.tmp 43))), none⟩])
(.cond (.tmp 44)
(.ops [
.op ⟨(some 45), (.pure (.mv (.tmp 10))), none⟩,
.op ⟨(some 46), (.pure (.mv (.tmp 11))), none⟩,
.op ⟨(some 47), (.eff (.row 3 1 [(.int .i64 (0))] [(0, 1, (.tmp 46))])), none⟩,
.op ⟨(some 48), (.eff (.app 3 1 8 (.tmp 45) (.tmp 47))), none⟩,
.op ⟨(some 10), (.pure (.mv (.tmp 48))), none⟩])
(.skip))))))
(.ops [
.op ⟨(some 49), (.pure (.bin .add (.tmp 26) (.const (.int .i64 (1))))), none⟩,
.op ⟨(some 26), (.pure (.mv (.tmp 49))), none⟩])))))))
(.seq (.ops [
.op ⟨(some 50), (.pure (.mv (.tmp 10))), none⟩,
.op ⟨(some 6), (.pure (.mv (.tmp 50))), none⟩,
.op ⟨(some 7), (.pure (.mv (.const (.bool true)))), none⟩])
(.ret)))))),
[.tmp 6, .tmp 7]⟩
theorem r_impl_LinksThatMatter : resFun Try.prog f_impl_LinksThatMatter = some c_impl_LinksThatMatter := by kernel_rfl

/- loop.example/g00940/laws.eqIntS -/
abbrev f_laws_eqIntS : Nat := 44
def c_laws_eqIntS : MFun := ⟨26, .seq (.ops [
.op ⟨(some 4), (.pure (.mv (.const (.bool false)))), none⟩])
(.seq (.seq (.ops [
.op ⟨(some 6), (.pure (.mv (.tmp 0))), none⟩,
.op ⟨(some 7), (.pure (.len (.tmp 6))), none⟩,
.op ⟨(some 8), (.pure (.mv (.tmp 1))), none⟩,
.op ⟨(some 9), (.pure (.len (.tmp 8))), none⟩,
.op ⟨(some 10), (.pure (.bin .neq (.tmp 7) (.tmp 9))), none⟩])
(.cond (.tmp 10)
(.seq (.ops [
.op ⟨(some 4), (.pure (.mv (.const (.bool false)))), none⟩])
(.ret))
(.skip)))
(.seq (.seq (.ops [
.op ⟨(some 5), (.pure (.mv (.const (.int .i64 (0))))), none⟩])
(.block 0 (.loop (.seq (.seq (.ops [
.op ⟨(some 11), (.pure (.mv (.tmp 5))), none⟩,
.op ⟨(some 12), (.pure (.mv (.tmp 0))), none⟩,
.op ⟨(some 13), (.pure (.len (.tmp 12))), none⟩,
.op ⟨(some 14), (.pure (.bin .lss (.tmp 11) (.tmp 13))), none⟩])
(.cond (.tmp 14)
(.skip)
(.exit 0)))
(.seq (.block 1 (.seq (.ops [
.op ⟨(some 17), (.pure (.mv (.tmp 0))), none⟩,
.op ⟨(some 18), (.pure (.mv (.tmp 5))), none⟩,
.op ⟨(some 19), (.pure (.idx 1 (.tmp 17) (.tmp 18))), none⟩,
.op ⟨(some 21), (.pure (.mv (.tmp 1))), none⟩,
.op ⟨(some 22), (.pure (.mv (.tmp 5))), none⟩,
.op ⟨(some 23), (.pure (.idx 1 (.tmp 21) (.tmp 22))), none⟩,
.op ⟨(some 20), (.load none (.tmp 19)), none⟩,
.op ⟨(some 24), (.load none (.tmp 23)), none⟩,
.op ⟨(some 25), (.pure (.bin .neq (.tmp 20) (.tmp 24))), none⟩])
(.cond (.tmp 25)
(.seq (.ops [
.op ⟨(some 4), (.pure (.mv (.const (.bool false)))), none⟩])
(.ret))
(.skip))))
(.ops [
.op ⟨(some 15), (.pure (.mv (.tmp 5))), none⟩,
.op ⟨(some 16), (.pure (.bin .add (.tmp 15) (.const (.int .i64 (1))))), none⟩,
.op ⟨(some 5), (.pure (.mv (.tmp 16))), none⟩]))))))
(.seq (.ops [
.op ⟨(some 4), (.pure (.mv (.const (.bool true)))), none⟩])
(.ret)))),
[.tmp 4]⟩
theorem r_laws_eqIntS : resFun Try.prog f_laws_eqIntS = some c_laws_eqIntS := by kernel_rfl

/- loop.example/g00940/laws.markIntS -/
abbrev f_laws_markIntS : Nat := 45
def c_laws_markIntS : MFun := ⟨19, .seq (.ops [
.op ⟨(some 4), (.pure (.mv (.const (.int .i64 (0))))), none⟩])
(.seq (.seq (.ops [
.op ⟨(some 5), (.pure (.mv (.const (.int .i64 (0))))), none⟩])
(.block 0 (.loop (.seq (.seq (.ops [
.op ⟨(some 6), (.pure (.mv (.tmp 5))), none⟩,
.op ⟨(some 7), (.pure (.mv (.tmp 0))), none⟩,
.op ⟨(some 8), (.pure (.len (.tmp 7))), none⟩,
.op ⟨(some 9), (.pure (.bin .lss (.tmp 6) (.tmp 8))), none⟩])
(.cond (.tmp 9)
(.skip)
(.exit 0)))
(.seq (.block 1 (.seq (.ops [
.op ⟨(some 12), (.pure (.mv (.tmp 0))), none⟩,
.op ⟨(some 13), (.pure (.mv (.tmp 5))), none⟩,
.op ⟨(some 14), (.pure (.mv (.tmp 1))), none⟩,
.op ⟨(some 15), (.pure (.idx 1 (.tmp 12) (.tmp 13))), none⟩,
.op ⟨none, (.eff (.store 1 (.tmp 15) (.tmp 14))), none⟩])
(.ops [
.op ⟨(some 16), (.pure (.mv (.tmp 1))), none⟩,
.op ⟨(some 17), (.pure (.bin .add (.tmp 16) (.const (.int .i64 (1))))), none⟩,
.op ⟨(some 1), (.pure (.mv (.tmp 17))), none⟩])))
(.ops [
.op ⟨(some 10), (.pure (.mv (.tmp 5))), none⟩,
.op ⟨(some 11), (.pure (.bin .add (.tmp 10) (.const (.int .i64 (1))))), none⟩,
.op ⟨(some 5), (.pure (.mv (.tmp 11))), none⟩]))))))
(.seq (.ops [
.op ⟨(some 18), (.pure (.mv (.tmp 1))), none⟩,
.op ⟨(some 4), (.pure (.mv (.tmp 18))), none⟩])
(.ret))),
[.tmp 4]⟩
theorem r_laws_markIntS : resFun Try.prog f_laws_markIntS = some c_laws_markIntS := by kernel_rfl

/- loop.example/g00940/laws.heldIntS -/
abbrev f_laws_heldIntS : Nat := 46
def c_laws_heldIntS : MFun := ⟨21, .seq (.ops [
.op ⟨(some 4), (.pure (.mv (.const (.int .i64 (0))))), none⟩])
(.seq (.seq (.ops [
.op ⟨(some 5), (.pure (.mv (.const (.int .i64 (0))))), none⟩])
(.block 0 (.loop (.seq (.seq (.ops [
.op ⟨(some 6), (.pure (.mv (.tmp 5))), none⟩,
.op ⟨(some 7), (.pure (.mv (.tmp 0))), none⟩,
.op ⟨(some 8), (.pure (.len (.tmp 7))), none⟩,
.op ⟨(some 9), (.pure (.bin .lss (.tmp 6) (.tmp 8))), none⟩])
(.cond (.tmp 9)
(.skip)
(.exit 0)))
(.seq (.block 1 (.seq (.seq (.ops [
.op ⟨(some 12), (.pure (.mv (.tmp 0))), none⟩,
.op ⟨(some 13), (.pure (.mv (.tmp 5))), none⟩,
.op ⟨(some 14), (.pure (.idx 1 (.tmp 12) (.tmp 13))), none⟩,
.op ⟨(some 15), (.load none (.tmp 14)), none⟩,
.op ⟨(some 16), (.pure (.mv (.tmp 1))), none⟩,
.op ⟨(some 17), (.pure (.bin .neq (.tmp 15) (.tmp 16))), none⟩])
(.cond (.tmp 17)
(.seq (.ops [
.op ⟨(some 4), (.pure (.mv (.const (.int .i64 (-1))))), none⟩])
(.ret))
(.skip)))
(.ops [
.op ⟨(some 18), (.pure (.mv (.tmp 1))), none⟩,
.op ⟨(some 19), (.pure (.bin .add (.tmp 18) (.const (.int .i64 (1))))), none⟩,
.op ⟨(some 1), (.pure (.mv (.tmp 19))), none⟩])))
(.ops [
.op ⟨(some 10), (.pure (.mv (.tmp 5))), none⟩,
.op ⟨(some 11), (.pure (.bin .add (.tmp 10) (.const (.int .i64 (1))))), none⟩,
.op ⟨(some 5), (.pure (.mv (.tmp 11))), none⟩]))))))
(.seq (.ops [
.op ⟨(some 20), (.pure (.mv (.tmp 1))), none⟩,
.op ⟨(some 4), (.pure (.mv (.tmp 20))), none⟩])
(.ret))),
[.tmp 4]⟩
theorem r_laws_heldIntS : resFun Try.prog f_laws_heldIntS = some c_laws_heldIntS := by kernel_rfl

/- loop.example/g00940/spec.ArrivalAlong -/
abbrev f_spec_ArrivalAlong : Nat := 47
def c_spec_ArrivalAlong : MFun := ⟨24, .seq (.ops [
.op ⟨(some 4), (.eff (.box 32 (.tmp 0))), none⟩,
.op ⟨(some 8), (.pure (.mv (.const (.int .i64 (0))))), none⟩,
.op ⟨(some 9), (.pure (.mv (.const (.bool false)))), none⟩])
(.seq (.ops [
.op ⟨(some 14), (.load (some 2) (.tmp 4)), none⟩,
.op ⟨(some 15), (.pure (.mv (.tmp 1))), none⟩,
.op ⟨(some 16), (.pure (.mv (.tmp 2))), none⟩,
.op ⟨(some 17), (.pure (.mv (.tmp 3))), none⟩,
.op ⟨(some 18), (.eff (.call 123 [(.tmp 14), (.tmp 15), (.tmp 16), (.tmp 17)])), none⟩,
.op ⟨(some 13), (.pure (.mv (.tmp 18))), none⟩,
.op ⟨(some 19), (.pure (.ext 0 (.tmp 13))), none⟩,
.op ⟨(some 20), (.pure (.ext 1 (.tmp 13))), none⟩,
.op ⟨(some 21), (.pure (.ext 2 (.tmp 13))), none⟩,
.op ⟨(some 10), (.pure (.mv (.tmp 19))), none⟩,
.op ⟨(some 11), (.pure (.mv (.tmp 20))), none⟩,
.op ⟨(some 12), (.pure (.mv (.tmp 21))), none⟩])
(.seq (.ops [
.op ⟨(some 22), (.pure (.mv (.tmp 10))), none⟩,
.op ⟨(some 23), (.pure (.mv (.tmp 12))), none⟩,
.op ⟨(some 8), (.pure (.mv (.tmp 22))), none⟩,
.op ⟨(some 9), (.pure (.mv (.tmp 23))), none⟩])
(.ret))),
[.tmp 8, .tmp 9]⟩
theorem r_spec_ArrivalAlong : resFun Try.prog f_spec_ArrivalAlong = some c_spec_ArrivalAlong := by kernel_rfl

/- loop.example/g00940/laws.toIntS -/
abbrev f_laws_toIntS : Nat := 48
def c_laws_toIntS : MFun := ⟨22, .seq (.ops [
.op ⟨(some 2), (.pure (.mv (.const (.slice none 0 0)))), none⟩])
(.seq (.ops [
.op ⟨(some 5), (.pure (.mv (.tmp 0))), none⟩,
.op ⟨(some 6), (.pure (.len (.tmp 5))), none⟩,
.op ⟨(some 7), (.eff (.mk 3 1 8 [(.int .i64 (0))] (.tmp 6) (.tmp 6))), none⟩,
.op ⟨(some 3), (.pure (.mv (.tmp 7))), none⟩])
(.seq (.seq (.ops [
.op ⟨(some 4), (.pure (.mv (.const (.int .i64 (0))))), none⟩])
(.block 0 (.loop (.seq (.seq (.ops [
.op ⟨(some 8), (.pure (.mv (.tmp 4))), none⟩,
.op ⟨(some 9), (.pure (.mv (.tmp 0))), none⟩,
.op ⟨(some 10), (.pure (.len (.tmp 9))), none⟩,
.op ⟨(some 11), (.pure (.bin .lss (.tmp 8) (.tmp 10))), none⟩])
(.cond (.tmp 11)
(.skip)
(.exit 0)))
(.seq (.block 1 (.ops [
.op ⟨(some 14), (.pure (.mv (.tmp 3))), none⟩,
.op ⟨(some 15), (.pure (.mv (.tmp 4))), none⟩,
.op ⟨(some 16), (.pure (.mv (.tmp 0))), none⟩,
.op ⟨(some 17), (.pure (.mv (.tmp 4))), none⟩,
.op ⟨(some 18), (.pure (.idx 1 (.tmp 16) (.tmp 17))), none⟩,
.op ⟨(some 19), (.load none (.tmp 18)), none⟩,
.op ⟨(some 20), (.pure (.idx 1 (.tmp 14) (.tmp 15))), none⟩,
.op ⟨none, (.eff (.store 1 (.tmp 20) (.tmp 19))), none⟩]))
(.ops [
.op ⟨(some 12), (.pure (.mv (.tmp 4))), none⟩,
.op ⟨(some 13), (.pure (.bin .add (.tmp 12) (.const (.int .i64 (1))))), none⟩,
.op ⟨(some 4), (.pure (.mv (.tmp 13))), none⟩]))))))
(.seq (.ops [
.op ⟨(some 21), (.pure (.mv (.tmp 3))), none⟩,
.op ⟨(some 2), (.pure (.mv (.tmp 21))), none⟩])
(.ret)))),
[.tmp 2]⟩
theorem r_laws_toIntS : resFun Try.prog f_laws_toIntS = some c_laws_toIntS := by kernel_rfl

/- loop.example/g00940/impl.ArrivalAlong -/
abbrev f_impl_ArrivalAlong : Nat := 49
def c_impl_ArrivalAlong : MFun := ⟨53, .seq (.ops [
.op ⟨(some 4), (.eff (.box 32 (.tmp 0))), none⟩,
.op ⟨(some 8), (.pure (.mv (.const (.int .i64 (0))))), none⟩,
.op ⟨(some 9), (.pure (.mv (.const (.bool false)))), none⟩])
(.seq (.ops [
.op ⟨(some 15), (.load (some 2) (.tmp 4)), none⟩,
.op ⟨(some 16), (.pure (.mv (.tmp 1))), none⟩,
.op ⟨(some 17), (.pure (.mv (.tmp 2))), none⟩,
.op ⟨(some 18), (.pure (.mv (.tmp 3))), none⟩,
.op ⟨(some 19), (.eff (.call 53 [(.tmp 15), (.tmp 16), (.tmp 17), (.tmp 18)])), none⟩,
.op ⟨(some 14), (.pure (.mv (.tmp 19))), none⟩,
.op ⟨(some 20), (.pure (.ext 0 (.tmp 14))), none⟩,
.op ⟨(some 21), (.pure (.ext 1 (.tmp 14))), none⟩,
.op ⟨(some 10), (.pure (.mv (.tmp 20))), none⟩,
.op ⟨(some 11), (.pure (.mv (.tmp 21))), none⟩])
(.seq (.seq (.ops [
.op ⟨(some 22), (.pure (.mv (.tmp 11))), none⟩,
.op ⟨(some 23), (.pure (.bnot (.tmp 22))), none⟩])
(.cond (.tmp 23)
(.seq (.ops [
.op ⟨(some 8), (.pure (.mv (.const (.int .i64 (0))))), none⟩,
.op ⟨(some 9), (.pure (.mv (.const (.bool false)))), none⟩])
(.ret))
(.skip)))
(.seq (.seq (.ops [
.op ⟨(some 24), (.pure (.mv (.tmp 10))), none⟩,
.op ⟨(some 25), (.pure (.len (.tmp 24))), none⟩,
.op ⟨(some 26), (.pure (.mv (.const (.int .i64 (0))))), none⟩])
(.block 0 (.loop (.seq (.ops [
.op ⟨(some 27), (.pure (.bin .lss (.tmp 26) (.tmp 25))), none⟩])
(.seq (.cond (.tmp 27)
(.skip)
(.exit 0))
(.seq (.block 1 (.seq (.ops [
.op ⟨(some 28), (.pure (.mv (.tmp 26))), none⟩,
.op ⟨(some 29), (.pure (.idx 1 (.tmp 24) (.tmp 26))), none⟩,
.op ⟨(some 30), (.load none (.tmp 29)), none⟩,
.op ⟨(some 12), (.pure (.mv (.tmp 28))), none⟩,
.op ⟨(some 13), (.pure (.mv (.tmp 30))), none⟩])
(.draw true
(.take ⟨(some 31), (.pure (.mv (.tmp 3))), none⟩
(.take ⟨(some 32), (.pure (.mv (.tmp 13))), none⟩
(.take ⟨(some 33), (.pure (.fieldAddr 1 (.tmp 4))), none⟩
(.take ⟨(some 36), (.pure (.mv (.tmp 2))), none⟩
(.take ⟨(some 37), (.pure (.mv (.tmp 12))), none⟩
(.take ⟨(some 38), (.pure (.idx 1 (.tmp 36) (.tmp 37))), none⟩
(.take ⟨(some 40), (.pure (.mv (.tmp 2))), none⟩
(.take ⟨(some 41), (.pure (.mv (.tmp 12))), none⟩
(.take ⟨(some 42), (.pure (.bin .add (.tmp 41) (.const (.int .i64 (1))))), none⟩
(.take ⟨(some 43), (.pure (.idx 1 (.tmp 40) (.tmp 42))), none⟩
(.only false ⟨(some 35), (.load (some 2) (.tmp 4)), none⟩
(.only false ⟨(some 39), (.load none (.tmp 38)), none⟩
(.only false ⟨(some 44), (.load none (.tmp 43)), none⟩
(.take ⟨(some 34), (.load none (.tmp 33)), none⟩
(.only false ⟨(some 45), (.eff (.call 124 [(.tmp 35), (.tmp 39), (.tmp 44)])), none⟩
(.take ⟨(some 46), (.pure (.idx 3 (.tmp 34) (.tmp 45))), none⟩
(.take ⟨(some 47), (.pure (.fieldAddr 2 (.tmp 46))), none⟩
(.only false ⟨(some 48), (.load none (.tmp 47)), none⟩
(.take ⟨(some 49), (.pure (.bin .add (.tmp 32) (.tmp 48))), none⟩
(.take ⟨(some 50), (.pure (.bin .add (.tmp 31) (.tmp 49))), none⟩
(.take ⟨(some 3), (.pure (.mv (.tmp 50))), none⟩
(.done)))))))))))))))))))))))))
(.ops [
.op ⟨(some 51), (.pure (.bin .add (.tmp 26) (.const (.int .i64 (1))))), none⟩,
.op ⟨(some 26), (.pure (.mv (.tmp 51))), none⟩])))))))
(.seq (.ops [
.op ⟨(some 52), (.pure (.mv (.tmp 3))), none⟩,
.op ⟨(some 8), (.pure (.mv (.tmp 52))), none⟩,
.op ⟨(some 9), (.pure (.mv (.const (.bool true)))), none⟩])
(.ret))))),
[.tmp 8, .tmp 9]⟩
theorem r_impl_ArrivalAlong : resFun Try.prog f_impl_ArrivalAlong = some c_impl_ArrivalAlong := by kernel_rfl

/- loop.example/g00940/spec.ArrivalsFrom -/
abbrev f_spec_ArrivalsFrom : Nat := 50
def c_spec_ArrivalsFrom : MFun := ⟨26, .seq (.ops [
.op ⟨(some 4), (.eff (.box 32 (.tmp 0))), none⟩,
.op ⟨(some 8), (.pure (.mv (.const (.slice none 0 0)))), none⟩,
.op ⟨(some 9), (.pure (.mv (.const (.bool false)))), none⟩])
(.seq (.seq (.ops [
.op ⟨(some 10), (.load (some 2) (.tmp 4)), none⟩,
.op ⟨(some 11), (.pure (.mv (.tmp 1))), none⟩,
.op ⟨(some 12), (.pure (.mv (.tmp 3))), none⟩,
.op ⟨(some 13), (.eff (.call 125 [(.tmp 10), (.tmp 11), (.tmp 12)])), none⟩,
.op ⟨(some 14), (.pure (.bnot (.tmp 13))), none⟩,
.op ⟨(some 15), (.pure (.mv (.tmp 14))), none⟩,
.split 15,
.op ⟨(some 16), (.load (some 2) (.tmp 4)), (some (15, false))⟩,
.op ⟨(some 17), (.pure (.mv (.tmp 2))), (some (15, false))⟩,
.op ⟨(some 18), (.eff (.call 126 [(.tmp 16), (.tmp 17)])), (some (15, false))⟩,
.op ⟨(some 19), (.pure (.bnot (.tmp 18))), (some (15, false))⟩,
.op ⟨(some 20), (.pure (.pick (.tmp 15) (.const (.bool true)) (.tmp 19))), none⟩])
(.cond (.tmp 20)
(.seq (.ops [
.op ⟨(some 8), (.pure (.mv (.const (.slice none 0 0)))), none⟩,
.op ⟨(some 9), (.pure (.mv (.const (.bool false)))), none⟩])
(.ret))
(.skip)))
(.seq (.ops [
.op ⟨(some 21), (.load (some 2) (.tmp 4)), none⟩,
.op ⟨(some 22), (.pure (.mv (.tmp 1))), none⟩,
.op ⟨(some 23), (.pure (.mv (.tmp 2))), none⟩,
.op ⟨(some 24), (.pure (.mv (.tmp 3))), none⟩,
.op ⟨(some 25), (.eff (.call 113 [(.tmp 21), (.tmp 22), (.tmp 23), (.tmp 24)])), none⟩,
.op ⟨(some 8), (.pure (.mv (.tmp 25))), none⟩,
.op ⟨(some 9), (.pure (.mv (.const (.bool true)))), none⟩])
(.ret))),
[.tmp 8, .tmp 9]⟩
theorem r_spec_ArrivalsFrom : resFun Try.prog f_spec_ArrivalsFrom = some c_spec_ArrivalsFrom := by kernel_rfl

/- loop.example/g00940/impl.ArrivalsFrom -/
abbrev f_impl_ArrivalsFrom : Nat := 51
def c_impl_ArrivalsFrom : MFun := ⟨22, .seq (.ops [
.op ⟨(some 4), (.eff (.box 32 (.tmp 0))), none⟩,
.op ⟨(some 8), (.pure (.mv (.const (.slice none 0 0)))), none⟩,
.op ⟨(some 9), (.pure (.mv (.const (.bool false)))), none⟩])
(.seq (.seq (.ops [
.op ⟨(some 10), (.load (some 2) (.tmp 4)), none⟩,
.op ⟨(some 11), (.pure (.mv (.tmp 1))), none⟩,
.op ⟨(some 12), (.pure (.mv (.tmp 2))), none⟩,
.op ⟨(some 13), (.pure (.mv (.tmp 2))), none⟩,
.op ⟨(some 14), (.pure (.mv (.tmp 3))), none⟩,
.op ⟨(some 15), (.eff (.call 115 [(.tmp 10), (.tmp 11), (.tmp 12), (.tmp 13), (.tmp 14)])), none⟩,
.op ⟨(some 16), (.pure (.bnot (.tmp 15))), none⟩])
(.cond (.tmp 16)
(.seq (.ops [
.op ⟨(some 8), (.pure (.mv (.const (.slice none 0 0)))), none⟩,
.op ⟨(some 9), (.pure (.mv (.const (.bool false)))), none⟩])
(.ret))
(.skip)))
(.seq (.ops [
.op ⟨(some 17), (.load (some 2) (.tmp 4)), none⟩,
.op ⟨(some 18), (.pure (.mv (.tmp 1))), none⟩,
.op ⟨(some 19), (.pure (.mv (.tmp 2))), none⟩,
.op ⟨(some 20), (.pure (.mv (.tmp 3))), none⟩,
.op ⟨(some 21), (.eff (.call 116 [(.tmp 17), (.tmp 18), (.tmp 19), (.tmp 20)])), none⟩,
.op ⟨(some 8), (.pure (.mv (.tmp 21))), none⟩,
.op ⟨(some 9), (.pure (.mv (.const (.bool true)))), none⟩])
(.ret))),
[.tmp 8, .tmp 9]⟩
theorem r_impl_ArrivalsFrom : resFun Try.prog f_impl_ArrivalsFrom = some c_impl_ArrivalsFrom := by kernel_rfl

/- loop.example/g00940/spec.WaitsAlong -/
abbrev f_spec_WaitsAlong : Nat := 52
def c_spec_WaitsAlong : MFun := ⟨24, .seq (.ops [
.op ⟨(some 4), (.eff (.box 32 (.tmp 0))), none⟩,
.op ⟨(some 8), (.pure (.mv (.const (.slice none 0 0)))), none⟩,
.op ⟨(some 9), (.pure (.mv (.const (.bool false)))), none⟩])
(.seq (.ops [
.op ⟨(some 14), (.load (some 2) (.tmp 4)), none⟩,
.op ⟨(some 15), (.pure (.mv (.tmp 1))), none⟩,
.op ⟨(some 16), (.pure (.mv (.tmp 2))), none⟩,
.op ⟨(some 17), (.pure (.mv (.tmp 3))), none⟩,
.op ⟨(some 18), (.eff (.call 123 [(.tmp 14), (.tmp 15), (.tmp 16), (.tmp 17)])), none⟩,
.op ⟨(some 13), (.pure (.mv (.tmp 18))), none⟩,
.op ⟨(some 19), (.pure (.ext 0 (.tmp 13))), none⟩,
.op ⟨(some 20), (.pure (.ext 1 (.tmp 13))), none⟩,
.op ⟨(some 21), (.pure (.ext 2 (.tmp 13))), none⟩,
.op ⟨(some 10), (.pure (.mv (.tmp 19))), none⟩,
.op ⟨(some 11), (.pure (.mv (.tmp 20))), none⟩,
.op ⟨(some 12), (.pure (.mv (.tmp 21))), none⟩])
(.seq (.ops [
.op ⟨(some 22), (.pure (.mv (.tmp 11))), none⟩,
.op ⟨(some 23), (.pure (.mv (.tmp 12))), none⟩,
.op ⟨(some 8), (.pure (.mv (.tmp 22))), none⟩,
.op ⟨(some 9), (.pure (.mv (.tmp 23))), none⟩])
(.ret))),
[.tmp 8, .tmp 9]⟩
theorem r_spec_WaitsAlong : resFun Try.prog f_spec_WaitsAlong = some c_spec_WaitsAlong := by kernel_rfl

/- loop.example/g00940/impl.WaitsAlong -/
abbrev f_impl_WaitsAlong : Nat := 53
def c_impl_WaitsAlong : MFun := ⟨72, .seq (.ops [
.op ⟨(some 4), (.eff (.box 32 (.tmp 0))), none⟩,
.op ⟨(some 8), (.pure (.mv (.const (.slice none 0 0)))), none⟩,
.op ⟨(some 9), (.pure (.mv (.const (.bool false)))), none⟩])
(.seq (.seq (.ops [
.op ⟨(some 14), (.load (some 2) (.tmp 4)), none⟩,
.op ⟨(some 15), (.eff (.call 127 [(.tmp 14)])), none⟩,
.op ⟨(some 16), (.pure (.bnot (.tmp 15))), none⟩,
.op ⟨(some 17), (.pure (.mv (.tmp 16))), none⟩,
.split 17,
.op ⟨(some 18), (.load (some 2) (.tmp 4)), (some (17, false))⟩,
.op ⟨(some 19), (.pure (.mv (.tmp 1))), (some (17, false))⟩,
.op ⟨(some 20), (.eff (.call 128 [(.tmp 18), (.tmp 19)])), (some (17, false))⟩,
.op ⟨(some 21), (.pure (.bnot (.tmp 20))), (some (17, false))⟩,
.op ⟨(some 22), (.pure (.pick (.tmp 17) (.const (.bool true)) (.tmp 21))), none⟩,
.op ⟨(some 23), (.pure (.mv (.tmp 22))), none⟩,
.split 23,
.op ⟨(some 24), (.pure (.mv (.tmp 3))), (some (23, false))⟩,
.op ⟨(some 25), (.eff (.call 129 [(.tmp 24), (.const (.int .i64 (0))), (.const (.int .i64 (10000)))])), (some (23, false))⟩,
.op ⟨(some 26), (.pure (.bnot (.tmp 25))), (some (23, false))⟩,
.op ⟨(some 27), (.pure (.pick (.tmp 23) (.const (.bool true)) (.tmp 26))), none⟩,
.op ⟨(some 28), (.pure (.mv (.tmp 27))), none⟩,
.split 28,
.op ⟨(some 29), (.load (some 2) (.tmp 4)), (some (28, false))⟩,
.op ⟨(some 30), (.pure (.mv (.tmp 2))), (some (28, false))⟩,
.op ⟨(some 31), (.eff (.call 130 [(.tmp 29), (.tmp 30)])), (some (28, false))⟩,
.op ⟨(some 32), (.pure (.bnot (.tmp 31))), (some (28, false))⟩,
.op ⟨(some 33), (.pure (.pick (.tmp 28) (.const (.bool true)) (.tmp 32))), none⟩])
(.cond (.tmp 33)
(.seq (.ops [
.op ⟨(some 8), (.pure (.mv (.const (.slice none 0 0)))), none⟩,
.op ⟨(some 9), (.pure (.mv (.const (.bool false)))), none⟩])
(.ret))
(.skip)))
(.seq (.ops [
.op ⟨(some 10), (.pure (.mv (.const (.slice none 0 0)))), none⟩])
(.seq (.seq (.ops [
.op ⟨(some 34), (.pure (.mv (.tmp 2))), none⟩,
.op ⟨(some 35), (.pure (.len (.tmp 34))), none⟩,
.op ⟨(some 36), (.pure (.bin .sub (.tmp 35) (.const (.int .i64 (1))))), none⟩,
.op ⟨(some 37), (.pure (.mv (.const (.int .i64 (0))))), none⟩])
(.block 0 (.loop (.seq (.ops [
.op ⟨(some 38), (.pure (.bin .lss (.tmp 37) (.tmp 36))), none⟩])
(.seq (.cond (.tmp 38)
(.skip)
(.exit 0))
(.seq (.block 1 (.seq (.ops [
.op ⟨(some 39), (.pure (.mv (.tmp 37))), none⟩,
.op ⟨(some 11), (.pure (.mv (.tmp 39))), none⟩])
(.seq (.draw false
(.take ⟨(some 41), (.pure (.mv (.tmp 2))), none⟩
(.take ⟨(some 42), (.pure (.mv (.tmp 11))), none⟩
(.take ⟨(some 43), (.pure (.idx 1 (.tmp 41) (.tmp 42))), none⟩
(.take ⟨(some 45), (.pure (.mv (.tmp 2))), none⟩
(.take ⟨(some 46), (.pure (.mv (.tmp 11))), none⟩
(.take ⟨(some 47), (.pure (.bin .add (.tmp 46) (.const (.int .i64 (1))))), none⟩
(.take ⟨(some 48), (.pure (.idx 1 (.tmp 45) (.tmp 47))), none⟩
(.only false ⟨(some 40), (.load (some 2) (.tmp 4)), none⟩
(.only false ⟨(some 44), (.load none (.tmp 43)), none⟩
(.only false ⟨(some 49), (.load none (.tmp 48)), none⟩
(.only true ⟨(some 50), (.eff (.call 124 [(.tmp 40), (.tmp 44), (.tmp 49)])), none⟩
(.take ⟨(some 12), (.pure (.mv (.tmp 50))), none⟩
(.done))))))))))))))
(.seq (.ops [
.op ⟨(some 51), (.load (some 2) (.tmp 4)), none⟩,
.op ⟨(some 52), (.pure (.mv (.tmp 1))), none⟩,
.op ⟨(some 53), (.pure (.mv (.tmp 12))), none⟩,
.op ⟨(some 54), (.pure (.mv (.tmp 3))), none⟩,
.op ⟨(some 55), (.eff (.call 131 [(.tmp 51), (.tmp 52), (.tmp 53), (.tmp 54)])), none⟩,
.op ⟨(some 13), (.pure (.mv (.tmp 55))), none⟩])
(.seq (.ops [
.op ⟨(some 56), (.pure (.mv (.tmp 10))), none⟩,
.op ⟨(some 57), (.pure (.mv (.tmp 13))), none⟩,
.op ⟨(some 58), (.pure (.mv (.tmp 3))), none⟩,
.op ⟨(some 59), (.pure (.bin .sub (.tmp 57) (.tmp 58))), none⟩,
.op ⟨(some 60), (.pure (.fieldAddr 1 (.tmp 4))), none⟩,
.op ⟨(some 61), (.load none (.tmp 60)), none⟩,
.op ⟨(some 62), (.pure (.mv (.tmp 12))), none⟩,
.op ⟨(some 63), (.pure (.idx 3 (.tmp 61) (.tmp 62))), none⟩,
.op ⟨(some 64), (.pure (.fieldAddr 2 (.tmp 63))), none⟩,
.op ⟨(some 65), (.load none (.tmp 64)), none⟩,
.op ⟨(some 66), (.pure (.bin .sub (.tmp 59) (.tmp 65))), none⟩,
.op ⟨(some 67), (.eff (.row 3 1 [(.int .i64 (0))] [(0, 1, (.tmp 66))])), none⟩,
.op ⟨(some 68), (.eff (.app 3 1 8 (.tmp 56) (.tmp 67))), none⟩,
.op ⟨(some 10), (.pure (.mv (.tmp 68))), none⟩])
(.ops [
.op ⟨(some 69), (.pure (.mv (.tmp 13))), none⟩,
.op ⟨(some 3), (.pure (.mv (.tmp 69))), none⟩]))))))
(.ops [
.op ⟨(some 70), (.pure (.bin .add (.tmp 37) (.const (.int .i64 (1))))), none⟩,
.op ⟨(some 37), (.pure (.mv (.tmp 70))), none⟩])))))))
(.seq (.ops [
.op ⟨(some 71), (.pure (.mv (.tmp 10))), none⟩,
.op ⟨(some 8), (.pure (.mv (.tmp 71))), none⟩,
.op ⟨(some 9), (.pure (.mv (.const (.bool true)))), none⟩])
(.ret))))),
[.tmp 8, .tmp 9]⟩
theorem r_impl_WaitsAlong : resFun Try.prog f_impl_WaitsAlong = some c_impl_WaitsAlong := by kernel_rfl

/- loop.example/g00940/spec.WayThrough -/
abbrev f_spec_WayThrough : Nat := 54
def c_spec_WayThrough : MFun := ⟨46, .seq (.ops [
.op ⟨(some 5), (.eff (.box 32 (.tmp 0))), none⟩,
.op ⟨(some 10), (.pure (.mv (.const (.slice none 0 0)))), none⟩,
.op ⟨(some 11), (.pure (.mv (.const (.bool false)))), none⟩])
(.seq (.seq (.ops [
.op ⟨(some 14), (.load (some 2) (.tmp 5)), none⟩,
.op ⟨(some 15), (.pure (.mv (.tmp 1))), none⟩,
.op ⟨(some 16), (.pure (.mv (.tmp 2))), none⟩,
.op ⟨(some 17), (.pure (.mv (.tmp 3))), none⟩,
.op ⟨(some 18), (.pure (.mv (.tmp 4))), none⟩,
.op ⟨(some 19), (.eff (.call 112 [(.tmp 14), (.tmp 15), (.tmp 16), (.tmp 17), (.tmp 18)])), none⟩,
.op ⟨(some 20), (.pure (.bnot (.tmp 19))), none⟩])
(.cond (.tmp 20)
(.seq (.ops [
.op ⟨(some 10), (.pure (.mv (.const (.slice none 0 0)))), none⟩,
.op ⟨(some 11), (.pure (.mv (.const (.bool false)))), none⟩])
(.ret))
(.skip)))
(.seq (.ops [
.op ⟨(some 21), (.load (some 2) (.tmp 5)), none⟩,
.op ⟨(some 22), (.pure (.mv (.tmp 1))), none⟩,
.op ⟨(some 23), (.pure (.mv (.tmp 2))), none⟩,
.op ⟨(some 24), (.pure (.mv (.tmp 4))), none⟩,
.op ⟨(some 25), (.eff (.call 113 [(.tmp 21), (.tmp 22), (.tmp 23), (.tmp 24)])), none⟩,
.op ⟨(some 12), (.pure (.mv (.tmp 25))), none⟩])
(.seq (.seq (.ops [
.op ⟨(some 26), (.pure (.mv (.tmp 12))), none⟩,
.op ⟨(some 27), (.pure (.mv (.tmp 3))), none⟩,
.op ⟨(some 28), (.pure (.idx 1 (.tmp 26) (.tmp 27))), none⟩,
.op ⟨(some 29), (.load none (.tmp 28)), none⟩,
.op ⟨(some 30), (.pure (.bin .lss (.tmp 29) (.const (.int .i64 (0))))), none⟩])
(.cond (.tmp 30)
(.seq (.ops [
.op ⟨(some 10), (.pure (.mv (.const (.slice none 0 0)))), none⟩,
.op ⟨(some 11), (.pure (.mv (.const (.bool false)))), none⟩])
(.ret))
(.skip)))
(.seq (.ops [
.op ⟨(some 31), (.pure (.mv (.tmp 3))), none⟩,
.op ⟨(some 32), (.eff (.row 3 1 [(.int .i64 (0))] [(0, 1, (.tmp 31))])), none⟩,
.op ⟨(some 13), (.pure (.mv (.tmp 32))), none⟩])
(.seq (.block 0 (.loop (.seq (.seq (.ops [
.op ⟨(some 33), (.pure (.mv (.tmp 3))), none⟩,
.op ⟨(some 34), (.pure (.mv (.tmp 2))), none⟩,
.op ⟨(some 35), (.pure (.bin .neq (.tmp 33) (.tmp 34))), none⟩])
(.cond (.tmp 35)
(.skip)
(.exit 0)))
(.block 1 (.seq (.ops [
.op ⟨(some 36), (.load (some 2) (.tmp 5)), none⟩,
.op ⟨(some 37), (.pure (.mv (.tmp 1))), none⟩,
.op ⟨(some 38), (.pure (.mv (.tmp 12))), none⟩,
.op ⟨(some 39), (.pure (.mv (.tmp 3))), none⟩,
.op ⟨(some 40), (.eff (.call 132 [(.tmp 36), (.tmp 37), (.tmp 38), (.tmp 39)])), none⟩,
.op ⟨(some 3), (.pure (.mv (.tmp 40))), none⟩])
(.ops [
.op ⟨(some 41), (.pure (.mv (.tmp 3))), none⟩,
.op ⟨(some 42), (.eff (.row 3 1 [(.int .i64 (0))] [(0, 1, (.tmp 41))])), none⟩,
.op ⟨(some 43), (.pure (.mv (.tmp 13))), none⟩,
.op ⟨(some 44), (.eff (.app 3 1 8 (.tmp 42) (.tmp 43))), none⟩,
.op ⟨(some 13), (.pure (.mv (.tmp 44))), none⟩]))))))
(.seq (.ops [
.op ⟨(some 45), (.pure (.mv (.tmp 13))), none⟩,
.op ⟨(some 10), (.pure (.mv (.tmp 45))), none⟩,
.op ⟨(some 11), (.pure (.mv (.const (.bool true)))), none⟩])
(.ret))))))),
[.tmp 10, .tmp 11]⟩
theorem r_spec_WayThrough : resFun Try.prog f_spec_WayThrough = some c_spec_WayThrough := by kernel_rfl

/- loop.example/g00940/impl.WayThrough -/
abbrev f_impl_WayThrough : Nat := 55
def c_impl_WayThrough : MFun := ⟨83, .seq (.ops [
.op ⟨(some 5), (.eff (.box 32 (.tmp 0))), none⟩,
.op ⟨(some 10), (.pure (.mv (.const (.slice none 0 0)))), none⟩,
.op ⟨(some 11), (.pure (.mv (.const (.bool false)))), none⟩])
(.seq (.seq (.ops [
.op ⟨(some 17), (.load (some 2) (.tmp 5)), none⟩,
.op ⟨(some 18), (.pure (.mv (.tmp 1))), none⟩,
.op ⟨(some 19), (.pure (.mv (.tmp 2))), none⟩,
.op ⟨(some 20), (.pure (.mv (.tmp 3))), none⟩,
.op ⟨(some 21), (.pure (.mv (.tmp 4))), none⟩,
.op ⟨(some 22), (.eff (.call 115 [(.tmp 17), (.tmp 18), (.tmp 19), (.tmp 20), (.tmp 21)])), none⟩,
.op ⟨(some 23), (.pure (.bnot (.tmp 22))), none⟩])
(.cond (.tmp 23)
(.seq (.ops [
.op ⟨(some 10), (.pure (.mv (.const (.slice none 0 0)))), none⟩,
.op ⟨(some 11), (.pure (.mv (.const (.bool false)))), none⟩])
(.ret))
(.skip)))
(.seq (.ops [
.op ⟨(some 24), (.load (some 2) (.tmp 5)), none⟩,
.op ⟨(some 25), (.pure (.mv (.tmp 1))), none⟩,
.op ⟨(some 26), (.pure (.mv (.tmp 2))), none⟩,
.op ⟨(some 27), (.pure (.mv (.tmp 4))), none⟩,
.op ⟨(some 28), (.eff (.call 116 [(.tmp 24), (.tmp 25), (.tmp 26), (.tmp 27)])), none⟩,
.op ⟨(some 12), (.pure (.mv (.tmp 28))), none⟩])
(.seq (.seq (.ops [
.op ⟨(some 29), (.pure (.mv (.tmp 12))), none⟩,
.op ⟨(some 30), (.pure (.mv (.tmp 3))), none⟩,
.op ⟨(some 31), (.pure (.idx 1 (.tmp 29) (.tmp 30))), none⟩,
.op ⟨(some 32), (.load none (.tmp 31)), none⟩,
.op ⟨(some 33), (.pure (.bin .lss (.tmp 32) (.const (.int .i64 (0))))), none⟩])
(.cond (.tmp 33)
(.seq (.ops [
.op ⟨(some 10), (.pure (.mv (.const (.slice none 0 0)))), none⟩,
.op ⟨(some 11), (.pure (.mv (.const (.bool false)))), none⟩])
(.ret))
(.skip)))
(.seq (.ops [
.op ⟨(some 34), (.pure (.mv (.tmp 3))), none⟩,
.op ⟨(some 35), (.eff (.row 3 1 [(.int .i64 (0))] [(0, 1, (.tmp 34))])), none⟩,
.op ⟨(some 13), (.pure (.mv (.tmp 35))), none⟩])
(.seq (.seq (.ops [
.op ⟨(some 36), (.pure (.mv (.tmp 3))), none⟩,
.op ⟨(some 14), (.pure (.mv (.tmp 36))), none⟩])
(.block 0 (.loop (.seq (.seq (.ops [
.op ⟨(some 37), (.pure (.mv (.tmp 14))), none⟩,
.op ⟨(some 38), (.pure (.mv (.tmp 2))), none⟩,
.op ⟨(some 39), (.pure (.bin .neq (.tmp 37) (.tmp 38))), none⟩])
(.cond (.tmp 39)
(.skip)
(.exit 0)))
(.block 1 (.seq (.seq (.ops [
.op ⟨(some 40), (.pure (.fieldAddr 0 (.tmp 5))), none⟩,
.op ⟨(some 41), (.load none (.tmp 40)), none⟩,
.op ⟨(some 42), (.pure (.len (.tmp 41))), none⟩,
.op ⟨(some 43), (.pure (.mv (.const (.int .i64 (0))))), none⟩])
(.block 2 (.loop (.seq (.ops [
.op ⟨(some 44), (.pure (.bin .lss (.tmp 43) (.tmp 42))), none⟩])
(.seq (.cond (.tmp 44)
(.skip)
(.exit 2))
(.seq (.block 3 (.seq (.ops [
.op ⟨(some 45), (.pure (.mv (.tmp 43))), none⟩,
.op ⟨(some 15), (.pure (.mv (.tmp 45))), none⟩])
(.seq (.ops [
.op ⟨(some 46), (.load (some 2) (.tmp 5)), none⟩,
.op ⟨(some 47), (.pure (.mv (.tmp 15))), none⟩,
.op ⟨(some 48), (.pure (.mv (.tmp 14))), none⟩,
.op ⟨(some 49), (.eff (.call 124 [(.tmp 46), (.tmp 47), (.tmp 48)])), none⟩,
.op ⟨(some 16), (.pure (.mv (.tmp 49))), none⟩])
(.seq (.draw true
(.take ⟨(some 50), (.pure (.mv (.tmp 16))), none⟩
(.take ⟨(some 51), (.pure (.bin .geq (.tmp 50) (.const (.int .i64 (0))))), none⟩
(.take ⟨(some 52), (.pure (.mv (.tmp 51))), none⟩
(.split 52
(.take ⟨(some 53), (.pure (.mv (.tmp 12))), (some (52, true))⟩
(.take ⟨(some 54), (.pure (.mv (.tmp 15))), (some (52, true))⟩
(.take ⟨(some 55), (.pure (.idx 1 (.tmp 53) (.tmp 54))), (some (52, true))⟩
(.only false ⟨(some 56), (.load none (.tmp 55)), (some (52, true))⟩
(.take ⟨(some 57), (.pure (.bin .geq (.tmp 56) (.const (.int .i64 (0))))), (some (52, true))⟩
(.take ⟨(some 58), (.pure (.pick (.tmp 52) (.tmp 57) (.const (.bool false)))), none⟩
(.take ⟨(some 59), (.pure (.mv (.tmp 58))), none⟩
(.split 59
(.take ⟨(some 61), (.pure (.mv (.tmp 1))), (some (59, true))⟩
(.take ⟨(some 62), (.pure (.mv (.tmp 16))), (some (59, true))⟩
(.take ⟨(some 63), (.pure (.mv (.tmp 12))), (some (59, true))⟩
(.take ⟨(some 64), (.pure (.mv (.tmp 15))), (some (59, true))⟩
(.take ⟨(some 65), (.pure (.idx 1 (.tmp 63) (.tmp 64))), (some (59, true))⟩
(.take ⟨(some 68), (.pure (.mv (.tmp 12))), (some (59, true))⟩
(.take ⟨(some 69), (.pure (.mv (.tmp 14))), (some (59, true))⟩
(.take ⟨(some 70), (.pure (.idx 1 (.tmp 68) (.tmp 69))), (some (59, true))⟩
(.only false ⟨(some 60), (.load (some 2) (.tmp 5)), (some (59, true))⟩
(.only false ⟨(some 66), (.load none (.tmp 65)), (some (59, true))⟩
(.take ⟨(some 71), (.load none (.tmp 70)), (some (59, true))⟩
(.only false ⟨(some 67), (.eff (.call 131 [(.tmp 60), (.tmp 61), (.tmp 62), (.tmp 66)])), (some (59, true))⟩
(.take ⟨(some 72), (.pure (.bin .eql (.tmp 67) (.tmp 71))), (some (59, true))⟩
(.take ⟨(some 73), (.pure (.pick (.tmp 59) (.tmp 72) (.const (.bool false)))), none⟩
(.done))))))))))))))))))))))))))))
(.cond (.tmp 73)
(.seq (.ops [
.op ⟨(some 74), (.pure (.mv (.tmp 15))), none⟩,
.op ⟨(some 14), (.pure (.mv (.tmp 74))), none⟩])
(.exit 2))
(.skip))))))
(.ops [
.op ⟨(some 75), (.pure (.bin .add (.tmp 43) (.const (.int .i64 (1))))), none⟩,
.op ⟨(some 43), (.pure (.mv (.tmp 75))), none⟩])))))))
(.ops [
.op ⟨(some 76), (.pure (.mv (.tmp 13))), none⟩,
.op ⟨(some 77), (.pure (.mv (.tmp 14))), none⟩,
.op ⟨(some 78), (.eff (.row 3 1 [(.int .i64 (0))] [(0, 1, (.tmp 77))])), none⟩,
.op ⟨(some 79), (.eff (.app 3 1 8 (.tmp 76) (.tmp 78))), none⟩,
.op ⟨(some 13), (.pure (.mv (.tmp 79))), none⟩])))))))
(.seq (.ops [
.op ⟨(some 80), (.pure (.mv (.tmp 13))), none⟩,
.op ⟨(some 81), (.eff (.call 133 [(.tmp 80)])), none⟩])
(.seq (.ops [
.op ⟨(some 82), (.pure (.mv (.tmp 13))), none⟩,
.op ⟨(some 10), (.pure (.mv (.tmp 82))), none⟩,
.op ⟨(some 11), (.pure (.mv (.const (.bool true)))), none⟩])
(.ret)))))))),
[.tmp 10, .tmp 11]⟩
theorem r_impl_WayThrough : resFun Try.prog f_impl_WayThrough = some c_impl_WayThrough := by kernel_rfl

/- loop.example/g00940/spec.AddFog -/
abbrev f_spec_AddFog : Nat := 86
def c_spec_AddFog : MFun := ⟨34, .seq (.ops [
.op ⟨(some 3), (.eff (.box 32 (.tmp 0))), none⟩,
.op ⟨(some 5), (.eff (.box 96 (.tmp 2))), none⟩,
.op ⟨(some 6), (.pure (.mv (.const (.slice none 0 0)))), none⟩,
.op ⟨(some 7), (.pure (.mv (.const (.bool false)))), none⟩])
(.seq (.seq (.draw true
(.only false ⟨(some 8), (.load (some 2) (.tmp 3)), none⟩
(.only false ⟨(some 9), (.eff (.call 107 [(.tmp 8)])), none⟩
(.take ⟨(some 10), (.pure (.bnot (.tmp 9))), none⟩
(.take ⟨(some 11), (.pure (.mv (.tmp 10))), none⟩
(.split 11
(.take ⟨(some 13), (.pure (.mv (.tmp 1))), (some (11, false))⟩
(.only false ⟨(some 12), (.load (some 2) (.tmp 3)), (some (11, false))⟩
(.only false ⟨(some 14), (.eff (.call 143 [(.tmp 12), (.tmp 13)])), (some (11, false))⟩
(.take ⟨(some 15), (.pure (.bnot (.tmp 14))), (some (11, false))⟩
(.take ⟨(some 16), (.pure (.pick (.tmp 11) (.const (.bool true)) (.tmp 15))), none⟩
(.take ⟨(some 17), (.pure (.mv (.tmp 16))), none⟩
(.split 17
(.take ⟨(some 18), (.load (some 2) (.tmp 3)), (some (17, false))⟩
(.only false ⟨(some 19), (.load (some 3) (.tmp 5)), (some (17, false))⟩
(.only false ⟨(some 20), (.eff (.call 161 [(.tmp 18), (.tmp 19)])), (some (17, false))⟩
(.take ⟨(some 21), (.pure (.bnot (.tmp 20))), (some (17, false))⟩
(.take ⟨(some 22), (.pure (.pick (.tmp 17) (.const (.bool true)) (.tmp 21))), none⟩
(.take ⟨(some 23), (.pure (.mv (.tmp 22))), none⟩
(.split 23
(.take ⟨(some 25), (.pure (.mv (.tmp 1))), (some (23, false))⟩
(.take ⟨(some 24), (.load (some 2) (.tmp 3)), (some (23, false))⟩
(.only false ⟨(some 26), (.load (some 3) (.tmp 5)), (some (23, false))⟩
(.only false ⟨(some 27), (.eff (.call 162 [(.tmp 25), (.tmp 26)])), (some (23, false))⟩
(.only true ⟨(some 28), (.eff (.call 143 [(.tmp 24), (.tmp 27)])), (some (23, false))⟩
(.take ⟨(some 29), (.pure (.bnot (.tmp 28))), (some (23, false))⟩
(.take ⟨(some 30), (.pure (.pick (.tmp 23) (.const (.bool true)) (.tmp 29))), none⟩
(.done))))))))))))))))))))))))))))
(.cond (.tmp 30)
(.seq (.ops [
.op ⟨(some 6), (.pure (.mv (.const (.slice none 0 0)))), none⟩,
.op ⟨(some 7), (.pure (.mv (.const (.bool false)))), none⟩])
(.ret))
(.skip)))
(.seq (.ops [
.op ⟨(some 31), (.pure (.mv (.tmp 1))), none⟩,
.op ⟨(some 32), (.load (some 3) (.tmp 5)), none⟩,
.op ⟨(some 33), (.eff (.call 162 [(.tmp 31), (.tmp 32)])), none⟩,
.op ⟨(some 6), (.pure (.mv (.tmp 33))), none⟩,
.op ⟨(some 7), (.pure (.mv (.const (.bool true)))), none⟩])
(.ret))),
[.tmp 6, .tmp 7]⟩
theorem r_spec_AddFog : resFun Try.prog f_spec_AddFog = some c_spec_AddFog := by kernel_rfl

/- loop.example/g00940/laws.toFog -/
abbrev f_laws_toFog : Nat := 87
def c_laws_toFog : MFun := ⟨14, .seq (.ops [
.op ⟨(some 1), (.eff (.box 93 (.tmp 0))), none⟩,
.op ⟨(some 2), (.eff (.new 96 [(.int .i64 (0)), (.int .i64 (0)), (.int .i64 (0))])), none⟩])
(.seq (.ops [
.op ⟨(some 3), (.eff (.new 96 [(.int .i64 (0)), (.int .i64 (0)), (.int .i64 (0))])), none⟩])
(.seq (.ops [
.op ⟨(some 4), (.pure (.fieldAddr 0 (.tmp 1))), none⟩,
.op ⟨(some 5), (.load none (.tmp 4)), none⟩,
.op ⟨(some 6), (.pure (.fieldAddr 0 (.tmp 3))), none⟩,
.op ⟨none, (.eff (.store 1 (.tmp 6) (.tmp 5))), none⟩])
(.seq (.ops [
.op ⟨(some 7), (.pure (.fieldAddr 1 (.tmp 1))), none⟩,
.op ⟨(some 8), (.load none (.tmp 7)), none⟩,
.op ⟨(some 9), (.pure (.fieldAddr 1 (.tmp 3))), none⟩,
.op ⟨none, (.eff (.store 1 (.tmp 9) (.tmp 8))), none⟩])
(.seq (.ops [
.op ⟨(some 10), (.pure (.fieldAddr 2 (.tmp 1))), none⟩,
.op ⟨(some 11), (.load none (.tmp 10)), none⟩,
.op ⟨(some 12), (.pure (.fieldAddr 2 (.tmp 3))), none⟩,
.op ⟨none, (.eff (.store 1 (.tmp 12) (.tmp 11))), none⟩])
(.seq (.ops [
.op ⟨(some 13), (.load (some 3) (.tmp 3)), none⟩,
.op ⟨none, (.eff (.store 3 (.tmp 2) (.tmp 13))), none⟩])
(.ret)))))),
[.cell 2 (some 3)]⟩
theorem r_laws_toFog : resFun Try.prog f_laws_toFog = some c_laws_toFog := by kernel_rfl

/- loop.example/g00940/impl.AddFog -/
abbrev f_impl_AddFog : Nat := 88
def c_impl_AddFog : MFun := ⟨78, .seq (.ops [
.op ⟨(some 3), (.eff (.box 32 (.tmp 0))), none⟩,
.op ⟨(some 5), (.eff (.box 96 (.tmp 2))), none⟩,
.op ⟨(some 6), (.pure (.mv (.const (.slice none 0 0)))), none⟩,
.op ⟨(some 7), (.pure (.mv (.const (.bool false)))), none⟩])
(.seq (.seq (.ops [
.op ⟨(some 11), (.load (some 2) (.tmp 3)), none⟩,
.op ⟨(some 12), (.eff (.call 127 [(.tmp 11)])), none⟩,
.op ⟨(some 13), (.pure (.bnot (.tmp 12))), none⟩,
.op ⟨(some 14), (.pure (.mv (.tmp 13))), none⟩,
.split 14,
.op ⟨(some 15), (.load (some 2) (.tmp 3)), (some (14, false))⟩,
.op ⟨(some 16), (.pure (.mv (.tmp 1))), (some (14, false))⟩,
.op ⟨(some 17), (.eff (.call 128 [(.tmp 15), (.tmp 16)])), (some (14, false))⟩,
.op ⟨(some 18), (.pure (.bnot (.tmp 17))), (some (14, false))⟩,
.op ⟨(some 19), (.pure (.pick (.tmp 14) (.const (.bool true)) (.tmp 18))), none⟩,
.op ⟨(some 20), (.pure (.mv (.tmp 19))), none⟩,
.split 20,
.op ⟨(some 21), (.load (some 2) (.tmp 3)), (some (20, false))⟩,
.op ⟨(some 22), (.load (some 3) (.tmp 5)), (some (20, false))⟩,
.op ⟨(some 23), (.eff (.call 163 [(.tmp 21), (.tmp 22)])), (some (20, false))⟩,
.op ⟨(some 24), (.pure (.bnot (.tmp 23))), (some (20, false))⟩,
.op ⟨(some 25), (.pure (.pick (.tmp 20) (.const (.bool true)) (.tmp 24))), none⟩])
(.cond (.tmp 25)
(.seq (.ops [
.op ⟨(some 6), (.pure (.mv (.const (.slice none 0 0)))), none⟩,
.op ⟨(some 7), (.pure (.mv (.const (.bool false)))), none⟩])
(.ret))
(.skip)))
(.seq (.ops [
.op ⟨(some 8), (.pure (.mv (.const (.slice none 0 0)))), none⟩])
(.seq (.seq (.ops [
.op ⟨(some 26), (.pure (.mv (.tmp 1))), none⟩,
.op ⟨(some 27), (.pure (.len (.tmp 26))), none⟩,
.op ⟨(some 28), (.pure (.mv (.const (.int .i64 (0))))), none⟩])
(.block 0 (.loop (.seq (.ops [
.op ⟨(some 29), (.pure (.bin .lss (.tmp 28) (.tmp 27))), none⟩])
(.seq (.cond (.tmp 29)
(.skip)
(.exit 0))
(.seq (.block 1 (.seq (.ops [
.op ⟨(some 30), (.pure (.idx 3 (.tmp 26) (.tmp 28))), none⟩,
.op ⟨(some 31), (.load (some 3) (.tmp 30)), none⟩,
.op ⟨(some 10), (.eff (.new 96 [(.int .i64 (0)), (.int .i64 (0)), (.int .i64 (0))])), none⟩,
.op ⟨none, (.eff (.store 3 (.tmp 10) (.tmp 31))), none⟩])
(.seq (.ops [
.op ⟨(some 32), (.pure (.fieldAddr 0 (.tmp 10))), none⟩,
.op ⟨(some 33), (.load none (.tmp 32)), none⟩,
.op ⟨(some 34), (.pure (.fieldAddr 0 (.tmp 5))), none⟩,
.op ⟨(some 35), (.load none (.tmp 34)), none⟩,
.op ⟨(some 36), (.pure (.bin .eql (.tmp 33) (.tmp 35))), none⟩,
.op ⟨(some 37), (.pure (.mv (.tmp 36))), none⟩,
.split 37,
.op ⟨(some 38), (.pure (.fieldAddr 1 (.tmp 10))), (some (37, true))⟩,
.op ⟨(some 39), (.load none (.tmp 38)), (some (37, true))⟩,
.op ⟨(some 40), (.pure (.fieldAddr 2 (.tmp 5))), (some (37, true))⟩,
.op ⟨(some 41), (.load none (.tmp 40)), (some (37, true))⟩,
.op ⟨(some 42), (.pure (.bin .leq (.tmp 39) (.tmp 41))), (some (37, true))⟩,
.op ⟨(some 43), (.pure (.pick (.tmp 37) (.tmp 42) (.const (.bool false)))), none⟩,
.op ⟨(some 44), (.pure (.mv (.tmp 43))), none⟩,
.split 44,
.op ⟨(some 45), (.pure (.fieldAddr 1 (.tmp 5))), (some (44, true))⟩,
.op ⟨(some 46), (.load none (.tmp 45)), (some (44, true))⟩,
.op ⟨(some 47), (.pure (.fieldAddr 2 (.tmp 10))), (some (44, true))⟩,
.op ⟨(some 48), (.load none (.tmp 47)), (some (44, true))⟩,
.op ⟨(some 49), (.pure (.bin .leq (.tmp 46) (.tmp 48))), (some (44, true))⟩,
.op ⟨(some 50), (.pure (.pick (.tmp 44) (.tmp 49) (.const (.bool false)))), none⟩])
(.cond (.tmp 50)
(.draw true
(.take ⟨(some 51), (.pure (.fieldAddr 1 (.tmp 5))), none⟩
(.take ⟨(some 53), (.pure (.fieldAddr 1 (.tmp 10))), none⟩
(.take ⟨(some 56), (.pure (.fieldAddr 2 (.tmp 5))), none⟩
(.take ⟨(some 58), (.pure (.fieldAddr 2 (.tmp 10))), none⟩
(.only false ⟨(some 52), (.load none (.tmp 51)), none⟩
(.only false ⟨(some 54), (.load none (.tmp 53)), none⟩
(.take ⟨(some 55), (.pure (.min2 (.tmp 52) (.tmp 54))), none⟩
(.only false ⟨(some 57), (.load none (.tmp 56)), none⟩
(.take ⟨(some 61), (.pure (.fieldAddr 1 (.tmp 5))), none⟩
(.take ⟨(some 59), (.load none (.tmp 58)), none⟩
(.take ⟨(some 60), (.pure (.max2 (.tmp 57) (.tmp 59))), none⟩
(.only false ⟨none, (.eff (.store 1 (.tmp 61) (.tmp 55))), none⟩
(.take ⟨(some 62), (.pure (.fieldAddr 2 (.tmp 5))), none⟩
(.only true ⟨none, (.eff (.store 1 (.tmp 62) (.tmp 60))), none⟩
(.done))))))))))))))))
(.ops [
.op ⟨(some 63), (.pure (.mv (.tmp 8))), none⟩,
.op ⟨(some 64), (.load (some 3) (.tmp 10)), none⟩,
.op ⟨(some 65), (.eff (.row 96 1 [(.int .i64 (0)), (.int .i64 (0)), (.int .i64 (0))] [(0, 3, (.tmp 64))])), none⟩,
.op ⟨(some 66), (.eff (.app 96 3 24 (.tmp 63) (.tmp 65))), none⟩,
.op ⟨(some 8), (.pure (.mv (.tmp 66))), none⟩])))))
(.ops [
.op ⟨(some 67), (.pure (.bin .add (.tmp 28) (.const (.int .i64 (1))))), none⟩,
.op ⟨(some 28), (.pure (.mv (.tmp 67))), none⟩])))))))
(.seq (.ops [
.op ⟨(some 68), (.pure (.mv (.tmp 8))), none⟩,
.op ⟨(some 69), (.load (some 3) (.tmp 5)), none⟩,
.op ⟨(some 70), (.eff (.row 96 1 [(.int .i64 (0)), (.int .i64 (0)), (.int .i64 (0))] [(0, 3, (.tmp 69))])), none⟩,
.op ⟨(some 71), (.eff (.app 96 3 24 (.tmp 68) (.tmp 70))), none⟩,
.op ⟨(some 8), (.pure (.mv (.tmp 71))), none⟩])
(.seq (.ops [
.op ⟨(some 72), (.pure (.mv (.tmp 8))), none⟩,
.op ⟨(some 73), (.eff (.call 164 [(.tmp 72), (.func 165)])), none⟩])
(.seq (.seq (.ops [
.op ⟨(some 74), (.pure (.mv (.tmp 8))), none⟩,
.op ⟨(some 75), (.pure (.len (.tmp 74))), none⟩,
.op ⟨(some 76), (.pure (.bin .gtr (.tmp 75) (.const (.int .i64 (60))))), none⟩])
(.cond (.tmp 76)
(.seq (.ops [
.op ⟨(some 6), (.pure (.mv (.const (.slice none 0 0)))), none⟩,
.op ⟨(some 7), (.pure (.mv (.const (.bool false)))), none⟩])
(.ret))
(.skip)))
(.seq (.ops [
.op ⟨(some 77), (.pure (.mv (.tmp 8))), none⟩,
.op ⟨(some 6), (.pure (.mv (.tmp 77))), none⟩,
.op ⟨(some 7), (.pure (.mv (.const (.bool true)))), none⟩])
(.ret)))))))),
[.tmp 6, .tmp 7]⟩
theorem r_impl_AddFog : resFun Try.prog f_impl_AddFog = some c_impl_AddFog := by kernel_rfl

/- loop.example/g00940/laws.heldFogS -/
abbrev f_laws_heldFogS : Nat := 89
def c_laws_heldFogS : MFun := ⟨40, .seq (.ops [
.op ⟨(some 4), (.pure (.mv (.const (.int .i64 (0))))), none⟩])
(.seq (.seq (.ops [
.op ⟨(some 5), (.pure (.mv (.const (.int .i64 (0))))), none⟩])
(.block 0 (.loop (.seq (.seq (.ops [
.op ⟨(some 6), (.pure (.mv (.tmp 5))), none⟩,
.op ⟨(some 7), (.pure (.mv (.tmp 0))), none⟩,
.op ⟨(some 8), (.pure (.len (.tmp 7))), none⟩,
.op ⟨(some 9), (.pure (.bin .lss (.tmp 6) (.tmp 8))), none⟩])
(.cond (.tmp 9)
(.skip)
(.exit 0)))
(.seq (.block 1 (.seq (.seq (.ops [
.op ⟨(some 12), (.pure (.mv (.tmp 0))), none⟩,
.op ⟨(some 13), (.pure (.mv (.tmp 5))), none⟩,
.op ⟨(some 14), (.pure (.idx 3 (.tmp 12) (.tmp 13))), none⟩,
.op ⟨(some 15), (.pure (.fieldAddr 0 (.tmp 14))), none⟩,
.op ⟨(some 16), (.load none (.tmp 15)), none⟩,
.op ⟨(some 17), (.pure (.mv (.tmp 1))), none⟩,
.op ⟨(some 18), (.pure (.bin .neq (.tmp 16) (.tmp 17))), none⟩])
(.cond (.tmp 18)
(.seq (.ops [
.op ⟨(some 4), (.pure (.mv (.const (.int .i64 (-1))))), none⟩])
(.ret))
(.skip)))
(.seq (.ops [
.op ⟨(some 19), (.pure (.mv (.tmp 1))), none⟩,
.op ⟨(some 20), (.pure (.bin .add (.tmp 19) (.const (.int .i64 (1))))), none⟩,
.op ⟨(some 1), (.pure (.mv (.tmp 20))), none⟩])
(.seq (.seq (.ops [
.op ⟨(some 21), (.pure (.mv (.tmp 0))), none⟩,
.op ⟨(some 22), (.pure (.mv (.tmp 5))), none⟩,
.op ⟨(some 23), (.pure (.idx 3 (.tmp 21) (.tmp 22))), none⟩,
.op ⟨(some 24), (.pure (.fieldAddr 1 (.tmp 23))), none⟩,
.op ⟨(some 25), (.load none (.tmp 24)), none⟩,
.op ⟨(some 26), (.pure (.mv (.tmp 1))), none⟩,
.op ⟨(some 27), (.pure (.bin .neq (.tmp 25) (.tmp 26))), none⟩])
(.cond (.tmp 27)
(.seq (.ops [
.op ⟨(some 4), (.pure (.mv (.const (.int .i64 (-1))))), none⟩])
(.ret))
(.skip)))
(.seq (.ops [
.op ⟨(some 28), (.pure (.mv (.tmp 1))), none⟩,
.op ⟨(some 29), (.pure (.bin .add (.tmp 28) (.const (.int .i64 (1))))), none⟩,
.op ⟨(some 1), (.pure (.mv (.tmp 29))), none⟩])
(.seq (.seq (.ops [
.op ⟨(some 30), (.pure (.mv (.tmp 0))), none⟩,
.op ⟨(some 31), (.pure (.mv (.tmp 5))), none⟩,
.op ⟨(some 32), (.pure (.idx 3 (.tmp 30) (.tmp 31))), none⟩,
.op ⟨(some 33), (.pure (.fieldAddr 2 (.tmp 32))), none⟩,
.op ⟨(some 34), (.load none (.tmp 33)), none⟩,
.op ⟨(some 35), (.pure (.mv (.tmp 1))), none⟩,
.op ⟨(some 36), (.pure (.bin .neq (.tmp 34) (.tmp 35))), none⟩])
(.cond (.tmp 36)
(.seq (.ops [
.op ⟨(some 4), (.pure (.mv (.const (.int .i64 (-1))))), none⟩])
(.ret))
(.skip)))
(.ops [
.op ⟨(some 37), (.pure (.mv (.tmp 1))), none⟩,
.op ⟨(some 38), (.pure (.bin .add (.tmp 37) (.const (.int .i64 (1))))), none⟩,
.op ⟨(some 1), (.pure (.mv (.tmp 38))), none⟩])))))))
(.ops [
.op ⟨(some 10), (.pure (.mv (.tmp 5))), none⟩,
.op ⟨(some 11), (.pure (.bin .add (.tmp 10) (.const (.int .i64 (1))))), none⟩,
.op ⟨(some 5), (.pure (.mv (.tmp 11))), none⟩]))))))
(.seq (.ops [
.op ⟨(some 39), (.pure (.mv (.tmp 1))), none⟩,
.op ⟨(some 4), (.pure (.mv (.tmp 39))), none⟩])
(.ret))),
[.tmp 4]⟩
theorem r_laws_heldFogS : resFun Try.prog f_laws_heldFogS = some c_laws_heldFogS := by kernel_rfl

/- loop.example/g00940/spec.DrawAddFog -/
abbrev f_spec_DrawAddFog : Nat := 97
def c_spec_DrawAddFog : MFun := ⟨31, .seq (.ops [
.op ⟨(some 2), (.eff (.new 32 [(.slice none 0 0), (.slice none 0 0)])), none⟩,
.op ⟨(some 3), (.pure (.mv (.const (.slice none 0 0)))), none⟩,
.op ⟨(some 4), (.eff (.new 96 [(.int .i64 (0)), (.int .i64 (0)), (.int .i64 (0))])), none⟩])
(.seq (.ops [
.op ⟨(some 9), (.pure (.mv (.tmp 0))), none⟩,
.op ⟨(some 10), (.pure (.build [(.slice none 0 0), (.int .i64 (0)), (.int .u64 (0))] [(0, 1, (.tmp 9))])), none⟩,
.op ⟨(some 11), (.eff (.box 130 (.tmp 10))), none⟩,
.op ⟨(some 5), (.pure (.mv (.tmp 11))), none⟩])
(.seq (.ops [
.op ⟨(some 13), (.pure (.mv (.tmp 5))), none⟩,
.op ⟨(some 14), (.eff (.call 134 [(.tmp 13)])), none⟩,
.op ⟨(some 12), (.pure (.mv (.tmp 14))), none⟩,
.op ⟨(some 15), (.pure (.ext 0 (.tmp 12))), none⟩,
.op ⟨(some 16), (.pure (.ext 1 (.tmp 12))), none⟩,
.op ⟨(some 6), (.eff (.new 32 [(.slice none 0 0), (.slice none 0 0)])), none⟩,
.op ⟨none, (.eff (.store 2 (.tmp 6) (.tmp 15))), none⟩,
.op ⟨(some 7), (.pure (.mv (.tmp 16))), none⟩])
(.seq (.ops [
.op ⟨(some 17), (.pure (.mv (.tmp 5))), none⟩,
.op ⟨(some 18), (.eff (.call 136 [(.tmp 17)])), none⟩,
.op ⟨(some 8), (.pure (.mv (.tmp 18))), none⟩])
(.seq (.draw true
(.take ⟨(some 20), (.pure (.mv (.tmp 7))), none⟩
(.take ⟨(some 21), (.pure (.mv (.tmp 5))), none⟩
(.take ⟨(some 24), (.pure (.mv (.tmp 8))), none⟩
(.take ⟨(some 25), (.pure (.mv (.tmp 8))), none⟩
(.take ⟨(some 26), (.pure (.mv (.tmp 5))), none⟩
(.take ⟨(some 19), (.load (some 2) (.tmp 6)), none⟩
(.take ⟨(some 22), (.load (some 2) (.tmp 6)), none⟩
(.fork
(.only false ⟨(some 23), (.eff (.call 135 [(.tmp 21), (.tmp 22)])), none⟩
(.only false ⟨(some 27), (.eff (.row 3 5 [(.int .i64 (0)), (.int .i64 (0)), (.int .i64 (0)), (.int .i64 (0)), (.int .i64 (0))] [(0, 1, (.const (.int .i64 (0)))), (1, 1, (.const (.int .i64 (1)))), (2, 1, (.const (.int .i64 (5)))), (3, 1, (.const (.int .i64 (30)))), (4, 1, (.const (.int .i64 (100))))])), none⟩
(.only false ⟨(some 28), (.eff (.call 137 [(.tmp 26), (.tmp 27)])), none⟩
(.take ⟨(some 29), (.pure (.bin .add (.tmp 25) (.tmp 28))), none⟩
(.take ⟨(some 30), (.pure (.build [(.int .i64 (0)), (.int .i64 (0)), (.int .i64 (0))] [(0, 1, (.tmp 23)), (1, 1, (.tmp 24)), (2, 1, (.tmp 29))])), none⟩
(.only true ⟨none, (.eff (.store 2 (.tmp 2) (.tmp 19))), none⟩
(.take ⟨(some 3), (.pure (.mv (.tmp 20))), none⟩
(.only true ⟨none, (.eff (.store 3 (.tmp 4) (.tmp 30))), none⟩
(.done)))))))))
(.only false ⟨(some 27), (.eff (.row 3 5 [(.int .i64 (0)), (.int .i64 (0)), (.int .i64 (0)), (.int .i64 (0)), (.int .i64 (0))] [(0, 1, (.const (.int .i64 (0)))), (1, 1, (.const (.int .i64 (1)))), (2, 1, (.const (.int .i64 (5)))), (3, 1, (.const (.int .i64 (30)))), (4, 1, (.const (.int .i64 (100))))])), none⟩
(.only false ⟨(some 23), (.eff (.call 135 [(.tmp 21), (.tmp 22)])), none⟩
(.only false ⟨(some 28), (.eff (.call 137 [(.tmp 26), (.tmp 27)])), none⟩
(.take ⟨(some 29), (.pure (.bin .add (.tmp 25) (.tmp 28))), none⟩
(.take ⟨(some 30), (.pure (.build [(.int .i64 (0)), (.int .i64 (0)), (.int .i64 (0))] [(0, 1, (.tmp 23)), (1, 1, (.tmp 24)), (2, 1, (.tmp 29))])), none⟩
(.only true ⟨none, (.eff (.store 2 (.tmp 2) (.tmp 19))), none⟩
(.take ⟨(some 3), (.pure (.mv (.tmp 20))), none⟩
(.only true ⟨none, (.eff (.store 3 (.tmp 4) (.tmp 30))), none⟩
(.done))))))))))))))))))
(.ret))))),
[.cell 2 (some 2), .tmp 3, .cell 4 (some 3)]⟩
theorem r_spec_DrawAddFog : resFun Try.prog f_spec_DrawAddFog = some c_spec_DrawAddFog := by kernel_rfl

/- loop.example/g00940/laws.szTowerS -/
abbrev f_laws_szTowerS : Nat := 99
def c_laws_szTowerS : MFun := ⟨12, .seq (.ops [
.op ⟨(some 4), (.pure (.mv (.const (.int .i64 (0))))), none⟩])
(.seq (.ops [
.op ⟨(some 5), (.pure (.mv (.tmp 1))), none⟩,
.op ⟨(some 6), (.pure (.mv (.tmp 0))), none⟩,
.op ⟨(some 7), (.pure (.len (.tmp 6))), none⟩,
.op ⟨(some 8), (.pure (.bin .sub (.tmp 5) (.tmp 7))), none⟩,
.op ⟨(some 1), (.pure (.mv (.tmp 8))), none⟩])
(.seq (.seq (.ops [
.op ⟨(some 9), (.pure (.mv (.tmp 1))), none⟩,
.op ⟨(some 10), (.pure (.bin .lss (.tmp 9) (.const (.int .i64 (0))))), none⟩])
(.cond (.tmp 10)
(.seq (.ops [
.op ⟨(some 4), (.pure (.mv (.const (.int .i64 (-1))))), none⟩])
(.ret))
(.skip)))
(.seq (.ops [
.op ⟨(some 11), (.pure (.mv (.tmp 1))), none⟩,
.op ⟨(some 4), (.pure (.mv (.tmp 11))), none⟩])
(.ret)))),
[.tmp 4]⟩
theorem r_laws_szTowerS : resFun Try.prog f_laws_szTowerS = some c_laws_szTowerS := by kernel_rfl

/- loop.example/g00940/laws.szLinkS -/
abbrev f_laws_szLinkS : Nat := 100
def c_laws_szLinkS : MFun := ⟨12, .seq (.ops [
.op ⟨(some 4), (.pure (.mv (.const (.int .i64 (0))))), none⟩])
(.seq (.ops [
.op ⟨(some 5), (.pure (.mv (.tmp 1))), none⟩,
.op ⟨(some 6), (.pure (.mv (.tmp 0))), none⟩,
.op ⟨(some 7), (.pure (.len (.tmp 6))), none⟩,
.op ⟨(some 8), (.pure (.bin .sub (.tmp 5) (.tmp 7))), none⟩,
.op ⟨(some 1), (.pure (.mv (.tmp 8))), none⟩])
(.seq (.seq (.ops [
.op ⟨(some 9), (.pure (.mv (.tmp 1))), none⟩,
.op ⟨(some 10), (.pure (.bin .lss (.tmp 9) (.const (.int .i64 (0))))), none⟩])
(.cond (.tmp 10)
(.seq (.ops [
.op ⟨(some 4), (.pure (.mv (.const (.int .i64 (-1))))), none⟩])
(.ret))
(.skip)))
(.seq (.ops [
.op ⟨(some 11), (.pure (.mv (.tmp 1))), none⟩,
.op ⟨(some 4), (.pure (.mv (.tmp 11))), none⟩])
(.ret)))),
[.tmp 4]⟩
theorem r_laws_szLinkS : resFun Try.prog f_laws_szLinkS = some c_laws_szLinkS := by kernel_rfl

/- loop.example/g00940/laws.toTowerS -/
abbrev f_laws_toTowerS : Nat := 101
def c_laws_toTowerS : MFun := ⟨23, .seq (.ops [
.op ⟨(some 2), (.pure (.mv (.const (.slice none 0 0)))), none⟩])
(.seq (.ops [
.op ⟨(some 5), (.pure (.mv (.tmp 0))), none⟩,
.op ⟨(some 6), (.pure (.len (.tmp 5))), none⟩,
.op ⟨(some 7), (.eff (.mk 147 3 24 [(.int .i64 (0)), (.int .i64 (0)), (.int .i64 (0))] (.tmp 6) (.tmp 6))), none⟩,
.op ⟨(some 3), (.pure (.mv (.tmp 7))), none⟩])
(.seq (.seq (.ops [
.op ⟨(some 4), (.pure (.mv (.const (.int .i64 (0))))), none⟩])
(.block 0 (.loop (.seq (.seq (.ops [
.op ⟨(some 8), (.pure (.mv (.tmp 4))), none⟩,
.op ⟨(some 9), (.pure (.mv (.tmp 0))), none⟩,
.op ⟨(some 10), (.pure (.len (.tmp 9))), none⟩,
.op ⟨(some 11), (.pure (.bin .lss (.tmp 8) (.tmp 10))), none⟩])
(.cond (.tmp 11)
(.skip)
(.exit 0)))
(.seq (.block 1 (.ops [
.op ⟨(some 14), (.pure (.mv (.tmp 3))), none⟩,
.op ⟨(some 15), (.pure (.mv (.tmp 4))), none⟩,
.op ⟨(some 16), (.pure (.mv (.tmp 0))), none⟩,
.op ⟨(some 17), (.pure (.mv (.tmp 4))), none⟩,
.op ⟨(some 18), (.pure (.idx 3 (.tmp 16) (.tmp 17))), none⟩,
.op ⟨(some 19), (.load (some 3) (.tmp 18)), none⟩,
.op ⟨(some 20), (.eff (.call 169 [(.tmp 19)])), none⟩,
.op ⟨(some 21), (.pure (.idx 3 (.tmp 14) (.tmp 15))), none⟩,
.op ⟨none, (.eff (.store 3 (.tmp 21) (.tmp 20))), none⟩]))
(.ops [
.op ⟨(some 12), (.pure (.mv (.tmp 4))), none⟩,
.op ⟨(some 13), (.pure (.bin .add (.tmp 12) (.const (.int .i64 (1))))), none⟩,
.op ⟨(some 4), (.pure (.mv (.tmp 13))), none⟩]))))))
(.seq (.ops [
.op ⟨(some 22), (.pure (.mv (.tmp 3))), none⟩,
.op ⟨(some 2), (.pure (.mv (.tmp 22))), none⟩])
(.ret)))),
[.tmp 2]⟩
theorem r_laws_toTowerS : resFun Try.prog f_laws_toTowerS = some c_laws_toTowerS := by kernel_rfl

/- loop.example/g00940/laws.toLinkS -/
abbrev f_laws_toLinkS : Nat := 102
def c_laws_toLinkS : MFun := ⟨23, .seq (.ops [
.op ⟨(some 2), (.pure (.mv (.const (.slice none 0 0)))), none⟩])
(.seq (.ops [
.op ⟨(some 5), (.pure (.mv (.tmp 0))), none⟩,
.op ⟨(some 6), (.pure (.len (.tmp 5))), none⟩,
.op ⟨(some 7), (.eff (.mk 88 3 24 [(.int .i64 (0)), (.int .i64 (0)), (.int .i64 (0))] (.tmp 6) (.tmp 6))), none⟩,
.op ⟨(some 3), (.pure (.mv (.tmp 7))), none⟩])
(.seq (.seq (.ops [
.op ⟨(some 4), (.pure (.mv (.const (.int .i64 (0))))), none⟩])
(.block 0 (.loop (.seq (.seq (.ops [
.op ⟨(some 8), (.pure (.mv (.tmp 4))), none⟩,
.op ⟨(some 9), (.pure (.mv (.tmp 0))), none⟩,
.op ⟨(some 10), (.pure (.len (.tmp 9))), none⟩,
.op ⟨(some 11), (.pure (.bin .lss (.tmp 8) (.tmp 10))), none⟩])
(.cond (.tmp 11)
(.skip)
(.exit 0)))
(.seq (.block 1 (.ops [
.op ⟨(some 14), (.pure (.mv (.tmp 3))), none⟩,
.op ⟨(some 15), (.pure (.mv (.tmp 4))), none⟩,
.op ⟨(some 16), (.pure (.mv (.tmp 0))), none⟩,
.op ⟨(some 17), (.pure (.mv (.tmp 4))), none⟩,
.op ⟨(some 18), (.pure (.idx 3 (.tmp 16) (.tmp 17))), none⟩,
.op ⟨(some 19), (.load (some 3) (.tmp 18)), none⟩,
.op ⟨(some 20), (.eff (.call 170 [(.tmp 19)])), none⟩,
.op ⟨(some 21), (.pure (.idx 3 (.tmp 14) (.tmp 15))), none⟩,
.op ⟨none, (.eff (.store 3 (.tmp 21) (.tmp 20))), none⟩]))
(.ops [
.op ⟨(some 12), (.pure (.mv (.tmp 4))), none⟩,
.op ⟨(some 13), (.pure (.bin .add (.tmp 12) (.const (.int .i64 (1))))), none⟩,
.op ⟨(some 4), (.pure (.mv (.tmp 13))), none⟩]))))))
(.seq (.ops [
.op ⟨(some 22), (.pure (.mv (.tmp 3))), none⟩,
.op ⟨(some 2), (.pure (.mv (.tmp 22))), none⟩])
(.ret)))),
[.tmp 2]⟩
theorem r_laws_toLinkS : resFun Try.prog f_laws_toLinkS = some c_laws_toLinkS := by kernel_rfl

/- loop.example/g00940/impl.isTower -/
abbrev f_impl_isTower : Nat := 103
def c_impl_isTower : MFun := ⟨15, .seq (.ops [
.op ⟨(some 2), (.eff (.box 32 (.tmp 0))), none⟩,
.op ⟨(some 4), (.pure (.mv (.const (.bool false)))), none⟩])
(.seq (.ops [
.op ⟨(some 5), (.load (some 2) (.tmp 2)), none⟩,
.op ⟨(some 6), (.eff (.call 127 [(.tmp 5)])), none⟩,
.op ⟨(some 7), (.pure (.mv (.tmp 6))), none⟩,
.split 7,
.op ⟨(some 8), (.pure (.mv (.tmp 1))), (some (7, true))⟩,
.op ⟨(some 9), (.pure (.fieldAddr 0 (.tmp 2))), (some (7, true))⟩,
.op ⟨(some 10), (.load none (.tmp 9)), (some (7, true))⟩,
.op ⟨(some 11), (.pure (.len (.tmp 10))), (some (7, true))⟩,
.op ⟨(some 12), (.pure (.bin .sub (.tmp 11) (.const (.int .i64 (1))))), (some (7, true))⟩,
.op ⟨(some 13), (.eff (.call 129 [(.tmp 8), (.const (.int .i64 (0))), (.tmp 12)])), (some (7, true))⟩,
.op ⟨(some 14), (.pure (.pick (.tmp 7) (.tmp 13) (.const (.bool false)))), none⟩,
.op ⟨(some 4), (.pure (.mv (.tmp 14))), none⟩])
(.ret)),
[.tmp 4]⟩
theorem r_impl_isTower : resFun Try.prog f_impl_isTower = some c_impl_isTower := by kernel_rfl

/- loop.example/g00940/impl.plainDelay -/
abbrev f_impl_plainDelay : Nat := 104
def c_impl_plainDelay : MFun := ⟨18, .seq (.ops [
.op ⟨(some 3), (.eff (.box 32 (.tmp 0))), none⟩,
.op ⟨(some 6), (.pure (.mv (.const (.int .i64 (0))))), none⟩,
.op ⟨(some 7), (.pure (.mv (.const (.bool false)))), none⟩])
(.seq (.ops [
.op ⟨(some 9), (.load (some 2) (.tmp 3)), none⟩,
.op ⟨(some 10), (.pure (.mv (.tmp 1))), none⟩,
.op ⟨(some 11), (.eff (.call 116 [(.tmp 9), (.const (.slice none 0 0)), (.tmp 10), (.const (.int .i64 (0)))])), none⟩,
.op ⟨(some 12), (.pure (.mv (.tmp 2))), none⟩,
.op ⟨(some 13), (.pure (.idx 1 (.tmp 11) (.tmp 12))), none⟩,
.op ⟨(some 14), (.load none (.tmp 13)), none⟩,
.op ⟨(some 8), (.pure (.mv (.tmp 14))), none⟩])
(.seq (.seq (.ops [
.op ⟨(some 15), (.pure (.mv (.tmp 8))), none⟩,
.op ⟨(some 16), (.pure (.bin .lss (.tmp 15) (.const (.int .i64 (0))))), none⟩])
(.cond (.tmp 16)
(.seq (.ops [
.op ⟨(some 6), (.pure (.mv (.const (.int .i64 (0))))), none⟩,
.op ⟨(some 7), (.pure (.mv (.const (.bool false)))), none⟩])
(.ret))
(.skip)))
(.seq (.ops [
.op ⟨(some 17), (.pure (.mv (.tmp 8))), none⟩,
.op ⟨(some 6), (.pure (.mv (.tmp 17))), none⟩,
.op ⟨(some 7), (.pure (.mv (.const (.bool true)))), none⟩])
(.ret)))),
[.tmp 6, .tmp 7]⟩
theorem r_impl_plainDelay : resFun Try.prog f_impl_plainDelay = some c_impl_plainDelay := by kernel_rfl

/- loop.example/g00940/laws.eqTowerS -/
abbrev f_laws_eqTowerS : Nat := 105
def c_laws_eqTowerS : MFun := ⟨27, .seq (.ops [
.op ⟨(some 4), (.pure (.mv (.const (.bool false)))), none⟩])
(.seq (.seq (.ops [
.op ⟨(some 6), (.pure (.mv (.tmp 0))), none⟩,
.op ⟨(some 7), (.pure (.len (.tmp 6))), none⟩,
.op ⟨(some 8), (.pure (.mv (.tmp 1))), none⟩,
.op ⟨(some 9), (.pure (.len (.tmp 8))), none⟩,
.op ⟨(some 10), (.pure (.bin .neq (.tmp 7) (.tmp 9))), none⟩])
(.cond (.tmp 10)
(.seq (.ops [
.op ⟨(some 4), (.pure (.mv (.const (.bool false)))), none⟩])
(.ret))
(.skip)))
(.seq (.seq (.ops [
.op ⟨(some 5), (.pure (.mv (.const (.int .i64 (0))))), none⟩])
(.block 0 (.loop (.seq (.seq (.ops [
.op ⟨(some 11), (.pure (.mv (.tmp 5))), none⟩,
.op ⟨(some 12), (.pure (.mv (.tmp 0))), none⟩,
.op ⟨(some 13), (.pure (.len (.tmp 12))), none⟩,
.op ⟨(some 14), (.pure (.bin .lss (.tmp 11) (.tmp 13))), none⟩])
(.cond (.tmp 14)
(.skip)
(.exit 0)))
(.seq (.block 1 (.seq (.draw false
(.take ⟨(some 17), (.pure (.mv (.tmp 0))), none⟩
(.take ⟨(some 18), (.pure (.mv (.tmp 5))), none⟩
(.take ⟨(some 19), (.pure (.idx 3 (.tmp 17) (.tmp 18))), none⟩
(.take ⟨(some 21), (.pure (.mv (.tmp 1))), none⟩
(.take ⟨(some 22), (.pure (.mv (.tmp 5))), none⟩
(.take ⟨(some 23), (.pure (.idx 3 (.tmp 21) (.tmp 22))), none⟩
(.only false ⟨(some 20), (.load (some 3) (.tmp 19)), none⟩
(.only false ⟨(some 24), (.load (some 3) (.tmp 23)), none⟩
(.only true ⟨(some 25), (.eff (.call 171 [(.tmp 20), (.tmp 24)])), none⟩
(.take ⟨(some 26), (.pure (.bnot (.tmp 25))), none⟩
(.done))))))))))))
(.cond (.tmp 26)
(.seq (.ops [
.op ⟨(some 4), (.pure (.mv (.const (.bool false)))), none⟩])
(.ret))
(.skip))))
(.ops [
.op ⟨(some 15), (.pure (.mv (.tmp 5))), none⟩,
.op ⟨(some 16), (.pure (.bin .add (.tmp 15) (.const (.int .i64 (1))))), none⟩,
.op ⟨(some 5), (.pure (.mv (.tmp 16))), none⟩]))))))
(.seq (.ops [
.op ⟨(some 4), (.pure (.mv (.const (.bool true)))), none⟩])
(.ret)))),
[.tmp 4]⟩
theorem r_laws_eqTowerS : resFun Try.prog f_laws_eqTowerS = some c_laws_eqTowerS := by kernel_rfl

/- loop.example/g00940/laws.eqLinkS -/
abbrev f_laws_eqLinkS : Nat := 106
def c_laws_eqLinkS : MFun := ⟨27, .seq (.ops [
.op ⟨(some 4), (.pure (.mv (.const (.bool false)))), none⟩])
(.seq (.seq (.ops [
.op ⟨(some 6), (.pure (.mv (.tmp 0))), none⟩,
.op ⟨(some 7), (.pure (.len (.tmp 6))), none⟩,
.op ⟨(some 8), (.pure (.mv (.tmp 1))), none⟩,
.op ⟨(some 9), (.pure (.len (.tmp 8))), none⟩,
.op ⟨(some 10), (.pure (.bin .neq (.tmp 7) (.tmp 9))), none⟩])
(.cond (.tmp 10)
(.seq (.ops [
.op ⟨(some 4), (.pure (.mv (.const (.bool false)))), none⟩])
(.ret))
(.skip)))
(.seq (.seq (.ops [
.op ⟨(some 5), (.pure (.mv (.const (.int .i64 (0))))), none⟩])
(.block 0 (.loop (.seq (.seq (.ops [
.op ⟨(some 11), (.pure (.mv (.tmp 5))), none⟩,
.op ⟨(some 12), (.pure (.mv (.tmp 0))), none⟩,
.op ⟨(some 13), (.pure (.len (.tmp 12))), none⟩,
.op ⟨(some 14), (.pure (.bin .lss (.tmp 11) (.tmp 13))), none⟩])
(.cond (.tmp 14)
(.skip)
(.exit 0)))
(.seq (.block 1 (.seq (.draw false
(.take ⟨(some 17), (.pure (.mv (.tmp 0))), none⟩
(.take ⟨(some 18), (.pure (.mv (.tmp 5))), none⟩
(.take ⟨(some 19), (.pure (.idx 3 (.tmp 17) (.tmp 18))), none⟩
(.take ⟨(some 21), (.pure (.mv (.tmp 1))), none⟩
(.take ⟨(some 22), (.pure (.mv (.tmp 5))), none⟩
(.take ⟨(some 23), (.pure (.idx 3 (.tmp 21) (.tmp 22))), none⟩
(.only false ⟨(some 20), (.load (some 3) (.tmp 19)), none⟩
(.only false ⟨(some 24), (.load (some 3) (.tmp 23)), none⟩
(.only true ⟨(some 25), (.eff (.call 172 [(.tmp 20), (.tmp 24)])), none⟩
(.take ⟨(some 26), (.pure (.bnot (.tmp 25))), none⟩
(.done))))))))))))
(.cond (.tmp 26)
(.seq (.ops [
.op ⟨(some 4), (.pure (.mv (.const (.bool false)))), none⟩])
(.ret))
(.skip))))
(.ops [
.op ⟨(some 15), (.pure (.mv (.tmp 5))), none⟩,
.op ⟨(some 16), (.pure (.bin .add (.tmp 15) (.const (.int .i64 (1))))), none⟩,
.op ⟨(some 5), (.pure (.mv (.tmp 16))), none⟩]))))))
(.seq (.ops [
.op ⟨(some 4), (.pure (.mv (.const (.bool true)))), none⟩])
(.ret)))),
[.tmp 4]⟩
theorem r_laws_eqLinkS : resFun Try.prog f_laws_eqLinkS = some c_laws_eqLinkS := by kernel_rfl
end Go.Proofs.Ythagdkmalchhgaa
