/- Code3. Condition: none. -/
import Derived.Test.YtjmcijcdncgaiaaProg
import Derived.Test.YtjmcijcdncgaiaaBase9
import Derived.KernelRfl
/- The code of this seat's functions, resolved, written by a program of mine; each is held against the given program by the kernel. Condition: none. -/
namespace Go.Proofs.Ytjmcijcdncgaiaa
open Go.Vc

/- loop.example/g00940/impl.missingParts -/
abbrev f_impl_missingParts : Nat := 75
def c_impl_missingParts : MFun := ⟨22, .seq (.ops [
.op ⟨(some 2), (.pure (.mv (.const (.slice none 0 0)))), none⟩])
(.seq (.ops [
.op ⟨(some 3), (.pure (.mv (.const (.slice none 0 0)))), none⟩])
(.seq (.seq (.ops [
.op ⟨(some 5), (.pure (.mv (.tmp 0))), none⟩,
.op ⟨(some 6), (.pure (.idx 4 (.tmp 5) (.const (.int .i64 (0))))), none⟩,
.op ⟨(some 7), (.pure (.fieldAddr 2 (.tmp 6))), none⟩,
.op ⟨(some 8), (.load none (.tmp 7)), none⟩,
.op ⟨(some 9), (.pure (.mv (.const (.int .i64 (0))))), none⟩])
(.block 0 (.loop (.seq (.ops [
.op ⟨(some 10), (.pure (.bin .lss (.tmp 9) (.tmp 8))), none⟩])
(.seq (.cond (.tmp 10)
(.skip)
(.exit 0))
(.seq (.block 1 (.seq (.ops [
.op ⟨(some 11), (.pure (.mv (.tmp 9))), none⟩,
.op ⟨(some 4), (.eff (.new 3 [(.int .i64 (0))])), none⟩,
.op ⟨none, (.eff (.store 1 (.tmp 4) (.tmp 11))), none⟩])
(.seq (.ops [
.op ⟨(some 12), (.pure (.mv (.tmp 0))), none⟩,
.op ⟨(some 13), (.pure (.mkfn (.func 95) [] [(.tmp 4)])), none⟩,
.op ⟨(some 14), (.eff (.call 57 [(.tmp 12), (.tmp 13)])), none⟩,
.op ⟨(some 15), (.pure (.bnot (.tmp 14))), none⟩])
(.cond (.tmp 15)
(.ops [
.op ⟨(some 16), (.pure (.mv (.tmp 3))), none⟩,
.op ⟨(some 17), (.load none (.tmp 4)), none⟩,
.op ⟨(some 18), (.eff (.row 3 1 [(.int .i64 (0))] [(0, 1, (.tmp 17))])), none⟩,
.op ⟨(some 19), (.eff (.app 3 1 8 (.tmp 16) (.tmp 18))), none⟩,
.op ⟨(some 3), (.pure (.mv (.tmp 19))), none⟩])
(.skip)))))
(.ops [
.op ⟨(some 20), (.pure (.bin .add (.tmp 9) (.const (.int .i64 (1))))), none⟩,
.op ⟨(some 9), (.pure (.mv (.tmp 20))), none⟩])))))))
(.seq (.ops [
.op ⟨(some 21), (.pure (.mv (.tmp 3))), none⟩,
.op ⟨(some 2), (.pure (.mv (.tmp 21))), none⟩])
(.ret)))),
[.tmp 2]⟩
theorem r_impl_missingParts : resFun Try.prog f_impl_missingParts = some c_impl_missingParts := by kernel_rfl

/- slices.IndexFunc[[]loop.example/g00940/impl.Packet,loop.example/g00940/impl.Packet] -/
abbrev f_slices_IndexFunc_Limpl_Packet_impl_Packet : Nat := 76
def c_slices_IndexFunc_Limpl_Packet_impl_Packet : MFun := ⟨19, .seq (.ops [
.op ⟨(some 4), (.pure (.mv (.const (.int .i64 (0))))), none⟩])
(.seq (.seq (.ops [
.op ⟨(some 6), (.pure (.mv (.tmp 0))), none⟩,
.op ⟨(some 7), (.pure (.len (.tmp 6))), none⟩,
.op ⟨(some 8), (.pure (.mv (.const (.int .i64 (0))))), none⟩])
(.block 0 (.loop (.seq (.ops [
.op ⟨(some 9), (.pure (.bin .lss (.tmp 8) (.tmp 7))), none⟩])
(.seq (.cond (.tmp 9)
(.skip)
(.exit 0))
(.seq (.block 1 (.seq (.ops [
.op ⟨(some 10), (.pure (.mv (.tmp 8))), none⟩,
.op ⟨(some 5), (.pure (.mv (.tmp 10))), none⟩])
(.seq (.ops [
.op ⟨(some 11), (.pure (.mv (.tmp 1))), none⟩,
.op ⟨(some 12), (.pure (.mv (.tmp 0))), none⟩,
.op ⟨(some 13), (.pure (.mv (.tmp 5))), none⟩,
.op ⟨(some 14), (.pure (.idx 4 (.tmp 12) (.tmp 13))), none⟩,
.op ⟨(some 15), (.load (some 4) (.tmp 14)), none⟩,
.op ⟨(some 16), (.eff (.callv (.tmp 11) [(.tmp 15)])), none⟩])
(.cond (.tmp 16)
(.seq (.ops [
.op ⟨(some 17), (.pure (.mv (.tmp 5))), none⟩,
.op ⟨(some 4), (.pure (.mv (.tmp 17))), none⟩])
(.ret))
(.skip)))))
(.ops [
.op ⟨(some 18), (.pure (.bin .add (.tmp 8) (.const (.int .i64 (1))))), none⟩,
.op ⟨(some 8), (.pure (.mv (.tmp 18))), none⟩])))))))
(.seq (.ops [
.op ⟨(some 4), (.pure (.mv (.const (.int .i64 (-1))))), none⟩])
(.ret))),
[.tmp 4]⟩
theorem r_slices_IndexFunc_Limpl_Packet_impl_Packet : resFun Try.prog f_slices_IndexFunc_Limpl_Packet_impl_Packet = some c_slices_IndexFunc_Limpl_Packet_impl_Packet := by kernel_rfl

/- loop.example/g00940/impl.JoinMessage$1 -/
abbrev f_impl_JoinMessage_1 : Nat := 77
def c_impl_JoinMessage_1 : MFun := ⟨8, .seq (.ops [
.op ⟨(some 2), (.eff (.box 27 (.tmp 0))), none⟩,
.op ⟨(some 3), (.pure (.mv (.const (.bool false)))), none⟩])
(.seq (.ops [
.op ⟨(some 4), (.pure (.fieldAddr 1 (.tmp 2))), none⟩,
.op ⟨(some 5), (.load none (.tmp 4)), none⟩,
.op ⟨(some 6), (.load none (.tmp 1)), none⟩,
.op ⟨(some 7), (.pure (.bin .eql (.tmp 5) (.tmp 6))), none⟩,
.op ⟨(some 3), (.pure (.mv (.tmp 7))), none⟩])
(.ret)),
[.tmp 3]⟩
theorem r_impl_JoinMessage_1 : resFun Try.prog f_impl_JoinMessage_1 = some c_impl_JoinMessage_1 := by kernel_rfl

/- loop.example/g00940/spec.pkMessage -/
abbrev f_spec_pkMessage : Nat := 78
def c_spec_pkMessage : MFun := ⟨5, .seq (.ops [
.op ⟨(some 2), (.pure (.mv (.const (.bool false)))), none⟩])
(.seq (.ops [
.op ⟨(some 3), (.pure (.mv (.tmp 0))), none⟩,
.op ⟨(some 4), (.eff (.call 80 [(.tmp 3), (.const (.int .i64 (1))), (.const (.int .i64 (999)))])), none⟩,
.op ⟨(some 2), (.pure (.mv (.tmp 4))), none⟩])
(.ret)),
[.tmp 2]⟩
theorem r_spec_pkMessage : resFun Try.prog f_spec_pkMessage = some c_spec_pkMessage := by kernel_rfl

/- loop.example/g00940/spec.pkJoin -/
abbrev f_spec_pkJoin : Nat := 79
def c_spec_pkJoin : MFun := ⟨47, .seq (.ops [
.op ⟨(some 4), (.pure (.mv (.const (.slice none 0 0)))), none⟩,
.op ⟨(some 5), (.pure (.mv (.const (.bool false)))), none⟩])
(.seq (.ops [
.op ⟨(some 11), (.pure (.mv (.tmp 0))), none⟩,
.op ⟨(some 12), (.pure (.mv (.tmp 1))), none⟩,
.op ⟨(some 13), (.eff (.call 84 [(.tmp 11), (.tmp 12)])), none⟩,
.op ⟨(some 10), (.pure (.mv (.tmp 13))), none⟩,
.op ⟨(some 14), (.pure (.ext 0 (.tmp 10))), none⟩,
.op ⟨(some 15), (.pure (.ext 1 (.tmp 10))), none⟩,
.op ⟨(some 6), (.pure (.mv (.tmp 14))), none⟩,
.op ⟨(some 7), (.pure (.mv (.tmp 15))), none⟩])
(.seq (.seq (.ops [
.op ⟨(some 16), (.pure (.mv (.tmp 7))), none⟩,
.op ⟨(some 17), (.pure (.bnot (.tmp 16))), none⟩,
.op ⟨(some 18), (.pure (.mv (.tmp 17))), none⟩,
.split 18,
.op ⟨(some 19), (.pure (.mv (.tmp 6))), (some (18, false))⟩,
.op ⟨(some 20), (.pure (.len (.tmp 19))), (some (18, false))⟩,
.op ⟨(some 21), (.pure (.bin .eql (.tmp 20) (.const (.int .i64 (0))))), (some (18, false))⟩,
.op ⟨(some 22), (.pure (.pick (.tmp 18) (.const (.bool true)) (.tmp 21))), none⟩,
.op ⟨(some 23), (.pure (.mv (.tmp 22))), none⟩,
.split 23,
.op ⟨(some 24), (.pure (.mv (.tmp 6))), (some (23, false))⟩,
.op ⟨(some 25), (.eff (.call 85 [(.tmp 24)])), (some (23, false))⟩,
.op ⟨(some 26), (.pure (.len (.tmp 25))), (some (23, false))⟩,
.op ⟨(some 27), (.pure (.bin .gtr (.tmp 26) (.const (.int .i64 (0))))), (some (23, false))⟩,
.op ⟨(some 28), (.pure (.pick (.tmp 23) (.const (.bool true)) (.tmp 27))), none⟩])
(.cond (.tmp 28)
(.seq (.ops [
.op ⟨(some 4), (.pure (.mv (.const (.slice none 0 0)))), none⟩,
.op ⟨(some 5), (.pure (.mv (.const (.bool false)))), none⟩])
(.ret))
(.skip)))
(.seq (.ops [
.op ⟨(some 8), (.pure (.mv (.const (.slice none 0 0)))), none⟩])
(.seq (.seq (.ops [
.op ⟨(some 9), (.pure (.mv (.const (.int .i64 (0))))), none⟩])
(.block 0 (.loop (.seq (.seq (.ops [
.op ⟨(some 29), (.pure (.mv (.tmp 9))), none⟩,
.op ⟨(some 30), (.pure (.mv (.tmp 6))), none⟩,
.op ⟨(some 31), (.pure (.idx 4 (.tmp 30) (.const (.int .i64 (0))))), none⟩,
.op ⟨(some 32), (.pure (.fieldAddr 2 (.tmp 31))), none⟩,
.op ⟨(some 33), (.load none (.tmp 32)), none⟩,
.op ⟨(some 34), (.pure (.bin .lss (.tmp 29) (.tmp 33))), none⟩])
(.cond (.tmp 34)
(.skip)
(.exit 0)))
(.seq (.block 1 (.ops [
.op ⟨(some 37), (.pure (.mv (.tmp 8))), none⟩,
.op ⟨(some 38), (.pure (.mv (.tmp 6))), none⟩,
.op ⟨(some 39), (.pure (.mv (.tmp 6))), none⟩,
.op ⟨(some 40), (.pure (.mv (.tmp 9))), none⟩,
.op ⟨(some 41), (.eff (.call 96 [(.tmp 39), (.tmp 40)])), none⟩,
.op ⟨(some 42), (.pure (.idx 4 (.tmp 38) (.tmp 41))), none⟩,
.op ⟨(some 43), (.pure (.fieldAddr 3 (.tmp 42))), none⟩,
.op ⟨(some 44), (.load none (.tmp 43)), none⟩,
.op ⟨(some 45), (.eff (.app 3 1 8 (.tmp 37) (.tmp 44))), none⟩,
.op ⟨(some 8), (.pure (.mv (.tmp 45))), none⟩]))
(.ops [
.op ⟨(some 35), (.pure (.mv (.tmp 9))), none⟩,
.op ⟨(some 36), (.pure (.bin .add (.tmp 35) (.const (.int .i64 (1))))), none⟩,
.op ⟨(some 9), (.pure (.mv (.tmp 36))), none⟩]))))))
(.seq (.ops [
.op ⟨(some 46), (.pure (.mv (.tmp 8))), none⟩,
.op ⟨(some 4), (.pure (.mv (.tmp 46))), none⟩,
.op ⟨(some 5), (.pure (.mv (.const (.bool true)))), none⟩])
(.ret)))))),
[.tmp 4, .tmp 5]⟩
theorem r_spec_pkJoin : resFun Try.prog f_spec_pkJoin = some c_spec_pkJoin := by kernel_rfl

/- loop.example/g00940/spec.l1In -/
abbrev f_spec_l1In : Nat := 80
def c_spec_l1In : MFun := ⟨15, .seq (.ops [
.op ⟨(some 6), (.pure (.mv (.const (.bool false)))), none⟩])
(.seq (.ops [
.op ⟨(some 7), (.pure (.mv (.tmp 0))), none⟩,
.op ⟨(some 8), (.pure (.mv (.tmp 1))), none⟩,
.op ⟨(some 9), (.pure (.bin .geq (.tmp 7) (.tmp 8))), none⟩,
.op ⟨(some 10), (.pure (.mv (.tmp 9))), none⟩,
.split 10,
.op ⟨(some 11), (.pure (.mv (.tmp 0))), (some (10, true))⟩,
.op ⟨(some 12), (.pure (.mv (.tmp 2))), (some (10, true))⟩,
.op ⟨(some 13), (.pure (.bin .leq (.tmp 11) (.tmp 12))), (some (10, true))⟩,
.op ⟨(some 14), (.pure (.pick (.tmp 10) (.tmp 13) (.const (.bool false)))), none⟩,
.op ⟨(some 6), (.pure (.mv (.tmp 14))), none⟩])
(.ret)),
[.tmp 6]⟩
theorem r_spec_l1In : resFun Try.prog f_spec_l1In = some c_spec_l1In := by kernel_rfl

/- loop.example/g00940/spec.l1All -/
abbrev f_spec_l1All : Nat := 81
def c_spec_l1All : MFun := ⟨21, .seq (.ops [
.op ⟨(some 6), (.pure (.mv (.const (.bool false)))), none⟩])
(.seq (.seq (.ops [
.op ⟨(some 9), (.pure (.mv (.tmp 0))), none⟩,
.op ⟨(some 10), (.pure (.len (.tmp 9))), none⟩,
.op ⟨(some 11), (.pure (.mv (.const (.int .i64 (0))))), none⟩])
(.block 0 (.loop (.seq (.ops [
.op ⟨(some 12), (.pure (.bin .lss (.tmp 11) (.tmp 10))), none⟩])
(.seq (.cond (.tmp 12)
(.skip)
(.exit 0))
(.seq (.block 1 (.seq (.ops [
.op ⟨(some 13), (.pure (.idx 1 (.tmp 9) (.tmp 11))), none⟩,
.op ⟨(some 14), (.load none (.tmp 13)), none⟩,
.op ⟨(some 8), (.pure (.mv (.tmp 14))), none⟩])
(.seq (.ops [
.op ⟨(some 15), (.pure (.mv (.tmp 8))), none⟩,
.op ⟨(some 16), (.pure (.mv (.tmp 1))), none⟩,
.op ⟨(some 17), (.pure (.mv (.tmp 2))), none⟩,
.op ⟨(some 18), (.eff (.call 80 [(.tmp 15), (.tmp 16), (.tmp 17)])), none⟩,
.op ⟨(some 19), (.pure (.bnot (.tmp 18))), none⟩])
(.cond (.tmp 19)
(.seq (.ops [
.op ⟨(some 6), (.pure (.mv (.const (.bool false)))), none⟩])
(.ret))
(.skip)))))
(.ops [
.op ⟨(some 20), (.pure (.bin .add (.tmp 11) (.const (.int .i64 (1))))), none⟩,
.op ⟨(some 11), (.pure (.mv (.tmp 20))), none⟩])))))))
(.seq (.ops [
.op ⟨(some 6), (.pure (.mv (.const (.bool true)))), none⟩])
(.ret))),
[.tmp 6]⟩
theorem r_spec_l1All : resFun Try.prog f_spec_l1All = some c_spec_l1All := by kernel_rfl

/- loop.example/g00940/spec.pkSplit -/
abbrev f_spec_pkSplit : Nat := 82
def c_spec_pkSplit : MFun := ⟨45, .seq (.ops [
.op ⟨(some 6), (.pure (.mv (.const (.slice none 0 0)))), none⟩])
(.seq (.ops [
.op ⟨(some 11), (.pure (.mv (.tmp 1))), none⟩,
.op ⟨(some 12), (.pure (.len (.tmp 11))), none⟩,
.op ⟨(some 13), (.pure (.mv (.tmp 2))), none⟩,
.op ⟨(some 14), (.pure (.bin .add (.tmp 12) (.tmp 13))), none⟩,
.op ⟨(some 15), (.pure (.bin .sub (.tmp 14) (.const (.int .i64 (1))))), none⟩,
.op ⟨(some 16), (.pure (.mv (.tmp 2))), none⟩,
.op ⟨(some 17), (.pure (.bin .quo (.tmp 15) (.tmp 16))), none⟩,
.op ⟨(some 7), (.pure (.mv (.tmp 17))), none⟩])
(.seq (.ops [
.op ⟨(some 8), (.pure (.mv (.const (.slice none 0 0)))), none⟩])
(.seq (.seq (.ops [
.op ⟨(some 9), (.pure (.mv (.const (.int .i64 (0))))), none⟩])
(.block 0 (.loop (.seq (.seq (.ops [
.op ⟨(some 18), (.pure (.mv (.tmp 9))), none⟩,
.op ⟨(some 19), (.pure (.mv (.tmp 7))), none⟩,
.op ⟨(some 20), (.pure (.bin .lss (.tmp 18) (.tmp 19))), none⟩])
(.cond (.tmp 20)
(.skip)
(.exit 0)))
(.seq (.block 1 (.seq (.ops [
.op ⟨(some 23), (.pure (.mv (.tmp 1))), none⟩,
.op ⟨(some 24), (.pure (.len (.tmp 23))), none⟩,
.op ⟨(some 25), (.pure (.mv (.tmp 9))), none⟩,
.op ⟨(some 26), (.pure (.bin .add (.tmp 25) (.const (.int .i64 (1))))), none⟩,
.op ⟨(some 27), (.pure (.mv (.tmp 2))), none⟩,
.op ⟨(some 28), (.pure (.bin .mul (.tmp 26) (.tmp 27))), none⟩,
.op ⟨(some 29), (.eff (.call 97 [(.tmp 24), (.tmp 28)])), none⟩,
.op ⟨(some 10), (.pure (.mv (.tmp 29))), none⟩])
(.ops [
.op ⟨(some 30), (.pure (.mv (.tmp 8))), none⟩,
.op ⟨(some 31), (.pure (.mv (.tmp 0))), none⟩,
.op ⟨(some 32), (.pure (.mv (.tmp 9))), none⟩,
.op ⟨(some 33), (.pure (.mv (.tmp 7))), none⟩,
.op ⟨(some 34), (.pure (.mv (.tmp 1))), none⟩,
.op ⟨(some 35), (.pure (.mv (.tmp 9))), none⟩,
.op ⟨(some 36), (.pure (.mv (.tmp 2))), none⟩,
.op ⟨(some 37), (.pure (.bin .mul (.tmp 35) (.tmp 36))), none⟩,
.op ⟨(some 38), (.pure (.mv (.tmp 10))), none⟩,
.op ⟨(some 39), (.pure (.slc 1 (.tmp 34) (some (.tmp 37)) (some (.tmp 38)) none)), none⟩,
.op ⟨(some 40), (.eff (.call 89 [(.tmp 39)])), none⟩,
.op ⟨(some 41), (.pure (.build [(.int .i64 (0)), (.int .i64 (0)), (.int .i64 (0)), (.slice none 0 0)] [(0, 1, (.tmp 31)), (1, 1, (.tmp 32)), (2, 1, (.tmp 33)), (3, 1, (.tmp 40))])), none⟩,
.op ⟨(some 42), (.eff (.row 27 1 [(.int .i64 (0)), (.int .i64 (0)), (.int .i64 (0)), (.slice none 0 0)] [(0, 4, (.tmp 41))])), none⟩,
.op ⟨(some 43), (.eff (.app 27 4 48 (.tmp 30) (.tmp 42))), none⟩,
.op ⟨(some 8), (.pure (.mv (.tmp 43))), none⟩])))
(.ops [
.op ⟨(some 21), (.pure (.mv (.tmp 9))), none⟩,
.op ⟨(some 22), (.pure (.bin .add (.tmp 21) (.const (.int .i64 (1))))), none⟩,
.op ⟨(some 9), (.pure (.mv (.tmp 22))), none⟩]))))))
(.seq (.ops [
.op ⟨(some 44), (.pure (.mv (.tmp 8))), none⟩,
.op ⟨(some 6), (.pure (.mv (.tmp 44))), none⟩])
(.ret))))),
[.tmp 6]⟩
theorem r_spec_pkSplit : resFun Try.prog f_spec_pkSplit = some c_spec_pkSplit := by kernel_rfl

/- slices.Clone[[]int,int] -/
abbrev f_slices_Clone_Lint_int : Nat := 83
def c_slices_Clone_Lint_int : MFun := ⟨8, .seq (.ops [
.op ⟨(some 2), (.pure (.mv (.const (.slice none 0 0)))), none⟩])
(.seq (.seq (.ops [
.op ⟨(some 3), (.pure (.mv (.tmp 0))), none⟩,
.op ⟨(some 4), (.pure (.isnil false (.tmp 3))), none⟩])
(.cond (.tmp 4)
(.seq (.ops [
.op ⟨(some 2), (.pure (.mv (.const (.slice none 0 0)))), none⟩])
(.ret))
(.skip)))
(.seq (.ops [
.op ⟨(some 5), (.eff (.row 3 0 [] [])), none⟩,
.op ⟨(some 6), (.pure (.mv (.tmp 0))), none⟩,
.op ⟨(some 7), (.eff (.app 3 1 8 (.tmp 5) (.tmp 6))), none⟩,
.op ⟨(some 2), (.pure (.mv (.tmp 7))), none⟩])
(.ret))),
[.tmp 2]⟩
theorem r_slices_Clone_Lint_int : resFun Try.prog f_slices_Clone_Lint_int = some c_slices_Clone_Lint_int := by kernel_rfl

/- loop.example/g00940/spec.pkOf -/
abbrev f_spec_pkOf : Nat := 84
def c_spec_pkOf : MFun := ⟨37, .seq (.ops [
.op ⟨(some 4), (.pure (.mv (.const (.slice none 0 0)))), none⟩,
.op ⟨(some 5), (.pure (.mv (.const (.bool false)))), none⟩])
(.seq (.ops [
.op ⟨(some 6), (.pure (.mv (.const (.slice none 0 0)))), none⟩])
(.seq (.seq (.ops [
.op ⟨(some 11), (.pure (.mv (.tmp 0))), none⟩,
.op ⟨(some 12), (.pure (.len (.tmp 11))), none⟩,
.op ⟨(some 13), (.pure (.mv (.const (.int .i64 (0))))), none⟩])
(.block 0 (.loop (.seq (.ops [
.op ⟨(some 14), (.pure (.bin .lss (.tmp 13) (.tmp 12))), none⟩])
(.seq (.cond (.tmp 14)
(.skip)
(.exit 0))
(.seq (.block 1 (.seq (.ops [
.op ⟨(some 15), (.pure (.idx 4 (.tmp 11) (.tmp 13))), none⟩,
.op ⟨(some 16), (.load (some 4) (.tmp 15)), none⟩,
.op ⟨(some 8), (.eff (.new 27 [(.int .i64 (0)), (.int .i64 (0)), (.int .i64 (0)), (.slice none 0 0)])), none⟩,
.op ⟨none, (.eff (.store 4 (.tmp 8) (.tmp 16))), none⟩])
(.seq (.seq (.ops [
.op ⟨(some 17), (.pure (.fieldAddr 0 (.tmp 8))), none⟩,
.op ⟨(some 18), (.load none (.tmp 17)), none⟩,
.op ⟨(some 19), (.pure (.mv (.tmp 1))), none⟩,
.op ⟨(some 20), (.pure (.bin .neq (.tmp 18) (.tmp 19))), none⟩])
(.cond (.tmp 20)
(.exit 1)
(.skip)))
(.seq (.seq (.ops [
.op ⟨(some 21), (.pure (.mv (.tmp 6))), none⟩,
.op ⟨(some 22), (.pure (.len (.tmp 21))), none⟩,
.op ⟨(some 23), (.pure (.mv (.const (.int .i64 (0))))), none⟩])
(.block 2 (.loop (.seq (.ops [
.op ⟨(some 24), (.pure (.bin .lss (.tmp 23) (.tmp 22))), none⟩])
(.seq (.cond (.tmp 24)
(.skip)
(.exit 2))
(.seq (.block 3 (.seq (.ops [
.op ⟨(some 25), (.pure (.idx 4 (.tmp 21) (.tmp 23))), none⟩,
.op ⟨(some 26), (.load (some 4) (.tmp 25)), none⟩,
.op ⟨(some 10), (.eff (.new 27 [(.int .i64 (0)), (.int .i64 (0)), (.int .i64 (0)), (.slice none 0 0)])), none⟩,
.op ⟨none, (.eff (.store 4 (.tmp 10) (.tmp 26))), none⟩])
(.seq (.ops [
.op ⟨(some 27), (.load (some 4) (.tmp 8)), none⟩,
.op ⟨(some 28), (.load (some 4) (.tmp 10)), none⟩,
.op ⟨(some 29), (.eff (.call 73 [(.tmp 27), (.tmp 28)])), none⟩])
(.cond (.tmp 29)
(.seq (.ops [
.op ⟨(some 4), (.pure (.mv (.const (.slice none 0 0)))), none⟩,
.op ⟨(some 5), (.pure (.mv (.const (.bool false)))), none⟩])
(.ret))
(.skip)))))
(.ops [
.op ⟨(some 30), (.pure (.bin .add (.tmp 23) (.const (.int .i64 (1))))), none⟩,
.op ⟨(some 23), (.pure (.mv (.tmp 30))), none⟩])))))))
(.ops [
.op ⟨(some 31), (.pure (.mv (.tmp 6))), none⟩,
.op ⟨(some 32), (.load (some 4) (.tmp 8)), none⟩,
.op ⟨(some 33), (.eff (.row 27 1 [(.int .i64 (0)), (.int .i64 (0)), (.int .i64 (0)), (.slice none 0 0)] [(0, 4, (.tmp 32))])), none⟩,
.op ⟨(some 34), (.eff (.app 27 4 48 (.tmp 31) (.tmp 33))), none⟩,
.op ⟨(some 6), (.pure (.mv (.tmp 34))), none⟩])))))
(.ops [
.op ⟨(some 35), (.pure (.bin .add (.tmp 13) (.const (.int .i64 (1))))), none⟩,
.op ⟨(some 13), (.pure (.mv (.tmp 35))), none⟩])))))))
(.seq (.ops [
.op ⟨(some 36), (.pure (.mv (.tmp 6))), none⟩,
.op ⟨(some 4), (.pure (.mv (.tmp 36))), none⟩,
.op ⟨(some 5), (.pure (.mv (.const (.bool true)))), none⟩])
(.ret)))),
[.tmp 4, .tmp 5]⟩
theorem r_spec_pkOf : resFun Try.prog f_spec_pkOf = some c_spec_pkOf := by kernel_rfl

/- loop.example/g00940/spec.pkMissing -/
abbrev f_spec_pkMissing : Nat := 85
def c_spec_pkMissing : MFun := ⟨22, .seq (.ops [
.op ⟨(some 2), (.pure (.mv (.const (.slice none 0 0)))), none⟩])
(.seq (.ops [
.op ⟨(some 3), (.pure (.mv (.const (.slice none 0 0)))), none⟩])
(.seq (.seq (.ops [
.op ⟨(some 4), (.pure (.mv (.const (.int .i64 (0))))), none⟩])
(.block 0 (.loop (.seq (.seq (.ops [
.op ⟨(some 5), (.pure (.mv (.tmp 4))), none⟩,
.op ⟨(some 6), (.pure (.mv (.tmp 0))), none⟩,
.op ⟨(some 7), (.pure (.idx 4 (.tmp 6) (.const (.int .i64 (0))))), none⟩,
.op ⟨(some 8), (.pure (.fieldAddr 2 (.tmp 7))), none⟩,
.op ⟨(some 9), (.load none (.tmp 8)), none⟩,
.op ⟨(some 10), (.pure (.bin .lss (.tmp 5) (.tmp 9))), none⟩])
(.cond (.tmp 10)
(.skip)
(.exit 0)))
(.seq (.block 1 (.seq (.ops [
.op ⟨(some 13), (.pure (.mv (.tmp 0))), none⟩,
.op ⟨(some 14), (.pure (.mv (.tmp 4))), none⟩,
.op ⟨(some 15), (.eff (.call 96 [(.tmp 13), (.tmp 14)])), none⟩,
.op ⟨(some 16), (.pure (.bin .lss (.tmp 15) (.const (.int .i64 (0))))), none⟩])
(.cond (.tmp 16)
(.ops [
.op ⟨(some 17), (.pure (.mv (.tmp 3))), none⟩,
.op ⟨(some 18), (.pure (.mv (.tmp 4))), none⟩,
.op ⟨(some 19), (.eff (.row 3 1 [(.int .i64 (0))] [(0, 1, (.tmp 18))])), none⟩,
.op ⟨(some 20), (.eff (.app 3 1 8 (.tmp 17) (.tmp 19))), none⟩,
.op ⟨(some 3), (.pure (.mv (.tmp 20))), none⟩])
(.skip))))
(.ops [
.op ⟨(some 11), (.pure (.mv (.tmp 4))), none⟩,
.op ⟨(some 12), (.pure (.bin .add (.tmp 11) (.const (.int .i64 (1))))), none⟩,
.op ⟨(some 4), (.pure (.mv (.tmp 12))), none⟩]))))))
(.seq (.ops [
.op ⟨(some 21), (.pure (.mv (.tmp 3))), none⟩,
.op ⟨(some 2), (.pure (.mv (.tmp 21))), none⟩])
(.ret)))),
[.tmp 2]⟩
theorem r_spec_pkMissing : resFun Try.prog f_spec_pkMissing = some c_spec_pkMissing := by kernel_rfl

/- (*loop.example/g00940/spec.l1Cur).packets -/
abbrev f_spec_l1Cur_packets : Nat := 86
def c_spec_l1Cur_packets : MFun := ⟨112, .seq (.ops [
.op ⟨(some 2), (.pure (.mv (.const (.slice none 0 0)))), none⟩])
(.seq (.ops [
.op ⟨(some 3), (.pure (.mv (.const (.slice none 0 0)))), none⟩])
(.seq (.seq (.ops [
.op ⟨(some 11), (.pure (.mv (.tmp 0))), none⟩,
.op ⟨(some 12), (.eff (.call 98 [(.tmp 11), (.const (.int .i64 (3)))])), none⟩,
.op ⟨(some 4), (.pure (.mv (.tmp 12))), none⟩])
(.block 0 (.loop (.seq (.seq (.ops [
.op ⟨(some 13), (.pure (.mv (.tmp 4))), none⟩,
.op ⟨(some 14), (.pure (.bin .geq (.tmp 13) (.const (.int .i64 (0))))), none⟩])
(.cond (.tmp 14)
(.skip)
(.exit 0)))
(.seq (.block 1 (.seq (.ops [
.op ⟨(some 17), (.pure (.mv (.tmp 0))), none⟩,
.op ⟨(some 18), (.eff (.row 3 3 [(.int .i64 (0)), (.int .i64 (0)), (.int .i64 (0))] [(0, 1, (.const (.int .i64 (1)))), (1, 1, (.const (.int .i64 (7)))), (2, 1, (.const (.int .i64 (12))))])), none⟩,
.op ⟨(some 19), (.eff (.call 99 [(.tmp 17), (.tmp 18)])), none⟩,
.op ⟨(some 20), (.pure (.mv (.tmp 0))), none⟩,
.op ⟨(some 21), (.pure (.mv (.tmp 0))), none⟩,
.op ⟨(some 22), (.eff (.call 98 [(.tmp 21), (.const (.int .i64 (6)))])), none⟩,
.op ⟨(some 23), (.pure (.bin .add (.const (.int .i64 (1))) (.tmp 22))), none⟩,
.op ⟨(some 24), (.eff (.call 100 [(.tmp 20), (.tmp 23)])), none⟩,
.op ⟨(some 25), (.pure (.mv (.tmp 0))), none⟩,
.op ⟨(some 26), (.eff (.call 98 [(.tmp 25), (.const (.int .i64 (3)))])), none⟩,
.op ⟨(some 27), (.pure (.bin .add (.const (.int .i64 (1))) (.tmp 26))), none⟩,
.op ⟨(some 28), (.eff (.call 82 [(.tmp 19), (.tmp 24), (.tmp 27)])), none⟩,
.op ⟨(some 5), (.pure (.mv (.tmp 28))), none⟩])
(.seq (.ops [
.op ⟨(some 29), (.pure (.mv (.tmp 5))), none⟩,
.op ⟨(some 30), (.pure (.len (.tmp 29))), none⟩,
.op ⟨(some 31), (.pure (.mv (.const (.int .i64 (0))))), none⟩])
(.block 2 (.loop (.seq (.ops [
.op ⟨(some 32), (.pure (.bin .lss (.tmp 31) (.tmp 30))), none⟩])
(.seq (.cond (.tmp 32)
(.skip)
(.exit 2))
(.seq (.block 3 (.seq (.ops [
.op ⟨(some 33), (.pure (.idx 4 (.tmp 29) (.tmp 31))), none⟩,
.op ⟨(some 34), (.load (some 4) (.tmp 33)), none⟩,
.op ⟨(some 7), (.eff (.new 27 [(.int .i64 (0)), (.int .i64 (0)), (.int .i64 (0)), (.slice none 0 0)])), none⟩,
.op ⟨none, (.eff (.store 4 (.tmp 7) (.tmp 34))), none⟩])
(.seq (.seq (.ops [
.op ⟨(some 35), (.pure (.mv (.tmp 0))), none⟩,
.op ⟨(some 36), (.eff (.call 101 [(.tmp 35), (.const (.int .i64 (8)))])), none⟩])
(.cond (.tmp 36)
(.exit 3)
(.skip)))
(.seq (.ops [
.op ⟨(some 37), (.pure (.mv (.tmp 0))), none⟩,
.op ⟨(some 38), (.pure (.mv (.tmp 3))), none⟩,
.op ⟨(some 39), (.pure (.len (.tmp 38))), none⟩,
.op ⟨(some 40), (.pure (.bin .add (.tmp 39) (.const (.int .i64 (1))))), none⟩,
.op ⟨(some 41), (.eff (.call 98 [(.tmp 37), (.tmp 40)])), none⟩,
.op ⟨(some 8), (.pure (.mv (.tmp 41))), none⟩])
(.seq (.draw true
(.take ⟨(some 43), (.pure (.mv (.tmp 3))), none⟩
(.take ⟨(some 44), (.pure (.mv (.tmp 8))), none⟩
(.take ⟨(some 45), (.pure (.slc 4 (.tmp 43) none (some (.tmp 44)) none)), none⟩
(.take ⟨(some 50), (.pure (.mv (.tmp 3))), none⟩
(.take ⟨(some 51), (.pure (.mv (.tmp 8))), none⟩
(.take ⟨(some 52), (.pure (.slc 4 (.tmp 50) (some (.tmp 51)) none none)), none⟩
(.take ⟨(some 47), (.load (some 4) (.tmp 7)), none⟩
(.fork
(.only false ⟨(some 42), (.eff (.row 27 0 [] [])), none⟩
(.fork
(.only false ⟨(some 46), (.eff (.app 27 4 48 (.tmp 42) (.tmp 45))), none⟩
(.only false ⟨(some 48), (.eff (.row 27 1 [(.int .i64 (0)), (.int .i64 (0)), (.int .i64 (0)), (.slice none 0 0)] [(0, 4, (.tmp 47))])), none⟩
(.only false ⟨(some 49), (.eff (.app 27 4 48 (.tmp 46) (.tmp 48))), none⟩
(.only false ⟨(some 53), (.eff (.app 27 4 48 (.tmp 49) (.tmp 52))), none⟩
(.take ⟨(some 3), (.pure (.mv (.tmp 53))), none⟩
(.done))))))
(.only false ⟨(some 48), (.eff (.row 27 1 [(.int .i64 (0)), (.int .i64 (0)), (.int .i64 (0)), (.slice none 0 0)] [(0, 4, (.tmp 47))])), none⟩
(.only false ⟨(some 46), (.eff (.app 27 4 48 (.tmp 42) (.tmp 45))), none⟩
(.only false ⟨(some 49), (.eff (.app 27 4 48 (.tmp 46) (.tmp 48))), none⟩
(.only false ⟨(some 53), (.eff (.app 27 4 48 (.tmp 49) (.tmp 52))), none⟩
(.take ⟨(some 3), (.pure (.mv (.tmp 53))), none⟩
(.done))))))))
(.only false ⟨(some 48), (.eff (.row 27 1 [(.int .i64 (0)), (.int .i64 (0)), (.int .i64 (0)), (.slice none 0 0)] [(0, 4, (.tmp 47))])), none⟩
(.only false ⟨(some 42), (.eff (.row 27 0 [] [])), none⟩
(.only false ⟨(some 46), (.eff (.app 27 4 48 (.tmp 42) (.tmp 45))), none⟩
(.only false ⟨(some 49), (.eff (.app 27 4 48 (.tmp 46) (.tmp 48))), none⟩
(.only false ⟨(some 53), (.eff (.app 27 4 48 (.tmp 49) (.tmp 52))), none⟩
(.take ⟨(some 3), (.pure (.mv (.tmp 53))), none⟩
(.done))))))))))))))))
(.seq (.ops [
.op ⟨(some 54), (.pure (.mv (.tmp 0))), none⟩,
.op ⟨(some 55), (.eff (.call 101 [(.tmp 54), (.const (.int .i64 (6)))])), none⟩])
(.cond (.tmp 55)
(.ops [
.op ⟨(some 56), (.pure (.mv (.tmp 3))), none⟩,
.op ⟨(some 57), (.load (some 4) (.tmp 7)), none⟩,
.op ⟨(some 58), (.eff (.call 64 [(.tmp 57)])), none⟩,
.op ⟨(some 59), (.eff (.row 27 1 [(.int .i64 (0)), (.int .i64 (0)), (.int .i64 (0)), (.slice none 0 0)] [(0, 4, (.tmp 58))])), none⟩,
.op ⟨(some 60), (.eff (.app 27 4 48 (.tmp 56) (.tmp 59))), none⟩,
.op ⟨(some 3), (.pure (.mv (.tmp 60))), none⟩])
(.skip))))))))
(.ops [
.op ⟨(some 61), (.pure (.bin .add (.tmp 31) (.const (.int .i64 (1))))), none⟩,
.op ⟨(some 31), (.pure (.mv (.tmp 61))), none⟩])))))))))
(.ops [
.op ⟨(some 15), (.pure (.mv (.tmp 4))), none⟩,
.op ⟨(some 16), (.pure (.bin .sub (.tmp 15) (.const (.int .i64 (1))))), none⟩,
.op ⟨(some 4), (.pure (.mv (.tmp 16))), none⟩]))))))
(.seq (.seq (.ops [
.op ⟨(some 62), (.pure (.mv (.tmp 0))), none⟩,
.op ⟨(some 63), (.eff (.call 98 [(.tmp 62), (.const (.int .i64 (12)))])), none⟩])
(.block 4 (.seq (.ops [
.op ⟨(some 65), (.pure (.bin .eql (.tmp 63) (.const (.int .i64 (0))))), none⟩,
.op ⟨(some 64), (.pure (.mv (.tmp 65))), none⟩])
(.cond (.tmp 64)
(.ops [
.op ⟨(some 66), (.pure (.mv (.tmp 3))), none⟩,
.op ⟨(some 67), (.pure (.mv (.tmp 0))), none⟩,
.op ⟨(some 68), (.eff (.call 102 [(.tmp 67)])), none⟩,
.op ⟨(some 69), (.eff (.row 27 1 [(.int .i64 (0)), (.int .i64 (0)), (.int .i64 (0)), (.slice none 0 0)] [(0, 4, (.tmp 68))])), none⟩,
.op ⟨(some 70), (.eff (.app 27 4 48 (.tmp 66) (.tmp 69))), none⟩,
.op ⟨(some 3), (.pure (.mv (.tmp 70))), none⟩])
(.seq (.ops [
.op ⟨(some 72), (.pure (.bin .eql (.tmp 63) (.const (.int .i64 (1))))), none⟩,
.op ⟨(some 71), (.pure (.mv (.tmp 72))), none⟩])
(.cond (.tmp 71)
(.seq (.ops [
.op ⟨(some 73), (.pure (.mv (.tmp 3))), none⟩,
.op ⟨(some 74), (.pure (.len (.tmp 73))), none⟩,
.op ⟨(some 75), (.pure (.bin .gtr (.tmp 74) (.const (.int .i64 (0))))), none⟩])
(.cond (.tmp 75)
(.seq (.ops [
.op ⟨(some 76), (.pure (.mv (.tmp 3))), none⟩,
.op ⟨(some 77), (.pure (.mv (.tmp 0))), none⟩,
.op ⟨(some 78), (.pure (.mv (.tmp 3))), none⟩,
.op ⟨(some 79), (.pure (.len (.tmp 78))), none⟩,
.op ⟨(some 80), (.eff (.call 98 [(.tmp 77), (.tmp 79)])), none⟩,
.op ⟨(some 81), (.pure (.idx 4 (.tmp 76) (.tmp 80))), none⟩,
.op ⟨(some 9), (.pure (.mv (.tmp 81))), none⟩])
(.ops [
.op ⟨(some 82), (.pure (.mv (.tmp 9))), none⟩,
.op ⟨(some 83), (.pure (.mv (.tmp 9))), none⟩,
.op ⟨(some 84), (.pure (.nilc (.tmp 83))), none⟩,
.op ⟨(some 85), (.pure (.fieldAddr 3 (.tmp 84))), none⟩,
.op ⟨(some 86), (.load none (.tmp 85)), none⟩,
.op ⟨(some 87), (.eff (.call 89 [(.tmp 86)])), none⟩,
.op ⟨(some 88), (.eff (.row 3 1 [(.int .i64 (0))] [(0, 1, (.const (.int .i64 (3))))])), none⟩,
.op ⟨(some 89), (.eff (.app 3 1 8 (.tmp 87) (.tmp 88))), none⟩,
.op ⟨(some 90), (.pure (.nilc (.tmp 82))), none⟩,
.op ⟨(some 91), (.pure (.fieldAddr 3 (.tmp 90))), none⟩,
.op ⟨none, (.eff (.store 1 (.tmp 91) (.tmp 89))), none⟩]))
(.skip)))
(.seq (.ops [
.op ⟨(some 93), (.pure (.bin .eql (.tmp 63) (.const (.int .i64 (2))))), none⟩,
.op ⟨(some 92), (.pure (.mv (.tmp 93))), none⟩])
(.cond (.tmp 92)
(.seq (.ops [
.op ⟨(some 94), (.pure (.mv (.tmp 0))), none⟩,
.op ⟨(some 95), (.eff (.call 101 [(.tmp 94), (.const (.int .i64 (3)))])), none⟩])
(.cond (.tmp 95)
(.seq (.ops [
.op ⟨(some 96), (.pure (.mv (.tmp 0))), none⟩,
.op ⟨(some 97), (.eff (.call 98 [(.tmp 96), (.const (.int .i64 (2)))])), none⟩,
.op ⟨(some 98), (.pure (.bin .add (.const (.int .i64 (40))) (.tmp 97))), none⟩,
.op ⟨(some 10), (.pure (.mv (.tmp 98))), none⟩])
(.block 5 (.loop (.seq (.seq (.ops [
.op ⟨(some 99), (.pure (.mv (.tmp 3))), none⟩,
.op ⟨(some 100), (.pure (.len (.tmp 99))), none⟩,
.op ⟨(some 101), (.pure (.mv (.tmp 10))), none⟩,
.op ⟨(some 102), (.pure (.bin .lss (.tmp 100) (.tmp 101))), none⟩])
(.cond (.tmp 102)
(.skip)
(.exit 5)))
(.block 6 (.ops [
.op ⟨(some 103), (.pure (.mv (.tmp 3))), none⟩,
.op ⟨(some 104), (.pure (.mv (.tmp 3))), none⟩,
.op ⟨(some 105), (.pure (.len (.tmp 104))), none⟩,
.op ⟨(some 106), (.pure (.bin .add (.const (.int .i64 (1))) (.tmp 105))), none⟩,
.op ⟨(some 107), (.eff (.row 3 1 [(.int .i64 (0))] [(0, 1, (.const (.int .i64 (5))))])), none⟩,
.op ⟨(some 108), (.pure (.build [(.int .i64 (0)), (.int .i64 (0)), (.int .i64 (0)), (.slice none 0 0)] [(0, 1, (.tmp 106)), (2, 1, (.const (.int .i64 (1)))), (3, 1, (.tmp 107))])), none⟩,
.op ⟨(some 109), (.eff (.row 27 1 [(.int .i64 (0)), (.int .i64 (0)), (.int .i64 (0)), (.slice none 0 0)] [(0, 4, (.tmp 108))])), none⟩,
.op ⟨(some 110), (.eff (.app 27 4 48 (.tmp 103) (.tmp 109))), none⟩,
.op ⟨(some 3), (.pure (.mv (.tmp 110))), none⟩]))))))
(.skip)))
(.skip)))))))))
(.seq (.ops [
.op ⟨(some 111), (.pure (.mv (.tmp 3))), none⟩,
.op ⟨(some 2), (.pure (.mv (.tmp 111))), none⟩])
(.ret))))),
[.tmp 2]⟩
theorem r_spec_l1Cur_packets : resFun Try.prog f_spec_l1Cur_packets = some c_spec_l1Cur_packets := by kernel_rfl

/- slices.Equal[[]int,int] -/
abbrev f_slices_Equal_Lint_int : Nat := 87
def c_slices_Equal_Lint_int : MFun := ⟨26, .seq (.ops [
.op ⟨(some 4), (.pure (.mv (.const (.bool false)))), none⟩])
(.seq (.seq (.ops [
.op ⟨(some 6), (.pure (.mv (.tmp 0))), none⟩,
.op ⟨(some 7), (.pure (.len (.tmp 6))), none⟩,
.op ⟨(some 8), (.pure (.mv (.tmp 1))), none⟩,
.op ⟨(some 9), (.pure (.len (.tmp 8))), none⟩,
.op ⟨(some 10), (.pure (.bin .neq (.tmp 7) (.tmp 9))), none⟩])
(.cond (.tmp 10)
(.seq (.ops [
.op ⟨(some 4), (.pure (.mv (.const (.bool false)))), none⟩])
(.ret))
(.skip)))
(.seq (.seq (.ops [
.op ⟨(some 11), (.pure (.mv (.tmp 0))), none⟩,
.op ⟨(some 12), (.pure (.len (.tmp 11))), none⟩,
.op ⟨(some 13), (.pure (.mv (.const (.int .i64 (0))))), none⟩])
(.block 0 (.loop (.seq (.ops [
.op ⟨(some 14), (.pure (.bin .lss (.tmp 13) (.tmp 12))), none⟩])
(.seq (.cond (.tmp 14)
(.skip)
(.exit 0))
(.seq (.block 1 (.seq (.ops [
.op ⟨(some 15), (.pure (.mv (.tmp 13))), none⟩,
.op ⟨(some 5), (.pure (.mv (.tmp 15))), none⟩])
(.seq (.ops [
.op ⟨(some 16), (.pure (.mv (.tmp 0))), none⟩,
.op ⟨(some 17), (.pure (.mv (.tmp 5))), none⟩,
.op ⟨(some 18), (.pure (.idx 1 (.tmp 16) (.tmp 17))), none⟩,
.op ⟨(some 20), (.pure (.mv (.tmp 1))), none⟩,
.op ⟨(some 21), (.pure (.mv (.tmp 5))), none⟩,
.op ⟨(some 22), (.pure (.idx 1 (.tmp 20) (.tmp 21))), none⟩,
.op ⟨(some 19), (.load none (.tmp 18)), none⟩,
.op ⟨(some 23), (.load none (.tmp 22)), none⟩,
.op ⟨(some 24), (.pure (.bin .neq (.tmp 19) (.tmp 23))), none⟩])
(.cond (.tmp 24)
(.seq (.ops [
.op ⟨(some 4), (.pure (.mv (.const (.bool false)))), none⟩])
(.ret))
(.skip)))))
(.ops [
.op ⟨(some 25), (.pure (.bin .add (.tmp 13) (.const (.int .i64 (1))))), none⟩,
.op ⟨(some 13), (.pure (.mv (.tmp 25))), none⟩])))))))
(.seq (.ops [
.op ⟨(some 4), (.pure (.mv (.const (.bool true)))), none⟩])
(.ret)))),
[.tmp 4]⟩
theorem r_slices_Equal_Lint_int : resFun Try.prog f_slices_Equal_Lint_int = some c_slices_Equal_Lint_int := by kernel_rfl

/- loop.example/g00940/spec.l1Same -/
abbrev f_spec_l1Same : Nat := 88
def c_spec_l1Same : MFun := ⟨26, .seq (.ops [
.op ⟨(some 4), (.pure (.mv (.const (.bool false)))), none⟩])
(.seq (.seq (.ops [
.op ⟨(some 6), (.pure (.mv (.tmp 0))), none⟩,
.op ⟨(some 7), (.pure (.len (.tmp 6))), none⟩,
.op ⟨(some 8), (.pure (.mv (.tmp 1))), none⟩,
.op ⟨(some 9), (.pure (.len (.tmp 8))), none⟩,
.op ⟨(some 10), (.pure (.bin .neq (.tmp 7) (.tmp 9))), none⟩])
(.cond (.tmp 10)
(.seq (.ops [
.op ⟨(some 4), (.pure (.mv (.const (.bool false)))), none⟩])
(.ret))
(.skip)))
(.seq (.seq (.ops [
.op ⟨(some 11), (.pure (.mv (.tmp 0))), none⟩,
.op ⟨(some 12), (.pure (.len (.tmp 11))), none⟩,
.op ⟨(some 13), (.pure (.mv (.const (.int .i64 (0))))), none⟩])
(.block 0 (.loop (.seq (.ops [
.op ⟨(some 14), (.pure (.bin .lss (.tmp 13) (.tmp 12))), none⟩])
(.seq (.cond (.tmp 14)
(.skip)
(.exit 0))
(.seq (.block 1 (.seq (.ops [
.op ⟨(some 15), (.pure (.mv (.tmp 13))), none⟩,
.op ⟨(some 5), (.pure (.mv (.tmp 15))), none⟩])
(.seq (.ops [
.op ⟨(some 16), (.pure (.mv (.tmp 0))), none⟩,
.op ⟨(some 17), (.pure (.mv (.tmp 5))), none⟩,
.op ⟨(some 18), (.pure (.idx 1 (.tmp 16) (.tmp 17))), none⟩,
.op ⟨(some 20), (.pure (.mv (.tmp 1))), none⟩,
.op ⟨(some 21), (.pure (.mv (.tmp 5))), none⟩,
.op ⟨(some 22), (.pure (.idx 1 (.tmp 20) (.tmp 21))), none⟩,
.op ⟨(some 19), (.load none (.tmp 18)), none⟩,
.op ⟨(some 23), (.load none (.tmp 22)), none⟩,
.op ⟨(some 24), (.pure (.bin .neq (.tmp 19) (.tmp 23))), none⟩])
(.cond (.tmp 24)
(.seq (.ops [
.op ⟨(some 4), (.pure (.mv (.const (.bool false)))), none⟩])
(.ret))
(.skip)))))
(.ops [
.op ⟨(some 25), (.pure (.bin .add (.tmp 13) (.const (.int .i64 (1))))), none⟩,
.op ⟨(some 13), (.pure (.mv (.tmp 25))), none⟩])))))))
(.seq (.ops [
.op ⟨(some 4), (.pure (.mv (.const (.bool true)))), none⟩])
(.ret)))),
[.tmp 4]⟩
theorem r_spec_l1Same : resFun Try.prog f_spec_l1Same = some c_spec_l1Same := by kernel_rfl

/- loop.example/g00940/spec.l1Own -/
abbrev f_spec_l1Own : Nat := 89
def c_spec_l1Own : MFun := ⟨6, .seq (.ops [
.op ⟨(some 2), (.pure (.mv (.const (.slice none 0 0)))), none⟩])
(.seq (.ops [
.op ⟨(some 3), (.eff (.row 3 0 [] [])), none⟩,
.op ⟨(some 4), (.pure (.mv (.tmp 0))), none⟩,
.op ⟨(some 5), (.eff (.app 3 1 8 (.tmp 3) (.tmp 4))), none⟩,
.op ⟨(some 2), (.pure (.mv (.tmp 5))), none⟩])
(.ret)),
[.tmp 2]⟩
theorem r_spec_l1Own : resFun Try.prog f_spec_l1Own = some c_spec_l1Own := by kernel_rfl

/- slices.stableCmpFunc[loop.example/g00940/impl.Packet] -/
abbrev f_slices_stableCmpFunc_impl_Packet : Nat := 90
def c_slices_stableCmpFunc_impl_Packet : MFun := ⟨63, .seq (.ops [
.op ⟨(some 6), (.pure (.mv (.const (.int .i64 (20))))), none⟩])
(.seq (.ops [
.op ⟨(some 10), (.pure (.mv (.tmp 6))), none⟩,
.op ⟨(some 7), (.pure (.mv (.const (.int .i64 (0))))), none⟩,
.op ⟨(some 8), (.pure (.mv (.tmp 10))), none⟩])
(.seq (.block 0 (.loop (.seq (.seq (.ops [
.op ⟨(some 11), (.pure (.mv (.tmp 8))), none⟩,
.op ⟨(some 12), (.pure (.mv (.tmp 1))), none⟩,
.op ⟨(some 13), (.pure (.bin .leq (.tmp 11) (.tmp 12))), none⟩])
(.cond (.tmp 13)
(.skip)
(.exit 0)))
(.block 1 (.seq (.ops [
.op ⟨(some 14), (.pure (.mv (.tmp 0))), none⟩,
.op ⟨(some 15), (.pure (.mv (.tmp 7))), none⟩,
.op ⟨(some 16), (.pure (.mv (.tmp 8))), none⟩,
.op ⟨(some 17), (.pure (.mv (.tmp 2))), none⟩,
.op ⟨(some 18), (.eff (.call 103 [(.tmp 14), (.tmp 15), (.tmp 16), (.tmp 17)])), none⟩])
(.seq (.ops [
.op ⟨(some 19), (.pure (.mv (.tmp 8))), none⟩,
.op ⟨(some 7), (.pure (.mv (.tmp 19))), none⟩])
(.ops [
.op ⟨(some 20), (.pure (.mv (.tmp 8))), none⟩,
.op ⟨(some 21), (.pure (.mv (.tmp 6))), none⟩,
.op ⟨(some 22), (.pure (.bin .add (.tmp 20) (.tmp 21))), none⟩,
.op ⟨(some 8), (.pure (.mv (.tmp 22))), none⟩])))))))
(.seq (.ops [
.op ⟨(some 23), (.pure (.mv (.tmp 0))), none⟩,
.op ⟨(some 24), (.pure (.mv (.tmp 7))), none⟩,
.op ⟨(some 25), (.pure (.mv (.tmp 1))), none⟩,
.op ⟨(some 26), (.pure (.mv (.tmp 2))), none⟩,
.op ⟨(some 27), (.eff (.call 103 [(.tmp 23), (.tmp 24), (.tmp 25), (.tmp 26)])), none⟩])
(.block 2 (.loop (.seq (.seq (.ops [
.op ⟨(some 28), (.pure (.mv (.tmp 6))), none⟩,
.op ⟨(some 29), (.pure (.mv (.tmp 1))), none⟩,
.op ⟨(some 30), (.pure (.bin .lss (.tmp 28) (.tmp 29))), none⟩])
(.cond (.tmp 30)
(.skip)
(.exit 2)))
(.block 3 (.seq (.ops [
.op ⟨(some 31), (.pure (.mv (.tmp 6))), none⟩,
.op ⟨(some 32), (.pure (.bin .mul (.const (.int .i64 (2))) (.tmp 31))), none⟩,
.op ⟨(some 7), (.pure (.mv (.const (.int .i64 (0))))), none⟩,
.op ⟨(some 8), (.pure (.mv (.tmp 32))), none⟩])
(.seq (.block 4 (.loop (.seq (.seq (.ops [
.op ⟨(some 33), (.pure (.mv (.tmp 8))), none⟩,
.op ⟨(some 34), (.pure (.mv (.tmp 1))), none⟩,
.op ⟨(some 35), (.pure (.bin .leq (.tmp 33) (.tmp 34))), none⟩])
(.cond (.tmp 35)
(.skip)
(.exit 4)))
(.block 5 (.seq (.ops [
.op ⟨(some 36), (.pure (.mv (.tmp 0))), none⟩,
.op ⟨(some 37), (.pure (.mv (.tmp 7))), none⟩,
.op ⟨(some 38), (.pure (.mv (.tmp 7))), none⟩,
.op ⟨(some 39), (.pure (.mv (.tmp 6))), none⟩,
.op ⟨(some 40), (.pure (.bin .add (.tmp 38) (.tmp 39))), none⟩,
.op ⟨(some 41), (.pure (.mv (.tmp 8))), none⟩,
.op ⟨(some 42), (.pure (.mv (.tmp 2))), none⟩,
.op ⟨(some 43), (.eff (.call 104 [(.tmp 36), (.tmp 37), (.tmp 40), (.tmp 41), (.tmp 42)])), none⟩])
(.seq (.ops [
.op ⟨(some 44), (.pure (.mv (.tmp 8))), none⟩,
.op ⟨(some 7), (.pure (.mv (.tmp 44))), none⟩])
(.ops [
.op ⟨(some 45), (.pure (.mv (.tmp 8))), none⟩,
.op ⟨(some 46), (.pure (.mv (.tmp 6))), none⟩,
.op ⟨(some 47), (.pure (.bin .mul (.const (.int .i64 (2))) (.tmp 46))), none⟩,
.op ⟨(some 48), (.pure (.bin .add (.tmp 45) (.tmp 47))), none⟩,
.op ⟨(some 8), (.pure (.mv (.tmp 48))), none⟩])))))))
(.seq (.seq (.ops [
.op ⟨(some 49), (.pure (.mv (.tmp 7))), none⟩,
.op ⟨(some 50), (.pure (.mv (.tmp 6))), none⟩,
.op ⟨(some 51), (.pure (.bin .add (.tmp 49) (.tmp 50))), none⟩,
.op ⟨(some 9), (.pure (.mv (.tmp 51))), none⟩])
(.seq (.ops [
.op ⟨(some 52), (.pure (.mv (.tmp 9))), none⟩,
.op ⟨(some 53), (.pure (.mv (.tmp 1))), none⟩,
.op ⟨(some 54), (.pure (.bin .lss (.tmp 52) (.tmp 53))), none⟩])
(.cond (.tmp 54)
(.ops [
.op ⟨(some 55), (.pure (.mv (.tmp 0))), none⟩,
.op ⟨(some 56), (.pure (.mv (.tmp 7))), none⟩,
.op ⟨(some 57), (.pure (.mv (.tmp 9))), none⟩,
.op ⟨(some 58), (.pure (.mv (.tmp 1))), none⟩,
.op ⟨(some 59), (.pure (.mv (.tmp 2))), none⟩,
.op ⟨(some 60), (.eff (.call 104 [(.tmp 55), (.tmp 56), (.tmp 57), (.tmp 58), (.tmp 59)])), none⟩])
(.skip))))
(.ops [
.op ⟨(some 61), (.pure (.mv (.tmp 6))), none⟩,
.op ⟨(some 62), (.pure (.bin .mul (.tmp 61) (.const (.int .i64 (2))))), none⟩,
.op ⟨(some 6), (.pure (.mv (.tmp 62))), none⟩]))))))))))),
[]⟩
theorem r_slices_stableCmpFunc_impl_Packet : resFun Try.prog f_slices_stableCmpFunc_impl_Packet = some c_slices_stableCmpFunc_impl_Packet := by kernel_rfl

/- cmp.isNaN[int] -/
abbrev f_cmp_isNaN_int : Nat := 91
def c_cmp_isNaN_int : MFun := ⟨6, .seq (.ops [
.op ⟨(some 2), (.pure (.mv (.const (.bool false)))), none⟩])
(.seq (.ops [
.op ⟨(some 3), (.pure (.mv (.tmp 0))), none⟩,
.op ⟨(some 4), (.pure (.mv (.tmp 0))), none⟩,
.op ⟨(some 5), (.pure (.bin .neq (.tmp 3) (.tmp 4))), none⟩,
.op ⟨(some 2), (.pure (.mv (.tmp 5))), none⟩])
(.ret)),
[.tmp 2]⟩
theorem r_cmp_isNaN_int : resFun Try.prog f_cmp_isNaN_int = some c_cmp_isNaN_int := by kernel_rfl

/- slices.pdqsortOrdered[int] -/
/- math/bits.Len -/
/- loop.example/g00940/impl.packetsOf$1 -/
abbrev f_impl_packetsOf_1 : Nat := 94
def c_impl_packetsOf_1 : MFun := ⟨7, .seq (.ops [
.op ⟨(some 2), (.eff (.box 27 (.tmp 0))), none⟩,
.op ⟨(some 3), (.pure (.mv (.const (.bool false)))), none⟩])
(.seq (.ops [
.op ⟨(some 4), (.load (some 4) (.tmp 1)), none⟩,
.op ⟨(some 5), (.load (some 4) (.tmp 2)), none⟩,
.op ⟨(some 6), (.eff (.call 72 [(.tmp 4), (.tmp 5)])), none⟩,
.op ⟨(some 3), (.pure (.mv (.tmp 6))), none⟩])
(.ret)),
[.tmp 3]⟩
theorem r_impl_packetsOf_1 : resFun Try.prog f_impl_packetsOf_1 = some c_impl_packetsOf_1 := by kernel_rfl

/- loop.example/g00940/impl.missingParts$1 -/
abbrev f_impl_missingParts_1 : Nat := 95
def c_impl_missingParts_1 : MFun := ⟨8, .seq (.ops [
.op ⟨(some 2), (.eff (.box 27 (.tmp 0))), none⟩,
.op ⟨(some 3), (.pure (.mv (.const (.bool false)))), none⟩])
(.seq (.ops [
.op ⟨(some 4), (.pure (.fieldAddr 1 (.tmp 2))), none⟩,
.op ⟨(some 5), (.load none (.tmp 4)), none⟩,
.op ⟨(some 6), (.load none (.tmp 1)), none⟩,
.op ⟨(some 7), (.pure (.bin .eql (.tmp 5) (.tmp 6))), none⟩,
.op ⟨(some 3), (.pure (.mv (.tmp 7))), none⟩])
(.ret)),
[.tmp 3]⟩
theorem r_impl_missingParts_1 : resFun Try.prog f_impl_missingParts_1 = some c_impl_missingParts_1 := by kernel_rfl

/- loop.example/g00940/spec.pkPart -/
abbrev f_spec_pkPart : Nat := 96
def c_spec_pkPart : MFun := ⟨20, .seq (.ops [
.op ⟨(some 4), (.pure (.mv (.const (.int .i64 (0))))), none⟩])
(.seq (.seq (.ops [
.op ⟨(some 7), (.pure (.mv (.tmp 0))), none⟩,
.op ⟨(some 8), (.pure (.len (.tmp 7))), none⟩,
.op ⟨(some 9), (.pure (.mv (.const (.int .i64 (0))))), none⟩])
(.block 0 (.loop (.seq (.ops [
.op ⟨(some 10), (.pure (.bin .lss (.tmp 9) (.tmp 8))), none⟩])
(.seq (.cond (.tmp 10)
(.skip)
(.exit 0))
(.seq (.block 1 (.seq (.ops [
.op ⟨(some 11), (.pure (.mv (.tmp 9))), none⟩,
.op ⟨(some 12), (.pure (.idx 4 (.tmp 7) (.tmp 9))), none⟩,
.op ⟨(some 13), (.load (some 4) (.tmp 12)), none⟩,
.op ⟨(some 6), (.eff (.new 27 [(.int .i64 (0)), (.int .i64 (0)), (.int .i64 (0)), (.slice none 0 0)])), none⟩,
.op ⟨(some 5), (.pure (.mv (.tmp 11))), none⟩,
.op ⟨none, (.eff (.store 4 (.tmp 6) (.tmp 13))), none⟩])
(.seq (.ops [
.op ⟨(some 14), (.pure (.fieldAddr 1 (.tmp 6))), none⟩,
.op ⟨(some 15), (.load none (.tmp 14)), none⟩,
.op ⟨(some 16), (.pure (.mv (.tmp 1))), none⟩,
.op ⟨(some 17), (.pure (.bin .eql (.tmp 15) (.tmp 16))), none⟩])
(.cond (.tmp 17)
(.seq (.ops [
.op ⟨(some 18), (.pure (.mv (.tmp 5))), none⟩,
.op ⟨(some 4), (.pure (.mv (.tmp 18))), none⟩])
(.ret))
(.skip)))))
(.ops [
.op ⟨(some 19), (.pure (.bin .add (.tmp 9) (.const (.int .i64 (1))))), none⟩,
.op ⟨(some 9), (.pure (.mv (.tmp 19))), none⟩])))))))
(.seq (.ops [
.op ⟨(some 4), (.pure (.mv (.const (.int .i64 (-1))))), none⟩])
(.ret))),
[.tmp 4]⟩
theorem r_spec_pkPart : resFun Try.prog f_spec_pkPart = some c_spec_pkPart := by kernel_rfl

/- loop.example/g00940/spec.l1Least -/
abbrev f_spec_l1Least : Nat := 97
def c_spec_l1Least : MFun := ⟨10, .seq (.ops [
.op ⟨(some 4), (.pure (.mv (.const (.int .i64 (0))))), none⟩])
(.seq (.seq (.ops [
.op ⟨(some 5), (.pure (.mv (.tmp 0))), none⟩,
.op ⟨(some 6), (.pure (.mv (.tmp 1))), none⟩,
.op ⟨(some 7), (.pure (.bin .lss (.tmp 5) (.tmp 6))), none⟩])
(.cond (.tmp 7)
(.seq (.ops [
.op ⟨(some 8), (.pure (.mv (.tmp 0))), none⟩,
.op ⟨(some 4), (.pure (.mv (.tmp 8))), none⟩])
(.ret))
(.skip)))
(.seq (.ops [
.op ⟨(some 9), (.pure (.mv (.tmp 1))), none⟩,
.op ⟨(some 4), (.pure (.mv (.tmp 9))), none⟩])
(.ret))),
[.tmp 4]⟩
theorem r_spec_l1Least : resFun Try.prog f_spec_l1Least = some c_spec_l1Least := by kernel_rfl

/- (*loop.example/g00940/spec.l1Cur).pick -/
abbrev f_spec_l1Cur_pick : Nat := 98
def c_spec_l1Cur_pick : MFun := ⟨20, .seq (.ops [
.op ⟨(some 4), (.pure (.mv (.const (.int .i64 (0))))), none⟩])
(.seq (.seq (.ops [
.op ⟨(some 6), (.pure (.mv (.tmp 1))), none⟩,
.op ⟨(some 7), (.pure (.bin .leq (.tmp 6) (.const (.int .i64 (1))))), none⟩])
(.cond (.tmp 7)
(.seq (.ops [
.op ⟨(some 4), (.pure (.mv (.const (.int .i64 (0))))), none⟩])
(.ret))
(.skip)))
(.seq (.ops [
.op ⟨(some 8), (.pure (.mv (.tmp 0))), none⟩,
.op ⟨(some 9), (.eff (.call 116 [(.tmp 8)])), none⟩,
.op ⟨(some 5), (.pure (.mv (.tmp 9))), none⟩])
(.seq (.seq (.ops [
.op ⟨(some 10), (.pure (.mv (.tmp 1))), none⟩,
.op ⟨(some 11), (.pure (.bin .gtr (.tmp 10) (.const (.int .i64 (200))))), none⟩])
(.cond (.tmp 11)
(.ops [
.op ⟨(some 12), (.pure (.mv (.tmp 5))), none⟩,
.op ⟨(some 13), (.pure (.bin .mul (.tmp 12) (.const (.int .i64 (256))))), none⟩,
.op ⟨(some 14), (.pure (.mv (.tmp 0))), none⟩,
.op ⟨(some 15), (.eff (.call 116 [(.tmp 14)])), none⟩,
.op ⟨(some 16), (.pure (.bin .add (.tmp 13) (.tmp 15))), none⟩,
.op ⟨(some 5), (.pure (.mv (.tmp 16))), none⟩])
(.skip)))
(.seq (.ops [
.op ⟨(some 17), (.pure (.mv (.tmp 5))), none⟩,
.op ⟨(some 18), (.pure (.mv (.tmp 1))), none⟩,
.op ⟨(some 19), (.pure (.bin .rem (.tmp 17) (.tmp 18))), none⟩,
.op ⟨(some 4), (.pure (.mv (.tmp 19))), none⟩])
(.ret))))),
[.tmp 4]⟩
theorem r_spec_l1Cur_pick : resFun Try.prog f_spec_l1Cur_pick = some c_spec_l1Cur_pick := by kernel_rfl

/- (*loop.example/g00940/spec.l1Cur).among -/
abbrev f_spec_l1Cur_among : Nat := 99
def c_spec_l1Cur_among : MFun := ⟨12, .seq (.ops [
.op ⟨(some 4), (.pure (.mv (.const (.int .i64 (0))))), none⟩])
(.seq (.ops [
.op ⟨(some 5), (.pure (.mv (.tmp 1))), none⟩,
.op ⟨(some 6), (.pure (.mv (.tmp 0))), none⟩,
.op ⟨(some 7), (.pure (.mv (.tmp 1))), none⟩,
.op ⟨(some 8), (.pure (.len (.tmp 7))), none⟩,
.op ⟨(some 9), (.eff (.call 98 [(.tmp 6), (.tmp 8)])), none⟩,
.op ⟨(some 10), (.pure (.idx 1 (.tmp 5) (.tmp 9))), none⟩,
.op ⟨(some 11), (.load none (.tmp 10)), none⟩,
.op ⟨(some 4), (.pure (.mv (.tmp 11))), none⟩])
(.ret)),
[.tmp 4]⟩
theorem r_spec_l1Cur_among : resFun Try.prog f_spec_l1Cur_among = some c_spec_l1Cur_among := by kernel_rfl

/- (*loop.example/g00940/spec.l1Cur).contents -/
abbrev f_spec_l1Cur_contents : Nat := 100
def c_spec_l1Cur_contents : MFun := ⟨21, .seq (.ops [
.op ⟨(some 4), (.pure (.mv (.const (.slice none 0 0)))), none⟩])
(.seq (.ops [
.op ⟨(some 5), (.pure (.mv (.const (.slice none 0 0)))), none⟩])
(.seq (.block 0 (.loop (.seq (.seq (.ops [
.op ⟨(some 6), (.pure (.mv (.tmp 1))), none⟩,
.op ⟨(some 7), (.pure (.bin .gtr (.tmp 6) (.const (.int .i64 (0))))), none⟩])
(.cond (.tmp 7)
(.skip)
(.exit 0)))
(.seq (.block 1 (.ops [
.op ⟨(some 10), (.pure (.mv (.tmp 5))), none⟩,
.op ⟨(some 11), (.pure (.mv (.tmp 0))), none⟩,
.op ⟨(some 12), (.pure (.mv (.tmp 0))), none⟩,
.op ⟨(some 13), (.eff (.call 117 [(.tmp 12)])), none⟩,
.op ⟨(some 14), (.pure (.mv (.tmp 0))), none⟩,
.op ⟨(some 15), (.eff (.call 117 [(.tmp 14)])), none⟩,
.op ⟨(some 16), (.eff (.row 3 6 [(.int .i64 (0)), (.int .i64 (0)), (.int .i64 (0)), (.int .i64 (0)), (.int .i64 (0)), (.int .i64 (0))] [(0, 1, (.const (.int .i64 (1)))), (1, 1, (.const (.int .i64 (5)))), (2, 1, (.const (.int .i64 (12)))), (3, 1, (.const (.int .i64 (60)))), (4, 1, (.tmp 13)), (5, 1, (.tmp 15))])), none⟩,
.op ⟨(some 17), (.eff (.call 99 [(.tmp 11), (.tmp 16)])), none⟩,
.op ⟨(some 18), (.eff (.row 3 1 [(.int .i64 (0))] [(0, 1, (.tmp 17))])), none⟩,
.op ⟨(some 19), (.eff (.app 3 1 8 (.tmp 10) (.tmp 18))), none⟩,
.op ⟨(some 5), (.pure (.mv (.tmp 19))), none⟩]))
(.ops [
.op ⟨(some 8), (.pure (.mv (.tmp 1))), none⟩,
.op ⟨(some 9), (.pure (.bin .sub (.tmp 8) (.const (.int .i64 (1))))), none⟩,
.op ⟨(some 1), (.pure (.mv (.tmp 9))), none⟩])))))
(.seq (.ops [
.op ⟨(some 20), (.pure (.mv (.tmp 5))), none⟩,
.op ⟨(some 4), (.pure (.mv (.tmp 20))), none⟩])
(.ret)))),
[.tmp 4]⟩
theorem r_spec_l1Cur_contents : resFun Try.prog f_spec_l1Cur_contents = some c_spec_l1Cur_contents := by kernel_rfl

/- (*loop.example/g00940/spec.l1Cur).one -/
abbrev f_spec_l1Cur_one : Nat := 101
def c_spec_l1Cur_one : MFun := ⟨9, .seq (.ops [
.op ⟨(some 4), (.pure (.mv (.const (.bool false)))), none⟩])
(.seq (.ops [
.op ⟨(some 5), (.pure (.mv (.tmp 0))), none⟩,
.op ⟨(some 6), (.pure (.mv (.tmp 1))), none⟩,
.op ⟨(some 7), (.eff (.call 98 [(.tmp 5), (.tmp 6)])), none⟩,
.op ⟨(some 8), (.pure (.bin .eql (.tmp 7) (.const (.int .i64 (0))))), none⟩,
.op ⟨(some 4), (.pure (.mv (.tmp 8))), none⟩])
(.ret)),
[.tmp 4]⟩
theorem r_spec_l1Cur_one : resFun Try.prog f_spec_l1Cur_one = some c_spec_l1Cur_one := by kernel_rfl

/- (*loop.example/g00940/spec.l1Cur).packet -/
abbrev f_spec_l1Cur_packet : Nat := 102
def c_spec_l1Cur_packet : MFun := ⟨66, .seq (.ops [
.op ⟨(some 2), (.eff (.new 27 [(.int .i64 (0)), (.int .i64 (0)), (.int .i64 (0)), (.slice none 0 0)])), none⟩])
(.seq (.ops [
.op ⟨(some 5), (.pure (.mv (.tmp 0))), none⟩,
.op ⟨(some 6), (.eff (.row 3 4 [(.int .i64 (0)), (.int .i64 (0)), (.int .i64 (0)), (.int .i64 (0))] [(0, 1, (.const (.int .i64 (1)))), (1, 1, (.const (.int .i64 (7)))), (2, 1, (.const (.int .i64 (12)))), (3, 1, (.const (.int .i64 (999))))])), none⟩,
.op ⟨(some 7), (.eff (.call 99 [(.tmp 5), (.tmp 6)])), none⟩,
.op ⟨(some 8), (.pure (.mv (.tmp 0))), none⟩,
.op ⟨(some 9), (.eff (.call 98 [(.tmp 8), (.const (.int .i64 (3)))])), none⟩,
.op ⟨(some 10), (.pure (.bin .add (.const (.int .i64 (1))) (.tmp 9))), none⟩,
.op ⟨(some 11), (.pure (.build [(.int .i64 (0)), (.int .i64 (0)), (.int .i64 (0)), (.slice none 0 0)] [(0, 1, (.tmp 7)), (2, 1, (.tmp 10))])), none⟩,
.op ⟨(some 3), (.eff (.new 27 [(.int .i64 (0)), (.int .i64 (0)), (.int .i64 (0)), (.slice none 0 0)])), none⟩,
.op ⟨none, (.eff (.store 4 (.tmp 3) (.tmp 11))), none⟩])
(.seq (.seq (.ops [
.op ⟨(some 12), (.pure (.mv (.tmp 0))), none⟩,
.op ⟨(some 13), (.eff (.call 101 [(.tmp 12), (.const (.int .i64 (16)))])), none⟩])
(.cond (.tmp 13)
(.ops [
.op ⟨(some 14), (.pure (.fieldAddr 2 (.tmp 3))), none⟩,
.op ⟨none, (.eff (.store 1 (.tmp 14) (.const (.int .i64 (9))))), none⟩])
(.skip)))
(.seq (.ops [
.op ⟨(some 15), (.pure (.mv (.tmp 0))), none⟩,
.op ⟨(some 16), (.pure (.fieldAddr 2 (.tmp 3))), none⟩,
.op ⟨(some 17), (.load none (.tmp 16)), none⟩,
.op ⟨(some 18), (.eff (.call 98 [(.tmp 15), (.tmp 17)])), none⟩,
.op ⟨(some 19), (.pure (.fieldAddr 1 (.tmp 3))), none⟩,
.op ⟨none, (.eff (.store 1 (.tmp 19) (.tmp 18))), none⟩])
(.seq (.ops [
.op ⟨(some 20), (.pure (.mv (.tmp 0))), none⟩,
.op ⟨(some 21), (.eff (.call 98 [(.tmp 20), (.const (.int .i64 (3)))])), none⟩,
.op ⟨(some 22), (.pure (.bin .add (.const (.int .i64 (1))) (.tmp 21))), none⟩,
.op ⟨(some 4), (.pure (.mv (.tmp 22))), none⟩])
(.seq (.seq (.ops [
.op ⟨(some 23), (.pure (.mv (.tmp 0))), none⟩,
.op ⟨(some 24), (.eff (.call 101 [(.tmp 23), (.const (.int .i64 (16)))])), none⟩])
(.cond (.tmp 24)
(.ops [
.op ⟨(some 25), (.pure (.mv (.tmp 0))), none⟩,
.op ⟨(some 26), (.eff (.call 98 [(.tmp 25), (.const (.int .i64 (2)))])), none⟩,
.op ⟨(some 27), (.pure (.bin .add (.const (.int .i64 (8))) (.tmp 26))), none⟩,
.op ⟨(some 4), (.pure (.mv (.tmp 27))), none⟩])
(.skip)))
(.seq (.ops [
.op ⟨(some 28), (.pure (.mv (.tmp 0))), none⟩,
.op ⟨(some 29), (.pure (.mv (.tmp 4))), none⟩,
.op ⟨(some 30), (.eff (.call 100 [(.tmp 28), (.tmp 29)])), none⟩,
.op ⟨(some 31), (.pure (.fieldAddr 3 (.tmp 3))), none⟩,
.op ⟨none, (.eff (.store 1 (.tmp 31) (.tmp 30))), none⟩])
(.seq (.seq (.ops [
.op ⟨(some 32), (.pure (.mv (.tmp 0))), none⟩,
.op ⟨(some 33), (.eff (.call 98 [(.tmp 32), (.const (.int .i64 (40)))])), none⟩])
(.block 0 (.seq (.ops [
.op ⟨(some 35), (.pure (.bin .eql (.tmp 33) (.const (.int .i64 (0))))), none⟩,
.op ⟨(some 34), (.pure (.mv (.tmp 35))), none⟩])
(.cond (.tmp 34)
(.ops [
.op ⟨(some 36), (.pure (.mv (.tmp 0))), none⟩,
.op ⟨(some 37), (.eff (.row 3 2 [(.int .i64 (0)), (.int .i64 (0))] [(0, 1, (.const (.int .i64 (0)))), (1, 1, (.const (.int .i64 (1000))))])), none⟩,
.op ⟨(some 38), (.eff (.call 99 [(.tmp 36), (.tmp 37)])), none⟩,
.op ⟨(some 39), (.pure (.fieldAddr 0 (.tmp 3))), none⟩,
.op ⟨none, (.eff (.store 1 (.tmp 39) (.tmp 38))), none⟩])
(.seq (.ops [
.op ⟨(some 41), (.pure (.bin .eql (.tmp 33) (.const (.int .i64 (1))))), none⟩,
.op ⟨(some 40), (.pure (.mv (.tmp 41))), none⟩])
(.cond (.tmp 40)
(.ops [
.op ⟨(some 42), (.pure (.mv (.tmp 0))), none⟩,
.op ⟨(some 43), (.pure (.fieldAddr 2 (.tmp 3))), none⟩,
.op ⟨(some 44), (.load none (.tmp 43)), none⟩,
.op ⟨(some 45), (.eff (.row 3 2 [(.int .i64 (0)), (.int .i64 (0))] [(0, 1, (.const (.int .i64 (-1)))), (1, 1, (.tmp 44))])), none⟩,
.op ⟨(some 46), (.eff (.call 99 [(.tmp 42), (.tmp 45)])), none⟩,
.op ⟨(some 47), (.pure (.fieldAddr 1 (.tmp 3))), none⟩,
.op ⟨none, (.eff (.store 1 (.tmp 47) (.tmp 46))), none⟩])
(.seq (.ops [
.op ⟨(some 49), (.pure (.bin .eql (.tmp 33) (.const (.int .i64 (2))))), none⟩,
.op ⟨(some 48), (.pure (.mv (.tmp 49))), none⟩])
(.cond (.tmp 48)
(.ops [
.op ⟨(some 50), (.pure (.mv (.tmp 0))), none⟩,
.op ⟨(some 51), (.eff (.row 3 3 [(.int .i64 (0)), (.int .i64 (0)), (.int .i64 (0))] [(0, 1, (.const (.int .i64 (0)))), (1, 1, (.const (.int .i64 (9)))), (2, 1, (.const (.int .i64 (10))))])), none⟩,
.op ⟨(some 52), (.eff (.call 99 [(.tmp 50), (.tmp 51)])), none⟩,
.op ⟨(some 53), (.pure (.fieldAddr 2 (.tmp 3))), none⟩,
.op ⟨none, (.eff (.store 1 (.tmp 53) (.tmp 52))), none⟩])
(.seq (.ops [
.op ⟨(some 55), (.pure (.bin .eql (.tmp 33) (.const (.int .i64 (3))))), none⟩,
.op ⟨(some 54), (.pure (.mv (.tmp 55))), none⟩])
(.cond (.tmp 54)
(.draw true
(.take ⟨(some 56), (.pure (.fieldAddr 3 (.tmp 3))), none⟩
(.take ⟨(some 58), (.pure (.mv (.tmp 0))), none⟩
(.take ⟨(some 57), (.load none (.tmp 56)), none⟩
(.only false ⟨(some 59), (.eff (.row 3 3 [(.int .i64 (0)), (.int .i64 (0)), (.int .i64 (0))] [(0, 1, (.const (.int .i64 (0)))), (1, 1, (.const (.int .i64 (60)))), (2, 1, (.const (.int .i64 (61))))])), none⟩
(.only false ⟨(some 60), (.eff (.call 99 [(.tmp 58), (.tmp 59)])), none⟩
(.take ⟨(some 61), (.pure (.idx 1 (.tmp 57) (.const (.int .i64 (0))))), none⟩
(.only true ⟨none, (.eff (.store 1 (.tmp 61) (.tmp 60))), none⟩
(.done)))))))))
(.seq (.ops [
.op ⟨(some 63), (.pure (.bin .eql (.tmp 33) (.const (.int .i64 (4))))), none⟩,
.op ⟨(some 62), (.pure (.mv (.tmp 63))), none⟩])
(.cond (.tmp 62)
(.ops [
.op ⟨(some 64), (.pure (.fieldAddr 3 (.tmp 3))), none⟩,
.op ⟨none, (.eff (.store 1 (.tmp 64) (.const (.slice none 0 0)))), none⟩])
(.skip)))))))))))))
(.seq (.ops [
.op ⟨(some 65), (.load (some 4) (.tmp 3)), none⟩,
.op ⟨none, (.eff (.store 4 (.tmp 2) (.tmp 65))), none⟩])
(.ret))))))))),
[.cell 2 (some 4)]⟩
theorem r_spec_l1Cur_packet : resFun Try.prog f_spec_l1Cur_packet = some c_spec_l1Cur_packet := by kernel_rfl

/- slices.insertionSortCmpFunc[loop.example/g00940/impl.Packet] -/
abbrev f_slices_insertionSortCmpFunc_impl_Packet : Nat := 103
def c_slices_insertionSortCmpFunc_impl_Packet : MFun := ⟨53, .seq (.ops [
.op ⟨(some 10), (.pure (.mv (.tmp 1))), none⟩,
.op ⟨(some 11), (.pure (.bin .add (.tmp 10) (.const (.int .i64 (1))))), none⟩,
.op ⟨(some 8), (.pure (.mv (.tmp 11))), none⟩])
(.block 0 (.loop (.seq (.seq (.ops [
.op ⟨(some 12), (.pure (.mv (.tmp 8))), none⟩,
.op ⟨(some 13), (.pure (.mv (.tmp 2))), none⟩,
.op ⟨(some 14), (.pure (.bin .lss (.tmp 12) (.tmp 13))), none⟩])
(.cond (.tmp 14)
(.skip)
(.exit 0)))
(.seq (.block 1 (.seq (.ops [
.op ⟨(some 17), (.pure (.mv (.tmp 8))), none⟩,
.op ⟨(some 9), (.pure (.mv (.tmp 17))), none⟩])
(.block 2 (.loop (.seq (.seq (.draw false
(.take ⟨(some 18), (.pure (.mv (.tmp 9))), none⟩
(.take ⟨(some 19), (.pure (.mv (.tmp 1))), none⟩
(.take ⟨(some 20), (.pure (.bin .gtr (.tmp 18) (.tmp 19))), none⟩
(.take ⟨(some 21), (.pure (.mv (.tmp 20))), none⟩
(.split 21
(.take ⟨(some 22), (.pure (.mv (.tmp 3))), (some (21, true))⟩
(.take ⟨(some 23), (.pure (.mv (.tmp 0))), (some (21, true))⟩
(.take ⟨(some 24), (.pure (.mv (.tmp 9))), (some (21, true))⟩
(.take ⟨(some 25), (.pure (.idx 4 (.tmp 23) (.tmp 24))), (some (21, true))⟩
(.take ⟨(some 27), (.pure (.mv (.tmp 0))), (some (21, true))⟩
(.take ⟨(some 28), (.pure (.mv (.tmp 9))), (some (21, true))⟩
(.take ⟨(some 29), (.pure (.bin .sub (.tmp 28) (.const (.int .i64 (1))))), (some (21, true))⟩
(.take ⟨(some 30), (.pure (.idx 4 (.tmp 27) (.tmp 29))), (some (21, true))⟩
(.only false ⟨(some 26), (.load (some 4) (.tmp 25)), (some (21, true))⟩
(.only false ⟨(some 31), (.load (some 4) (.tmp 30)), (some (21, true))⟩
(.only true ⟨(some 32), (.eff (.callv (.tmp 22) [(.tmp 26), (.tmp 31)])), (some (21, true))⟩
(.take ⟨(some 33), (.pure (.bin .lss (.tmp 32) (.const (.int .i64 (0))))), (some (21, true))⟩
(.take ⟨(some 34), (.pure (.pick (.tmp 21) (.tmp 33) (.const (.bool false)))), none⟩
(.done))))))))))))))))))))
(.cond (.tmp 34)
(.skip)
(.exit 2)))
(.seq (.block 3 (.draw false
(.take ⟨(some 37), (.pure (.mv (.tmp 0))), none⟩
(.take ⟨(some 38), (.pure (.mv (.tmp 9))), none⟩
(.take ⟨(some 39), (.pure (.mv (.tmp 0))), none⟩
(.take ⟨(some 40), (.pure (.mv (.tmp 9))), none⟩
(.take ⟨(some 41), (.pure (.bin .sub (.tmp 40) (.const (.int .i64 (1))))), none⟩
(.take ⟨(some 42), (.pure (.mv (.tmp 0))), none⟩
(.take ⟨(some 43), (.pure (.mv (.tmp 9))), none⟩
(.take ⟨(some 44), (.pure (.bin .sub (.tmp 43) (.const (.int .i64 (1))))), none⟩
(.take ⟨(some 45), (.pure (.idx 4 (.tmp 42) (.tmp 44))), none⟩
(.take ⟨(some 47), (.pure (.mv (.tmp 0))), none⟩
(.take ⟨(some 48), (.pure (.mv (.tmp 9))), none⟩
(.take ⟨(some 49), (.pure (.idx 4 (.tmp 47) (.tmp 48))), none⟩
(.only false ⟨(some 46), (.load (some 4) (.tmp 45)), none⟩
(.only false ⟨(some 50), (.load (some 4) (.tmp 49)), none⟩
(.take ⟨(some 51), (.pure (.idx 4 (.tmp 37) (.tmp 38))), none⟩
(.only true ⟨none, (.eff (.store 4 (.tmp 51) (.tmp 46))), none⟩
(.take ⟨(some 52), (.pure (.idx 4 (.tmp 39) (.tmp 41))), none⟩
(.only true ⟨none, (.eff (.store 4 (.tmp 52) (.tmp 50))), none⟩
(.done)))))))))))))))))))))
(.ops [
.op ⟨(some 35), (.pure (.mv (.tmp 9))), none⟩,
.op ⟨(some 36), (.pure (.bin .sub (.tmp 35) (.const (.int .i64 (1))))), none⟩,
.op ⟨(some 9), (.pure (.mv (.tmp 36))), none⟩])))))))
(.ops [
.op ⟨(some 15), (.pure (.mv (.tmp 8))), none⟩,
.op ⟨(some 16), (.pure (.bin .add (.tmp 15) (.const (.int .i64 (1))))), none⟩,
.op ⟨(some 8), (.pure (.mv (.tmp 16))), none⟩]))))),
[]⟩
theorem r_slices_insertionSortCmpFunc_impl_Packet : resFun Try.prog f_slices_insertionSortCmpFunc_impl_Packet = some c_slices_insertionSortCmpFunc_impl_Packet := by kernel_rfl

/- slices.symMergeCmpFunc[loop.example/g00940/impl.Packet] -/
abbrev f_slices_symMergeCmpFunc_impl_Packet : Nat := 104
def c_slices_symMergeCmpFunc_impl_Packet : MFun := ⟨220, .seq (.seq (.ops [
.op ⟨(some 25), (.pure (.mv (.tmp 2))), none⟩,
.op ⟨(some 26), (.pure (.mv (.tmp 1))), none⟩,
.op ⟨(some 27), (.pure (.bin .sub (.tmp 25) (.tmp 26))), none⟩,
.op ⟨(some 28), (.pure (.bin .eql (.tmp 27) (.const (.int .i64 (1))))), none⟩])
(.cond (.tmp 28)
(.seq (.ops [
.op ⟨(some 29), (.pure (.mv (.tmp 2))), none⟩,
.op ⟨(some 10), (.pure (.mv (.tmp 29))), none⟩])
(.seq (.ops [
.op ⟨(some 30), (.pure (.mv (.tmp 3))), none⟩,
.op ⟨(some 11), (.pure (.mv (.tmp 30))), none⟩])
(.seq (.block 0 (.loop (.seq (.seq (.ops [
.op ⟨(some 31), (.pure (.mv (.tmp 10))), none⟩,
.op ⟨(some 32), (.pure (.mv (.tmp 11))), none⟩,
.op ⟨(some 33), (.pure (.bin .lss (.tmp 31) (.tmp 32))), none⟩])
(.cond (.tmp 33)
(.skip)
(.exit 0)))
(.block 1 (.seq (.ops [
.op ⟨(some 34), (.pure (.mv (.tmp 10))), none⟩,
.op ⟨(some 35), (.pure (.mv (.tmp 11))), none⟩,
.op ⟨(some 36), (.pure (.bin .add (.tmp 34) (.tmp 35))), none⟩,
.op ⟨(some 37), (.pure (.conv .u64 (.tmp 36))), none⟩,
.op ⟨(some 38), (.pure (.bin .shr (.tmp 37) (.const (.int .u64 (1))))), none⟩,
.op ⟨(some 39), (.pure (.conv .i64 (.tmp 38))), none⟩,
.op ⟨(some 12), (.pure (.mv (.tmp 39))), none⟩])
(.seq (.draw false
(.take ⟨(some 40), (.pure (.mv (.tmp 4))), none⟩
(.take ⟨(some 41), (.pure (.mv (.tmp 0))), none⟩
(.take ⟨(some 42), (.pure (.mv (.tmp 12))), none⟩
(.take ⟨(some 43), (.pure (.idx 4 (.tmp 41) (.tmp 42))), none⟩
(.take ⟨(some 45), (.pure (.mv (.tmp 0))), none⟩
(.take ⟨(some 46), (.pure (.mv (.tmp 1))), none⟩
(.take ⟨(some 47), (.pure (.idx 4 (.tmp 45) (.tmp 46))), none⟩
(.only false ⟨(some 44), (.load (some 4) (.tmp 43)), none⟩
(.only false ⟨(some 48), (.load (some 4) (.tmp 47)), none⟩
(.only true ⟨(some 49), (.eff (.callv (.tmp 40) [(.tmp 44), (.tmp 48)])), none⟩
(.take ⟨(some 50), (.pure (.bin .lss (.tmp 49) (.const (.int .i64 (0))))), none⟩
(.done)))))))))))))
(.cond (.tmp 50)
(.ops [
.op ⟨(some 51), (.pure (.mv (.tmp 12))), none⟩,
.op ⟨(some 52), (.pure (.bin .add (.tmp 51) (.const (.int .i64 (1))))), none⟩,
.op ⟨(some 10), (.pure (.mv (.tmp 52))), none⟩])
(.ops [
.op ⟨(some 53), (.pure (.mv (.tmp 12))), none⟩,
.op ⟨(some 11), (.pure (.mv (.tmp 53))), none⟩]))))))))
(.seq (.seq (.ops [
.op ⟨(some 54), (.pure (.mv (.tmp 1))), none⟩,
.op ⟨(some 13), (.pure (.mv (.tmp 54))), none⟩])
(.block 2 (.loop (.seq (.seq (.ops [
.op ⟨(some 55), (.pure (.mv (.tmp 13))), none⟩,
.op ⟨(some 56), (.pure (.mv (.tmp 10))), none⟩,
.op ⟨(some 57), (.pure (.bin .sub (.tmp 56) (.const (.int .i64 (1))))), none⟩,
.op ⟨(some 58), (.pure (.bin .lss (.tmp 55) (.tmp 57))), none⟩])
(.cond (.tmp 58)
(.skip)
(.exit 2)))
(.seq (.block 3 (.draw false
(.take ⟨(some 61), (.pure (.mv (.tmp 0))), none⟩
(.take ⟨(some 62), (.pure (.mv (.tmp 13))), none⟩
(.take ⟨(some 63), (.pure (.mv (.tmp 0))), none⟩
(.take ⟨(some 64), (.pure (.mv (.tmp 13))), none⟩
(.take ⟨(some 65), (.pure (.bin .add (.tmp 64) (.const (.int .i64 (1))))), none⟩
(.take ⟨(some 66), (.pure (.mv (.tmp 0))), none⟩
(.take ⟨(some 67), (.pure (.mv (.tmp 13))), none⟩
(.take ⟨(some 68), (.pure (.bin .add (.tmp 67) (.const (.int .i64 (1))))), none⟩
(.take ⟨(some 69), (.pure (.idx 4 (.tmp 66) (.tmp 68))), none⟩
(.take ⟨(some 71), (.pure (.mv (.tmp 0))), none⟩
(.take ⟨(some 72), (.pure (.mv (.tmp 13))), none⟩
(.take ⟨(some 73), (.pure (.idx 4 (.tmp 71) (.tmp 72))), none⟩
(.only false ⟨(some 70), (.load (some 4) (.tmp 69)), none⟩
(.only false ⟨(some 74), (.load (some 4) (.tmp 73)), none⟩
(.take ⟨(some 75), (.pure (.idx 4 (.tmp 61) (.tmp 62))), none⟩
(.only true ⟨none, (.eff (.store 4 (.tmp 75) (.tmp 70))), none⟩
(.take ⟨(some 76), (.pure (.idx 4 (.tmp 63) (.tmp 65))), none⟩
(.only true ⟨none, (.eff (.store 4 (.tmp 76) (.tmp 74))), none⟩
(.done)))))))))))))))))))))
(.ops [
.op ⟨(some 59), (.pure (.mv (.tmp 13))), none⟩,
.op ⟨(some 60), (.pure (.bin .add (.tmp 59) (.const (.int .i64 (1))))), none⟩,
.op ⟨(some 13), (.pure (.mv (.tmp 60))), none⟩]))))))
(.ret)))))
(.skip)))
(.seq (.seq (.ops [
.op ⟨(some 77), (.pure (.mv (.tmp 3))), none⟩,
.op ⟨(some 78), (.pure (.mv (.tmp 2))), none⟩,
.op ⟨(some 79), (.pure (.bin .sub (.tmp 77) (.tmp 78))), none⟩,
.op ⟨(some 80), (.pure (.bin .eql (.tmp 79) (.const (.int .i64 (1))))), none⟩])
(.cond (.tmp 80)
(.seq (.ops [
.op ⟨(some 81), (.pure (.mv (.tmp 1))), none⟩,
.op ⟨(some 14), (.pure (.mv (.tmp 81))), none⟩])
(.seq (.ops [
.op ⟨(some 82), (.pure (.mv (.tmp 2))), none⟩,
.op ⟨(some 15), (.pure (.mv (.tmp 82))), none⟩])
(.seq (.block 4 (.loop (.seq (.seq (.ops [
.op ⟨(some 83), (.pure (.mv (.tmp 14))), none⟩,
.op ⟨(some 84), (.pure (.mv (.tmp 15))), none⟩,
.op ⟨(some 85), (.pure (.bin .lss (.tmp 83) (.tmp 84))), none⟩])
(.cond (.tmp 85)
(.skip)
(.exit 4)))
(.block 5 (.seq (.ops [
.op ⟨(some 86), (.pure (.mv (.tmp 14))), none⟩,
.op ⟨(some 87), (.pure (.mv (.tmp 15))), none⟩,
.op ⟨(some 88), (.pure (.bin .add (.tmp 86) (.tmp 87))), none⟩,
.op ⟨(some 89), (.pure (.conv .u64 (.tmp 88))), none⟩,
.op ⟨(some 90), (.pure (.bin .shr (.tmp 89) (.const (.int .u64 (1))))), none⟩,
.op ⟨(some 91), (.pure (.conv .i64 (.tmp 90))), none⟩,
.op ⟨(some 16), (.pure (.mv (.tmp 91))), none⟩])
(.seq (.draw false
(.take ⟨(some 92), (.pure (.mv (.tmp 4))), none⟩
(.take ⟨(some 93), (.pure (.mv (.tmp 0))), none⟩
(.take ⟨(some 94), (.pure (.mv (.tmp 2))), none⟩
(.take ⟨(some 95), (.pure (.idx 4 (.tmp 93) (.tmp 94))), none⟩
(.take ⟨(some 97), (.pure (.mv (.tmp 0))), none⟩
(.take ⟨(some 98), (.pure (.mv (.tmp 16))), none⟩
(.take ⟨(some 99), (.pure (.idx 4 (.tmp 97) (.tmp 98))), none⟩
(.only false ⟨(some 96), (.load (some 4) (.tmp 95)), none⟩
(.only false ⟨(some 100), (.load (some 4) (.tmp 99)), none⟩
(.only true ⟨(some 101), (.eff (.callv (.tmp 92) [(.tmp 96), (.tmp 100)])), none⟩
(.take ⟨(some 102), (.pure (.bin .lss (.tmp 101) (.const (.int .i64 (0))))), none⟩
(.take ⟨(some 103), (.pure (.bnot (.tmp 102))), none⟩
(.done))))))))))))))
(.cond (.tmp 103)
(.ops [
.op ⟨(some 104), (.pure (.mv (.tmp 16))), none⟩,
.op ⟨(some 105), (.pure (.bin .add (.tmp 104) (.const (.int .i64 (1))))), none⟩,
.op ⟨(some 14), (.pure (.mv (.tmp 105))), none⟩])
(.ops [
.op ⟨(some 106), (.pure (.mv (.tmp 16))), none⟩,
.op ⟨(some 15), (.pure (.mv (.tmp 106))), none⟩]))))))))
(.seq (.seq (.ops [
.op ⟨(some 107), (.pure (.mv (.tmp 2))), none⟩,
.op ⟨(some 17), (.pure (.mv (.tmp 107))), none⟩])
(.block 6 (.loop (.seq (.seq (.ops [
.op ⟨(some 108), (.pure (.mv (.tmp 17))), none⟩,
.op ⟨(some 109), (.pure (.mv (.tmp 14))), none⟩,
.op ⟨(some 110), (.pure (.bin .gtr (.tmp 108) (.tmp 109))), none⟩])
(.cond (.tmp 110)
(.skip)
(.exit 6)))
(.seq (.block 7 (.draw false
(.take ⟨(some 113), (.pure (.mv (.tmp 0))), none⟩
(.take ⟨(some 114), (.pure (.mv (.tmp 17))), none⟩
(.take ⟨(some 115), (.pure (.mv (.tmp 0))), none⟩
(.take ⟨(some 116), (.pure (.mv (.tmp 17))), none⟩
(.take ⟨(some 117), (.pure (.bin .sub (.tmp 116) (.const (.int .i64 (1))))), none⟩
(.take ⟨(some 118), (.pure (.mv (.tmp 0))), none⟩
(.take ⟨(some 119), (.pure (.mv (.tmp 17))), none⟩
(.take ⟨(some 120), (.pure (.bin .sub (.tmp 119) (.const (.int .i64 (1))))), none⟩
(.take ⟨(some 121), (.pure (.idx 4 (.tmp 118) (.tmp 120))), none⟩
(.take ⟨(some 123), (.pure (.mv (.tmp 0))), none⟩
(.take ⟨(some 124), (.pure (.mv (.tmp 17))), none⟩
(.take ⟨(some 125), (.pure (.idx 4 (.tmp 123) (.tmp 124))), none⟩
(.only false ⟨(some 122), (.load (some 4) (.tmp 121)), none⟩
(.only false ⟨(some 126), (.load (some 4) (.tmp 125)), none⟩
(.take ⟨(some 127), (.pure (.idx 4 (.tmp 113) (.tmp 114))), none⟩
(.only true ⟨none, (.eff (.store 4 (.tmp 127) (.tmp 122))), none⟩
(.take ⟨(some 128), (.pure (.idx 4 (.tmp 115) (.tmp 117))), none⟩
(.only true ⟨none, (.eff (.store 4 (.tmp 128) (.tmp 126))), none⟩
(.done)))))))))))))))))))))
(.ops [
.op ⟨(some 111), (.pure (.mv (.tmp 17))), none⟩,
.op ⟨(some 112), (.pure (.bin .sub (.tmp 111) (.const (.int .i64 (1))))), none⟩,
.op ⟨(some 17), (.pure (.mv (.tmp 112))), none⟩]))))))
(.ret)))))
(.skip)))
(.seq (.ops [
.op ⟨(some 129), (.pure (.mv (.tmp 1))), none⟩,
.op ⟨(some 130), (.pure (.mv (.tmp 3))), none⟩,
.op ⟨(some 131), (.pure (.bin .add (.tmp 129) (.tmp 130))), none⟩,
.op ⟨(some 132), (.pure (.conv .u64 (.tmp 131))), none⟩,
.op ⟨(some 133), (.pure (.bin .shr (.tmp 132) (.const (.int .u64 (1))))), none⟩,
.op ⟨(some 134), (.pure (.conv .i64 (.tmp 133))), none⟩,
.op ⟨(some 18), (.pure (.mv (.tmp 134))), none⟩])
(.seq (.ops [
.op ⟨(some 135), (.pure (.mv (.tmp 18))), none⟩,
.op ⟨(some 136), (.pure (.mv (.tmp 2))), none⟩,
.op ⟨(some 137), (.pure (.bin .add (.tmp 135) (.tmp 136))), none⟩,
.op ⟨(some 19), (.pure (.mv (.tmp 137))), none⟩])
(.seq (.ops [
.op ⟨(some 20), (.pure (.mv (.const (.int .i64 (0))))), none⟩,
.op ⟨(some 21), (.pure (.mv (.const (.int .i64 (0))))), none⟩])
(.seq (.seq (.ops [
.op ⟨(some 138), (.pure (.mv (.tmp 2))), none⟩,
.op ⟨(some 139), (.pure (.mv (.tmp 18))), none⟩,
.op ⟨(some 140), (.pure (.bin .gtr (.tmp 138) (.tmp 139))), none⟩])
(.cond (.tmp 140)
(.seq (.ops [
.op ⟨(some 141), (.pure (.mv (.tmp 19))), none⟩,
.op ⟨(some 142), (.pure (.mv (.tmp 3))), none⟩,
.op ⟨(some 143), (.pure (.bin .sub (.tmp 141) (.tmp 142))), none⟩,
.op ⟨(some 20), (.pure (.mv (.tmp 143))), none⟩])
(.ops [
.op ⟨(some 144), (.pure (.mv (.tmp 18))), none⟩,
.op ⟨(some 21), (.pure (.mv (.tmp 144))), none⟩]))
(.seq (.ops [
.op ⟨(some 145), (.pure (.mv (.tmp 1))), none⟩,
.op ⟨(some 20), (.pure (.mv (.tmp 145))), none⟩])
(.ops [
.op ⟨(some 146), (.pure (.mv (.tmp 2))), none⟩,
.op ⟨(some 21), (.pure (.mv (.tmp 146))), none⟩]))))
(.seq (.ops [
.op ⟨(some 147), (.pure (.mv (.tmp 19))), none⟩,
.op ⟨(some 148), (.pure (.bin .sub (.tmp 147) (.const (.int .i64 (1))))), none⟩,
.op ⟨(some 22), (.pure (.mv (.tmp 148))), none⟩])
(.seq (.block 8 (.loop (.seq (.seq (.ops [
.op ⟨(some 149), (.pure (.mv (.tmp 20))), none⟩,
.op ⟨(some 150), (.pure (.mv (.tmp 21))), none⟩,
.op ⟨(some 151), (.pure (.bin .lss (.tmp 149) (.tmp 150))), none⟩])
(.cond (.tmp 151)
(.skip)
(.exit 8)))
(.block 9 (.seq (.ops [
.op ⟨(some 152), (.pure (.mv (.tmp 20))), none⟩,
.op ⟨(some 153), (.pure (.mv (.tmp 21))), none⟩,
.op ⟨(some 154), (.pure (.bin .add (.tmp 152) (.tmp 153))), none⟩,
.op ⟨(some 155), (.pure (.conv .u64 (.tmp 154))), none⟩,
.op ⟨(some 156), (.pure (.bin .shr (.tmp 155) (.const (.int .u64 (1))))), none⟩,
.op ⟨(some 157), (.pure (.conv .i64 (.tmp 156))), none⟩,
.op ⟨(some 23), (.pure (.mv (.tmp 157))), none⟩])
(.seq (.draw false
(.take ⟨(some 158), (.pure (.mv (.tmp 4))), none⟩
(.take ⟨(some 159), (.pure (.mv (.tmp 0))), none⟩
(.take ⟨(some 160), (.pure (.mv (.tmp 22))), none⟩
(.take ⟨(some 161), (.pure (.mv (.tmp 23))), none⟩
(.take ⟨(some 162), (.pure (.bin .sub (.tmp 160) (.tmp 161))), none⟩
(.take ⟨(some 163), (.pure (.idx 4 (.tmp 159) (.tmp 162))), none⟩
(.take ⟨(some 165), (.pure (.mv (.tmp 0))), none⟩
(.take ⟨(some 166), (.pure (.mv (.tmp 23))), none⟩
(.take ⟨(some 167), (.pure (.idx 4 (.tmp 165) (.tmp 166))), none⟩
(.only false ⟨(some 164), (.load (some 4) (.tmp 163)), none⟩
(.only false ⟨(some 168), (.load (some 4) (.tmp 167)), none⟩
(.only true ⟨(some 169), (.eff (.callv (.tmp 158) [(.tmp 164), (.tmp 168)])), none⟩
(.take ⟨(some 170), (.pure (.bin .lss (.tmp 169) (.const (.int .i64 (0))))), none⟩
(.take ⟨(some 171), (.pure (.bnot (.tmp 170))), none⟩
(.done))))))))))))))))
(.cond (.tmp 171)
(.ops [
.op ⟨(some 172), (.pure (.mv (.tmp 23))), none⟩,
.op ⟨(some 173), (.pure (.bin .add (.tmp 172) (.const (.int .i64 (1))))), none⟩,
.op ⟨(some 20), (.pure (.mv (.tmp 173))), none⟩])
(.ops [
.op ⟨(some 174), (.pure (.mv (.tmp 23))), none⟩,
.op ⟨(some 21), (.pure (.mv (.tmp 174))), none⟩]))))))))
(.seq (.ops [
.op ⟨(some 175), (.pure (.mv (.tmp 19))), none⟩,
.op ⟨(some 176), (.pure (.mv (.tmp 20))), none⟩,
.op ⟨(some 177), (.pure (.bin .sub (.tmp 175) (.tmp 176))), none⟩,
.op ⟨(some 24), (.pure (.mv (.tmp 177))), none⟩])
(.seq (.seq (.ops [
.op ⟨(some 178), (.pure (.mv (.tmp 20))), none⟩,
.op ⟨(some 179), (.pure (.mv (.tmp 2))), none⟩,
.op ⟨(some 180), (.pure (.bin .lss (.tmp 178) (.tmp 179))), none⟩,
.op ⟨(some 181), (.pure (.mv (.tmp 180))), none⟩,
.split 181,
.op ⟨(some 182), (.pure (.mv (.tmp 2))), (some (181, true))⟩,
.op ⟨(some 183), (.pure (.mv (.tmp 24))), (some (181, true))⟩,
.op ⟨(some 184), (.pure (.bin .lss (.tmp 182) (.tmp 183))), (some (181, true))⟩,
.op ⟨(some 185), (.pure (.pick (.tmp 181) (.tmp 184) (.const (.bool false)))), none⟩])
(.cond (.tmp 185)
(.ops [
.op ⟨(some 186), (.pure (.mv (.tmp 0))), none⟩,
.op ⟨(some 187), (.pure (.mv (.tmp 20))), none⟩,
.op ⟨(some 188), (.pure (.mv (.tmp 2))), none⟩,
.op ⟨(some 189), (.pure (.mv (.tmp 24))), none⟩,
.op ⟨(some 190), (.pure (.mv (.tmp 4))), none⟩,
.op ⟨(some 191), (.eff (.call 118 [(.tmp 186), (.tmp 187), (.tmp 188), (.tmp 189), (.tmp 190)])), none⟩])
(.skip)))
(.seq (.seq (.ops [
.op ⟨(some 192), (.pure (.mv (.tmp 1))), none⟩,
.op ⟨(some 193), (.pure (.mv (.tmp 20))), none⟩,
.op ⟨(some 194), (.pure (.bin .lss (.tmp 192) (.tmp 193))), none⟩,
.op ⟨(some 195), (.pure (.mv (.tmp 194))), none⟩,
.split 195,
.op ⟨(some 196), (.pure (.mv (.tmp 20))), (some (195, true))⟩,
.op ⟨(some 197), (.pure (.mv (.tmp 18))), (some (195, true))⟩,
.op ⟨(some 198), (.pure (.bin .lss (.tmp 196) (.tmp 197))), (some (195, true))⟩,
.op ⟨(some 199), (.pure (.pick (.tmp 195) (.tmp 198) (.const (.bool false)))), none⟩])
(.cond (.tmp 199)
(.ops [
.op ⟨(some 200), (.pure (.mv (.tmp 0))), none⟩,
.op ⟨(some 201), (.pure (.mv (.tmp 1))), none⟩,
.op ⟨(some 202), (.pure (.mv (.tmp 20))), none⟩,
.op ⟨(some 203), (.pure (.mv (.tmp 18))), none⟩,
.op ⟨(some 204), (.pure (.mv (.tmp 4))), none⟩,
.op ⟨(some 205), (.eff (.call 104 [(.tmp 200), (.tmp 201), (.tmp 202), (.tmp 203), (.tmp 204)])), none⟩])
(.skip)))
(.seq (.ops [
.op ⟨(some 206), (.pure (.mv (.tmp 18))), none⟩,
.op ⟨(some 207), (.pure (.mv (.tmp 24))), none⟩,
.op ⟨(some 208), (.pure (.bin .lss (.tmp 206) (.tmp 207))), none⟩,
.op ⟨(some 209), (.pure (.mv (.tmp 208))), none⟩,
.split 209,
.op ⟨(some 210), (.pure (.mv (.tmp 24))), (some (209, true))⟩,
.op ⟨(some 211), (.pure (.mv (.tmp 3))), (some (209, true))⟩,
.op ⟨(some 212), (.pure (.bin .lss (.tmp 210) (.tmp 211))), (some (209, true))⟩,
.op ⟨(some 213), (.pure (.pick (.tmp 209) (.tmp 212) (.const (.bool false)))), none⟩])
(.cond (.tmp 213)
(.ops [
.op ⟨(some 214), (.pure (.mv (.tmp 0))), none⟩,
.op ⟨(some 215), (.pure (.mv (.tmp 18))), none⟩,
.op ⟨(some 216), (.pure (.mv (.tmp 24))), none⟩,
.op ⟨(some 217), (.pure (.mv (.tmp 3))), none⟩,
.op ⟨(some 218), (.pure (.mv (.tmp 4))), none⟩,
.op ⟨(some 219), (.eff (.call 104 [(.tmp 214), (.tmp 215), (.tmp 216), (.tmp 217), (.tmp 218)])), none⟩])
(.skip))))))))))))),
[]⟩
theorem r_slices_symMergeCmpFunc_impl_Packet : resFun Try.prog f_slices_symMergeCmpFunc_impl_Packet = some c_slices_symMergeCmpFunc_impl_Packet := by kernel_rfl
end Go.Proofs.Ytjmcijcdncgaiaa

