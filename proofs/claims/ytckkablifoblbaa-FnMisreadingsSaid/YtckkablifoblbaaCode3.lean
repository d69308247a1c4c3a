/- The code of this seat's functions, resolved, written by a program of mine; each is held against the given program by the kernel. Condition: none. -/
import Derived.Test.YtckkablifoblbaaProg
import Derived.Test.YtckkablifoblbaaBase9
import Derived.KernelRfl
namespace Go.Proofs.Ytckkablifoblbaa
open Go.Vc

/- (*loop.example/g00940/spec.l1Cur).among -/
abbrev f_spec_l1Cur_among : Nat := 72
def c_spec_l1Cur_among : MFun := ⟨12, .seq (.ops [
.op ⟨(some 4), (.pure (.mv (.const (.int .i64 (0))))), none⟩])
(.seq (.ops [
.op ⟨(some 5), (.pure (.mv (.tmp 1))), none⟩,
.op ⟨(some 6), (.pure (.mv (.tmp 0))), none⟩,
.op ⟨(some 7), (.pure (.mv (.tmp 1))), none⟩,
.op ⟨(some 8), (.pure (.len (.tmp 7))), none⟩,
.op ⟨(some 9), (.eff (.call 73 [(.tmp 6), (.tmp 8)])), none⟩,
.op ⟨(some 10), (.pure (.idx 1 (.tmp 5) (.tmp 9))), none⟩,
.op ⟨(some 11), (.load none (.tmp 10)), none⟩,
.op ⟨(some 4), (.pure (.mv (.tmp 11))), none⟩])
(.ret)),
[.tmp 4]⟩
theorem r_spec_l1Cur_among : resFun Try.prog f_spec_l1Cur_among = some c_spec_l1Cur_among := by kernel_rfl

/- (*loop.example/g00940/spec.l1Cur).pick -/
abbrev f_spec_l1Cur_pick : Nat := 73
def c_spec_l1Cur_pick : MFun := ⟨20, .seq (.ops [
.op ⟨(some 4), (.pure (.mv (.const (.int .i64 (0))))), none⟩])
(.seq (.seq (.ops [
.op ⟨(some 6), (.pure (.mv (.tmp 1))), none⟩,
.op ⟨(some 7), (.pure (.bin .leq (.tmp 6) (.const (.int .i64 (1))))), none⟩])
(.cond (.tmp 7)
(.seq (.ops [
.op ⟨(some 4), (.pure (.mv (.const (.int .i64 (0))))), none⟩])
(.ret))
(.skip)))
(.seq (.ops [
.op ⟨(some 8), (.pure (.mv (.tmp 0))), none⟩,
.op ⟨(some 9), (.eff (.call 81 [(.tmp 8)])), none⟩,
.op ⟨(some 5), (.pure (.mv (.tmp 9))), none⟩])
(.seq (.seq (.ops [
.op ⟨(some 10), (.pure (.mv (.tmp 1))), none⟩,
.op ⟨(some 11), (.pure (.bin .gtr (.tmp 10) (.const (.int .i64 (200))))), none⟩])
(.cond (.tmp 11)
(.ops [
.op ⟨(some 12), (.pure (.mv (.tmp 5))), none⟩,
.op ⟨(some 13), (.pure (.bin .mul (.tmp 12) (.const (.int .i64 (256))))), none⟩,
.op ⟨(some 14), (.pure (.mv (.tmp 0))), none⟩,
.op ⟨(some 15), (.eff (.call 81 [(.tmp 14)])), none⟩,
.op ⟨(some 16), (.pure (.bin .add (.tmp 13) (.tmp 15))), none⟩,
.op ⟨(some 5), (.pure (.mv (.tmp 16))), none⟩])
(.skip)))
(.seq (.ops [
.op ⟨(some 17), (.pure (.mv (.tmp 5))), none⟩,
.op ⟨(some 18), (.pure (.mv (.tmp 1))), none⟩,
.op ⟨(some 19), (.pure (.bin .rem (.tmp 17) (.tmp 18))), none⟩,
.op ⟨(some 4), (.pure (.mv (.tmp 19))), none⟩])
(.ret))))),
[.tmp 4]⟩
theorem r_spec_l1Cur_pick : resFun Try.prog f_spec_l1Cur_pick = some c_spec_l1Cur_pick := by kernel_rfl

/- (*loop.example/g00940/spec.l1Cur).one -/
abbrev f_spec_l1Cur_one : Nat := 74
def c_spec_l1Cur_one : MFun := ⟨9, .seq (.ops [
.op ⟨(some 4), (.pure (.mv (.const (.bool false)))), none⟩])
(.seq (.ops [
.op ⟨(some 5), (.pure (.mv (.tmp 0))), none⟩,
.op ⟨(some 6), (.pure (.mv (.tmp 1))), none⟩,
.op ⟨(some 7), (.eff (.call 73 [(.tmp 5), (.tmp 6)])), none⟩,
.op ⟨(some 8), (.pure (.bin .eql (.tmp 7) (.const (.int .i64 (0))))), none⟩,
.op ⟨(some 4), (.pure (.mv (.tmp 8))), none⟩])
(.ret)),
[.tmp 4]⟩
theorem r_spec_l1Cur_one : resFun Try.prog f_spec_l1Cur_one = some c_spec_l1Cur_one := by kernel_rfl

/- loop.example/g00940/spec.l1All -/
abbrev f_spec_l1All : Nat := 75
def c_spec_l1All : MFun := ⟨21, .seq (.ops [
.op ⟨(some 6), (.pure (.mv (.const (.bool false)))), none⟩])
(.seq (.seq (.ops [
.op ⟨(some 9), (.pure (.mv (.tmp 0))), none⟩,
.op ⟨(some 10), (.pure (.len (.tmp 9))), none⟩,
.op ⟨(some 11), (.pure (.mv (.const (.int .i64 (0))))), none⟩])
(.block 0 (.loop (.seq (.ops [
.op ⟨(some 12), (.pure (.bin .lss (.tmp 11) (.tmp 10))), none⟩])
(.seq (.cond (.tmp 12)
(.skip)
(.exit 0))
(.seq (.block 1 (.seq (.ops [
.op ⟨(some 13), (.pure (.idx 1 (.tmp 9) (.tmp 11))), none⟩,
.op ⟨(some 14), (.load none (.tmp 13)), none⟩,
.op ⟨(some 8), (.pure (.mv (.tmp 14))), none⟩])
(.seq (.ops [
.op ⟨(some 15), (.pure (.mv (.tmp 8))), none⟩,
.op ⟨(some 16), (.pure (.mv (.tmp 1))), none⟩,
.op ⟨(some 17), (.pure (.mv (.tmp 2))), none⟩,
.op ⟨(some 18), (.eff (.call 56 [(.tmp 15), (.tmp 16), (.tmp 17)])), none⟩,
.op ⟨(some 19), (.pure (.bnot (.tmp 18))), none⟩])
(.cond (.tmp 19)
(.seq (.ops [
.op ⟨(some 6), (.pure (.mv (.const (.bool false)))), none⟩])
(.ret))
(.skip)))))
(.ops [
.op ⟨(some 20), (.pure (.bin .add (.tmp 11) (.const (.int .i64 (1))))), none⟩,
.op ⟨(some 11), (.pure (.mv (.tmp 20))), none⟩])))))))
(.seq (.ops [
.op ⟨(some 6), (.pure (.mv (.const (.bool true)))), none⟩])
(.ret))),
[.tmp 6]⟩
theorem r_spec_l1All : resFun Try.prog f_spec_l1All = some c_spec_l1All := by kernel_rfl

/- loop.example/g00940/impl.allWithin -/
abbrev f_impl_allWithin : Nat := 76
def c_impl_allWithin : MFun := ⟨21, .seq (.ops [
.op ⟨(some 6), (.pure (.mv (.const (.bool false)))), none⟩])
(.seq (.seq (.ops [
.op ⟨(some 9), (.pure (.mv (.tmp 0))), none⟩,
.op ⟨(some 10), (.pure (.len (.tmp 9))), none⟩,
.op ⟨(some 11), (.pure (.mv (.const (.int .i64 (0))))), none⟩])
(.block 0 (.loop (.seq (.ops [
.op ⟨(some 12), (.pure (.bin .lss (.tmp 11) (.tmp 10))), none⟩])
(.seq (.cond (.tmp 12)
(.skip)
(.exit 0))
(.seq (.block 1 (.seq (.ops [
.op ⟨(some 13), (.pure (.idx 1 (.tmp 9) (.tmp 11))), none⟩,
.op ⟨(some 14), (.load none (.tmp 13)), none⟩,
.op ⟨(some 8), (.pure (.mv (.tmp 14))), none⟩])
(.seq (.ops [
.op ⟨(some 15), (.pure (.mv (.tmp 8))), none⟩,
.op ⟨(some 16), (.pure (.mv (.tmp 1))), none⟩,
.op ⟨(some 17), (.pure (.mv (.tmp 2))), none⟩,
.op ⟨(some 18), (.eff (.call 55 [(.tmp 15), (.tmp 16), (.tmp 17)])), none⟩,
.op ⟨(some 19), (.pure (.bnot (.tmp 18))), none⟩])
(.cond (.tmp 19)
(.seq (.ops [
.op ⟨(some 6), (.pure (.mv (.const (.bool false)))), none⟩])
(.ret))
(.skip)))))
(.ops [
.op ⟨(some 20), (.pure (.bin .add (.tmp 11) (.const (.int .i64 (1))))), none⟩,
.op ⟨(some 11), (.pure (.mv (.tmp 20))), none⟩])))))))
(.seq (.ops [
.op ⟨(some 6), (.pure (.mv (.const (.bool true)))), none⟩])
(.ret))),
[.tmp 6]⟩
theorem r_impl_allWithin : resFun Try.prog f_impl_allWithin = some c_impl_allWithin := by kernel_rfl

/- loop.example/g00940/spec.liSignals -/
abbrev f_spec_liSignals : Nat := 77
def c_spec_liSignals : MFun := ⟨10, .seq (.ops [
.op ⟨(some 2), (.pure (.mv (.const (.bool false)))), none⟩])
(.seq (.ops [
.op ⟨(some 3), (.pure (.mv (.tmp 0))), none⟩,
.op ⟨(some 4), (.pure (.len (.tmp 3))), none⟩,
.op ⟨(some 5), (.pure (.bin .leq (.tmp 4) (.const (.int .i64 (20))))), none⟩,
.op ⟨(some 6), (.pure (.mv (.tmp 5))), none⟩,
.split 6,
.op ⟨(some 7), (.pure (.mv (.tmp 0))), (some (6, true))⟩,
.op ⟨(some 8), (.eff (.call 75 [(.tmp 7), (.const (.int .i64 (0))), (.const (.int .i64 (63)))])), (some (6, true))⟩,
.op ⟨(some 9), (.pure (.pick (.tmp 6) (.tmp 8) (.const (.bool false)))), none⟩,
.op ⟨(some 2), (.pure (.mv (.tmp 9))), none⟩])
(.ret)),
[.tmp 2]⟩
theorem r_spec_liSignals : resFun Try.prog f_spec_liSignals = some c_spec_liSignals := by kernel_rfl

/- (*loop.example/g00940/spec.liState).hop -/
abbrev f_spec_liState_hop : Nat := 78
def c_spec_liState_hop : MFun := ⟨22, .seq (.ops [
.op ⟨(some 6), (.pure (.mv (.const (.int .i64 (0))))), none⟩,
.op ⟨(some 7), (.pure (.mv (.const (.bool false)))), none⟩])
(.seq (.block 0 (.loop (.seq (.seq (.ops [
.op ⟨(some 9), (.pure (.mv (.tmp 2))), none⟩,
.op ⟨(some 10), (.pure (.bin .gtr (.tmp 9) (.const (.int .i64 (0))))), none⟩])
(.cond (.tmp 10)
(.skip)
(.exit 0)))
(.seq (.block 1 (.seq (.ops [
.op ⟨(some 13), (.pure (.mv (.tmp 0))), none⟩,
.op ⟨(some 14), (.pure (.mv (.tmp 1))), none⟩,
.op ⟨(some 15), (.eff (.call 82 [(.tmp 13), (.tmp 14)])), none⟩,
.op ⟨(some 8), (.pure (.mv (.tmp 15))), none⟩])
(.seq (.ops [
.op ⟨(some 16), (.pure (.mv (.tmp 0))), none⟩,
.op ⟨(some 17), (.pure (.mv (.tmp 8))), none⟩,
.op ⟨(some 18), (.eff (.call 82 [(.tmp 16), (.tmp 17)])), none⟩,
.op ⟨(some 19), (.pure (.mv (.tmp 1))), none⟩,
.op ⟨(some 20), (.pure (.bin .eql (.tmp 18) (.tmp 19))), none⟩])
(.cond (.tmp 20)
(.seq (.ops [
.op ⟨(some 21), (.pure (.mv (.tmp 8))), none⟩,
.op ⟨(some 6), (.pure (.mv (.tmp 21))), none⟩,
.op ⟨(some 7), (.pure (.mv (.const (.bool true)))), none⟩])
(.ret))
(.skip)))))
(.ops [
.op ⟨(some 11), (.pure (.mv (.tmp 2))), none⟩,
.op ⟨(some 12), (.pure (.bin .sub (.tmp 11) (.const (.int .i64 (1))))), none⟩,
.op ⟨(some 2), (.pure (.mv (.tmp 12))), none⟩])))))
(.seq (.ops [
.op ⟨(some 6), (.pure (.mv (.const (.int .i64 (0))))), none⟩,
.op ⟨(some 7), (.pure (.mv (.const (.bool false)))), none⟩])
(.ret))),
[.tmp 6, .tmp 7]⟩
theorem r_spec_liState_hop : resFun Try.prog f_spec_liState_hop = some c_spec_liState_hop := by kernel_rfl

/- loop.example/g00940/impl.passLine$1 -/
abbrev f_impl_passLine_1 : Nat := 79
def c_impl_passLine_1 : MFun := ⟨22, .seq (.ops [
.op ⟨(some 4), (.pure (.mv (.const (.int .i64 (0))))), none⟩])
(.seq (.seq (.ops [
.op ⟨(some 5), (.pure (.fieldAddr 1 (.tmp 1))), none⟩,
.op ⟨(some 6), (.load none (.tmp 5)), none⟩,
.op ⟨(some 7), (.load none (.tmp 2)), none⟩,
.op ⟨(some 8), (.pure (.len (.tmp 7))), none⟩,
.op ⟨(some 9), (.pure (.bin .lss (.tmp 6) (.tmp 8))), none⟩])
(.cond (.tmp 9)
(.ops [
.op ⟨(some 10), (.pure (.mv (.tmp 0))), none⟩,
.op ⟨(some 11), (.load none (.tmp 2)), none⟩,
.op ⟨(some 12), (.pure (.fieldAddr 1 (.tmp 1))), none⟩,
.op ⟨(some 13), (.load none (.tmp 12)), none⟩,
.op ⟨(some 14), (.pure (.idx 1 (.tmp 11) (.tmp 13))), none⟩,
.op ⟨(some 15), (.load none (.tmp 14)), none⟩,
.op ⟨(some 16), (.pure (.bin .xor (.tmp 10) (.tmp 15))), none⟩,
.op ⟨(some 0), (.pure (.mv (.tmp 16))), none⟩])
(.skip)))
(.seq (.ops [
.op ⟨(some 17), (.pure (.fieldAddr 1 (.tmp 1))), none⟩,
.op ⟨(some 18), (.load none (.tmp 17)), none⟩,
.op ⟨(some 19), (.pure (.bin .add (.tmp 18) (.const (.int .i64 (1))))), none⟩,
.op ⟨(some 20), (.pure (.fieldAddr 1 (.tmp 1))), none⟩,
.op ⟨none, (.eff (.store 1 (.tmp 20) (.tmp 19))), none⟩])
(.seq (.ops [
.op ⟨(some 21), (.pure (.mv (.tmp 0))), none⟩,
.op ⟨(some 4), (.pure (.mv (.tmp 21))), none⟩])
(.ret)))),
[.tmp 4]⟩
theorem r_impl_passLine_1 : resFun Try.prog f_impl_passLine_1 = some c_impl_passLine_1 := by kernel_rfl

/- (*loop.example/g00940/spec.l1Cur).contents -/
abbrev f_spec_l1Cur_contents : Nat := 80
def c_spec_l1Cur_contents : MFun := ⟨21, .seq (.ops [
.op ⟨(some 4), (.pure (.mv (.const (.slice none 0 0)))), none⟩])
(.seq (.ops [
.op ⟨(some 5), (.pure (.mv (.const (.slice none 0 0)))), none⟩])
(.seq (.block 0 (.loop (.seq (.seq (.ops [
.op ⟨(some 6), (.pure (.mv (.tmp 1))), none⟩,
.op ⟨(some 7), (.pure (.bin .gtr (.tmp 6) (.const (.int .i64 (0))))), none⟩])
(.cond (.tmp 7)
(.skip)
(.exit 0)))
(.seq (.block 1 (.ops [
.op ⟨(some 10), (.pure (.mv (.tmp 5))), none⟩,
.op ⟨(some 11), (.pure (.mv (.tmp 0))), none⟩,
.op ⟨(some 12), (.pure (.mv (.tmp 0))), none⟩,
.op ⟨(some 13), (.eff (.call 83 [(.tmp 12)])), none⟩,
.op ⟨(some 14), (.pure (.mv (.tmp 0))), none⟩,
.op ⟨(some 15), (.eff (.call 83 [(.tmp 14)])), none⟩,
.op ⟨(some 16), (.eff (.row 3 6 [(.int .i64 (0)), (.int .i64 (0)), (.int .i64 (0)), (.int .i64 (0)), (.int .i64 (0)), (.int .i64 (0))] [(0, 1, (.const (.int .i64 (1)))), (1, 1, (.const (.int .i64 (5)))), (2, 1, (.const (.int .i64 (12)))), (3, 1, (.const (.int .i64 (60)))), (4, 1, (.tmp 13)), (5, 1, (.tmp 15))])), none⟩,
.op ⟨(some 17), (.eff (.call 72 [(.tmp 11), (.tmp 16)])), none⟩,
.op ⟨(some 18), (.eff (.row 3 1 [(.int .i64 (0))] [(0, 1, (.tmp 17))])), none⟩,
.op ⟨(some 19), (.eff (.app 3 1 8 (.tmp 10) (.tmp 18))), none⟩,
.op ⟨(some 5), (.pure (.mv (.tmp 19))), none⟩]))
(.ops [
.op ⟨(some 8), (.pure (.mv (.tmp 1))), none⟩,
.op ⟨(some 9), (.pure (.bin .sub (.tmp 8) (.const (.int .i64 (1))))), none⟩,
.op ⟨(some 1), (.pure (.mv (.tmp 9))), none⟩])))))
(.seq (.ops [
.op ⟨(some 20), (.pure (.mv (.tmp 5))), none⟩,
.op ⟨(some 4), (.pure (.mv (.tmp 20))), none⟩])
(.ret)))),
[.tmp 4]⟩
theorem r_spec_l1Cur_contents : resFun Try.prog f_spec_l1Cur_contents = some c_spec_l1Cur_contents := by kernel_rfl

/- (*loop.example/g00940/spec.l1Cur).next -/
abbrev f_spec_l1Cur_next : Nat := 81
def c_spec_l1Cur_next : MFun := ⟨62, .seq (.ops [
.op ⟨(some 2), (.pure (.mv (.const (.int .i64 (0))))), none⟩])
(.seq (.ops [
.op ⟨(some 3), (.pure (.mv (.const (.int .i64 (0))))), none⟩])
(.seq (.seq (.ops [
.op ⟨(some 4), (.pure (.mv (.tmp 0))), none⟩,
.op ⟨(some 5), (.pure (.nilc (.tmp 4))), none⟩,
.op ⟨(some 6), (.pure (.fieldAddr 1 (.tmp 5))), none⟩,
.op ⟨(some 8), (.pure (.mv (.tmp 0))), none⟩,
.op ⟨(some 9), (.pure (.nilc (.tmp 8))), none⟩,
.op ⟨(some 10), (.pure (.fieldAddr 0 (.tmp 9))), none⟩,
.op ⟨(some 7), (.load none (.tmp 6)), none⟩,
.op ⟨(some 11), (.load none (.tmp 10)), none⟩,
.op ⟨(some 12), (.pure (.len (.tmp 11))), none⟩,
.op ⟨(some 13), (.pure (.bin .lss (.tmp 7) (.tmp 12))), none⟩])
(.cond (.tmp 13)
(.ops [
.op ⟨(some 14), (.pure (.mv (.tmp 0))), none⟩,
.op ⟨(some 15), (.pure (.nilc (.tmp 14))), none⟩,
.op ⟨(some 16), (.pure (.fieldAddr 0 (.tmp 15))), none⟩,
.op ⟨(some 18), (.pure (.mv (.tmp 0))), none⟩,
.op ⟨(some 19), (.pure (.nilc (.tmp 18))), none⟩,
.op ⟨(some 20), (.pure (.fieldAddr 1 (.tmp 19))), none⟩,
.op ⟨(some 17), (.load none (.tmp 16)), none⟩,
.op ⟨(some 21), (.load none (.tmp 20)), none⟩,
.op ⟨(some 22), (.pure (.idx 1 (.tmp 17) (.tmp 21))), none⟩,
.op ⟨(some 23), (.load none (.tmp 22)), none⟩,
.op ⟨(some 24), (.pure (.conv .i64 (.tmp 23))), none⟩,
.op ⟨(some 3), (.pure (.mv (.tmp 24))), none⟩])
(.skip)))
(.seq (.ops [
.op ⟨(some 25), (.pure (.mv (.tmp 0))), none⟩,
.op ⟨(some 26), (.pure (.nilc (.tmp 25))), none⟩,
.op ⟨(some 27), (.pure (.fieldAddr 1 (.tmp 26))), none⟩,
.op ⟨(some 28), (.load none (.tmp 27)), none⟩,
.op ⟨(some 29), (.pure (.bin .add (.tmp 28) (.const (.int .i64 (1))))), none⟩,
.op ⟨(some 30), (.pure (.nilc (.tmp 25))), none⟩,
.op ⟨(some 31), (.pure (.fieldAddr 1 (.tmp 30))), none⟩,
.op ⟨none, (.eff (.store 1 (.tmp 31) (.tmp 29))), none⟩])
(.seq (.ops [
.op ⟨(some 32), (.pure (.mv (.tmp 0))), none⟩,
.op ⟨(some 33), (.pure (.mv (.tmp 0))), none⟩,
.op ⟨(some 34), (.pure (.nilc (.tmp 33))), none⟩,
.op ⟨(some 35), (.pure (.fieldAddr 2 (.tmp 34))), none⟩,
.op ⟨(some 36), (.load none (.tmp 35)), none⟩,
.op ⟨(some 37), (.pure (.bin .mul (.tmp 36) (.const (.int .u64 (6364136223846793005))))), none⟩,
.op ⟨(some 38), (.pure (.mv (.tmp 3))), none⟩,
.op ⟨(some 39), (.pure (.conv .u64 (.tmp 38))), none⟩,
.op ⟨(some 40), (.pure (.bin .add (.tmp 37) (.tmp 39))), none⟩,
.op ⟨(some 41), (.pure (.bin .add (.tmp 40) (.const (.int .u64 (1442695040888963407))))), none⟩,
.op ⟨(some 42), (.pure (.nilc (.tmp 32))), none⟩,
.op ⟨(some 43), (.pure (.fieldAddr 2 (.tmp 42))), none⟩,
.op ⟨none, (.eff (.store 1 (.tmp 43) (.tmp 41))), none⟩])
(.seq (.seq (.ops [
.op ⟨(some 44), (.pure (.mv (.tmp 0))), none⟩,
.op ⟨(some 45), (.pure (.nilc (.tmp 44))), none⟩,
.op ⟨(some 46), (.pure (.fieldAddr 1 (.tmp 45))), none⟩,
.op ⟨(some 48), (.pure (.mv (.tmp 0))), none⟩,
.op ⟨(some 49), (.pure (.nilc (.tmp 48))), none⟩,
.op ⟨(some 50), (.pure (.fieldAddr 0 (.tmp 49))), none⟩,
.op ⟨(some 47), (.load none (.tmp 46)), none⟩,
.op ⟨(some 51), (.load none (.tmp 50)), none⟩,
.op ⟨(some 52), (.pure (.len (.tmp 51))), none⟩,
.op ⟨(some 53), (.pure (.bin .leq (.tmp 47) (.tmp 52))), none⟩])
(.cond (.tmp 53)
(.seq (.ops [
.op ⟨(some 54), (.pure (.mv (.tmp 3))), none⟩,
.op ⟨(some 2), (.pure (.mv (.tmp 54))), none⟩])
(.ret))
(.skip)))
(.seq (.ops [
.op ⟨(some 55), (.pure (.mv (.tmp 0))), none⟩,
.op ⟨(some 56), (.pure (.nilc (.tmp 55))), none⟩,
.op ⟨(some 57), (.pure (.fieldAddr 2 (.tmp 56))), none⟩,
.op ⟨(some 58), (.load none (.tmp 57)), none⟩,
.op ⟨(some 59), (.pure (.bin .shr (.tmp 58) (.const (.int .u64 (40))))), none⟩,
.op ⟨(some 60), (.pure (.bin .and (.tmp 59) (.const (.int .u64 (255))))), none⟩,
.op ⟨(some 61), (.pure (.conv .i64 (.tmp 60))), none⟩,
.op ⟨(some 2), (.pure (.mv (.tmp 61))), none⟩])
(.ret))))))),
[.tmp 2]⟩
theorem r_spec_l1Cur_next : resFun Try.prog f_spec_l1Cur_next = some c_spec_l1Cur_next := by kernel_rfl

/- (*loop.example/g00940/spec.liState).see -/
abbrev f_spec_liState_see : Nat := 82
def c_spec_liState_see : MFun := ⟨36, .seq (.ops [
.op ⟨(some 4), (.pure (.mv (.const (.int .i64 (0))))), none⟩])
(.seq (.ops [
.op ⟨(some 5), (.pure (.mv (.const (.int .i64 (0))))), none⟩])
(.seq (.seq (.ops [
.op ⟨(some 6), (.pure (.mv (.tmp 0))), none⟩,
.op ⟨(some 7), (.pure (.nilc (.tmp 6))), none⟩,
.op ⟨(some 8), (.pure (.fieldAddr 1 (.tmp 7))), none⟩,
.op ⟨(some 10), (.pure (.mv (.tmp 0))), none⟩,
.op ⟨(some 11), (.pure (.nilc (.tmp 10))), none⟩,
.op ⟨(some 12), (.pure (.fieldAddr 0 (.tmp 11))), none⟩,
.op ⟨(some 9), (.load none (.tmp 8)), none⟩,
.op ⟨(some 13), (.load none (.tmp 12)), none⟩,
.op ⟨(some 14), (.pure (.len (.tmp 13))), none⟩,
.op ⟨(some 15), (.pure (.bin .lss (.tmp 9) (.tmp 14))), none⟩])
(.cond (.tmp 15)
(.ops [
.op ⟨(some 16), (.pure (.mv (.tmp 0))), none⟩,
.op ⟨(some 17), (.pure (.nilc (.tmp 16))), none⟩,
.op ⟨(some 18), (.pure (.fieldAddr 0 (.tmp 17))), none⟩,
.op ⟨(some 20), (.pure (.mv (.tmp 0))), none⟩,
.op ⟨(some 21), (.pure (.nilc (.tmp 20))), none⟩,
.op ⟨(some 22), (.pure (.fieldAddr 1 (.tmp 21))), none⟩,
.op ⟨(some 19), (.load none (.tmp 18)), none⟩,
.op ⟨(some 23), (.load none (.tmp 22)), none⟩,
.op ⟨(some 24), (.pure (.idx 1 (.tmp 19) (.tmp 23))), none⟩,
.op ⟨(some 25), (.load none (.tmp 24)), none⟩,
.op ⟨(some 5), (.pure (.mv (.tmp 25))), none⟩])
(.skip)))
(.seq (.ops [
.op ⟨(some 26), (.pure (.mv (.tmp 0))), none⟩,
.op ⟨(some 27), (.pure (.nilc (.tmp 26))), none⟩,
.op ⟨(some 28), (.pure (.fieldAddr 1 (.tmp 27))), none⟩,
.op ⟨(some 29), (.load none (.tmp 28)), none⟩,
.op ⟨(some 30), (.pure (.bin .add (.tmp 29) (.const (.int .i64 (1))))), none⟩,
.op ⟨(some 31), (.pure (.nilc (.tmp 26))), none⟩,
.op ⟨(some 32), (.pure (.fieldAddr 1 (.tmp 31))), none⟩,
.op ⟨none, (.eff (.store 1 (.tmp 32) (.tmp 30))), none⟩])
(.seq (.ops [
.op ⟨(some 33), (.pure (.mv (.tmp 1))), none⟩,
.op ⟨(some 34), (.pure (.mv (.tmp 5))), none⟩,
.op ⟨(some 35), (.pure (.bin .xor (.tmp 33) (.tmp 34))), none⟩,
.op ⟨(some 4), (.pure (.mv (.tmp 35))), none⟩])
(.ret))))),
[.tmp 4]⟩
theorem r_spec_liState_see : resFun Try.prog f_spec_liState_see = some c_spec_liState_see := by kernel_rfl

/- (*loop.example/g00940/spec.l1Cur).content -/
abbrev f_spec_l1Cur_content : Nat := 83
def c_spec_l1Cur_content : MFun := ⟨6, .seq (.ops [
.op ⟨(some 2), (.pure (.mv (.const (.int .i64 (0))))), none⟩])
(.seq (.ops [
.op ⟨(some 3), (.pure (.mv (.tmp 0))), none⟩,
.op ⟨(some 4), (.eff (.call 73 [(.tmp 3), (.const (.int .i64 (60)))])), none⟩,
.op ⟨(some 5), (.pure (.bin .add (.const (.int .i64 (1))) (.tmp 4))), none⟩,
.op ⟨(some 2), (.pure (.mv (.tmp 5))), none⟩])
(.ret)),
[.tmp 2]⟩
theorem r_spec_l1Cur_content : resFun Try.prog f_spec_l1Cur_content = some c_spec_l1Cur_content := by kernel_rfl
end Go.Proofs.Ytckkablifoblbaa
