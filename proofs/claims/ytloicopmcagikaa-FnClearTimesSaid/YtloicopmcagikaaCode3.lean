/- The code of this seat's functions, resolved, written by a program of mine; each is held against the given program by the kernel. Condition: none. -/
import Derived.Test.YtloicopmcagikaaProg
import Derived.Test.YtloicopmcagikaaBase9
import Derived.KernelRfl
namespace Go.Proofs.Ytloicopmcagikaa
open Go.Vc

/- slices.SortFunc[[]loop.example/g00940/impl.Fog,loop.example/g00940/impl.Fog] -/
/- loop.example/g00940/impl.compareFogs -/
abbrev f_impl_compareFogs : Nat := 69
def c_impl_compareFogs : MFun := ⟨17, .seq (.ops [ o_e 2 (.box 57 (.tmp 0)), o_e 3 (.box 57 (.tmp 1)), o_p 4 (.mv (.const (.int .i64 (0))))])
(.seq (.draw true
(.take (t_p 5 (.fieldAddr 0 (.tmp 2)))
(.take (t_p 7 (.fieldAddr 0 (.tmp 3)))
(.take (t_p 10 (.fieldAddr 1 (.tmp 2)))
(.take (t_p 12 (.fieldAddr 1 (.tmp 3)))
(.only false (t_l 6 5)
(.only false (t_l 8 7)
(.take (t_l 11 10)
(.take (t_l 13 12)
(.only false (t_e 9 (.call 89 [(.tmp 6), (.tmp 8)]))
(.only true (t_e 14 (.call 89 [(.tmp 11), (.tmp 13)]))
(.only true (t_e 15 (.row 3 2 [(.int .i64 (0)), (.int .i64 (0))] [(0, 1, (.tmp 9)), (1, 1, (.tmp 14))]))
(.only true (t_e 16 (.call 88 [(.tmp 15)]))
(.take (t_m 4 16)
(.done)))))))))))))))
(.ret)),
[.tmp 4]⟩
theorem r_impl_compareFogs : resFun Try.prog f_impl_compareFogs = some c_impl_compareFogs := by kernel_rfl

/- loop.example/g00940/spec.fgFog -/
abbrev f_spec_fgFog : Nat := 70
def c_spec_fgFog : MFun := ⟨25, .seq (.ops [ o_e 2 (.box 27 (.tmp 0)), o_e 3 (.box 57 (.tmp 1)), o_p 4 (.mv (.const (.bool false)))])
(.seq (.ops [ o_p 5 (.fieldAddr 0 (.tmp 3)), o_l 6 5, o_p 7 (.fieldAddr 1 (.tmp 2)), o_l 8 7, o_p 9 (.len (.tmp 8)), o_p 10 (.bin .sub (.tmp 9) (.const (.int .i64 (1)))), o_e 11 (.call 47 [(.tmp 6), (.const (.int .i64 (0))), (.tmp 10)]), o_m 12 11,
.split 12,
.op ⟨(some 13), (.pure (.fieldAddr 1 (.tmp 3))), (some (12, true))⟩,
.op ⟨(some 14), (.load none (.tmp 13)), (some (12, true))⟩,
.op ⟨(some 15), (.eff (.call 47 [(.tmp 14), (.const (.int .i64 (0))), (.const (.int .i64 (9999)))])), (some (12, true))⟩, o_p 16 (.pick (.tmp 12) (.tmp 15) (.const (.bool false))), o_m 17 16,
.split 17,
.op ⟨(some 18), (.pure (.fieldAddr 2 (.tmp 3))), (some (17, true))⟩,
.op ⟨(some 19), (.load none (.tmp 18)), (some (17, true))⟩,
.op ⟨(some 20), (.pure (.fieldAddr 1 (.tmp 3))), (some (17, true))⟩,
.op ⟨(some 21), (.load none (.tmp 20)), (some (17, true))⟩,
.op ⟨(some 22), (.pure (.bin .add (.tmp 21) (.const (.int .i64 (1))))), (some (17, true))⟩,
.op ⟨(some 23), (.eff (.call 47 [(.tmp 19), (.tmp 22), (.const (.int .i64 (10000)))])), (some (17, true))⟩, o_p 24 (.pick (.tmp 17) (.tmp 23) (.const (.bool false))), o_m 4 24])
(.ret)),
[.tmp 4]⟩
theorem r_spec_fgFog : resFun Try.prog f_spec_fgFog = some c_spec_fgFog := by kernel_rfl

/- loop.example/g00940/spec.fgAdd -/
/- (*loop.example/g00940/spec.l1Cur).net -/
abbrev f_spec_l1Cur_net : Nat := 72
def c_spec_l1Cur_net : MFun := ⟨88, .seq (.ops [ o_e 2 (.new 27 [(.slice none 0 0), (.slice none 0 0)])])
(.seq (.ops [ o_p 8 (.build [(.slice none 0 0), (.slice none 0 0)] []), o_e 3 (.new 27 [(.slice none 0 0), (.slice none 0 0)]),
.op ⟨none, (.eff (.store 2 (.tmp 3) (.tmp 8))), none⟩])
(.seq (.ops [ o_m 9 0, o_e 10 (.call 76 [(.tmp 9), (.const (.int .i64 (6)))]), o_p 11 (.bin .add (.const (.int .i64 (1))) (.tmp 10)), o_m 4 11])
(.seq (.seq (.ops [ o_m 12 0, o_e 13 (.call 73 [(.tmp 12), (.const (.int .i64 (24)))])])
(.cond (.tmp 13)
(.ops [ o_p 4 (.mv (.const (.int .i64 (16))))])
(.skip)))
(.seq (.block 0 (.loop (.seq (.seq (.ops [ o_p 14 (.fieldAddr 0 (.tmp 3)), o_l 15 14, o_p 16 (.len (.tmp 15)), o_m 17 4, o_p 18 (.bin .lss (.tmp 16) (.tmp 17))])
(.cond (.tmp 18)
(.skip)
(.exit 0)))
(.block 1 (.draw true
(.take (t_p 19 (.fieldAddr 0 (.tmp 3)))
(.take (t_m 21 0)
(.take (t_m 22 0)
(.take (t_m 26 0)
(.take (t_m 27 0)
(.take (t_m 31 0)
(.take (t_l 20 19)
(.fork
(.only false (t_e 23 (.call 76 [(.tmp 22), (.const (.int .i64 (400)))]))
(.fork
(.only false (t_e 24 (.row 3 5 [(.int .i64 (0)), (.int .i64 (0)), (.int .i64 (0)), (.int .i64 (0)), (.int .i64 (0))] [(0, 1, (.const (.int .i64 (0)))), (1, 1, (.const (.int .i64 (30)))), (2, 1, (.const (.int .i64 (100)))), (3, 1, (.const (.int .i64 (999)))), (4, 1, (.tmp 23))]))
(.fork
(.only false (t_e 25 (.call 41 [(.tmp 21), (.tmp 24)]))
(.fork
(.only false (t_e 28 (.call 76 [(.tmp 27), (.const (.int .i64 (400)))]))
(.fork
(.only false (t_e 29 (.row 3 4 [(.int .i64 (0)), (.int .i64 (0)), (.int .i64 (0)), (.int .i64 (0))] [(0, 1, (.const (.int .i64 (0)))), (1, 1, (.const (.int .i64 (40)))), (2, 1, (.const (.int .i64 (999)))), (3, 1, (.tmp 28))]))
(.fork
(.only false (t_e 30 (.call 41 [(.tmp 26), (.tmp 29)]))
(.only false (t_e 32 (.row 3 4 [(.int .i64 (0)), (.int .i64 (0)), (.int .i64 (0)), (.int .i64 (0))] [(0, 1, (.const (.int .i64 (0)))), (1, 1, (.const (.int .i64 (20)))), (2, 1, (.const (.int .i64 (120)))), (3, 1, (.const (.int .i64 (500))))]))
(.only false (t_e 33 (.call 41 [(.tmp 31), (.tmp 32)]))
(.take (t_p 34 (.build [(.int .i64 (0)), (.int .i64 (0)), (.int .i64 (0))] [(0, 1, (.tmp 25)), (1, 1, (.tmp 30)), (2, 1, (.tmp 33))]))
(.only false (t_e 35 (.row 95 1 [(.int .i64 (0)), (.int .i64 (0)), (.int .i64 (0))] [(0, 3, (.tmp 34))]))
(.only true (t_e 36 (.app 95 3 24 (.tmp 20) (.tmp 35)))
(.take (t_p 37 (.fieldAddr 0 (.tmp 3)))
(.only true ⟨none, (.eff (.store 1 (.tmp 37) (.tmp 36))), none⟩
(.done)))))))))
(.only false (t_e 32 (.row 3 4 [(.int .i64 (0)), (.int .i64 (0)), (.int .i64 (0)), (.int .i64 (0))] [(0, 1, (.const (.int .i64 (0)))), (1, 1, (.const (.int .i64 (20)))), (2, 1, (.const (.int .i64 (120)))), (3, 1, (.const (.int .i64 (500))))]))
(.only false (t_e 30 (.call 41 [(.tmp 26), (.tmp 29)]))
(.only false (t_e 33 (.call 41 [(.tmp 31), (.tmp 32)]))
(.take (t_p 34 (.build [(.int .i64 (0)), (.int .i64 (0)), (.int .i64 (0))] [(0, 1, (.tmp 25)), (1, 1, (.tmp 30)), (2, 1, (.tmp 33))]))
(.only false (t_e 35 (.row 95 1 [(.int .i64 (0)), (.int .i64 (0)), (.int .i64 (0))] [(0, 3, (.tmp 34))]))
(.only true (t_e 36 (.app 95 3 24 (.tmp 20) (.tmp 35)))
(.take (t_p 37 (.fieldAddr 0 (.tmp 3)))
(.only true ⟨none, (.eff (.store 1 (.tmp 37) (.tmp 36))), none⟩
(.done)))))))))))
(.only false (t_e 32 (.row 3 4 [(.int .i64 (0)), (.int .i64 (0)), (.int .i64 (0)), (.int .i64 (0))] [(0, 1, (.const (.int .i64 (0)))), (1, 1, (.const (.int .i64 (20)))), (2, 1, (.const (.int .i64 (120)))), (3, 1, (.const (.int .i64 (500))))]))
(.only false (t_e 29 (.row 3 4 [(.int .i64 (0)), (.int .i64 (0)), (.int .i64 (0)), (.int .i64 (0))] [(0, 1, (.const (.int .i64 (0)))), (1, 1, (.const (.int .i64 (40)))), (2, 1, (.const (.int .i64 (999)))), (3, 1, (.tmp 28))]))
(.only false (t_e 30 (.call 41 [(.tmp 26), (.tmp 29)]))
(.only false (t_e 33 (.call 41 [(.tmp 31), (.tmp 32)]))
(.take (t_p 34 (.build [(.int .i64 (0)), (.int .i64 (0)), (.int .i64 (0))] [(0, 1, (.tmp 25)), (1, 1, (.tmp 30)), (2, 1, (.tmp 33))]))
(.only false (t_e 35 (.row 95 1 [(.int .i64 (0)), (.int .i64 (0)), (.int .i64 (0))] [(0, 3, (.tmp 34))]))
(.only true (t_e 36 (.app 95 3 24 (.tmp 20) (.tmp 35)))
(.take (t_p 37 (.fieldAddr 0 (.tmp 3)))
(.only true ⟨none, (.eff (.store 1 (.tmp 37) (.tmp 36))), none⟩
(.done))))))))))))
(.only false (t_e 32 (.row 3 4 [(.int .i64 (0)), (.int .i64 (0)), (.int .i64 (0)), (.int .i64 (0))] [(0, 1, (.const (.int .i64 (0)))), (1, 1, (.const (.int .i64 (20)))), (2, 1, (.const (.int .i64 (120)))), (3, 1, (.const (.int .i64 (500))))]))
(.only false (t_e 28 (.call 76 [(.tmp 27), (.const (.int .i64 (400)))]))
(.only false (t_e 29 (.row 3 4 [(.int .i64 (0)), (.int .i64 (0)), (.int .i64 (0)), (.int .i64 (0))] [(0, 1, (.const (.int .i64 (0)))), (1, 1, (.const (.int .i64 (40)))), (2, 1, (.const (.int .i64 (999)))), (3, 1, (.tmp 28))]))
(.only false (t_e 30 (.call 41 [(.tmp 26), (.tmp 29)]))
(.only false (t_e 33 (.call 41 [(.tmp 31), (.tmp 32)]))
(.take (t_p 34 (.build [(.int .i64 (0)), (.int .i64 (0)), (.int .i64 (0))] [(0, 1, (.tmp 25)), (1, 1, (.tmp 30)), (2, 1, (.tmp 33))]))
(.only false (t_e 35 (.row 95 1 [(.int .i64 (0)), (.int .i64 (0)), (.int .i64 (0))] [(0, 3, (.tmp 34))]))
(.only true (t_e 36 (.app 95 3 24 (.tmp 20) (.tmp 35)))
(.take (t_p 37 (.fieldAddr 0 (.tmp 3)))
(.only true ⟨none, (.eff (.store 1 (.tmp 37) (.tmp 36))), none⟩
(.done)))))))))))))
(.only false (t_e 32 (.row 3 4 [(.int .i64 (0)), (.int .i64 (0)), (.int .i64 (0)), (.int .i64 (0))] [(0, 1, (.const (.int .i64 (0)))), (1, 1, (.const (.int .i64 (20)))), (2, 1, (.const (.int .i64 (120)))), (3, 1, (.const (.int .i64 (500))))]))
(.only false (t_e 25 (.call 41 [(.tmp 21), (.tmp 24)]))
(.only false (t_e 28 (.call 76 [(.tmp 27), (.const (.int .i64 (400)))]))
(.only false (t_e 29 (.row 3 4 [(.int .i64 (0)), (.int .i64 (0)), (.int .i64 (0)), (.int .i64 (0))] [(0, 1, (.const (.int .i64 (0)))), (1, 1, (.const (.int .i64 (40)))), (2, 1, (.const (.int .i64 (999)))), (3, 1, (.tmp 28))]))
(.only false (t_e 30 (.call 41 [(.tmp 26), (.tmp 29)]))
(.only false (t_e 33 (.call 41 [(.tmp 31), (.tmp 32)]))
(.take (t_p 34 (.build [(.int .i64 (0)), (.int .i64 (0)), (.int .i64 (0))] [(0, 1, (.tmp 25)), (1, 1, (.tmp 30)), (2, 1, (.tmp 33))]))
(.only false (t_e 35 (.row 95 1 [(.int .i64 (0)), (.int .i64 (0)), (.int .i64 (0))] [(0, 3, (.tmp 34))]))
(.only true (t_e 36 (.app 95 3 24 (.tmp 20) (.tmp 35)))
(.take (t_p 37 (.fieldAddr 0 (.tmp 3)))
(.only true ⟨none, (.eff (.store 1 (.tmp 37) (.tmp 36))), none⟩
(.done))))))))))))))
(.only false (t_e 32 (.row 3 4 [(.int .i64 (0)), (.int .i64 (0)), (.int .i64 (0)), (.int .i64 (0))] [(0, 1, (.const (.int .i64 (0)))), (1, 1, (.const (.int .i64 (20)))), (2, 1, (.const (.int .i64 (120)))), (3, 1, (.const (.int .i64 (500))))]))
(.only false (t_e 24 (.row 3 5 [(.int .i64 (0)), (.int .i64 (0)), (.int .i64 (0)), (.int .i64 (0)), (.int .i64 (0))] [(0, 1, (.const (.int .i64 (0)))), (1, 1, (.const (.int .i64 (30)))), (2, 1, (.const (.int .i64 (100)))), (3, 1, (.const (.int .i64 (999)))), (4, 1, (.tmp 23))]))
(.only false (t_e 25 (.call 41 [(.tmp 21), (.tmp 24)]))
(.only false (t_e 28 (.call 76 [(.tmp 27), (.const (.int .i64 (400)))]))
(.only false (t_e 29 (.row 3 4 [(.int .i64 (0)), (.int .i64 (0)), (.int .i64 (0)), (.int .i64 (0))] [(0, 1, (.const (.int .i64 (0)))), (1, 1, (.const (.int .i64 (40)))), (2, 1, (.const (.int .i64 (999)))), (3, 1, (.tmp 28))]))
(.only false (t_e 30 (.call 41 [(.tmp 26), (.tmp 29)]))
(.only false (t_e 33 (.call 41 [(.tmp 31), (.tmp 32)]))
(.take (t_p 34 (.build [(.int .i64 (0)), (.int .i64 (0)), (.int .i64 (0))] [(0, 1, (.tmp 25)), (1, 1, (.tmp 30)), (2, 1, (.tmp 33))]))
(.only false (t_e 35 (.row 95 1 [(.int .i64 (0)), (.int .i64 (0)), (.int .i64 (0))] [(0, 3, (.tmp 34))]))
(.only true (t_e 36 (.app 95 3 24 (.tmp 20) (.tmp 35)))
(.take (t_p 37 (.fieldAddr 0 (.tmp 3)))
(.only true ⟨none, (.eff (.store 1 (.tmp 37) (.tmp 36))), none⟩
(.done)))))))))))))))
(.only false (t_e 32 (.row 3 4 [(.int .i64 (0)), (.int .i64 (0)), (.int .i64 (0)), (.int .i64 (0))] [(0, 1, (.const (.int .i64 (0)))), (1, 1, (.const (.int .i64 (20)))), (2, 1, (.const (.int .i64 (120)))), (3, 1, (.const (.int .i64 (500))))]))
(.only false (t_e 23 (.call 76 [(.tmp 22), (.const (.int .i64 (400)))]))
(.only false (t_e 24 (.row 3 5 [(.int .i64 (0)), (.int .i64 (0)), (.int .i64 (0)), (.int .i64 (0)), (.int .i64 (0))] [(0, 1, (.const (.int .i64 (0)))), (1, 1, (.const (.int .i64 (30)))), (2, 1, (.const (.int .i64 (100)))), (3, 1, (.const (.int .i64 (999)))), (4, 1, (.tmp 23))]))
(.only false (t_e 25 (.call 41 [(.tmp 21), (.tmp 24)]))
(.only false (t_e 28 (.call 76 [(.tmp 27), (.const (.int .i64 (400)))]))
(.only false (t_e 29 (.row 3 4 [(.int .i64 (0)), (.int .i64 (0)), (.int .i64 (0)), (.int .i64 (0))] [(0, 1, (.const (.int .i64 (0)))), (1, 1, (.const (.int .i64 (40)))), (2, 1, (.const (.int .i64 (999)))), (3, 1, (.tmp 28))]))
(.only false (t_e 30 (.call 41 [(.tmp 26), (.tmp 29)]))
(.only false (t_e 33 (.call 41 [(.tmp 31), (.tmp 32)]))
(.take (t_p 34 (.build [(.int .i64 (0)), (.int .i64 (0)), (.int .i64 (0))] [(0, 1, (.tmp 25)), (1, 1, (.tmp 30)), (2, 1, (.tmp 33))]))
(.only false (t_e 35 (.row 95 1 [(.int .i64 (0)), (.int .i64 (0)), (.int .i64 (0))] [(0, 3, (.tmp 34))]))
(.only true (t_e 36 (.app 95 3 24 (.tmp 20) (.tmp 35)))
(.take (t_p 37 (.fieldAddr 0 (.tmp 3)))
(.only true ⟨none, (.eff (.store 1 (.tmp 37) (.tmp 36))), none⟩
(.done)))))))))))))))))))))))))))
(.seq (.ops [ o_m 38 0, o_e 39 (.row 3 3 [(.int .i64 (0)), (.int .i64 (0)), (.int .i64 (0))] [(0, 1, (.const (.int .i64 (2)))), (1, 1, (.const (.int .i64 (2)))), (2, 1, (.const (.int .i64 (3))))]), o_e 40 (.call 41 [(.tmp 38), (.tmp 39)]), o_m 5 40])
(.seq (.seq (.ops [ o_p 6 (.mv (.const (.int .i64 (0))))])
(.block 2 (.loop (.seq (.seq (.ops [ o_m 41 6, o_m 42 4, o_p 43 (.bin .lss (.tmp 41) (.tmp 42))])
(.cond (.tmp 43)
(.skip)
(.exit 2)))
(.seq (.block 3 (.seq (.ops [ o_m 46 6, o_p 47 (.bin .add (.tmp 46) (.const (.int .i64 (1)))), o_m 7 47])
(.block 4 (.loop (.seq (.seq (.ops [ o_m 48 7, o_m 49 4, o_p 50 (.bin .lss (.tmp 48) (.tmp 49)), o_m 51 50,
.split 51,
.op ⟨(some 52), (.pure (.fieldAddr 1 (.tmp 3))), (some (51, true))⟩,
.op ⟨(some 53), (.load none (.tmp 52)), (some (51, true))⟩,
.op ⟨(some 54), (.pure (.len (.tmp 53))), (some (51, true))⟩,
.op ⟨(some 55), (.pure (.bin .lss (.tmp 54) (.const (.int .i64 (40))))), (some (51, true))⟩, o_p 56 (.pick (.tmp 51) (.tmp 55) (.const (.bool false)))])
(.cond (.tmp 56)
(.skip)
(.exit 4)))
(.seq (.block 5 (.seq (.ops [ o_m 59 0, o_m 60 5, o_e 61 (.call 73 [(.tmp 59), (.tmp 60)]), o_m 62 61,
.split 62,
.op ⟨(some 63), (.pure (.mv (.tmp 7))), (some (62, false))⟩,
.op ⟨(some 64), (.pure (.mv (.tmp 6))), (some (62, false))⟩,
.op ⟨(some 65), (.pure (.bin .add (.tmp 64) (.const (.int .i64 (1))))), (some (62, false))⟩,
.op ⟨(some 66), (.pure (.bin .eql (.tmp 63) (.tmp 65))), (some (62, false))⟩,
.op ⟨(some 67), (.pure (.mv (.tmp 66))), (some (62, false))⟩,
.split 67,
.op ⟨(some 68), (.pure (.mv (.tmp 0))), (some (67, true))⟩,
.op ⟨(some 69), (.eff (.call 73 [(.tmp 68), (.const (.int .i64 (8)))])), (some (67, true))⟩,
.op ⟨(some 70), (.pure (.bnot (.tmp 69))), (some (67, true))⟩,
.op ⟨(some 71), (.pure (.pick (.tmp 67) (.tmp 70) (.const (.bool false)))), (some (62, false))⟩, o_p 72 (.pick (.tmp 62) (.const (.bool true)) (.tmp 71))])
(.cond (.tmp 72)
(.draw true
(.take (t_p 73 (.fieldAddr 1 (.tmp 3)))
(.take (t_m 75 6)
(.take (t_m 76 7)
(.take (t_m 77 0)
(.take (t_m 78 0)
(.take (t_l 74 73)
(.only false (t_e 79 (.call 76 [(.tmp 78), (.const (.int .i64 (30)))]))
(.take (t_p 80 (.bin .add (.const (.int .i64 (1))) (.tmp 79)))
(.only false (t_e 81 (.row 3 6 [(.int .i64 (0)), (.int .i64 (0)), (.int .i64 (0)), (.int .i64 (0)), (.int .i64 (0)), (.int .i64 (0))] [(0, 1, (.const (.int .i64 (1)))), (1, 1, (.const (.int .i64 (5)))), (2, 1, (.const (.int .i64 (10)))), (3, 1, (.const (.int .i64 (10)))), (4, 1, (.const (.int .i64 (60)))), (5, 1, (.tmp 80))]))
(.only false (t_e 82 (.call 41 [(.tmp 77), (.tmp 81)]))
(.take (t_p 83 (.build [(.int .i64 (0)), (.int .i64 (0)), (.int .i64 (0))] [(0, 1, (.tmp 75)), (1, 1, (.tmp 76)), (2, 1, (.tmp 82))]))
(.only false (t_e 84 (.row 81 1 [(.int .i64 (0)), (.int .i64 (0)), (.int .i64 (0))] [(0, 3, (.tmp 83))]))
(.only true (t_e 85 (.app 81 3 24 (.tmp 74) (.tmp 84)))
(.take (t_p 86 (.fieldAddr 1 (.tmp 3)))
(.only true ⟨none, (.eff (.store 1 (.tmp 86) (.tmp 85))), none⟩
(.done)))))))))))))))))
(.skip))))
(.ops [ o_m 57 7, o_p 58 (.bin .add (.tmp 57) (.const (.int .i64 (1)))), o_m 7 58])))))))
(.ops [ o_m 44 6, o_p 45 (.bin .add (.tmp 44) (.const (.int .i64 (1)))), o_m 6 45]))))))
(.seq (.ops [
.op ⟨(some 87), (.load (some 2) (.tmp 3)), none⟩,
.op ⟨none, (.eff (.store 2 (.tmp 2) (.tmp 87))), none⟩])
(.ret)))))))),
[.cell 2 (some 2)]⟩
theorem r_spec_l1Cur_net : resFun Try.prog f_spec_l1Cur_net = some c_spec_l1Cur_net := by kernel_rfl

/- (*loop.example/g00940/spec.l1Cur).one -/
abbrev f_spec_l1Cur_one : Nat := 73
def c_spec_l1Cur_one : MFun := ⟨9, .seq (.ops [ o_p 4 (.mv (.const (.bool false)))])
(.seq (.ops [ o_m 5 0, o_m 6 1, o_e 7 (.call 76 [(.tmp 5), (.tmp 6)]), o_p 8 (.bin .eql (.tmp 7) (.const (.int .i64 (0)))), o_m 4 8])
(.ret)),
[.tmp 4]⟩
theorem r_spec_l1Cur_one : resFun Try.prog f_spec_l1Cur_one = some c_spec_l1Cur_one := by kernel_rfl

/- (*loop.example/g00940/spec.l1Cur).anyNet -/
abbrev f_spec_l1Cur_anyNet : Nat := 74
def c_spec_l1Cur_anyNet : MFun := ⟨164, .seq (.ops [ o_e 2 (.new 27 [(.slice none 0 0), (.slice none 0 0)])])
(.seq (.ops [ o_m 11 0, o_e 12 (.call 72 [(.tmp 11)]), o_e 3 (.new 27 [(.slice none 0 0), (.slice none 0 0)]),
.op ⟨none, (.eff (.store 2 (.tmp 3) (.tmp 12))), none⟩])
(.seq (.draw true
(.take (t_p 13 (.fieldAddr 0 (.tmp 3)))
(.take (t_m 15 0)
(.take (t_p 16 (.fieldAddr 0 (.tmp 3)))
(.only false (t_l 17 16)
(.take (t_p 18 (.len (.tmp 17)))
(.take (t_l 14 13)
(.only false (t_e 19 (.call 76 [(.tmp 15), (.tmp 18)]))
(.take (t_p 20 (.idx 3 (.tmp 14) (.tmp 19)))
(.take (t_m 4 20)
(.done)))))))))))
(.seq (.seq (.ops [ o_m 21 0, o_e 22 (.call 76 [(.tmp 21), (.const (.int .i64 (36)))])])
(.block 0 (.seq (.ops [ o_p 24 (.bin .eql (.tmp 22) (.const (.int .i64 (0)))), o_m 23 24])
(.cond (.tmp 23)
(.ops [ o_m 25 4, o_m 26 0, o_e 27 (.row 3 3 [(.int .i64 (0)), (.int .i64 (0)), (.int .i64 (0))] [(0, 1, (.const (.int .i64 (-1)))), (1, 1, (.const (.int .i64 (999)))), (2, 1, (.const (.int .i64 (1000))))]), o_e 28 (.call 41 [(.tmp 26), (.tmp 27)]), o_p 29 (.nilc (.tmp 25)), o_p 30 (.fieldAddr 0 (.tmp 29)),
.op ⟨none, (.eff (.store 1 (.tmp 30) (.tmp 28))), none⟩])
(.seq (.ops [ o_p 32 (.bin .eql (.tmp 22) (.const (.int .i64 (1)))), o_m 31 32])
(.cond (.tmp 31)
(.ops [ o_m 33 4, o_m 34 0, o_e 35 (.row 3 3 [(.int .i64 (0)), (.int .i64 (0)), (.int .i64 (0))] [(0, 1, (.const (.int .i64 (-1)))), (1, 1, (.const (.int .i64 (999)))), (2, 1, (.const (.int .i64 (1000))))]), o_e 36 (.call 41 [(.tmp 34), (.tmp 35)]), o_p 37 (.nilc (.tmp 33)), o_p 38 (.fieldAddr 1 (.tmp 37)),
.op ⟨none, (.eff (.store 1 (.tmp 38) (.tmp 36))), none⟩])
(.seq (.ops [ o_p 40 (.bin .eql (.tmp 22) (.const (.int .i64 (2)))), o_m 39 40])
(.cond (.tmp 39)
(.ops [ o_m 41 4, o_m 42 0, o_e 43 (.row 3 3 [(.int .i64 (0)), (.int .i64 (0)), (.int .i64 (0))] [(0, 1, (.const (.int .i64 (-1)))), (1, 1, (.const (.int .i64 (500)))), (2, 1, (.const (.int .i64 (501))))]), o_e 44 (.call 41 [(.tmp 42), (.tmp 43)]), o_p 45 (.nilc (.tmp 41)), o_p 46 (.fieldAddr 2 (.tmp 45)),
.op ⟨none, (.eff (.store 1 (.tmp 46) (.tmp 44))), none⟩])
(.seq (.ops [ o_p 48 (.bin .eql (.tmp 22) (.const (.int .i64 (3)))), o_m 47 48])
(.cond (.tmp 47)
(.ops [ o_p 49 (.fieldAddr 0 (.tmp 3)),
.op ⟨none, (.eff (.store 1 (.tmp 49) (.const (.slice none 0 0)))), none⟩])
(.seq (.ops [ o_p 51 (.bin .eql (.tmp 22) (.const (.int .i64 (4)))), o_m 50 51])
(.cond (.tmp 50)
(.seq (.ops [ o_m 52 0, o_e 53 (.call 76 [(.tmp 52), (.const (.int .i64 (2)))]), o_p 54 (.bin .add (.const (.int .i64 (16))) (.tmp 53)), o_m 5 54])
(.block 1 (.loop (.seq (.seq (.ops [ o_p 55 (.fieldAddr 0 (.tmp 3)), o_l 56 55, o_p 57 (.len (.tmp 56)), o_m 58 5, o_p 59 (.bin .lss (.tmp 57) (.tmp 58))])
(.cond (.tmp 59)
(.skip)
(.exit 1)))
(.block 2 (.draw true
(.take (t_p 60 (.fieldAddr 0 (.tmp 3)))
(.take (t_p 62 (.fieldAddr 0 (.tmp 3)))
(.only false (t_l 63 62)
(.take (t_p 64 (.idx 3 (.tmp 63) (.const (.int .i64 (0)))))
(.only false ⟨(some 65), (.load (some 3) (.tmp 64)), none⟩
(.take (t_l 61 60)
(.only false (t_e 66 (.row 95 1 [(.int .i64 (0)), (.int .i64 (0)), (.int .i64 (0))] [(0, 3, (.tmp 65))]))
(.only true (t_e 67 (.app 95 3 24 (.tmp 61) (.tmp 66)))
(.take (t_p 68 (.fieldAddr 0 (.tmp 3)))
(.only true ⟨none, (.eff (.store 1 (.tmp 68) (.tmp 67))), none⟩
(.done)))))))))))))))))
(.seq (.seq (.ops [ o_p 70 (.bin .eql (.tmp 22) (.const (.int .i64 (5)))), o_m 69 70])
(.cond (.tmp 69)
(.skip)
(.ops [ o_p 71 (.bin .eql (.tmp 22) (.const (.int .i64 (6)))), o_m 69 71])))
(.cond (.tmp 69)
(.seq (.ops [ o_p 72 (.fieldAddr 1 (.tmp 3)), o_l 73 72, o_p 74 (.len (.tmp 73)), o_m 6 74])
(.seq (.ops [ o_m 75 6, o_p 76 (.bin .gtr (.tmp 75) (.const (.int .i64 (0))))])
(.cond (.tmp 76)
(.seq (.draw true
(.take (t_p 77 (.fieldAddr 1 (.tmp 3)))
(.take (t_m 79 0)
(.take (t_m 80 6)
(.take (t_l 78 77)
(.only false (t_e 81 (.call 76 [(.tmp 79), (.tmp 80)]))
(.take (t_p 82 (.idx 3 (.tmp 78) (.tmp 81)))
(.take (t_m 7 82)
(.done)))))))))
(.seq (.ops [ o_m 83 0, o_e 84 (.call 76 [(.tmp 83), (.const (.int .i64 (4)))])])
(.block 3 (.seq (.ops [ o_p 86 (.bin .eql (.tmp 84) (.const (.int .i64 (0)))), o_m 85 86])
(.cond (.tmp 85)
(.ops [ o_m 87 7, o_m 88 0, o_m 89 7, o_p 90 (.nilc (.tmp 89)), o_p 91 (.fieldAddr 1 (.tmp 90)), o_l 92 91, o_e 93 (.row 3 2 [(.int .i64 (0)), (.int .i64 (0))] [(0, 1, (.const (.int .i64 (-1)))), (1, 1, (.tmp 92))]), o_e 94 (.call 41 [(.tmp 88), (.tmp 93)]), o_p 95 (.nilc (.tmp 87)), o_p 96 (.fieldAddr 0 (.tmp 95)),
.op ⟨none, (.eff (.store 1 (.tmp 96) (.tmp 94))), none⟩])
(.seq (.ops [ o_p 98 (.bin .eql (.tmp 84) (.const (.int .i64 (1)))), o_m 97 98])
(.cond (.tmp 97)
(.draw false
(.take (t_m 99 7)
(.take (t_m 100 0)
(.take (t_m 101 7)
(.take (t_p 102 (.nilc (.tmp 101)))
(.take (t_p 103 (.fieldAddr 0 (.tmp 102)))
(.take (t_p 105 (.fieldAddr 0 (.tmp 3)))
(.only false (t_l 104 103)
(.only false (t_l 106 105)
(.take (t_p 107 (.len (.tmp 106)))
(.only true (t_e 108 (.row 3 2 [(.int .i64 (0)), (.int .i64 (0))] [(0, 1, (.tmp 104)), (1, 1, (.tmp 107))]))
(.only true (t_e 109 (.call 41 [(.tmp 100), (.tmp 108)]))
(.take (t_p 110 (.nilc (.tmp 99)))
(.take (t_p 111 (.fieldAddr 1 (.tmp 110)))
(.only true ⟨none, (.eff (.store 1 (.tmp 111) (.tmp 109))), none⟩
(.done))))))))))))))))
(.seq (.ops [ o_p 113 (.bin .eql (.tmp 84) (.const (.int .i64 (2)))), o_m 112 113])
(.cond (.tmp 112)
(.ops [ o_m 114 7, o_m 115 0, o_e 116 (.row 3 3 [(.int .i64 (0)), (.int .i64 (0)), (.int .i64 (0))] [(0, 1, (.const (.int .i64 (0)))), (1, 1, (.const (.int .i64 (60)))), (2, 1, (.const (.int .i64 (61))))]), o_e 117 (.call 41 [(.tmp 115), (.tmp 116)]), o_p 118 (.nilc (.tmp 114)), o_p 119 (.fieldAddr 2 (.tmp 118)),
.op ⟨none, (.eff (.store 1 (.tmp 119) (.tmp 117))), none⟩])
(.seq (.ops [ o_p 121 (.bin .eql (.tmp 84) (.const (.int .i64 (3)))), o_m 120 121])
(.cond (.tmp 120)
(.draw true
(.take (t_p 122 (.fieldAddr 1 (.tmp 3)))
(.take (t_p 124 (.fieldAddr 1 (.tmp 3)))
(.only false (t_l 125 124)
(.take (t_p 126 (.idx 3 (.tmp 125) (.const (.int .i64 (0)))))
(.only false ⟨(some 127), (.load (some 3) (.tmp 126)), none⟩
(.take (t_l 123 122)
(.only false (t_e 128 (.row 81 1 [(.int .i64 (0)), (.int .i64 (0)), (.int .i64 (0))] [(0, 3, (.tmp 127))]))
(.only true (t_e 129 (.app 81 3 24 (.tmp 123) (.tmp 128)))
(.take (t_p 130 (.fieldAddr 1 (.tmp 3)))
(.only true ⟨none, (.eff (.store 1 (.tmp 130) (.tmp 129))), none⟩
(.done))))))))))))
(.skip))))))))))))
(.skip))))
(.seq (.ops [ o_p 132 (.bin .eql (.tmp 22) (.const (.int .i64 (7)))), o_m 131 132])
(.cond (.tmp 131)
(.seq (.ops [ o_e 133 (.mk 95 3 24 [(.int .i64 (0)), (.int .i64 (0)), (.int .i64 (0))] (.const (.int .i64 (10))) (.const (.int .i64 (10)))), o_p 134 (.build [(.slice none 0 0), (.slice none 0 0)] [(0, 1, (.tmp 133))]),
.op ⟨none, (.eff (.store 2 (.tmp 3) (.tmp 134))), none⟩])
(.seq (.ops [ o_m 135 0, o_e 136 (.call 76 [(.tmp 135), (.const (.int .i64 (2)))]), o_p 137 (.bin .add (.const (.int .i64 (40))) (.tmp 136)), o_m 8 137])
(.seq (.ops [ o_p 9 (.mv (.const (.int .i64 (0))))])
(.block 4 (.loop (.seq (.seq (.ops [ o_m 138 9, o_p 139 (.bin .lss (.tmp 138) (.const (.int .i64 (10))))])
(.cond (.tmp 139)
(.skip)
(.exit 4)))
(.seq (.block 5 (.seq (.ops [ o_m 142 9, o_p 143 (.bin .add (.tmp 142) (.const (.int .i64 (1)))), o_m 10 143])
(.block 6 (.loop (.seq (.seq (.ops [ o_m 144 10, o_p 145 (.bin .lss (.tmp 144) (.const (.int .i64 (10)))), o_m 146 145,
.split 146,
.op ⟨(some 147), (.pure (.fieldAddr 1 (.tmp 3))), (some (146, true))⟩,
.op ⟨(some 148), (.load none (.tmp 147)), (some (146, true))⟩,
.op ⟨(some 149), (.pure (.len (.tmp 148))), (some (146, true))⟩,
.op ⟨(some 150), (.pure (.mv (.tmp 8))), (some (146, true))⟩,
.op ⟨(some 151), (.pure (.bin .lss (.tmp 149) (.tmp 150))), (some (146, true))⟩, o_p 152 (.pick (.tmp 146) (.tmp 151) (.const (.bool false)))])
(.cond (.tmp 152)
(.skip)
(.exit 6)))
(.seq (.block 7 (.ops [ o_p 155 (.fieldAddr 1 (.tmp 3)), o_l 156 155, o_m 157 9, o_m 158 10, o_p 159 (.build [(.int .i64 (0)), (.int .i64 (0)), (.int .i64 (0))] [(0, 1, (.tmp 157)), (1, 1, (.tmp 158)), (2, 1, (.const (.int .i64 (5))))]), o_e 160 (.row 81 1 [(.int .i64 (0)), (.int .i64 (0)), (.int .i64 (0))] [(0, 3, (.tmp 159))]), o_e 161 (.app 81 3 24 (.tmp 156) (.tmp 160)), o_p 162 (.fieldAddr 1 (.tmp 3)),
.op ⟨none, (.eff (.store 1 (.tmp 162) (.tmp 161))), none⟩]))
(.ops [ o_m 153 10, o_p 154 (.bin .add (.tmp 153) (.const (.int .i64 (1)))), o_m 10 154])))))))
(.ops [ o_m 140 9, o_p 141 (.bin .add (.tmp 140) (.const (.int .i64 (1)))), o_m 9 141]))))))))
(.skip)))))))))))))))))
(.seq (.ops [
.op ⟨(some 163), (.load (some 2) (.tmp 3)), none⟩,
.op ⟨none, (.eff (.store 2 (.tmp 2) (.tmp 163))), none⟩])
(.ret))))),
[.cell 2 (some 2)]⟩
theorem r_spec_l1Cur_anyNet : resFun Try.prog f_spec_l1Cur_anyNet = some c_spec_l1Cur_anyNet := by kernel_rfl

/- (*loop.example/g00940/spec.l1Cur).fog -/
abbrev f_spec_l1Cur_fog : Nat := 75
def c_spec_l1Cur_fog : MFun := ⟨128, .seq (.ops [ o_e 3 (.box 27 (.tmp 1)), o_p 4 (.mv (.const (.slice none 0 0)))])
(.seq (.ops [ o_p 5 (.mv (.const (.slice none 0 0)))])
(.seq (.ops [ o_m 13 0, o_e 14 (.call 76 [(.tmp 13), (.const (.int .i64 (4)))]), o_m 6 14])
(.seq (.seq (.ops [ o_p 15 (.fieldAddr 1 (.tmp 3)), o_l 16 15, o_p 17 (.len (.tmp 16)), o_p 18 (.mv (.const (.int .i64 (0))))])
(.block 0 (.loop (.seq (.ops [ o_p 19 (.bin .lss (.tmp 18) (.tmp 17))])
(.seq (.cond (.tmp 19)
(.skip)
(.exit 0))
(.seq (.block 1 (.seq (.ops [ o_m 20 18, o_m 7 20])
(.seq (.ops [ o_m 21 0, o_e 22 (.call 76 [(.tmp 21), (.const (.int .i64 (40)))]), o_m 8 22])
(.seq (.ops [ o_m 23 0, o_m 24 6, o_p 25 (.bin .add (.tmp 24) (.const (.int .i64 (1)))), o_e 26 (.call 76 [(.tmp 23), (.tmp 25)]), o_m 9 26])
(.block 2 (.loop (.seq (.seq (.ops [ o_m 27 9, o_p 28 (.bin .gtr (.tmp 27) (.const (.int .i64 (0))))])
(.cond (.tmp 28)
(.skip)
(.exit 2)))
(.seq (.block 3 (.seq (.ops [ o_m 31 7, o_m 32 8, o_m 33 8, o_p 34 (.bin .add (.tmp 33) (.const (.int .i64 (1)))), o_m 35 0, o_e 36 (.call 76 [(.tmp 35), (.const (.int .i64 (30)))]), o_p 37 (.bin .add (.tmp 34) (.tmp 36)), o_p 38 (.build [(.int .i64 (0)), (.int .i64 (0)), (.int .i64 (0))] [(0, 1, (.tmp 31)), (1, 1, (.tmp 32)), (2, 1, (.tmp 37))]), o_e 10 (.new 57 [(.int .i64 (0)), (.int .i64 (0)), (.int .i64 (0))]),
.op ⟨none, (.eff (.store 3 (.tmp 10) (.tmp 38))), none⟩])
(.seq (.ops [ o_m 39 5,
.op ⟨(some 40), (.load (some 3) (.tmp 10)), none⟩, o_e 41 (.row 57 1 [(.int .i64 (0)), (.int .i64 (0)), (.int .i64 (0))] [(0, 3, (.tmp 40))]), o_e 42 (.app 57 3 24 (.tmp 39) (.tmp 41)), o_m 5 42])
(.draw true
(.take (t_p 43 (.fieldAddr 2 (.tmp 10)))
(.take (t_m 46 0)
(.take (t_l 44 43)
(.take (t_p 45 (.bin .add (.tmp 44) (.const (.int .i64 (1)))))
(.only false (t_e 47 (.call 76 [(.tmp 46), (.const (.int .i64 (30)))]))
(.take (t_p 48 (.bin .add (.tmp 45) (.tmp 47)))
(.take (t_m 8 48)
(.done))))))))))))
(.ops [ o_m 29 9, o_p 30 (.bin .sub (.tmp 29) (.const (.int .i64 (1)))), o_m 9 30])))))))))
(.ops [ o_p 49 (.bin .add (.tmp 18) (.const (.int .i64 (1)))), o_m 18 49])))))))
(.seq (.seq (.ops [ o_m 50 5, o_p 51 (.len (.tmp 50)), o_p 52 (.bin .gtr (.tmp 51) (.const (.int .i64 (60))))])
(.cond (.tmp 52)
(.ops [ o_m 53 5, o_p 54 (.slc 3 (.tmp 53) none (some (.const (.int .i64 (60)))) none), o_m 5 54])
(.skip)))
(.seq (.seq (.ops [ o_p 55 (.fieldAddr 1 (.tmp 3)), o_l 56 55, o_p 57 (.len (.tmp 56)), o_p 58 (.bin .gtr (.tmp 57) (.const (.int .i64 (0)))), o_m 59 58,
.split 59,
.op ⟨(some 60), (.pure (.mv (.tmp 0))), (some (59, true))⟩,
.op ⟨(some 61), (.eff (.call 73 [(.tmp 60), (.const (.int .i64 (24)))])), (some (59, true))⟩, o_p 62 (.pick (.tmp 59) (.tmp 61) (.const (.bool false)))])
(.cond (.tmp 62)
(.seq (.ops [ o_p 5 (.mv (.const (.slice none 0 0)))])
(.seq (.ops [ o_m 63 0, o_e 64 (.call 76 [(.tmp 63), (.const (.int .i64 (2)))]), o_p 65 (.bin .add (.const (.int .i64 (60))) (.tmp 64)), o_m 11 65])
(.block 4 (.loop (.seq (.seq (.ops [ o_m 66 5, o_p 67 (.len (.tmp 66)), o_m 68 11, o_p 69 (.bin .lss (.tmp 67) (.tmp 68))])
(.cond (.tmp 69)
(.skip)
(.exit 4)))
(.block 5 (.ops [ o_m 70 5, o_m 71 5, o_p 72 (.len (.tmp 71)), o_p 73 (.bin .mul (.const (.int .i64 (4))) (.tmp 72)), o_m 74 5, o_p 75 (.len (.tmp 74)), o_p 76 (.bin .mul (.const (.int .i64 (4))) (.tmp 75)), o_p 77 (.bin .add (.tmp 76) (.const (.int .i64 (2)))), o_p 78 (.build [(.int .i64 (0)), (.int .i64 (0)), (.int .i64 (0))] [(0, 1, (.const (.int .i64 (0)))), (1, 1, (.tmp 73)), (2, 1, (.tmp 77))]), o_e 79 (.row 57 1 [(.int .i64 (0)), (.int .i64 (0)), (.int .i64 (0))] [(0, 3, (.tmp 78))]), o_e 80 (.app 57 3 24 (.tmp 70) (.tmp 79)), o_m 5 80])))))))
(.skip)))
(.seq (.seq (.ops [ o_m 81 5, o_p 82 (.len (.tmp 81)), o_p 83 (.bin .gtr (.tmp 82) (.const (.int .i64 (0))))])
(.cond (.tmp 83)
(.seq (.ops [ o_m 84 5, o_m 85 0, o_m 86 5, o_p 87 (.len (.tmp 86)), o_e 88 (.call 76 [(.tmp 85), (.tmp 87)]), o_p 89 (.idx 3 (.tmp 84) (.tmp 88)), o_m 12 89])
(.seq (.ops [ o_m 90 0, o_e 91 (.call 76 [(.tmp 90), (.const (.int .i64 (30)))])])
(.block 6 (.seq (.ops [ o_p 93 (.bin .eql (.tmp 91) (.const (.int .i64 (0)))), o_m 92 93])
(.cond (.tmp 92)
(.ops [ o_m 94 12, o_m 95 0, o_p 96 (.fieldAddr 1 (.tmp 3)), o_l 97 96, o_p 98 (.len (.tmp 97)), o_e 99 (.row 3 2 [(.int .i64 (0)), (.int .i64 (0))] [(0, 1, (.const (.int .i64 (-1)))), (1, 1, (.tmp 98))]), o_e 100 (.call 41 [(.tmp 95), (.tmp 99)]), o_p 101 (.nilc (.tmp 94)), o_p 102 (.fieldAddr 0 (.tmp 101)),
.op ⟨none, (.eff (.store 1 (.tmp 102) (.tmp 100))), none⟩])
(.seq (.ops [ o_p 104 (.bin .eql (.tmp 91) (.const (.int .i64 (1)))), o_m 103 104])
(.cond (.tmp 103)
(.ops [ o_m 105 12, o_m 106 0, o_m 107 12, o_p 108 (.nilc (.tmp 107)), o_p 109 (.fieldAddr 2 (.tmp 108)), o_l 110 109, o_e 111 (.row 3 2 [(.int .i64 (0)), (.int .i64 (0))] [(0, 1, (.const (.int .i64 (-1)))), (1, 1, (.tmp 110))]), o_e 112 (.call 41 [(.tmp 106), (.tmp 111)]), o_p 113 (.nilc (.tmp 105)), o_p 114 (.fieldAddr 1 (.tmp 113)),
.op ⟨none, (.eff (.store 1 (.tmp 114) (.tmp 112))), none⟩])
(.seq (.ops [ o_p 116 (.bin .eql (.tmp 91) (.const (.int .i64 (2)))), o_m 115 116])
(.cond (.tmp 115)
(.ops [ o_m 117 12, o_m 118 0, o_m 119 12, o_p 120 (.nilc (.tmp 119)), o_p 121 (.fieldAddr 1 (.tmp 120)), o_l 122 121, o_e 123 (.row 3 3 [(.int .i64 (0)), (.int .i64 (0)), (.int .i64 (0))] [(0, 1, (.tmp 122)), (1, 1, (.const (.int .i64 (10000)))), (2, 1, (.const (.int .i64 (10001))))]), o_e 124 (.call 41 [(.tmp 118), (.tmp 123)]), o_p 125 (.nilc (.tmp 117)), o_p 126 (.fieldAddr 2 (.tmp 125)),
.op ⟨none, (.eff (.store 1 (.tmp 126) (.tmp 124))), none⟩])
(.skip))))))))))
(.skip)))
(.seq (.ops [ o_m 127 5, o_m 4 127])
(.ret)))))))),
[.tmp 4]⟩
theorem r_spec_l1Cur_fog : resFun Try.prog f_spec_l1Cur_fog = some c_spec_l1Cur_fog := by kernel_rfl

/- (*loop.example/g00940/spec.l1Cur).pick -/
abbrev f_spec_l1Cur_pick : Nat := 76
def c_spec_l1Cur_pick : MFun := ⟨20, .seq (.ops [ o_p 4 (.mv (.const (.int .i64 (0))))])
(.seq (.seq (.ops [ o_m 6 1, o_p 7 (.bin .leq (.tmp 6) (.const (.int .i64 (1))))])
(.cond (.tmp 7)
(.seq (.ops [ o_p 4 (.mv (.const (.int .i64 (0))))])
(.ret))
(.skip)))
(.seq (.ops [ o_m 8 0, o_e 9 (.call 90 [(.tmp 8)]), o_m 5 9])
(.seq (.seq (.ops [ o_m 10 1, o_p 11 (.bin .gtr (.tmp 10) (.const (.int .i64 (200))))])
(.cond (.tmp 11)
(.ops [ o_m 12 5, o_p 13 (.bin .mul (.tmp 12) (.const (.int .i64 (256)))), o_m 14 0, o_e 15 (.call 90 [(.tmp 14)]), o_p 16 (.bin .add (.tmp 13) (.tmp 15)), o_m 5 16])
(.skip)))
(.seq (.ops [ o_m 17 5, o_m 18 1, o_p 19 (.bin .rem (.tmp 17) (.tmp 18)), o_m 4 19])
(.ret))))),
[.tmp 4]⟩
theorem r_spec_l1Cur_pick : resFun Try.prog f_spec_l1Cur_pick = some c_spec_l1Cur_pick := by kernel_rfl

/- loop.example/g00940/impl.isLink -/
abbrev f_impl_isLink : Nat := 77
def c_impl_isLink : MFun := ⟨15, .seq (.ops [ o_e 2 (.box 27 (.tmp 0)), o_p 4 (.mv (.const (.bool false)))])
(.seq (.ops [
.op ⟨(some 5), (.load (some 2) (.tmp 2)), none⟩, o_e 6 (.call 49 [(.tmp 5)]), o_m 7 6,
.split 7,
.op ⟨(some 8), (.pure (.mv (.tmp 1))), (some (7, true))⟩,
.op ⟨(some 9), (.pure (.fieldAddr 1 (.tmp 2))), (some (7, true))⟩,
.op ⟨(some 10), (.load none (.tmp 9)), (some (7, true))⟩,
.op ⟨(some 11), (.pure (.len (.tmp 10))), (some (7, true))⟩,
.op ⟨(some 12), (.pure (.bin .sub (.tmp 11) (.const (.int .i64 (1))))), (some (7, true))⟩,
.op ⟨(some 13), (.eff (.call 43 [(.tmp 8), (.const (.int .i64 (0))), (.tmp 12)])), (some (7, true))⟩, o_p 14 (.pick (.tmp 7) (.tmp 13) (.const (.bool false))), o_m 4 14])
(.ret)),
[.tmp 4]⟩
theorem r_impl_isLink : resFun Try.prog f_impl_isLink = some c_impl_isLink := by kernel_rfl

/- loop.example/g00940/impl.compareLinks -/
abbrev f_impl_compareLinks : Nat := 78
def c_impl_compareLinks : MFun := ⟨17, .seq (.ops [ o_e 2 (.box 81 (.tmp 0)), o_e 3 (.box 81 (.tmp 1)), o_p 4 (.mv (.const (.int .i64 (0))))])
(.seq (.draw true
(.take (t_p 5 (.fieldAddr 0 (.tmp 2)))
(.take (t_p 7 (.fieldAddr 0 (.tmp 3)))
(.take (t_p 10 (.fieldAddr 1 (.tmp 2)))
(.take (t_p 12 (.fieldAddr 1 (.tmp 3)))
(.only false (t_l 6 5)
(.only false (t_l 8 7)
(.take (t_l 11 10)
(.take (t_l 13 12)
(.only false (t_e 9 (.call 89 [(.tmp 6), (.tmp 8)]))
(.only true (t_e 14 (.call 89 [(.tmp 11), (.tmp 13)]))
(.only true (t_e 15 (.row 3 2 [(.int .i64 (0)), (.int .i64 (0))] [(0, 1, (.tmp 9)), (1, 1, (.tmp 14))]))
(.only true (t_e 16 (.call 88 [(.tmp 15)]))
(.take (t_m 4 16)
(.done)))))))))))))))
(.ret)),
[.tmp 4]⟩
theorem r_impl_compareLinks : resFun Try.prog f_impl_compareLinks = some c_impl_compareLinks := by kernel_rfl

/- slices.ContainsFunc[[]loop.example/g00940/impl.Fog,loop.example/g00940/impl.Fog] -/
abbrev f_slices_ContainsFunc_Limpl_Fog_impl_Fog : Nat := 79
def c_slices_ContainsFunc_Limpl_Fog_impl_Fog : MFun := ⟨9, .seq (.ops [ o_p 4 (.mv (.const (.bool false)))])
(.seq (.ops [ o_m 5 0, o_m 6 1, o_e 7 (.call 91 [(.tmp 5), (.tmp 6)]), o_p 8 (.bin .geq (.tmp 7) (.const (.int .i64 (0)))), o_m 4 8])
(.ret)),
[.tmp 4]⟩
theorem r_slices_ContainsFunc_Limpl_Fog_impl_Fog : resFun Try.prog f_slices_ContainsFunc_Limpl_Fog_impl_Fog = some c_slices_ContainsFunc_Limpl_Fog_impl_Fog := by kernel_rfl

/- loop.example/g00940/impl.isClear$1 -/
abbrev f_impl_isClear_1 : Nat := 80
def c_impl_isClear_1 : MFun := ⟨21, .seq (.ops [ o_e 3 (.box 57 (.tmp 0)), o_p 4 (.mv (.const (.bool false)))])
(.seq (.ops [ o_p 5 (.fieldAddr 0 (.tmp 3)), o_l 6 5, o_l 7 1, o_p 8 (.bin .eql (.tmp 6) (.tmp 7)), o_m 9 8,
.split 9,
.op ⟨(some 10), (.pure (.fieldAddr 1 (.tmp 3))), (some (9, true))⟩,
.op ⟨(some 11), (.load none (.tmp 10)), (some (9, true))⟩,
.op ⟨(some 12), (.load none (.tmp 2)), (some (9, true))⟩,
.op ⟨(some 13), (.pure (.bin .leq (.tmp 11) (.tmp 12))), (some (9, true))⟩, o_p 14 (.pick (.tmp 9) (.tmp 13) (.const (.bool false))), o_m 15 14,
.split 15,
.op ⟨(some 16), (.load none (.tmp 2)), (some (15, true))⟩,
.op ⟨(some 17), (.pure (.fieldAddr 2 (.tmp 3))), (some (15, true))⟩,
.op ⟨(some 18), (.load none (.tmp 17)), (some (15, true))⟩,
.op ⟨(some 19), (.pure (.bin .lss (.tmp 16) (.tmp 18))), (some (15, true))⟩, o_p 20 (.pick (.tmp 15) (.tmp 19) (.const (.bool false))), o_m 4 20])
(.ret)),
[.tmp 4]⟩
theorem r_impl_isClear_1 : resFun Try.prog f_impl_isClear_1 = some c_impl_isClear_1 := by kernel_rfl

/- loop.example/g00940/spec.neBefore -/
abbrev f_spec_neBefore : Nat := 81
def c_spec_neBefore : MFun := ⟨24, .seq (.ops [ o_e 2 (.box 81 (.tmp 0)), o_e 3 (.box 81 (.tmp 1)), o_p 4 (.mv (.const (.bool false)))])
(.seq (.ops [ o_p 5 (.fieldAddr 0 (.tmp 2)), o_l 6 5, o_p 7 (.fieldAddr 0 (.tmp 3)), o_l 8 7, o_p 9 (.bin .lss (.tmp 6) (.tmp 8)), o_m 10 9,
.split 10,
.op ⟨(some 11), (.pure (.fieldAddr 0 (.tmp 2))), (some (10, false))⟩,
.op ⟨(some 12), (.load none (.tmp 11)), (some (10, false))⟩,
.op ⟨(some 13), (.pure (.fieldAddr 0 (.tmp 3))), (some (10, false))⟩,
.op ⟨(some 14), (.load none (.tmp 13)), (some (10, false))⟩,
.op ⟨(some 15), (.pure (.bin .eql (.tmp 12) (.tmp 14))), (some (10, false))⟩,
.op ⟨(some 16), (.pure (.mv (.tmp 15))), (some (10, false))⟩,
.split 16,
.op ⟨(some 17), (.pure (.fieldAddr 1 (.tmp 2))), (some (16, true))⟩,
.op ⟨(some 18), (.load none (.tmp 17)), (some (16, true))⟩,
.op ⟨(some 19), (.pure (.fieldAddr 1 (.tmp 3))), (some (16, true))⟩,
.op ⟨(some 20), (.load none (.tmp 19)), (some (16, true))⟩,
.op ⟨(some 21), (.pure (.bin .lss (.tmp 18) (.tmp 20))), (some (16, true))⟩,
.op ⟨(some 22), (.pure (.pick (.tmp 16) (.tmp 21) (.const (.bool false)))), (some (10, false))⟩, o_p 23 (.pick (.tmp 10) (.const (.bool true)) (.tmp 22)), o_m 4 23])
(.ret)),
[.tmp 4]⟩
theorem r_spec_neBefore : resFun Try.prog f_spec_neBefore = some c_spec_neBefore := by kernel_rfl

/- loop.example/g00940/spec.neNext -/
abbrev f_spec_neNext : Nat := 82
def c_spec_neNext : MFun := ⟨24, .seq (.ops [ o_e 2 (.box 27 (.tmp 0)), o_p 4 (.mv (.const (.slice none 0 0)))])
(.seq (.ops [ o_p 5 (.mv (.const (.slice none 0 0)))])
(.seq (.seq (.ops [ o_p 7 (.fieldAddr 0 (.tmp 2)), o_l 8 7, o_p 9 (.len (.tmp 8)), o_p 10 (.mv (.const (.int .i64 (0))))])
(.block 0 (.loop (.seq (.ops [ o_p 11 (.bin .lss (.tmp 10) (.tmp 9))])
(.seq (.cond (.tmp 11)
(.skip)
(.exit 0))
(.seq (.block 1 (.seq (.ops [ o_m 12 10, o_m 6 12])
(.seq (.ops [
.op ⟨(some 13), (.load (some 2) (.tmp 2)), none⟩, o_m 14 1, o_m 15 6, o_e 16 (.call 92 [(.tmp 13), (.tmp 14), (.tmp 15)]), o_p 17 (.bin .geq (.tmp 16) (.const (.int .i64 (0))))])
(.cond (.tmp 17)
(.ops [ o_m 18 5, o_m 19 6, o_e 20 (.row 3 1 [(.int .i64 (0))] [(0, 1, (.tmp 19))]), o_e 21 (.app 3 1 8 (.tmp 18) (.tmp 20)), o_m 5 21])
(.skip)))))
(.ops [ o_p 22 (.bin .add (.tmp 10) (.const (.int .i64 (1)))), o_m 10 22])))))))
(.seq (.ops [ o_m 23 5, o_m 4 23])
(.ret)))),
[.tmp 4]⟩
theorem r_spec_neNext : resFun Try.prog f_spec_neNext = some c_spec_neNext := by kernel_rfl

/- loop.example/g00940/spec.l1Has -/
abbrev f_spec_l1Has : Nat := 83
def c_spec_l1Has : MFun := ⟨17, .seq (.ops [ o_p 4 (.mv (.const (.bool false)))])
(.seq (.seq (.ops [ o_m 7 0, o_p 8 (.len (.tmp 7)), o_p 9 (.mv (.const (.int .i64 (0))))])
(.block 0 (.loop (.seq (.ops [ o_p 10 (.bin .lss (.tmp 9) (.tmp 8))])
(.seq (.cond (.tmp 10)
(.skip)
(.exit 0))
(.seq (.block 1 (.seq (.ops [ o_p 11 (.idx 1 (.tmp 7) (.tmp 9)), o_l 12 11, o_m 6 12])
(.seq (.ops [ o_m 13 6, o_m 14 1, o_p 15 (.bin .eql (.tmp 13) (.tmp 14))])
(.cond (.tmp 15)
(.seq (.ops [ o_p 4 (.mv (.const (.bool true)))])
(.ret))
(.skip)))))
(.ops [ o_p 16 (.bin .add (.tmp 9) (.const (.int .i64 (1)))), o_m 9 16])))))))
(.seq (.ops [ o_p 4 (.mv (.const (.bool false)))])
(.ret))),
[.tmp 4]⟩
theorem r_spec_l1Has : resFun Try.prog f_spec_l1Has = some c_spec_l1Has := by kernel_rfl

/- loop.example/g00940/spec.l1Put -/
abbrev f_spec_l1Put : Nat := 84
def c_spec_l1Put : MFun := ⟨48, .seq (.ops [ o_p 4 (.mv (.const (.slice none 0 0)))])
(.seq (.ops [ o_p 5 (.mv (.const (.int .i64 (0))))])
(.seq (.block 0 (.loop (.seq (.seq (.ops [ o_m 7 5, o_m 8 0, o_p 9 (.len (.tmp 8)), o_p 10 (.bin .lss (.tmp 7) (.tmp 9)), o_m 11 10,
.split 11,
.op ⟨(some 12), (.pure (.mv (.tmp 0))), (some (11, true))⟩,
.op ⟨(some 13), (.pure (.mv (.tmp 5))), (some (11, true))⟩,
.op ⟨(some 14), (.pure (.idx 1 (.tmp 12) (.tmp 13))), (some (11, true))⟩,
.op ⟨(some 15), (.load none (.tmp 14)), (some (11, true))⟩,
.op ⟨(some 16), (.pure (.mv (.tmp 1))), (some (11, true))⟩,
.op ⟨(some 17), (.pure (.bin .lss (.tmp 15) (.tmp 16))), (some (11, true))⟩, o_p 18 (.pick (.tmp 11) (.tmp 17) (.const (.bool false)))])
(.cond (.tmp 18)
(.skip)
(.exit 0)))
(.block 1 (.ops [ o_m 19 5, o_p 20 (.bin .add (.tmp 19) (.const (.int .i64 (1)))), o_m 5 20])))))
(.seq (.seq (.ops [ o_m 21 5, o_m 22 0, o_p 23 (.len (.tmp 22)), o_p 24 (.bin .lss (.tmp 21) (.tmp 23)), o_m 25 24,
.split 25,
.op ⟨(some 26), (.pure (.mv (.tmp 0))), (some (25, true))⟩,
.op ⟨(some 27), (.pure (.mv (.tmp 5))), (some (25, true))⟩,
.op ⟨(some 28), (.pure (.idx 1 (.tmp 26) (.tmp 27))), (some (25, true))⟩,
.op ⟨(some 29), (.load none (.tmp 28)), (some (25, true))⟩,
.op ⟨(some 30), (.pure (.mv (.tmp 1))), (some (25, true))⟩,
.op ⟨(some 31), (.pure (.bin .eql (.tmp 29) (.tmp 30))), (some (25, true))⟩, o_p 32 (.pick (.tmp 25) (.tmp 31) (.const (.bool false)))])
(.cond (.tmp 32)
(.seq (.ops [ o_m 33 0, o_m 4 33])
(.ret))
(.skip)))
(.seq (.ops [ o_e 34 (.row 3 0 [] []), o_m 35 0, o_m 36 5, o_p 37 (.slc 1 (.tmp 35) none (some (.tmp 36)) none), o_e 38 (.app 3 1 8 (.tmp 34) (.tmp 37)), o_m 6 38])
(.seq (.ops [ o_m 39 6, o_m 40 1, o_e 41 (.row 3 1 [(.int .i64 (0))] [(0, 1, (.tmp 40))]), o_e 42 (.app 3 1 8 (.tmp 39) (.tmp 41)), o_m 6 42])
(.seq (.ops [ o_m 43 6, o_m 44 0, o_m 45 5, o_p 46 (.slc 1 (.tmp 44) (some (.tmp 45)) none none), o_e 47 (.app 3 1 8 (.tmp 43) (.tmp 46)), o_m 4 47])
(.ret))))))),
[.tmp 4]⟩
theorem r_spec_l1Put : resFun Try.prog f_spec_l1Put = some c_spec_l1Put := by kernel_rfl
end Go.Proofs.Ytloicopmcagikaa

