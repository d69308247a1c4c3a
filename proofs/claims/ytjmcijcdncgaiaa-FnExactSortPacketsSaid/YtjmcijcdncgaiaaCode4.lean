/- The code of this seat's functions, resolved, written by a program of mine; each is held against the given program by the kernel. Condition: none. -/
import Derived.Test.YtjmcijcdncgaiaaProg
import Derived.Test.YtjmcijcdncgaiaaBase9
import Derived.KernelRfl
namespace Go.Proofs.Ytjmcijcdncgaiaa
open Go.Vc

/- slices.insertionSortOrdered[int] -/
abbrev f_slices_insertionSortOrdered_int : Nat := 105
def c_slices_insertionSortOrdered_int : MFun := ⟨49, .seq (.ops [
.op ⟨(some 8), (.pure (.mv (.tmp 1))), none⟩,
.op ⟨(some 9), (.pure (.bin .add (.tmp 8) (.const (.int .i64 (1))))), none⟩,
.op ⟨(some 6), (.pure (.mv (.tmp 9))), none⟩])
(.block 0 (.loop (.seq (.seq (.ops [
.op ⟨(some 10), (.pure (.mv (.tmp 6))), none⟩,
.op ⟨(some 11), (.pure (.mv (.tmp 2))), none⟩,
.op ⟨(some 12), (.pure (.bin .lss (.tmp 10) (.tmp 11))), none⟩])
(.cond (.tmp 12)
(.skip)
(.exit 0)))
(.seq (.block 1 (.seq (.ops [
.op ⟨(some 15), (.pure (.mv (.tmp 6))), none⟩,
.op ⟨(some 7), (.pure (.mv (.tmp 15))), none⟩])
(.block 2 (.loop (.seq (.seq (.draw false
(.take ⟨(some 16), (.pure (.mv (.tmp 7))), none⟩
(.take ⟨(some 17), (.pure (.mv (.tmp 1))), none⟩
(.take ⟨(some 18), (.pure (.bin .gtr (.tmp 16) (.tmp 17))), none⟩
(.take ⟨(some 19), (.pure (.mv (.tmp 18))), none⟩
(.split 19
(.take ⟨(some 20), (.pure (.mv (.tmp 0))), (some (19, true))⟩
(.take ⟨(some 21), (.pure (.mv (.tmp 7))), (some (19, true))⟩
(.take ⟨(some 22), (.pure (.idx 1 (.tmp 20) (.tmp 21))), (some (19, true))⟩
(.take ⟨(some 24), (.pure (.mv (.tmp 0))), (some (19, true))⟩
(.take ⟨(some 25), (.pure (.mv (.tmp 7))), (some (19, true))⟩
(.take ⟨(some 26), (.pure (.bin .sub (.tmp 25) (.const (.int .i64 (1))))), (some (19, true))⟩
(.take ⟨(some 27), (.pure (.idx 1 (.tmp 24) (.tmp 26))), (some (19, true))⟩
(.only false ⟨(some 23), (.load none (.tmp 22)), (some (19, true))⟩
(.only false ⟨(some 28), (.load none (.tmp 27)), (some (19, true))⟩
(.only true ⟨(some 29), (.eff (.call 111 [(.tmp 23), (.tmp 28)])), (some (19, true))⟩
(.take ⟨(some 30), (.pure (.pick (.tmp 19) (.tmp 29) (.const (.bool false)))), none⟩
(.done))))))))))))))))))
(.cond (.tmp 30)
(.skip)
(.exit 2)))
(.seq (.block 3 (.draw false
(.take ⟨(some 33), (.pure (.mv (.tmp 0))), none⟩
(.take ⟨(some 34), (.pure (.mv (.tmp 7))), none⟩
(.take ⟨(some 35), (.pure (.mv (.tmp 0))), none⟩
(.take ⟨(some 36), (.pure (.mv (.tmp 7))), none⟩
(.take ⟨(some 37), (.pure (.bin .sub (.tmp 36) (.const (.int .i64 (1))))), none⟩
(.take ⟨(some 38), (.pure (.mv (.tmp 0))), none⟩
(.take ⟨(some 39), (.pure (.mv (.tmp 7))), none⟩
(.take ⟨(some 40), (.pure (.bin .sub (.tmp 39) (.const (.int .i64 (1))))), none⟩
(.take ⟨(some 41), (.pure (.idx 1 (.tmp 38) (.tmp 40))), none⟩
(.take ⟨(some 43), (.pure (.mv (.tmp 0))), none⟩
(.take ⟨(some 44), (.pure (.mv (.tmp 7))), none⟩
(.take ⟨(some 45), (.pure (.idx 1 (.tmp 43) (.tmp 44))), none⟩
(.only false ⟨(some 42), (.load none (.tmp 41)), none⟩
(.only false ⟨(some 46), (.load none (.tmp 45)), none⟩
(.take ⟨(some 47), (.pure (.idx 1 (.tmp 33) (.tmp 34))), none⟩
(.only true ⟨none, (.eff (.store 1 (.tmp 47) (.tmp 42))), none⟩
(.take ⟨(some 48), (.pure (.idx 1 (.tmp 35) (.tmp 37))), none⟩
(.only true ⟨none, (.eff (.store 1 (.tmp 48) (.tmp 46))), none⟩
(.done)))))))))))))))))))))
(.ops [
.op ⟨(some 31), (.pure (.mv (.tmp 7))), none⟩,
.op ⟨(some 32), (.pure (.bin .sub (.tmp 31) (.const (.int .i64 (1))))), none⟩,
.op ⟨(some 7), (.pure (.mv (.tmp 32))), none⟩])))))))
(.ops [
.op ⟨(some 13), (.pure (.mv (.tmp 6))), none⟩,
.op ⟨(some 14), (.pure (.bin .add (.tmp 13) (.const (.int .i64 (1))))), none⟩,
.op ⟨(some 6), (.pure (.mv (.tmp 14))), none⟩]))))),
[]⟩
theorem r_slices_insertionSortOrdered_int : resFun Try.prog f_slices_insertionSortOrdered_int = some c_slices_insertionSortOrdered_int := by kernel_rfl

/- slices.heapSortOrdered[int] -/
abbrev f_slices_heapSortOrdered_int : Nat := 106
def c_slices_heapSortOrdered_int : MFun := ⟨56, .seq (.ops [
.op ⟨(some 11), (.pure (.mv (.tmp 1))), none⟩,
.op ⟨(some 6), (.pure (.mv (.tmp 11))), none⟩])
(.seq (.ops [
.op ⟨(some 7), (.pure (.mv (.const (.int .i64 (0))))), none⟩])
(.seq (.ops [
.op ⟨(some 12), (.pure (.mv (.tmp 2))), none⟩,
.op ⟨(some 13), (.pure (.mv (.tmp 1))), none⟩,
.op ⟨(some 14), (.pure (.bin .sub (.tmp 12) (.tmp 13))), none⟩,
.op ⟨(some 8), (.pure (.mv (.tmp 14))), none⟩])
(.seq (.seq (.ops [
.op ⟨(some 15), (.pure (.mv (.tmp 8))), none⟩,
.op ⟨(some 16), (.pure (.bin .sub (.tmp 15) (.const (.int .i64 (1))))), none⟩,
.op ⟨(some 17), (.pure (.bin .quo (.tmp 16) (.const (.int .i64 (2))))), none⟩,
.op ⟨(some 9), (.pure (.mv (.tmp 17))), none⟩])
(.block 0 (.loop (.seq (.seq (.ops [
.op ⟨(some 18), (.pure (.mv (.tmp 9))), none⟩,
.op ⟨(some 19), (.pure (.bin .geq (.tmp 18) (.const (.int .i64 (0))))), none⟩])
(.cond (.tmp 19)
(.skip)
(.exit 0)))
(.seq (.block 1 (.ops [
.op ⟨(some 22), (.pure (.mv (.tmp 0))), none⟩,
.op ⟨(some 23), (.pure (.mv (.tmp 9))), none⟩,
.op ⟨(some 24), (.pure (.mv (.tmp 8))), none⟩,
.op ⟨(some 25), (.pure (.mv (.tmp 6))), none⟩,
.op ⟨(some 26), (.eff (.call 119 [(.tmp 22), (.tmp 23), (.tmp 24), (.tmp 25)])), none⟩]))
(.ops [
.op ⟨(some 20), (.pure (.mv (.tmp 9))), none⟩,
.op ⟨(some 21), (.pure (.bin .sub (.tmp 20) (.const (.int .i64 (1))))), none⟩,
.op ⟨(some 9), (.pure (.mv (.tmp 21))), none⟩]))))))
(.seq (.ops [
.op ⟨(some 27), (.pure (.mv (.tmp 8))), none⟩,
.op ⟨(some 28), (.pure (.bin .sub (.tmp 27) (.const (.int .i64 (1))))), none⟩,
.op ⟨(some 10), (.pure (.mv (.tmp 28))), none⟩])
(.block 2 (.loop (.seq (.seq (.ops [
.op ⟨(some 29), (.pure (.mv (.tmp 10))), none⟩,
.op ⟨(some 30), (.pure (.bin .geq (.tmp 29) (.const (.int .i64 (0))))), none⟩])
(.cond (.tmp 30)
(.skip)
(.exit 2)))
(.seq (.block 3 (.seq (.draw false
(.take ⟨(some 33), (.pure (.mv (.tmp 0))), none⟩
(.take ⟨(some 34), (.pure (.mv (.tmp 6))), none⟩
(.take ⟨(some 35), (.pure (.mv (.tmp 0))), none⟩
(.take ⟨(some 36), (.pure (.mv (.tmp 6))), none⟩
(.take ⟨(some 37), (.pure (.mv (.tmp 10))), none⟩
(.take ⟨(some 38), (.pure (.bin .add (.tmp 36) (.tmp 37))), none⟩
(.take ⟨(some 39), (.pure (.mv (.tmp 0))), none⟩
(.take ⟨(some 40), (.pure (.mv (.tmp 6))), none⟩
(.take ⟨(some 41), (.pure (.mv (.tmp 10))), none⟩
(.take ⟨(some 42), (.pure (.bin .add (.tmp 40) (.tmp 41))), none⟩
(.take ⟨(some 43), (.pure (.idx 1 (.tmp 39) (.tmp 42))), none⟩
(.take ⟨(some 45), (.pure (.mv (.tmp 0))), none⟩
(.take ⟨(some 46), (.pure (.mv (.tmp 6))), none⟩
(.take ⟨(some 47), (.pure (.idx 1 (.tmp 45) (.tmp 46))), none⟩
(.only false ⟨(some 44), (.load none (.tmp 43)), none⟩
(.only false ⟨(some 48), (.load none (.tmp 47)), none⟩
(.take ⟨(some 49), (.pure (.idx 1 (.tmp 33) (.tmp 34))), none⟩
(.only true ⟨none, (.eff (.store 1 (.tmp 49) (.tmp 44))), none⟩
(.take ⟨(some 50), (.pure (.idx 1 (.tmp 35) (.tmp 38))), none⟩
(.only true ⟨none, (.eff (.store 1 (.tmp 50) (.tmp 48))), none⟩
(.done))))))))))))))))))))))
(.ops [
.op ⟨(some 51), (.pure (.mv (.tmp 0))), none⟩,
.op ⟨(some 52), (.pure (.mv (.tmp 7))), none⟩,
.op ⟨(some 53), (.pure (.mv (.tmp 10))), none⟩,
.op ⟨(some 54), (.pure (.mv (.tmp 6))), none⟩,
.op ⟨(some 55), (.eff (.call 119 [(.tmp 51), (.tmp 52), (.tmp 53), (.tmp 54)])), none⟩])))
(.ops [
.op ⟨(some 31), (.pure (.mv (.tmp 10))), none⟩,
.op ⟨(some 32), (.pure (.bin .sub (.tmp 31) (.const (.int .i64 (1))))), none⟩,
.op ⟨(some 10), (.pure (.mv (.tmp 32))), none⟩]))))))))),
[]⟩
theorem r_slices_heapSortOrdered_int : resFun Try.prog f_slices_heapSortOrdered_int = some c_slices_heapSortOrdered_int := by kernel_rfl

/- slices.breakPatternsOrdered[int] -/
abbrev f_slices_breakPatternsOrdered_int : Nat := 107
def c_slices_breakPatternsOrdered_int : MFun := ⟨65, .seq (.ops [
.op ⟨(some 11), (.pure (.mv (.tmp 2))), none⟩,
.op ⟨(some 12), (.pure (.mv (.tmp 1))), none⟩,
.op ⟨(some 13), (.pure (.bin .sub (.tmp 11) (.tmp 12))), none⟩,
.op ⟨(some 6), (.pure (.mv (.tmp 13))), none⟩])
(.seq (.ops [
.op ⟨(some 14), (.pure (.mv (.tmp 6))), none⟩,
.op ⟨(some 15), (.pure (.bin .geq (.tmp 14) (.const (.int .i64 (8))))), none⟩])
(.cond (.tmp 15)
(.seq (.ops [
.op ⟨(some 16), (.pure (.mv (.tmp 6))), none⟩,
.op ⟨(some 17), (.pure (.conv .u64 (.tmp 16))), none⟩,
.op ⟨(some 7), (.eff (.new 101 [(.int .u64 (0))])), none⟩,
.op ⟨none, (.eff (.store 1 (.tmp 7) (.tmp 17))), none⟩])
(.seq (.ops [
.op ⟨(some 18), (.pure (.mv (.tmp 6))), none⟩,
.op ⟨(some 19), (.eff (.call 120 [(.tmp 18)])), none⟩,
.op ⟨(some 8), (.pure (.mv (.tmp 19))), none⟩])
(.seq (.ops [
.op ⟨(some 20), (.pure (.mv (.tmp 1))), none⟩,
.op ⟨(some 21), (.pure (.mv (.tmp 6))), none⟩,
.op ⟨(some 22), (.pure (.bin .quo (.tmp 21) (.const (.int .i64 (4))))), none⟩,
.op ⟨(some 23), (.pure (.bin .mul (.tmp 22) (.const (.int .i64 (2))))), none⟩,
.op ⟨(some 24), (.pure (.bin .add (.tmp 20) (.tmp 23))), none⟩,
.op ⟨(some 25), (.pure (.bin .sub (.tmp 24) (.const (.int .i64 (1))))), none⟩,
.op ⟨(some 9), (.pure (.mv (.tmp 25))), none⟩])
(.block 0 (.loop (.seq (.seq (.ops [
.op ⟨(some 26), (.pure (.mv (.tmp 9))), none⟩,
.op ⟨(some 27), (.pure (.mv (.tmp 1))), none⟩,
.op ⟨(some 28), (.pure (.mv (.tmp 6))), none⟩,
.op ⟨(some 29), (.pure (.bin .quo (.tmp 28) (.const (.int .i64 (4))))), none⟩,
.op ⟨(some 30), (.pure (.bin .mul (.tmp 29) (.const (.int .i64 (2))))), none⟩,
.op ⟨(some 31), (.pure (.bin .add (.tmp 27) (.tmp 30))), none⟩,
.op ⟨(some 32), (.pure (.bin .add (.tmp 31) (.const (.int .i64 (1))))), none⟩,
.op ⟨(some 33), (.pure (.bin .leq (.tmp 26) (.tmp 32))), none⟩])
(.cond (.tmp 33)
(.skip)
(.exit 0)))
(.seq (.block 1 (.seq (.ops [
.op ⟨(some 36), (.eff (.call 121 [(.tmp 7)])), none⟩,
.op ⟨(some 37), (.pure (.mv (.tmp 8))), none⟩,
.op ⟨(some 38), (.pure (.bin .sub (.tmp 37) (.const (.int .u64 (1))))), none⟩,
.op ⟨(some 39), (.pure (.bin .and (.tmp 36) (.tmp 38))), none⟩,
.op ⟨(some 40), (.pure (.conv .i64 (.tmp 39))), none⟩,
.op ⟨(some 10), (.pure (.mv (.tmp 40))), none⟩])
(.seq (.seq (.ops [
.op ⟨(some 41), (.pure (.mv (.tmp 10))), none⟩,
.op ⟨(some 42), (.pure (.mv (.tmp 6))), none⟩,
.op ⟨(some 43), (.pure (.bin .geq (.tmp 41) (.tmp 42))), none⟩])
(.cond (.tmp 43)
(.ops [
.op ⟨(some 44), (.pure (.mv (.tmp 10))), none⟩,
.op ⟨(some 45), (.pure (.mv (.tmp 6))), none⟩,
.op ⟨(some 46), (.pure (.bin .sub (.tmp 44) (.tmp 45))), none⟩,
.op ⟨(some 10), (.pure (.mv (.tmp 46))), none⟩])
(.skip)))
(.draw false
(.take ⟨(some 47), (.pure (.mv (.tmp 0))), none⟩
(.take ⟨(some 48), (.pure (.mv (.tmp 9))), none⟩
(.take ⟨(some 49), (.pure (.mv (.tmp 0))), none⟩
(.take ⟨(some 50), (.pure (.mv (.tmp 1))), none⟩
(.take ⟨(some 51), (.pure (.mv (.tmp 10))), none⟩
(.take ⟨(some 52), (.pure (.bin .add (.tmp 50) (.tmp 51))), none⟩
(.take ⟨(some 53), (.pure (.mv (.tmp 0))), none⟩
(.take ⟨(some 54), (.pure (.mv (.tmp 1))), none⟩
(.take ⟨(some 55), (.pure (.mv (.tmp 10))), none⟩
(.take ⟨(some 56), (.pure (.bin .add (.tmp 54) (.tmp 55))), none⟩
(.take ⟨(some 57), (.pure (.idx 1 (.tmp 53) (.tmp 56))), none⟩
(.take ⟨(some 59), (.pure (.mv (.tmp 0))), none⟩
(.take ⟨(some 60), (.pure (.mv (.tmp 9))), none⟩
(.take ⟨(some 61), (.pure (.idx 1 (.tmp 59) (.tmp 60))), none⟩
(.only false ⟨(some 58), (.load none (.tmp 57)), none⟩
(.only false ⟨(some 62), (.load none (.tmp 61)), none⟩
(.take ⟨(some 63), (.pure (.idx 1 (.tmp 47) (.tmp 48))), none⟩
(.only true ⟨none, (.eff (.store 1 (.tmp 63) (.tmp 58))), none⟩
(.take ⟨(some 64), (.pure (.idx 1 (.tmp 49) (.tmp 52))), none⟩
(.only true ⟨none, (.eff (.store 1 (.tmp 64) (.tmp 62))), none⟩
(.done)))))))))))))))))))))))))
(.ops [
.op ⟨(some 34), (.pure (.mv (.tmp 9))), none⟩,
.op ⟨(some 35), (.pure (.bin .add (.tmp 34) (.const (.int .i64 (1))))), none⟩,
.op ⟨(some 9), (.pure (.mv (.tmp 35))), none⟩]))))))))
(.skip))),
[]⟩
theorem r_slices_breakPatternsOrdered_int : resFun Try.prog f_slices_breakPatternsOrdered_int = some c_slices_breakPatternsOrdered_int := by kernel_rfl

/- slices.choosePivotOrdered[int] -/
abbrev f_slices_choosePivotOrdered_int : Nat := 108
def c_slices_choosePivotOrdered_int : MFun := ⟨57, .seq (.ops [
.op ⟨(some 6), (.pure (.mv (.const (.int .i64 (0))))), none⟩,
.op ⟨(some 7), (.pure (.mv (.const (.int .i64 (0))))), none⟩])
(.seq (.ops [
.op ⟨(some 13), (.pure (.mv (.tmp 2))), none⟩,
.op ⟨(some 14), (.pure (.mv (.tmp 1))), none⟩,
.op ⟨(some 15), (.pure (.bin .sub (.tmp 13) (.tmp 14))), none⟩,
.op ⟨(some 8), (.pure (.mv (.tmp 15))), none⟩])
(.seq (.ops [
.op ⟨(some 9), (.eff (.new 3 [(.int .i64 (0))])), none⟩])
(.seq (.ops [
.op ⟨(some 16), (.pure (.mv (.tmp 1))), none⟩,
.op ⟨(some 17), (.pure (.mv (.tmp 8))), none⟩,
.op ⟨(some 18), (.pure (.bin .quo (.tmp 17) (.const (.int .i64 (4))))), none⟩,
.op ⟨(some 19), (.pure (.bin .mul (.tmp 18) (.const (.int .i64 (1))))), none⟩,
.op ⟨(some 20), (.pure (.bin .add (.tmp 16) (.tmp 19))), none⟩,
.op ⟨(some 10), (.pure (.mv (.tmp 20))), none⟩])
(.seq (.ops [
.op ⟨(some 21), (.pure (.mv (.tmp 1))), none⟩,
.op ⟨(some 22), (.pure (.mv (.tmp 8))), none⟩,
.op ⟨(some 23), (.pure (.bin .quo (.tmp 22) (.const (.int .i64 (4))))), none⟩,
.op ⟨(some 24), (.pure (.bin .mul (.tmp 23) (.const (.int .i64 (2))))), none⟩,
.op ⟨(some 25), (.pure (.bin .add (.tmp 21) (.tmp 24))), none⟩,
.op ⟨(some 11), (.pure (.mv (.tmp 25))), none⟩])
(.seq (.ops [
.op ⟨(some 26), (.pure (.mv (.tmp 1))), none⟩,
.op ⟨(some 27), (.pure (.mv (.tmp 8))), none⟩,
.op ⟨(some 28), (.pure (.bin .quo (.tmp 27) (.const (.int .i64 (4))))), none⟩,
.op ⟨(some 29), (.pure (.bin .mul (.tmp 28) (.const (.int .i64 (3))))), none⟩,
.op ⟨(some 30), (.pure (.bin .add (.tmp 26) (.tmp 29))), none⟩,
.op ⟨(some 12), (.pure (.mv (.tmp 30))), none⟩])
(.seq (.seq (.ops [
.op ⟨(some 31), (.pure (.mv (.tmp 8))), none⟩,
.op ⟨(some 32), (.pure (.bin .geq (.tmp 31) (.const (.int .i64 (8))))), none⟩])
(.cond (.tmp 32)
(.seq (.seq (.ops [
.op ⟨(some 33), (.pure (.mv (.tmp 8))), none⟩,
.op ⟨(some 34), (.pure (.bin .geq (.tmp 33) (.const (.int .i64 (50))))), none⟩])
(.cond (.tmp 34)
(.seq (.ops [
.op ⟨(some 35), (.pure (.mv (.tmp 0))), none⟩,
.op ⟨(some 36), (.pure (.mv (.tmp 10))), none⟩,
.op ⟨(some 37), (.eff (.call 122 [(.tmp 35), (.tmp 36), (.tmp 9)])), none⟩,
.op ⟨(some 10), (.pure (.mv (.tmp 37))), none⟩])
(.seq (.ops [
.op ⟨(some 38), (.pure (.mv (.tmp 0))), none⟩,
.op ⟨(some 39), (.pure (.mv (.tmp 11))), none⟩,
.op ⟨(some 40), (.eff (.call 122 [(.tmp 38), (.tmp 39), (.tmp 9)])), none⟩,
.op ⟨(some 11), (.pure (.mv (.tmp 40))), none⟩])
(.ops [
.op ⟨(some 41), (.pure (.mv (.tmp 0))), none⟩,
.op ⟨(some 42), (.pure (.mv (.tmp 12))), none⟩,
.op ⟨(some 43), (.eff (.call 122 [(.tmp 41), (.tmp 42), (.tmp 9)])), none⟩,
.op ⟨(some 12), (.pure (.mv (.tmp 43))), none⟩])))
(.skip)))
(.ops [
.op ⟨(some 44), (.pure (.mv (.tmp 0))), none⟩,
.op ⟨(some 45), (.pure (.mv (.tmp 10))), none⟩,
.op ⟨(some 46), (.pure (.mv (.tmp 11))), none⟩,
.op ⟨(some 47), (.pure (.mv (.tmp 12))), none⟩,
.op ⟨(some 48), (.eff (.call 123 [(.tmp 44), (.tmp 45), (.tmp 46), (.tmp 47), (.tmp 9)])), none⟩,
.op ⟨(some 11), (.pure (.mv (.tmp 48))), none⟩]))
(.skip)))
(.seq (.ops [
.op ⟨(some 49), (.load none (.tmp 9)), none⟩])
(.block 0 (.seq (.ops [
.op ⟨(some 52), (.pure (.bin .eql (.tmp 49) (.const (.int .i64 (0))))), none⟩,
.op ⟨(some 51), (.pure (.mv (.tmp 52))), none⟩])
(.cond (.tmp 51)
(.seq (.ops [
.op ⟨(some 53), (.pure (.mv (.tmp 11))), none⟩,
.op ⟨(some 6), (.pure (.mv (.tmp 53))), none⟩,
.op ⟨(some 7), (.pure (.mv (.const (.int .i64 (1))))), none⟩])
(.ret))
(.seq (.ops [
.op ⟨(some 55), (.pure (.bin .eql (.tmp 49) (.const (.int .i64 (12))))), none⟩,
.op ⟨(some 54), (.pure (.mv (.tmp 55))), none⟩])
(.cond (.tmp 54)
(.seq (.ops [
.op ⟨(some 56), (.pure (.mv (.tmp 11))), none⟩,
.op ⟨(some 6), (.pure (.mv (.tmp 56))), none⟩,
.op ⟨(some 7), (.pure (.mv (.const (.int .i64 (2))))), none⟩])
(.ret))
(.seq (.ops [
.op ⟨(some 50), (.pure (.mv (.tmp 11))), none⟩,
.op ⟨(some 6), (.pure (.mv (.tmp 50))), none⟩,
.op ⟨(some 7), (.pure (.mv (.const (.int .i64 (0))))), none⟩])
(.ret)))))))))))))),
[.tmp 6, .tmp 7]⟩
theorem r_slices_choosePivotOrdered_int : resFun Try.prog f_slices_choosePivotOrdered_int = some c_slices_choosePivotOrdered_int := by kernel_rfl

/- slices.reverseRangeOrdered[int] -/
abbrev f_slices_reverseRangeOrdered_int : Nat := 109
def c_slices_reverseRangeOrdered_int : MFun := ⟨32, .seq (.ops [
.op ⟨(some 8), (.pure (.mv (.tmp 1))), none⟩,
.op ⟨(some 6), (.pure (.mv (.tmp 8))), none⟩])
(.seq (.ops [
.op ⟨(some 9), (.pure (.mv (.tmp 2))), none⟩,
.op ⟨(some 10), (.pure (.bin .sub (.tmp 9) (.const (.int .i64 (1))))), none⟩,
.op ⟨(some 7), (.pure (.mv (.tmp 10))), none⟩])
(.block 0 (.loop (.seq (.seq (.ops [
.op ⟨(some 11), (.pure (.mv (.tmp 6))), none⟩,
.op ⟨(some 12), (.pure (.mv (.tmp 7))), none⟩,
.op ⟨(some 13), (.pure (.bin .lss (.tmp 11) (.tmp 12))), none⟩])
(.cond (.tmp 13)
(.skip)
(.exit 0)))
(.block 1 (.seq (.draw false
(.take ⟨(some 14), (.pure (.mv (.tmp 0))), none⟩
(.take ⟨(some 15), (.pure (.mv (.tmp 6))), none⟩
(.take ⟨(some 16), (.pure (.mv (.tmp 0))), none⟩
(.take ⟨(some 17), (.pure (.mv (.tmp 7))), none⟩
(.take ⟨(some 18), (.pure (.mv (.tmp 0))), none⟩
(.take ⟨(some 19), (.pure (.mv (.tmp 7))), none⟩
(.take ⟨(some 20), (.pure (.idx 1 (.tmp 18) (.tmp 19))), none⟩
(.take ⟨(some 22), (.pure (.mv (.tmp 0))), none⟩
(.take ⟨(some 23), (.pure (.mv (.tmp 6))), none⟩
(.take ⟨(some 24), (.pure (.idx 1 (.tmp 22) (.tmp 23))), none⟩
(.only false ⟨(some 21), (.load none (.tmp 20)), none⟩
(.only false ⟨(some 25), (.load none (.tmp 24)), none⟩
(.take ⟨(some 26), (.pure (.idx 1 (.tmp 14) (.tmp 15))), none⟩
(.only true ⟨none, (.eff (.store 1 (.tmp 26) (.tmp 21))), none⟩
(.take ⟨(some 27), (.pure (.idx 1 (.tmp 16) (.tmp 17))), none⟩
(.only true ⟨none, (.eff (.store 1 (.tmp 27) (.tmp 25))), none⟩
(.done))))))))))))))))))
(.seq (.ops [
.op ⟨(some 28), (.pure (.mv (.tmp 6))), none⟩,
.op ⟨(some 29), (.pure (.bin .add (.tmp 28) (.const (.int .i64 (1))))), none⟩,
.op ⟨(some 6), (.pure (.mv (.tmp 29))), none⟩])
(.ops [
.op ⟨(some 30), (.pure (.mv (.tmp 7))), none⟩,
.op ⟨(some 31), (.pure (.bin .sub (.tmp 30) (.const (.int .i64 (1))))), none⟩,
.op ⟨(some 7), (.pure (.mv (.tmp 31))), none⟩])))))))),
[]⟩
theorem r_slices_reverseRangeOrdered_int : resFun Try.prog f_slices_reverseRangeOrdered_int = some c_slices_reverseRangeOrdered_int := by kernel_rfl

/- slices.partialInsertionSortOrdered[int] -/
abbrev f_slices_partialInsertionSortOrdered_int : Nat := 110
def c_slices_partialInsertionSortOrdered_int : MFun := ⟨133, .seq (.ops [
.op ⟨(some 6), (.pure (.mv (.const (.bool false)))), none⟩])
(.seq (.ops [
.op ⟨(some 11), (.pure (.mv (.tmp 1))), none⟩,
.op ⟨(some 12), (.pure (.bin .add (.tmp 11) (.const (.int .i64 (1))))), none⟩,
.op ⟨(some 7), (.pure (.mv (.tmp 12))), none⟩])
(.seq (.seq (.ops [
.op ⟨(some 8), (.pure (.mv (.const (.int .i64 (0))))), none⟩])
(.block 0 (.loop (.seq (.seq (.ops [
.op ⟨(some 13), (.pure (.mv (.tmp 8))), none⟩,
.op ⟨(some 14), (.pure (.bin .lss (.tmp 13) (.const (.int .i64 (5))))), none⟩])
(.cond (.tmp 14)
(.skip)
(.exit 0)))
(.seq (.block 1 (.seq (.block 2 (.loop (.seq (.seq (.draw false
(.take ⟨(some 17), (.pure (.mv (.tmp 7))), none⟩
(.take ⟨(some 18), (.pure (.mv (.tmp 2))), none⟩
(.take ⟨(some 19), (.pure (.bin .lss (.tmp 17) (.tmp 18))), none⟩
(.take ⟨(some 20), (.pure (.mv (.tmp 19))), none⟩
(.split 20
(.take ⟨(some 21), (.pure (.mv (.tmp 0))), (some (20, true))⟩
(.take ⟨(some 22), (.pure (.mv (.tmp 7))), (some (20, true))⟩
(.take ⟨(some 23), (.pure (.idx 1 (.tmp 21) (.tmp 22))), (some (20, true))⟩
(.take ⟨(some 25), (.pure (.mv (.tmp 0))), (some (20, true))⟩
(.take ⟨(some 26), (.pure (.mv (.tmp 7))), (some (20, true))⟩
(.take ⟨(some 27), (.pure (.bin .sub (.tmp 26) (.const (.int .i64 (1))))), (some (20, true))⟩
(.take ⟨(some 28), (.pure (.idx 1 (.tmp 25) (.tmp 27))), (some (20, true))⟩
(.only false ⟨(some 24), (.load none (.tmp 23)), (some (20, true))⟩
(.only false ⟨(some 29), (.load none (.tmp 28)), (some (20, true))⟩
(.only true ⟨(some 30), (.eff (.call 111 [(.tmp 24), (.tmp 29)])), (some (20, true))⟩
(.take ⟨(some 31), (.pure (.bnot (.tmp 30))), (some (20, true))⟩
(.take ⟨(some 32), (.pure (.pick (.tmp 20) (.tmp 31) (.const (.bool false)))), none⟩
(.done)))))))))))))))))))
(.cond (.tmp 32)
(.skip)
(.exit 2)))
(.block 3 (.ops [
.op ⟨(some 33), (.pure (.mv (.tmp 7))), none⟩,
.op ⟨(some 34), (.pure (.bin .add (.tmp 33) (.const (.int .i64 (1))))), none⟩,
.op ⟨(some 7), (.pure (.mv (.tmp 34))), none⟩])))))
(.seq (.seq (.ops [
.op ⟨(some 35), (.pure (.mv (.tmp 7))), none⟩,
.op ⟨(some 36), (.pure (.mv (.tmp 2))), none⟩,
.op ⟨(some 37), (.pure (.bin .eql (.tmp 35) (.tmp 36))), none⟩])
(.cond (.tmp 37)
(.seq (.ops [
.op ⟨(some 6), (.pure (.mv (.const (.bool true)))), none⟩])
(.ret))
(.skip)))
(.seq (.seq (.ops [
.op ⟨(some 38), (.pure (.mv (.tmp 2))), none⟩,
.op ⟨(some 39), (.pure (.mv (.tmp 1))), none⟩,
.op ⟨(some 40), (.pure (.bin .sub (.tmp 38) (.tmp 39))), none⟩,
.op ⟨(some 41), (.pure (.bin .lss (.tmp 40) (.const (.int .i64 (50))))), none⟩])
(.cond (.tmp 41)
(.seq (.ops [
.op ⟨(some 6), (.pure (.mv (.const (.bool false)))), none⟩])
(.ret))
(.skip)))
(.seq (.draw false
(.take ⟨(some 42), (.pure (.mv (.tmp 0))), none⟩
(.take ⟨(some 43), (.pure (.mv (.tmp 7))), none⟩
(.take ⟨(some 44), (.pure (.mv (.tmp 0))), none⟩
(.take ⟨(some 45), (.pure (.mv (.tmp 7))), none⟩
(.take ⟨(some 46), (.pure (.bin .sub (.tmp 45) (.const (.int .i64 (1))))), none⟩
(.take ⟨(some 47), (.pure (.mv (.tmp 0))), none⟩
(.take ⟨(some 48), (.pure (.mv (.tmp 7))), none⟩
(.take ⟨(some 49), (.pure (.bin .sub (.tmp 48) (.const (.int .i64 (1))))), none⟩
(.take ⟨(some 50), (.pure (.idx 1 (.tmp 47) (.tmp 49))), none⟩
(.take ⟨(some 52), (.pure (.mv (.tmp 0))), none⟩
(.take ⟨(some 53), (.pure (.mv (.tmp 7))), none⟩
(.take ⟨(some 54), (.pure (.idx 1 (.tmp 52) (.tmp 53))), none⟩
(.only false ⟨(some 51), (.load none (.tmp 50)), none⟩
(.only false ⟨(some 55), (.load none (.tmp 54)), none⟩
(.take ⟨(some 56), (.pure (.idx 1 (.tmp 42) (.tmp 43))), none⟩
(.only true ⟨none, (.eff (.store 1 (.tmp 56) (.tmp 51))), none⟩
(.take ⟨(some 57), (.pure (.idx 1 (.tmp 44) (.tmp 46))), none⟩
(.only true ⟨none, (.eff (.store 1 (.tmp 57) (.tmp 55))), none⟩
(.done))))))))))))))))))))
(.seq (.seq (.ops [
.op ⟨(some 58), (.pure (.mv (.tmp 7))), none⟩,
.op ⟨(some 59), (.pure (.mv (.tmp 1))), none⟩,
.op ⟨(some 60), (.pure (.bin .sub (.tmp 58) (.tmp 59))), none⟩,
.op ⟨(some 61), (.pure (.bin .geq (.tmp 60) (.const (.int .i64 (2))))), none⟩])
(.cond (.tmp 61)
(.seq (.ops [
.op ⟨(some 62), (.pure (.mv (.tmp 7))), none⟩,
.op ⟨(some 63), (.pure (.bin .sub (.tmp 62) (.const (.int .i64 (1))))), none⟩,
.op ⟨(some 9), (.pure (.mv (.tmp 63))), none⟩])
(.block 4 (.loop (.seq (.seq (.ops [
.op ⟨(some 64), (.pure (.mv (.tmp 9))), none⟩,
.op ⟨(some 65), (.pure (.bin .geq (.tmp 64) (.const (.int .i64 (1))))), none⟩])
(.cond (.tmp 65)
(.skip)
(.exit 4)))
(.seq (.block 5 (.seq (.seq (.draw false
(.take ⟨(some 68), (.pure (.mv (.tmp 0))), none⟩
(.take ⟨(some 69), (.pure (.mv (.tmp 9))), none⟩
(.take ⟨(some 70), (.pure (.idx 1 (.tmp 68) (.tmp 69))), none⟩
(.take ⟨(some 72), (.pure (.mv (.tmp 0))), none⟩
(.take ⟨(some 73), (.pure (.mv (.tmp 9))), none⟩
(.take ⟨(some 74), (.pure (.bin .sub (.tmp 73) (.const (.int .i64 (1))))), none⟩
(.take ⟨(some 75), (.pure (.idx 1 (.tmp 72) (.tmp 74))), none⟩
(.only false ⟨(some 71), (.load none (.tmp 70)), none⟩
(.only false ⟨(some 76), (.load none (.tmp 75)), none⟩
(.only true ⟨(some 77), (.eff (.call 111 [(.tmp 71), (.tmp 76)])), none⟩
(.take ⟨(some 78), (.pure (.bnot (.tmp 77))), none⟩
(.done)))))))))))))
(.cond (.tmp 78)
(.exit 4)
(.skip)))
(.draw false
(.take ⟨(some 79), (.pure (.mv (.tmp 0))), none⟩
(.take ⟨(some 80), (.pure (.mv (.tmp 9))), none⟩
(.take ⟨(some 81), (.pure (.mv (.tmp 0))), none⟩
(.take ⟨(some 82), (.pure (.mv (.tmp 9))), none⟩
(.take ⟨(some 83), (.pure (.bin .sub (.tmp 82) (.const (.int .i64 (1))))), none⟩
(.take ⟨(some 84), (.pure (.mv (.tmp 0))), none⟩
(.take ⟨(some 85), (.pure (.mv (.tmp 9))), none⟩
(.take ⟨(some 86), (.pure (.bin .sub (.tmp 85) (.const (.int .i64 (1))))), none⟩
(.take ⟨(some 87), (.pure (.idx 1 (.tmp 84) (.tmp 86))), none⟩
(.take ⟨(some 89), (.pure (.mv (.tmp 0))), none⟩
(.take ⟨(some 90), (.pure (.mv (.tmp 9))), none⟩
(.take ⟨(some 91), (.pure (.idx 1 (.tmp 89) (.tmp 90))), none⟩
(.only false ⟨(some 88), (.load none (.tmp 87)), none⟩
(.only false ⟨(some 92), (.load none (.tmp 91)), none⟩
(.take ⟨(some 93), (.pure (.idx 1 (.tmp 79) (.tmp 80))), none⟩
(.only true ⟨none, (.eff (.store 1 (.tmp 93) (.tmp 88))), none⟩
(.take ⟨(some 94), (.pure (.idx 1 (.tmp 81) (.tmp 83))), none⟩
(.only true ⟨none, (.eff (.store 1 (.tmp 94) (.tmp 92))), none⟩
(.done))))))))))))))))))))))
(.ops [
.op ⟨(some 66), (.pure (.mv (.tmp 9))), none⟩,
.op ⟨(some 67), (.pure (.bin .sub (.tmp 66) (.const (.int .i64 (1))))), none⟩,
.op ⟨(some 9), (.pure (.mv (.tmp 67))), none⟩]))))))
(.skip)))
(.seq (.ops [
.op ⟨(some 95), (.pure (.mv (.tmp 2))), none⟩,
.op ⟨(some 96), (.pure (.mv (.tmp 7))), none⟩,
.op ⟨(some 97), (.pure (.bin .sub (.tmp 95) (.tmp 96))), none⟩,
.op ⟨(some 98), (.pure (.bin .geq (.tmp 97) (.const (.int .i64 (2))))), none⟩])
(.cond (.tmp 98)
(.seq (.ops [
.op ⟨(some 99), (.pure (.mv (.tmp 7))), none⟩,
.op ⟨(some 100), (.pure (.bin .add (.tmp 99) (.const (.int .i64 (1))))), none⟩,
.op ⟨(some 10), (.pure (.mv (.tmp 100))), none⟩])
(.block 6 (.loop (.seq (.seq (.ops [
.op ⟨(some 101), (.pure (.mv (.tmp 10))), none⟩,
.op ⟨(some 102), (.pure (.mv (.tmp 2))), none⟩,
.op ⟨(some 103), (.pure (.bin .lss (.tmp 101) (.tmp 102))), none⟩])
(.cond (.tmp 103)
(.skip)
(.exit 6)))
(.seq (.block 7 (.seq (.seq (.draw false
(.take ⟨(some 106), (.pure (.mv (.tmp 0))), none⟩
(.take ⟨(some 107), (.pure (.mv (.tmp 10))), none⟩
(.take ⟨(some 108), (.pure (.idx 1 (.tmp 106) (.tmp 107))), none⟩
(.take ⟨(some 110), (.pure (.mv (.tmp 0))), none⟩
(.take ⟨(some 111), (.pure (.mv (.tmp 10))), none⟩
(.take ⟨(some 112), (.pure (.bin .sub (.tmp 111) (.const (.int .i64 (1))))), none⟩
(.take ⟨(some 113), (.pure (.idx 1 (.tmp 110) (.tmp 112))), none⟩
(.only false ⟨(some 109), (.load none (.tmp 108)), none⟩
(.only false ⟨(some 114), (.load none (.tmp 113)), none⟩
(.only true ⟨(some 115), (.eff (.call 111 [(.tmp 109), (.tmp 114)])), none⟩
(.take ⟨(some 116), (.pure (.bnot (.tmp 115))), none⟩
(.done)))))))))))))
(.cond (.tmp 116)
(.exit 6)
(.skip)))
(.draw false
(.take ⟨(some 117), (.pure (.mv (.tmp 0))), none⟩
(.take ⟨(some 118), (.pure (.mv (.tmp 10))), none⟩
(.take ⟨(some 119), (.pure (.mv (.tmp 0))), none⟩
(.take ⟨(some 120), (.pure (.mv (.tmp 10))), none⟩
(.take ⟨(some 121), (.pure (.bin .sub (.tmp 120) (.const (.int .i64 (1))))), none⟩
(.take ⟨(some 122), (.pure (.mv (.tmp 0))), none⟩
(.take ⟨(some 123), (.pure (.mv (.tmp 10))), none⟩
(.take ⟨(some 124), (.pure (.bin .sub (.tmp 123) (.const (.int .i64 (1))))), none⟩
(.take ⟨(some 125), (.pure (.idx 1 (.tmp 122) (.tmp 124))), none⟩
(.take ⟨(some 127), (.pure (.mv (.tmp 0))), none⟩
(.take ⟨(some 128), (.pure (.mv (.tmp 10))), none⟩
(.take ⟨(some 129), (.pure (.idx 1 (.tmp 127) (.tmp 128))), none⟩
(.only false ⟨(some 126), (.load none (.tmp 125)), none⟩
(.only false ⟨(some 130), (.load none (.tmp 129)), none⟩
(.take ⟨(some 131), (.pure (.idx 1 (.tmp 117) (.tmp 118))), none⟩
(.only true ⟨none, (.eff (.store 1 (.tmp 131) (.tmp 126))), none⟩
(.take ⟨(some 132), (.pure (.idx 1 (.tmp 119) (.tmp 121))), none⟩
(.only true ⟨none, (.eff (.store 1 (.tmp 132) (.tmp 130))), none⟩
(.done))))))))))))))))))))))
(.ops [
.op ⟨(some 104), (.pure (.mv (.tmp 10))), none⟩,
.op ⟨(some 105), (.pure (.bin .add (.tmp 104) (.const (.int .i64 (1))))), none⟩,
.op ⟨(some 10), (.pure (.mv (.tmp 105))), none⟩]))))))
(.skip)))))))))
(.ops [
.op ⟨(some 15), (.pure (.mv (.tmp 8))), none⟩,
.op ⟨(some 16), (.pure (.bin .add (.tmp 15) (.const (.int .i64 (1))))), none⟩,
.op ⟨(some 8), (.pure (.mv (.tmp 16))), none⟩]))))))
(.seq (.ops [
.op ⟨(some 6), (.pure (.mv (.const (.bool false)))), none⟩])
(.ret)))),
[.tmp 6]⟩
theorem r_slices_partialInsertionSortOrdered_int : resFun Try.prog f_slices_partialInsertionSortOrdered_int = some c_slices_partialInsertionSortOrdered_int := by kernel_rfl

/- cmp.Less[int] -/
abbrev f_cmp_Less_int : Nat := 111
def c_cmp_Less_int : MFun := ⟨17, .seq (.ops [
.op ⟨(some 4), (.pure (.mv (.const (.bool false)))), none⟩])
(.seq (.ops [
.op ⟨(some 5), (.pure (.mv (.tmp 0))), none⟩,
.op ⟨(some 6), (.eff (.call 91 [(.tmp 5)])), none⟩,
.op ⟨(some 7), (.pure (.mv (.tmp 6))), none⟩,
.split 7,
.op ⟨(some 8), (.pure (.mv (.tmp 1))), (some (7, true))⟩,
.op ⟨(some 9), (.eff (.call 91 [(.tmp 8)])), (some (7, true))⟩,
.op ⟨(some 10), (.pure (.bnot (.tmp 9))), (some (7, true))⟩,
.op ⟨(some 11), (.pure (.pick (.tmp 7) (.tmp 10) (.const (.bool false)))), none⟩,
.op ⟨(some 12), (.pure (.mv (.tmp 11))), none⟩,
.split 12,
.op ⟨(some 13), (.pure (.mv (.tmp 0))), (some (12, false))⟩,
.op ⟨(some 14), (.pure (.mv (.tmp 1))), (some (12, false))⟩,
.op ⟨(some 15), (.pure (.bin .lss (.tmp 13) (.tmp 14))), (some (12, false))⟩,
.op ⟨(some 16), (.pure (.pick (.tmp 12) (.const (.bool true)) (.tmp 15))), none⟩,
.op ⟨(some 4), (.pure (.mv (.tmp 16))), none⟩])
(.ret)),
[.tmp 4]⟩
theorem r_cmp_Less_int : resFun Try.prog f_cmp_Less_int = some c_cmp_Less_int := by kernel_rfl

/- slices.partitionEqualOrdered[int] -/
abbrev f_slices_partitionEqualOrdered_int : Nat := 112
def c_slices_partitionEqualOrdered_int : MFun := ⟨84, .seq (.ops [
.op ⟨(some 8), (.pure (.mv (.const (.int .i64 (0))))), none⟩])
(.seq (.draw false
(.take ⟨(some 11), (.pure (.mv (.tmp 0))), none⟩
(.take ⟨(some 12), (.pure (.mv (.tmp 1))), none⟩
(.take ⟨(some 13), (.pure (.mv (.tmp 0))), none⟩
(.take ⟨(some 14), (.pure (.mv (.tmp 3))), none⟩
(.take ⟨(some 15), (.pure (.mv (.tmp 0))), none⟩
(.take ⟨(some 16), (.pure (.mv (.tmp 3))), none⟩
(.take ⟨(some 17), (.pure (.idx 1 (.tmp 15) (.tmp 16))), none⟩
(.take ⟨(some 19), (.pure (.mv (.tmp 0))), none⟩
(.take ⟨(some 20), (.pure (.mv (.tmp 1))), none⟩
(.take ⟨(some 21), (.pure (.idx 1 (.tmp 19) (.tmp 20))), none⟩
(.only false ⟨(some 18), (.load none (.tmp 17)), none⟩
(.only false ⟨(some 22), (.load none (.tmp 21)), none⟩
(.take ⟨(some 23), (.pure (.idx 1 (.tmp 11) (.tmp 12))), none⟩
(.only true ⟨none, (.eff (.store 1 (.tmp 23) (.tmp 18))), none⟩
(.take ⟨(some 24), (.pure (.idx 1 (.tmp 13) (.tmp 14))), none⟩
(.only true ⟨none, (.eff (.store 1 (.tmp 24) (.tmp 22))), none⟩
(.done))))))))))))))))))
(.seq (.ops [
.op ⟨(some 25), (.pure (.mv (.tmp 1))), none⟩,
.op ⟨(some 26), (.pure (.bin .add (.tmp 25) (.const (.int .i64 (1))))), none⟩,
.op ⟨(some 27), (.pure (.mv (.tmp 2))), none⟩,
.op ⟨(some 28), (.pure (.bin .sub (.tmp 27) (.const (.int .i64 (1))))), none⟩,
.op ⟨(some 9), (.pure (.mv (.tmp 26))), none⟩,
.op ⟨(some 10), (.pure (.mv (.tmp 28))), none⟩])
(.seq (.block 0 (.loop (.block 1 (.seq (.block 2 (.loop (.seq (.seq (.draw false
(.take ⟨(some 29), (.pure (.mv (.tmp 9))), none⟩
(.take ⟨(some 30), (.pure (.mv (.tmp 10))), none⟩
(.take ⟨(some 31), (.pure (.bin .leq (.tmp 29) (.tmp 30))), none⟩
(.take ⟨(some 32), (.pure (.mv (.tmp 31))), none⟩
(.split 32
(.take ⟨(some 33), (.pure (.mv (.tmp 0))), (some (32, true))⟩
(.take ⟨(some 34), (.pure (.mv (.tmp 1))), (some (32, true))⟩
(.take ⟨(some 35), (.pure (.idx 1 (.tmp 33) (.tmp 34))), (some (32, true))⟩
(.take ⟨(some 37), (.pure (.mv (.tmp 0))), (some (32, true))⟩
(.take ⟨(some 38), (.pure (.mv (.tmp 9))), (some (32, true))⟩
(.take ⟨(some 39), (.pure (.idx 1 (.tmp 37) (.tmp 38))), (some (32, true))⟩
(.only false ⟨(some 36), (.load none (.tmp 35)), (some (32, true))⟩
(.only false ⟨(some 40), (.load none (.tmp 39)), (some (32, true))⟩
(.only true ⟨(some 41), (.eff (.call 111 [(.tmp 36), (.tmp 40)])), (some (32, true))⟩
(.take ⟨(some 42), (.pure (.bnot (.tmp 41))), (some (32, true))⟩
(.take ⟨(some 43), (.pure (.pick (.tmp 32) (.tmp 42) (.const (.bool false)))), none⟩
(.done))))))))))))))))))
(.cond (.tmp 43)
(.skip)
(.exit 2)))
(.block 3 (.ops [
.op ⟨(some 44), (.pure (.mv (.tmp 9))), none⟩,
.op ⟨(some 45), (.pure (.bin .add (.tmp 44) (.const (.int .i64 (1))))), none⟩,
.op ⟨(some 9), (.pure (.mv (.tmp 45))), none⟩])))))
(.seq (.block 4 (.loop (.seq (.seq (.draw false
(.take ⟨(some 46), (.pure (.mv (.tmp 9))), none⟩
(.take ⟨(some 47), (.pure (.mv (.tmp 10))), none⟩
(.take ⟨(some 48), (.pure (.bin .leq (.tmp 46) (.tmp 47))), none⟩
(.take ⟨(some 49), (.pure (.mv (.tmp 48))), none⟩
(.split 49
(.take ⟨(some 50), (.pure (.mv (.tmp 0))), (some (49, true))⟩
(.take ⟨(some 51), (.pure (.mv (.tmp 1))), (some (49, true))⟩
(.take ⟨(some 52), (.pure (.idx 1 (.tmp 50) (.tmp 51))), (some (49, true))⟩
(.take ⟨(some 54), (.pure (.mv (.tmp 0))), (some (49, true))⟩
(.take ⟨(some 55), (.pure (.mv (.tmp 10))), (some (49, true))⟩
(.take ⟨(some 56), (.pure (.idx 1 (.tmp 54) (.tmp 55))), (some (49, true))⟩
(.only false ⟨(some 53), (.load none (.tmp 52)), (some (49, true))⟩
(.only false ⟨(some 57), (.load none (.tmp 56)), (some (49, true))⟩
(.only true ⟨(some 58), (.eff (.call 111 [(.tmp 53), (.tmp 57)])), (some (49, true))⟩
(.take ⟨(some 59), (.pure (.pick (.tmp 49) (.tmp 58) (.const (.bool false)))), none⟩
(.done)))))))))))))))))
(.cond (.tmp 59)
(.skip)
(.exit 4)))
(.block 5 (.ops [
.op ⟨(some 60), (.pure (.mv (.tmp 10))), none⟩,
.op ⟨(some 61), (.pure (.bin .sub (.tmp 60) (.const (.int .i64 (1))))), none⟩,
.op ⟨(some 10), (.pure (.mv (.tmp 61))), none⟩])))))
(.seq (.seq (.ops [
.op ⟨(some 62), (.pure (.mv (.tmp 9))), none⟩,
.op ⟨(some 63), (.pure (.mv (.tmp 10))), none⟩,
.op ⟨(some 64), (.pure (.bin .gtr (.tmp 62) (.tmp 63))), none⟩])
(.cond (.tmp 64)
(.exit 0)
(.skip)))
(.seq (.draw false
(.take ⟨(some 65), (.pure (.mv (.tmp 0))), none⟩
(.take ⟨(some 66), (.pure (.mv (.tmp 9))), none⟩
(.take ⟨(some 67), (.pure (.mv (.tmp 0))), none⟩
(.take ⟨(some 68), (.pure (.mv (.tmp 10))), none⟩
(.take ⟨(some 69), (.pure (.mv (.tmp 0))), none⟩
(.take ⟨(some 70), (.pure (.mv (.tmp 10))), none⟩
(.take ⟨(some 71), (.pure (.idx 1 (.tmp 69) (.tmp 70))), none⟩
(.take ⟨(some 73), (.pure (.mv (.tmp 0))), none⟩
(.take ⟨(some 74), (.pure (.mv (.tmp 9))), none⟩
(.take ⟨(some 75), (.pure (.idx 1 (.tmp 73) (.tmp 74))), none⟩
(.only false ⟨(some 72), (.load none (.tmp 71)), none⟩
(.only false ⟨(some 76), (.load none (.tmp 75)), none⟩
(.take ⟨(some 77), (.pure (.idx 1 (.tmp 65) (.tmp 66))), none⟩
(.only true ⟨none, (.eff (.store 1 (.tmp 77) (.tmp 72))), none⟩
(.take ⟨(some 78), (.pure (.idx 1 (.tmp 67) (.tmp 68))), none⟩
(.only true ⟨none, (.eff (.store 1 (.tmp 78) (.tmp 76))), none⟩
(.done))))))))))))))))))
(.seq (.ops [
.op ⟨(some 79), (.pure (.mv (.tmp 9))), none⟩,
.op ⟨(some 80), (.pure (.bin .add (.tmp 79) (.const (.int .i64 (1))))), none⟩,
.op ⟨(some 9), (.pure (.mv (.tmp 80))), none⟩])
(.ops [
.op ⟨(some 81), (.pure (.mv (.tmp 10))), none⟩,
.op ⟨(some 82), (.pure (.bin .sub (.tmp 81) (.const (.int .i64 (1))))), none⟩,
.op ⟨(some 10), (.pure (.mv (.tmp 82))), none⟩])))))))))
(.seq (.ops [
.op ⟨(some 83), (.pure (.mv (.tmp 9))), none⟩,
.op ⟨(some 8), (.pure (.mv (.tmp 83))), none⟩])
(.ret))))),
[.tmp 8]⟩
theorem r_slices_partitionEqualOrdered_int : resFun Try.prog f_slices_partitionEqualOrdered_int = some c_slices_partitionEqualOrdered_int := by kernel_rfl

/- slices.partitionOrdered[int] -/
abbrev f_slices_partitionOrdered_int : Nat := 113
def c_slices_partitionOrdered_int : MFun := ⟨168, .seq (.ops [
.op ⟨(some 8), (.pure (.mv (.const (.int .i64 (0))))), none⟩,
.op ⟨(some 9), (.pure (.mv (.const (.bool false)))), none⟩])
(.seq (.draw false
(.take ⟨(some 12), (.pure (.mv (.tmp 0))), none⟩
(.take ⟨(some 13), (.pure (.mv (.tmp 1))), none⟩
(.take ⟨(some 14), (.pure (.mv (.tmp 0))), none⟩
(.take ⟨(some 15), (.pure (.mv (.tmp 3))), none⟩
(.take ⟨(some 16), (.pure (.mv (.tmp 0))), none⟩
(.take ⟨(some 17), (.pure (.mv (.tmp 3))), none⟩
(.take ⟨(some 18), (.pure (.idx 1 (.tmp 16) (.tmp 17))), none⟩
(.take ⟨(some 20), (.pure (.mv (.tmp 0))), none⟩
(.take ⟨(some 21), (.pure (.mv (.tmp 1))), none⟩
(.take ⟨(some 22), (.pure (.idx 1 (.tmp 20) (.tmp 21))), none⟩
(.only false ⟨(some 19), (.load none (.tmp 18)), none⟩
(.only false ⟨(some 23), (.load none (.tmp 22)), none⟩
(.take ⟨(some 24), (.pure (.idx 1 (.tmp 12) (.tmp 13))), none⟩
(.only true ⟨none, (.eff (.store 1 (.tmp 24) (.tmp 19))), none⟩
(.take ⟨(some 25), (.pure (.idx 1 (.tmp 14) (.tmp 15))), none⟩
(.only true ⟨none, (.eff (.store 1 (.tmp 25) (.tmp 23))), none⟩
(.done))))))))))))))))))
(.seq (.ops [
.op ⟨(some 26), (.pure (.mv (.tmp 1))), none⟩,
.op ⟨(some 27), (.pure (.bin .add (.tmp 26) (.const (.int .i64 (1))))), none⟩,
.op ⟨(some 28), (.pure (.mv (.tmp 2))), none⟩,
.op ⟨(some 29), (.pure (.bin .sub (.tmp 28) (.const (.int .i64 (1))))), none⟩,
.op ⟨(some 10), (.pure (.mv (.tmp 27))), none⟩,
.op ⟨(some 11), (.pure (.mv (.tmp 29))), none⟩])
(.seq (.block 0 (.loop (.seq (.seq (.draw false
(.take ⟨(some 30), (.pure (.mv (.tmp 10))), none⟩
(.take ⟨(some 31), (.pure (.mv (.tmp 11))), none⟩
(.take ⟨(some 32), (.pure (.bin .leq (.tmp 30) (.tmp 31))), none⟩
(.take ⟨(some 33), (.pure (.mv (.tmp 32))), none⟩
(.split 33
(.take ⟨(some 34), (.pure (.mv (.tmp 0))), (some (33, true))⟩
(.take ⟨(some 35), (.pure (.mv (.tmp 10))), (some (33, true))⟩
(.take ⟨(some 36), (.pure (.idx 1 (.tmp 34) (.tmp 35))), (some (33, true))⟩
(.take ⟨(some 38), (.pure (.mv (.tmp 0))), (some (33, true))⟩
(.take ⟨(some 39), (.pure (.mv (.tmp 1))), (some (33, true))⟩
(.take ⟨(some 40), (.pure (.idx 1 (.tmp 38) (.tmp 39))), (some (33, true))⟩
(.only false ⟨(some 37), (.load none (.tmp 36)), (some (33, true))⟩
(.only false ⟨(some 41), (.load none (.tmp 40)), (some (33, true))⟩
(.only true ⟨(some 42), (.eff (.call 111 [(.tmp 37), (.tmp 41)])), (some (33, true))⟩
(.take ⟨(some 43), (.pure (.pick (.tmp 33) (.tmp 42) (.const (.bool false)))), none⟩
(.done)))))))))))))))))
(.cond (.tmp 43)
(.skip)
(.exit 0)))
(.block 1 (.ops [
.op ⟨(some 44), (.pure (.mv (.tmp 10))), none⟩,
.op ⟨(some 45), (.pure (.bin .add (.tmp 44) (.const (.int .i64 (1))))), none⟩,
.op ⟨(some 10), (.pure (.mv (.tmp 45))), none⟩])))))
(.seq (.block 2 (.loop (.seq (.seq (.draw false
(.take ⟨(some 46), (.pure (.mv (.tmp 10))), none⟩
(.take ⟨(some 47), (.pure (.mv (.tmp 11))), none⟩
(.take ⟨(some 48), (.pure (.bin .leq (.tmp 46) (.tmp 47))), none⟩
(.take ⟨(some 49), (.pure (.mv (.tmp 48))), none⟩
(.split 49
(.take ⟨(some 50), (.pure (.mv (.tmp 0))), (some (49, true))⟩
(.take ⟨(some 51), (.pure (.mv (.tmp 11))), (some (49, true))⟩
(.take ⟨(some 52), (.pure (.idx 1 (.tmp 50) (.tmp 51))), (some (49, true))⟩
(.take ⟨(some 54), (.pure (.mv (.tmp 0))), (some (49, true))⟩
(.take ⟨(some 55), (.pure (.mv (.tmp 1))), (some (49, true))⟩
(.take ⟨(some 56), (.pure (.idx 1 (.tmp 54) (.tmp 55))), (some (49, true))⟩
(.only false ⟨(some 53), (.load none (.tmp 52)), (some (49, true))⟩
(.only false ⟨(some 57), (.load none (.tmp 56)), (some (49, true))⟩
(.only true ⟨(some 58), (.eff (.call 111 [(.tmp 53), (.tmp 57)])), (some (49, true))⟩
(.take ⟨(some 59), (.pure (.bnot (.tmp 58))), (some (49, true))⟩
(.take ⟨(some 60), (.pure (.pick (.tmp 49) (.tmp 59) (.const (.bool false)))), none⟩
(.done))))))))))))))))))
(.cond (.tmp 60)
(.skip)
(.exit 2)))
(.block 3 (.ops [
.op ⟨(some 61), (.pure (.mv (.tmp 11))), none⟩,
.op ⟨(some 62), (.pure (.bin .sub (.tmp 61) (.const (.int .i64 (1))))), none⟩,
.op ⟨(some 11), (.pure (.mv (.tmp 62))), none⟩])))))
(.seq (.seq (.ops [
.op ⟨(some 63), (.pure (.mv (.tmp 10))), none⟩,
.op ⟨(some 64), (.pure (.mv (.tmp 11))), none⟩,
.op ⟨(some 65), (.pure (.bin .gtr (.tmp 63) (.tmp 64))), none⟩])
(.cond (.tmp 65)
(.seq (.draw false
(.take ⟨(some 66), (.pure (.mv (.tmp 0))), none⟩
(.take ⟨(some 67), (.pure (.mv (.tmp 11))), none⟩
(.take ⟨(some 68), (.pure (.mv (.tmp 0))), none⟩
(.take ⟨(some 69), (.pure (.mv (.tmp 1))), none⟩
(.take ⟨(some 70), (.pure (.mv (.tmp 0))), none⟩
(.take ⟨(some 71), (.pure (.mv (.tmp 1))), none⟩
(.take ⟨(some 72), (.pure (.idx 1 (.tmp 70) (.tmp 71))), none⟩
(.take ⟨(some 74), (.pure (.mv (.tmp 0))), none⟩
(.take ⟨(some 75), (.pure (.mv (.tmp 11))), none⟩
(.take ⟨(some 76), (.pure (.idx 1 (.tmp 74) (.tmp 75))), none⟩
(.only false ⟨(some 73), (.load none (.tmp 72)), none⟩
(.only false ⟨(some 77), (.load none (.tmp 76)), none⟩
(.take ⟨(some 78), (.pure (.idx 1 (.tmp 66) (.tmp 67))), none⟩
(.only true ⟨none, (.eff (.store 1 (.tmp 78) (.tmp 73))), none⟩
(.take ⟨(some 79), (.pure (.idx 1 (.tmp 68) (.tmp 69))), none⟩
(.only true ⟨none, (.eff (.store 1 (.tmp 79) (.tmp 77))), none⟩
(.done))))))))))))))))))
(.seq (.ops [
.op ⟨(some 80), (.pure (.mv (.tmp 11))), none⟩,
.op ⟨(some 8), (.pure (.mv (.tmp 80))), none⟩,
.op ⟨(some 9), (.pure (.mv (.const (.bool true)))), none⟩])
(.ret)))
(.skip)))
(.seq (.draw false
(.take ⟨(some 81), (.pure (.mv (.tmp 0))), none⟩
(.take ⟨(some 82), (.pure (.mv (.tmp 10))), none⟩
(.take ⟨(some 83), (.pure (.mv (.tmp 0))), none⟩
(.take ⟨(some 84), (.pure (.mv (.tmp 11))), none⟩
(.take ⟨(some 85), (.pure (.mv (.tmp 0))), none⟩
(.take ⟨(some 86), (.pure (.mv (.tmp 11))), none⟩
(.take ⟨(some 87), (.pure (.idx 1 (.tmp 85) (.tmp 86))), none⟩
(.take ⟨(some 89), (.pure (.mv (.tmp 0))), none⟩
(.take ⟨(some 90), (.pure (.mv (.tmp 10))), none⟩
(.take ⟨(some 91), (.pure (.idx 1 (.tmp 89) (.tmp 90))), none⟩
(.only false ⟨(some 88), (.load none (.tmp 87)), none⟩
(.only false ⟨(some 92), (.load none (.tmp 91)), none⟩
(.take ⟨(some 93), (.pure (.idx 1 (.tmp 81) (.tmp 82))), none⟩
(.only true ⟨none, (.eff (.store 1 (.tmp 93) (.tmp 88))), none⟩
(.take ⟨(some 94), (.pure (.idx 1 (.tmp 83) (.tmp 84))), none⟩
(.only true ⟨none, (.eff (.store 1 (.tmp 94) (.tmp 92))), none⟩
(.done))))))))))))))))))
(.seq (.ops [
.op ⟨(some 95), (.pure (.mv (.tmp 10))), none⟩,
.op ⟨(some 96), (.pure (.bin .add (.tmp 95) (.const (.int .i64 (1))))), none⟩,
.op ⟨(some 10), (.pure (.mv (.tmp 96))), none⟩])
(.seq (.ops [
.op ⟨(some 97), (.pure (.mv (.tmp 11))), none⟩,
.op ⟨(some 98), (.pure (.bin .sub (.tmp 97) (.const (.int .i64 (1))))), none⟩,
.op ⟨(some 11), (.pure (.mv (.tmp 98))), none⟩])
(.seq (.block 4 (.loop (.block 5 (.seq (.block 6 (.loop (.seq (.seq (.draw false
(.take ⟨(some 99), (.pure (.mv (.tmp 10))), none⟩
(.take ⟨(some 100), (.pure (.mv (.tmp 11))), none⟩
(.take ⟨(some 101), (.pure (.bin .leq (.tmp 99) (.tmp 100))), none⟩
(.take ⟨(some 102), (.pure (.mv (.tmp 101))), none⟩
(.split 102
(.take ⟨(some 103), (.pure (.mv (.tmp 0))), (some (102, true))⟩
(.take ⟨(some 104), (.pure (.mv (.tmp 10))), (some (102, true))⟩
(.take ⟨(some 105), (.pure (.idx 1 (.tmp 103) (.tmp 104))), (some (102, true))⟩
(.take ⟨(some 107), (.pure (.mv (.tmp 0))), (some (102, true))⟩
(.take ⟨(some 108), (.pure (.mv (.tmp 1))), (some (102, true))⟩
(.take ⟨(some 109), (.pure (.idx 1 (.tmp 107) (.tmp 108))), (some (102, true))⟩
(.only false ⟨(some 106), (.load none (.tmp 105)), (some (102, true))⟩
(.only false ⟨(some 110), (.load none (.tmp 109)), (some (102, true))⟩
(.only true ⟨(some 111), (.eff (.call 111 [(.tmp 106), (.tmp 110)])), (some (102, true))⟩
(.take ⟨(some 112), (.pure (.pick (.tmp 102) (.tmp 111) (.const (.bool false)))), none⟩
(.done)))))))))))))))))
(.cond (.tmp 112)
(.skip)
(.exit 6)))
(.block 7 (.ops [
.op ⟨(some 113), (.pure (.mv (.tmp 10))), none⟩,
.op ⟨(some 114), (.pure (.bin .add (.tmp 113) (.const (.int .i64 (1))))), none⟩,
.op ⟨(some 10), (.pure (.mv (.tmp 114))), none⟩])))))
(.seq (.block 8 (.loop (.seq (.seq (.draw false
(.take ⟨(some 115), (.pure (.mv (.tmp 10))), none⟩
(.take ⟨(some 116), (.pure (.mv (.tmp 11))), none⟩
(.take ⟨(some 117), (.pure (.bin .leq (.tmp 115) (.tmp 116))), none⟩
(.take ⟨(some 118), (.pure (.mv (.tmp 117))), none⟩
(.split 118
(.take ⟨(some 119), (.pure (.mv (.tmp 0))), (some (118, true))⟩
(.take ⟨(some 120), (.pure (.mv (.tmp 11))), (some (118, true))⟩
(.take ⟨(some 121), (.pure (.idx 1 (.tmp 119) (.tmp 120))), (some (118, true))⟩
(.take ⟨(some 123), (.pure (.mv (.tmp 0))), (some (118, true))⟩
(.take ⟨(some 124), (.pure (.mv (.tmp 1))), (some (118, true))⟩
(.take ⟨(some 125), (.pure (.idx 1 (.tmp 123) (.tmp 124))), (some (118, true))⟩
(.only false ⟨(some 122), (.load none (.tmp 121)), (some (118, true))⟩
(.only false ⟨(some 126), (.load none (.tmp 125)), (some (118, true))⟩
(.only true ⟨(some 127), (.eff (.call 111 [(.tmp 122), (.tmp 126)])), (some (118, true))⟩
(.take ⟨(some 128), (.pure (.bnot (.tmp 127))), (some (118, true))⟩
(.take ⟨(some 129), (.pure (.pick (.tmp 118) (.tmp 128) (.const (.bool false)))), none⟩
(.done))))))))))))))))))
(.cond (.tmp 129)
(.skip)
(.exit 8)))
(.block 9 (.ops [
.op ⟨(some 130), (.pure (.mv (.tmp 11))), none⟩,
.op ⟨(some 131), (.pure (.bin .sub (.tmp 130) (.const (.int .i64 (1))))), none⟩,
.op ⟨(some 11), (.pure (.mv (.tmp 131))), none⟩])))))
(.seq (.seq (.ops [
.op ⟨(some 132), (.pure (.mv (.tmp 10))), none⟩,
.op ⟨(some 133), (.pure (.mv (.tmp 11))), none⟩,
.op ⟨(some 134), (.pure (.bin .gtr (.tmp 132) (.tmp 133))), none⟩])
(.cond (.tmp 134)
(.exit 4)
(.skip)))
(.seq (.draw false
(.take ⟨(some 135), (.pure (.mv (.tmp 0))), none⟩
(.take ⟨(some 136), (.pure (.mv (.tmp 10))), none⟩
(.take ⟨(some 137), (.pure (.mv (.tmp 0))), none⟩
(.take ⟨(some 138), (.pure (.mv (.tmp 11))), none⟩
(.take ⟨(some 139), (.pure (.mv (.tmp 0))), none⟩
(.take ⟨(some 140), (.pure (.mv (.tmp 11))), none⟩
(.take ⟨(some 141), (.pure (.idx 1 (.tmp 139) (.tmp 140))), none⟩
(.take ⟨(some 143), (.pure (.mv (.tmp 0))), none⟩
(.take ⟨(some 144), (.pure (.mv (.tmp 10))), none⟩
(.take ⟨(some 145), (.pure (.idx 1 (.tmp 143) (.tmp 144))), none⟩
(.only false ⟨(some 142), (.load none (.tmp 141)), none⟩
(.only false ⟨(some 146), (.load none (.tmp 145)), none⟩
(.take ⟨(some 147), (.pure (.idx 1 (.tmp 135) (.tmp 136))), none⟩
(.only true ⟨none, (.eff (.store 1 (.tmp 147) (.tmp 142))), none⟩
(.take ⟨(some 148), (.pure (.idx 1 (.tmp 137) (.tmp 138))), none⟩
(.only true ⟨none, (.eff (.store 1 (.tmp 148) (.tmp 146))), none⟩
(.done))))))))))))))))))
(.seq (.ops [
.op ⟨(some 149), (.pure (.mv (.tmp 10))), none⟩,
.op ⟨(some 150), (.pure (.bin .add (.tmp 149) (.const (.int .i64 (1))))), none⟩,
.op ⟨(some 10), (.pure (.mv (.tmp 150))), none⟩])
(.ops [
.op ⟨(some 151), (.pure (.mv (.tmp 11))), none⟩,
.op ⟨(some 152), (.pure (.bin .sub (.tmp 151) (.const (.int .i64 (1))))), none⟩,
.op ⟨(some 11), (.pure (.mv (.tmp 152))), none⟩])))))))))
(.seq (.draw false
(.take ⟨(some 153), (.pure (.mv (.tmp 0))), none⟩
(.take ⟨(some 154), (.pure (.mv (.tmp 11))), none⟩
(.take ⟨(some 155), (.pure (.mv (.tmp 0))), none⟩
(.take ⟨(some 156), (.pure (.mv (.tmp 1))), none⟩
(.take ⟨(some 157), (.pure (.mv (.tmp 0))), none⟩
(.take ⟨(some 158), (.pure (.mv (.tmp 1))), none⟩
(.take ⟨(some 159), (.pure (.idx 1 (.tmp 157) (.tmp 158))), none⟩
(.take ⟨(some 161), (.pure (.mv (.tmp 0))), none⟩
(.take ⟨(some 162), (.pure (.mv (.tmp 11))), none⟩
(.take ⟨(some 163), (.pure (.idx 1 (.tmp 161) (.tmp 162))), none⟩
(.only false ⟨(some 160), (.load none (.tmp 159)), none⟩
(.only false ⟨(some 164), (.load none (.tmp 163)), none⟩
(.take ⟨(some 165), (.pure (.idx 1 (.tmp 153) (.tmp 154))), none⟩
(.only true ⟨none, (.eff (.store 1 (.tmp 165) (.tmp 160))), none⟩
(.take ⟨(some 166), (.pure (.idx 1 (.tmp 155) (.tmp 156))), none⟩
(.only true ⟨none, (.eff (.store 1 (.tmp 166) (.tmp 164))), none⟩
(.done))))))))))))))))))
(.seq (.ops [
.op ⟨(some 167), (.pure (.mv (.tmp 11))), none⟩,
.op ⟨(some 8), (.pure (.mv (.tmp 167))), none⟩,
.op ⟨(some 9), (.pure (.mv (.const (.bool false)))), none⟩])
(.ret)))))))))))),
[.tmp 8, .tmp 9]⟩
theorem r_slices_partitionOrdered_int : resFun Try.prog f_slices_partitionOrdered_int = some c_slices_partitionOrdered_int := by kernel_rfl

/- math/bits.Len32 -/
abbrev f_math_bits_Len32 : Nat := 114
def c_math_bits_Len32 : MFun := ⟨19, .seq (.ops [
.op ⟨(some 2), (.pure (.mv (.const (.int .i64 (0))))), none⟩])
(.seq (.seq (.ops [
.op ⟨(some 3), (.pure (.mv (.tmp 0))), none⟩,
.op ⟨(some 4), (.pure (.bin .geq (.tmp 3) (.const (.int .u32 (65536))))), none⟩])
(.cond (.tmp 4)
(.seq (.ops [
.op ⟨(some 5), (.pure (.mv (.tmp 0))), none⟩,
.op ⟨(some 6), (.pure (.bin .shr (.tmp 5) (.const (.int .u64 (16))))), none⟩,
.op ⟨(some 0), (.pure (.mv (.tmp 6))), none⟩])
(.ops [
.op ⟨(some 2), (.pure (.mv (.const (.int .i64 (16))))), none⟩]))
(.skip)))
(.seq (.seq (.ops [
.op ⟨(some 7), (.pure (.mv (.tmp 0))), none⟩,
.op ⟨(some 8), (.pure (.bin .geq (.tmp 7) (.const (.int .u32 (256))))), none⟩])
(.cond (.tmp 8)
(.seq (.ops [
.op ⟨(some 9), (.pure (.mv (.tmp 0))), none⟩,
.op ⟨(some 10), (.pure (.bin .shr (.tmp 9) (.const (.int .u64 (8))))), none⟩,
.op ⟨(some 0), (.pure (.mv (.tmp 10))), none⟩])
(.ops [
.op ⟨(some 11), (.pure (.mv (.tmp 2))), none⟩,
.op ⟨(some 12), (.pure (.bin .add (.tmp 11) (.const (.int .i64 (8))))), none⟩,
.op ⟨(some 2), (.pure (.mv (.tmp 12))), none⟩]))
(.skip)))
(.seq (.ops [
.op ⟨(some 13), (.pure (.mv (.tmp 2))), none⟩,
.op ⟨(some 14), (.pure (.mv (.tmp 0))), none⟩,
.op ⟨(some 15), (.pure (.conv .u8 (.tmp 14))), none⟩,
.op ⟨(some 16), (.pure (.sidx (.const (.string ⟨#[0, 1, 2, 2, 3, 3, 3, 3, 4, 4, 4, 4, 4, 4, 4, 4, 5, 5, 5, 5, 5, 5, 5, 5, 5, 5, 5, 5, 5, 5, 5, 5, 6, 6, 6, 6, 6, 6, 6, 6, 6, 6, 6, 6, 6, 6, 6, 6, 6, 6, 6, 6, 6, 6, 6, 6, 6, 6, 6, 6, 6, 6, 6, 6, 7, 7, 7, 7, 7, 7, 7, 7, 7, 7, 7, 7, 7, 7, 7, 7, 7, 7, 7, 7, 7, 7, 7, 7, 7, 7, 7, 7, 7, 7, 7, 7, 7, 7, 7, 7, 7, 7, 7, 7, 7, 7, 7, 7, 7, 7, 7, 7, 7, 7, 7, 7, 7, 7, 7, 7, 7, 7, 7, 7, 7, 7, 7, 7, 8, 8, 8, 8, 8, 8, 8, 8, 8, 8, 8, 8, 8, 8, 8, 8, 8, 8, 8, 8, 8, 8, 8, 8, 8, 8, 8, 8, 8, 8, 8, 8, 8, 8, 8, 8, 8, 8, 8, 8, 8, 8, 8, 8, 8, 8, 8, 8, 8, 8, 8, 8, 8, 8, 8, 8, 8, 8, 8, 8, 8, 8, 8, 8, 8, 8, 8, 8, 8, 8, 8, 8, 8, 8, 8, 8, 8, 8, 8, 8, 8, 8, 8, 8, 8, 8, 8, 8, 8, 8, 8, 8, 8, 8, 8, 8, 8, 8, 8, 8, 8, 8, 8, 8, 8, 8, 8, 8, 8, 8, 8, 8, 8, 8, 8, 8, 8, 8, 8, 8, 8, 8, 8, 8, 8, 8, 8, 8]⟩)) (.tmp 15))), none⟩,
.op ⟨(some 17), (.pure (.conv .i64 (.tmp 16))), none⟩,
.op ⟨(some 18), (.pure (.bin .add (.tmp 13) (.tmp 17))), none⟩,
.op ⟨(some 2), (.pure (.mv (.tmp 18))), none⟩])
(.ret)))),
[.tmp 2]⟩
theorem r_math_bits_Len32 : resFun Try.prog f_math_bits_Len32 = some c_math_bits_Len32 := by kernel_rfl

/- math/bits.Len64 -/
abbrev f_math_bits_Len64 : Nat := 115
def c_math_bits_Len64 : MFun := ⟨25, .seq (.ops [
.op ⟨(some 2), (.pure (.mv (.const (.int .i64 (0))))), none⟩])
(.seq (.seq (.ops [
.op ⟨(some 3), (.pure (.mv (.tmp 0))), none⟩,
.op ⟨(some 4), (.pure (.bin .geq (.tmp 3) (.const (.int .u64 (4294967296))))), none⟩])
(.cond (.tmp 4)
(.seq (.ops [
.op ⟨(some 5), (.pure (.mv (.tmp 0))), none⟩,
.op ⟨(some 6), (.pure (.bin .shr (.tmp 5) (.const (.int .u64 (32))))), none⟩,
.op ⟨(some 0), (.pure (.mv (.tmp 6))), none⟩])
(.ops [
.op ⟨(some 2), (.pure (.mv (.const (.int .i64 (32))))), none⟩]))
(.skip)))
(.seq (.seq (.ops [
.op ⟨(some 7), (.pure (.mv (.tmp 0))), none⟩,
.op ⟨(some 8), (.pure (.bin .geq (.tmp 7) (.const (.int .u64 (65536))))), none⟩])
(.cond (.tmp 8)
(.seq (.ops [
.op ⟨(some 9), (.pure (.mv (.tmp 0))), none⟩,
.op ⟨(some 10), (.pure (.bin .shr (.tmp 9) (.const (.int .u64 (16))))), none⟩,
.op ⟨(some 0), (.pure (.mv (.tmp 10))), none⟩])
(.ops [
.op ⟨(some 11), (.pure (.mv (.tmp 2))), none⟩,
.op ⟨(some 12), (.pure (.bin .add (.tmp 11) (.const (.int .i64 (16))))), none⟩,
.op ⟨(some 2), (.pure (.mv (.tmp 12))), none⟩]))
(.skip)))
(.seq (.seq (.ops [
.op ⟨(some 13), (.pure (.mv (.tmp 0))), none⟩,
.op ⟨(some 14), (.pure (.bin .geq (.tmp 13) (.const (.int .u64 (256))))), none⟩])
(.cond (.tmp 14)
(.seq (.ops [
.op ⟨(some 15), (.pure (.mv (.tmp 0))), none⟩,
.op ⟨(some 16), (.pure (.bin .shr (.tmp 15) (.const (.int .u64 (8))))), none⟩,
.op ⟨(some 0), (.pure (.mv (.tmp 16))), none⟩])
(.ops [
.op ⟨(some 17), (.pure (.mv (.tmp 2))), none⟩,
.op ⟨(some 18), (.pure (.bin .add (.tmp 17) (.const (.int .i64 (8))))), none⟩,
.op ⟨(some 2), (.pure (.mv (.tmp 18))), none⟩]))
(.skip)))
(.seq (.ops [
.op ⟨(some 19), (.pure (.mv (.tmp 2))), none⟩,
.op ⟨(some 20), (.pure (.mv (.tmp 0))), none⟩,
.op ⟨(some 21), (.pure (.conv .u8 (.tmp 20))), none⟩,
.op ⟨(some 22), (.pure (.sidx (.const (.string ⟨#[0, 1, 2, 2, 3, 3, 3, 3, 4, 4, 4, 4, 4, 4, 4, 4, 5, 5, 5, 5, 5, 5, 5, 5, 5, 5, 5, 5, 5, 5, 5, 5, 6, 6, 6, 6, 6, 6, 6, 6, 6, 6, 6, 6, 6, 6, 6, 6, 6, 6, 6, 6, 6, 6, 6, 6, 6, 6, 6, 6, 6, 6, 6, 6, 7, 7, 7, 7, 7, 7, 7, 7, 7, 7, 7, 7, 7, 7, 7, 7, 7, 7, 7, 7, 7, 7, 7, 7, 7, 7, 7, 7, 7, 7, 7, 7, 7, 7, 7, 7, 7, 7, 7, 7, 7, 7, 7, 7, 7, 7, 7, 7, 7, 7, 7, 7, 7, 7, 7, 7, 7, 7, 7, 7, 7, 7, 7, 7, 8, 8, 8, 8, 8, 8, 8, 8, 8, 8, 8, 8, 8, 8, 8, 8, 8, 8, 8, 8, 8, 8, 8, 8, 8, 8, 8, 8, 8, 8, 8, 8, 8, 8, 8, 8, 8, 8, 8, 8, 8, 8, 8, 8, 8, 8, 8, 8, 8, 8, 8, 8, 8, 8, 8, 8, 8, 8, 8, 8, 8, 8, 8, 8, 8, 8, 8, 8, 8, 8, 8, 8, 8, 8, 8, 8, 8, 8, 8, 8, 8, 8, 8, 8, 8, 8, 8, 8, 8, 8, 8, 8, 8, 8, 8, 8, 8, 8, 8, 8, 8, 8, 8, 8, 8, 8, 8, 8, 8, 8, 8, 8, 8, 8, 8, 8, 8, 8, 8, 8, 8, 8, 8, 8, 8, 8, 8, 8]⟩)) (.tmp 21))), none⟩,
.op ⟨(some 23), (.pure (.conv .i64 (.tmp 22))), none⟩,
.op ⟨(some 24), (.pure (.bin .add (.tmp 19) (.tmp 23))), none⟩,
.op ⟨(some 2), (.pure (.mv (.tmp 24))), none⟩])
(.ret))))),
[.tmp 2]⟩
theorem r_math_bits_Len64 : resFun Try.prog f_math_bits_Len64 = some c_math_bits_Len64 := by kernel_rfl

/- (*loop.example/g00940/spec.l1Cur).next -/
abbrev f_spec_l1Cur_next : Nat := 116
def c_spec_l1Cur_next : MFun := ⟨62, .seq (.ops [
.op ⟨(some 2), (.pure (.mv (.const (.int .i64 (0))))), none⟩])
(.seq (.ops [
.op ⟨(some 3), (.pure (.mv (.const (.int .i64 (0))))), none⟩])
(.seq (.seq (.ops [
.op ⟨(some 4), (.pure (.mv (.tmp 0))), none⟩,
.op ⟨(some 5), (.pure (.nilc (.tmp 4))), none⟩,
.op ⟨(some 6), (.pure (.fieldAddr 1 (.tmp 5))), none⟩,
.op ⟨(some 8), (.pure (.mv (.tmp 0))), none⟩,
.op ⟨(some 9), (.pure (.nilc (.tmp 8))), none⟩,
.op ⟨(some 10), (.pure (.fieldAddr 0 (.tmp 9))), none⟩,
.op ⟨(some 7), (.load none (.tmp 6)), none⟩,
.op ⟨(some 11), (.load none (.tmp 10)), none⟩,
.op ⟨(some 12), (.pure (.len (.tmp 11))), none⟩,
.op ⟨(some 13), (.pure (.bin .lss (.tmp 7) (.tmp 12))), none⟩])
(.cond (.tmp 13)
(.ops [
.op ⟨(some 14), (.pure (.mv (.tmp 0))), none⟩,
.op ⟨(some 15), (.pure (.nilc (.tmp 14))), none⟩,
.op ⟨(some 16), (.pure (.fieldAddr 0 (.tmp 15))), none⟩,
.op ⟨(some 18), (.pure (.mv (.tmp 0))), none⟩,
.op ⟨(some 19), (.pure (.nilc (.tmp 18))), none⟩,
.op ⟨(some 20), (.pure (.fieldAddr 1 (.tmp 19))), none⟩,
.op ⟨(some 17), (.load none (.tmp 16)), none⟩,
.op ⟨(some 21), (.load none (.tmp 20)), none⟩,
.op ⟨(some 22), (.pure (.idx 1 (.tmp 17) (.tmp 21))), none⟩,
.op ⟨(some 23), (.load none (.tmp 22)), none⟩,
.op ⟨(some 24), (.pure (.conv .i64 (.tmp 23))), none⟩,
.op ⟨(some 3), (.pure (.mv (.tmp 24))), none⟩])
(.skip)))
(.seq (.ops [
.op ⟨(some 25), (.pure (.mv (.tmp 0))), none⟩,
.op ⟨(some 26), (.pure (.nilc (.tmp 25))), none⟩,
.op ⟨(some 27), (.pure (.fieldAddr 1 (.tmp 26))), none⟩,
.op ⟨(some 28), (.load none (.tmp 27)), none⟩,
.op ⟨(some 29), (.pure (.bin .add (.tmp 28) (.const (.int .i64 (1))))), none⟩,
.op ⟨(some 30), (.pure (.nilc (.tmp 25))), none⟩,
.op ⟨(some 31), (.pure (.fieldAddr 1 (.tmp 30))), none⟩,
.op ⟨none, (.eff (.store 1 (.tmp 31) (.tmp 29))), none⟩])
(.seq (.ops [
.op ⟨(some 32), (.pure (.mv (.tmp 0))), none⟩,
.op ⟨(some 33), (.pure (.mv (.tmp 0))), none⟩,
.op ⟨(some 34), (.pure (.nilc (.tmp 33))), none⟩,
.op ⟨(some 35), (.pure (.fieldAddr 2 (.tmp 34))), none⟩,
.op ⟨(some 36), (.load none (.tmp 35)), none⟩,
.op ⟨(some 37), (.pure (.bin .mul (.tmp 36) (.const (.int .u64 (6364136223846793005))))), none⟩,
.op ⟨(some 38), (.pure (.mv (.tmp 3))), none⟩,
.op ⟨(some 39), (.pure (.conv .u64 (.tmp 38))), none⟩,
.op ⟨(some 40), (.pure (.bin .add (.tmp 37) (.tmp 39))), none⟩,
.op ⟨(some 41), (.pure (.bin .add (.tmp 40) (.const (.int .u64 (1442695040888963407))))), none⟩,
.op ⟨(some 42), (.pure (.nilc (.tmp 32))), none⟩,
.op ⟨(some 43), (.pure (.fieldAddr 2 (.tmp 42))), none⟩,
.op ⟨none, (.eff (.store 1 (.tmp 43) (.tmp 41))), none⟩])
(.seq (.seq (.ops [
.op ⟨(some 44), (.pure (.mv (.tmp 0))), none⟩,
.op ⟨(some 45), (.pure (.nilc (.tmp 44))), none⟩,
.op ⟨(some 46), (.pure (.fieldAddr 1 (.tmp 45))), none⟩,
.op ⟨(some 48), (.pure (.mv (.tmp 0))), none⟩,
.op ⟨(some 49), (.pure (.nilc (.tmp 48))), none⟩,
.op ⟨(some 50), (.pure (.fieldAddr 0 (.tmp 49))), none⟩,
.op ⟨(some 47), (.load none (.tmp 46)), none⟩,
.op ⟨(some 51), (.load none (.tmp 50)), none⟩,
.op ⟨(some 52), (.pure (.len (.tmp 51))), none⟩,
.op ⟨(some 53), (.pure (.bin .leq (.tmp 47) (.tmp 52))), none⟩])
(.cond (.tmp 53)
(.seq (.ops [
.op ⟨(some 54), (.pure (.mv (.tmp 3))), none⟩,
.op ⟨(some 2), (.pure (.mv (.tmp 54))), none⟩])
(.ret))
(.skip)))
(.seq (.ops [
.op ⟨(some 55), (.pure (.mv (.tmp 0))), none⟩,
.op ⟨(some 56), (.pure (.nilc (.tmp 55))), none⟩,
.op ⟨(some 57), (.pure (.fieldAddr 2 (.tmp 56))), none⟩,
.op ⟨(some 58), (.load none (.tmp 57)), none⟩,
.op ⟨(some 59), (.pure (.bin .shr (.tmp 58) (.const (.int .u64 (40))))), none⟩,
.op ⟨(some 60), (.pure (.bin .and (.tmp 59) (.const (.int .u64 (255))))), none⟩,
.op ⟨(some 61), (.pure (.conv .i64 (.tmp 60))), none⟩,
.op ⟨(some 2), (.pure (.mv (.tmp 61))), none⟩])
(.ret))))))),
[.tmp 2]⟩
theorem r_spec_l1Cur_next : resFun Try.prog f_spec_l1Cur_next = some c_spec_l1Cur_next := by kernel_rfl

/- (*loop.example/g00940/spec.l1Cur).content -/
abbrev f_spec_l1Cur_content : Nat := 117
def c_spec_l1Cur_content : MFun := ⟨6, .seq (.ops [
.op ⟨(some 2), (.pure (.mv (.const (.int .i64 (0))))), none⟩])
(.seq (.ops [
.op ⟨(some 3), (.pure (.mv (.tmp 0))), none⟩,
.op ⟨(some 4), (.eff (.call 98 [(.tmp 3), (.const (.int .i64 (60)))])), none⟩,
.op ⟨(some 5), (.pure (.bin .add (.const (.int .i64 (1))) (.tmp 4))), none⟩,
.op ⟨(some 2), (.pure (.mv (.tmp 5))), none⟩])
(.ret)),
[.tmp 2]⟩
theorem r_spec_l1Cur_content : resFun Try.prog f_spec_l1Cur_content = some c_spec_l1Cur_content := by kernel_rfl

/- slices.rotateCmpFunc[loop.example/g00940/impl.Packet] -/
abbrev f_slices_rotateCmpFunc_impl_Packet : Nat := 118
def c_slices_rotateCmpFunc_impl_Packet : MFun := ⟨58, .seq (.ops [
.op ⟨(some 12), (.pure (.mv (.tmp 2))), none⟩,
.op ⟨(some 13), (.pure (.mv (.tmp 1))), none⟩,
.op ⟨(some 14), (.pure (.bin .sub (.tmp 12) (.tmp 13))), none⟩,
.op ⟨(some 10), (.pure (.mv (.tmp 14))), none⟩])
(.seq (.ops [
.op ⟨(some 15), (.pure (.mv (.tmp 3))), none⟩,
.op ⟨(some 16), (.pure (.mv (.tmp 2))), none⟩,
.op ⟨(some 17), (.pure (.bin .sub (.tmp 15) (.tmp 16))), none⟩,
.op ⟨(some 11), (.pure (.mv (.tmp 17))), none⟩])
(.seq (.block 0 (.loop (.seq (.seq (.ops [
.op ⟨(some 18), (.pure (.mv (.tmp 10))), none⟩,
.op ⟨(some 19), (.pure (.mv (.tmp 11))), none⟩,
.op ⟨(some 20), (.pure (.bin .neq (.tmp 18) (.tmp 19))), none⟩])
(.cond (.tmp 20)
(.skip)
(.exit 0)))
(.block 1 (.seq (.ops [
.op ⟨(some 21), (.pure (.mv (.tmp 10))), none⟩,
.op ⟨(some 22), (.pure (.mv (.tmp 11))), none⟩,
.op ⟨(some 23), (.pure (.bin .gtr (.tmp 21) (.tmp 22))), none⟩])
(.cond (.tmp 23)
(.seq (.ops [
.op ⟨(some 24), (.pure (.mv (.tmp 0))), none⟩,
.op ⟨(some 25), (.pure (.mv (.tmp 2))), none⟩,
.op ⟨(some 26), (.pure (.mv (.tmp 10))), none⟩,
.op ⟨(some 27), (.pure (.bin .sub (.tmp 25) (.tmp 26))), none⟩,
.op ⟨(some 28), (.pure (.mv (.tmp 2))), none⟩,
.op ⟨(some 29), (.pure (.mv (.tmp 11))), none⟩,
.op ⟨(some 30), (.pure (.mv (.tmp 4))), none⟩,
.op ⟨(some 31), (.eff (.call 124 [(.tmp 24), (.tmp 27), (.tmp 28), (.tmp 29), (.tmp 30)])), none⟩])
(.ops [
.op ⟨(some 32), (.pure (.mv (.tmp 10))), none⟩,
.op ⟨(some 33), (.pure (.mv (.tmp 11))), none⟩,
.op ⟨(some 34), (.pure (.bin .sub (.tmp 32) (.tmp 33))), none⟩,
.op ⟨(some 10), (.pure (.mv (.tmp 34))), none⟩]))
(.seq (.ops [
.op ⟨(some 35), (.pure (.mv (.tmp 0))), none⟩,
.op ⟨(some 36), (.pure (.mv (.tmp 2))), none⟩,
.op ⟨(some 37), (.pure (.mv (.tmp 10))), none⟩,
.op ⟨(some 38), (.pure (.bin .sub (.tmp 36) (.tmp 37))), none⟩,
.op ⟨(some 39), (.pure (.mv (.tmp 2))), none⟩,
.op ⟨(some 40), (.pure (.mv (.tmp 11))), none⟩,
.op ⟨(some 41), (.pure (.bin .add (.tmp 39) (.tmp 40))), none⟩,
.op ⟨(some 42), (.pure (.mv (.tmp 10))), none⟩,
.op ⟨(some 43), (.pure (.bin .sub (.tmp 41) (.tmp 42))), none⟩,
.op ⟨(some 44), (.pure (.mv (.tmp 10))), none⟩,
.op ⟨(some 45), (.pure (.mv (.tmp 4))), none⟩,
.op ⟨(some 46), (.eff (.call 124 [(.tmp 35), (.tmp 38), (.tmp 43), (.tmp 44), (.tmp 45)])), none⟩])
(.ops [
.op ⟨(some 47), (.pure (.mv (.tmp 11))), none⟩,
.op ⟨(some 48), (.pure (.mv (.tmp 10))), none⟩,
.op ⟨(some 49), (.pure (.bin .sub (.tmp 47) (.tmp 48))), none⟩,
.op ⟨(some 11), (.pure (.mv (.tmp 49))), none⟩]))))))))
(.ops [
.op ⟨(some 50), (.pure (.mv (.tmp 0))), none⟩,
.op ⟨(some 51), (.pure (.mv (.tmp 2))), none⟩,
.op ⟨(some 52), (.pure (.mv (.tmp 10))), none⟩,
.op ⟨(some 53), (.pure (.bin .sub (.tmp 51) (.tmp 52))), none⟩,
.op ⟨(some 54), (.pure (.mv (.tmp 2))), none⟩,
.op ⟨(some 55), (.pure (.mv (.tmp 10))), none⟩,
.op ⟨(some 56), (.pure (.mv (.tmp 4))), none⟩,
.op ⟨(some 57), (.eff (.call 124 [(.tmp 50), (.tmp 53), (.tmp 54), (.tmp 55), (.tmp 56)])), none⟩]))),
[]⟩
theorem r_slices_rotateCmpFunc_impl_Packet : resFun Try.prog f_slices_rotateCmpFunc_impl_Packet = some c_slices_rotateCmpFunc_impl_Packet := by kernel_rfl

/- slices.siftDownOrdered[int] -/
abbrev f_slices_siftDownOrdered_int : Nat := 119
def c_slices_siftDownOrdered_int : MFun := ⟨76, .seq (.ops [
.op ⟨(some 10), (.pure (.mv (.tmp 1))), none⟩,
.op ⟨(some 8), (.pure (.mv (.tmp 10))), none⟩])
(.block 0 (.loop (.block 1 (.seq (.ops [
.op ⟨(some 11), (.pure (.mv (.tmp 8))), none⟩,
.op ⟨(some 12), (.pure (.bin .mul (.const (.int .i64 (2))) (.tmp 11))), none⟩,
.op ⟨(some 13), (.pure (.bin .add (.tmp 12) (.const (.int .i64 (1))))), none⟩,
.op ⟨(some 9), (.pure (.mv (.tmp 13))), none⟩])
(.seq (.seq (.ops [
.op ⟨(some 14), (.pure (.mv (.tmp 9))), none⟩,
.op ⟨(some 15), (.pure (.mv (.tmp 2))), none⟩,
.op ⟨(some 16), (.pure (.bin .geq (.tmp 14) (.tmp 15))), none⟩])
(.cond (.tmp 16)
(.exit 0)
(.skip)))
(.seq (.seq (.draw false
(.take ⟨(some 17), (.pure (.mv (.tmp 9))), none⟩
(.take ⟨(some 18), (.pure (.bin .add (.tmp 17) (.const (.int .i64 (1))))), none⟩
(.take ⟨(some 19), (.pure (.mv (.tmp 2))), none⟩
(.take ⟨(some 20), (.pure (.bin .lss (.tmp 18) (.tmp 19))), none⟩
(.take ⟨(some 21), (.pure (.mv (.tmp 20))), none⟩
(.split 21
(.take ⟨(some 22), (.pure (.mv (.tmp 0))), (some (21, true))⟩
(.take ⟨(some 23), (.pure (.mv (.tmp 3))), (some (21, true))⟩
(.take ⟨(some 24), (.pure (.mv (.tmp 9))), (some (21, true))⟩
(.take ⟨(some 25), (.pure (.bin .add (.tmp 23) (.tmp 24))), (some (21, true))⟩
(.take ⟨(some 26), (.pure (.idx 1 (.tmp 22) (.tmp 25))), (some (21, true))⟩
(.take ⟨(some 28), (.pure (.mv (.tmp 0))), (some (21, true))⟩
(.take ⟨(some 29), (.pure (.mv (.tmp 3))), (some (21, true))⟩
(.take ⟨(some 30), (.pure (.mv (.tmp 9))), (some (21, true))⟩
(.take ⟨(some 31), (.pure (.bin .add (.tmp 29) (.tmp 30))), (some (21, true))⟩
(.take ⟨(some 32), (.pure (.bin .add (.tmp 31) (.const (.int .i64 (1))))), (some (21, true))⟩
(.take ⟨(some 33), (.pure (.idx 1 (.tmp 28) (.tmp 32))), (some (21, true))⟩
(.only false ⟨(some 27), (.load none (.tmp 26)), (some (21, true))⟩
(.only false ⟨(some 34), (.load none (.tmp 33)), (some (21, true))⟩
(.only true ⟨(some 35), (.eff (.call 111 [(.tmp 27), (.tmp 34)])), (some (21, true))⟩
(.take ⟨(some 36), (.pure (.pick (.tmp 21) (.tmp 35) (.const (.bool false)))), none⟩
(.done)))))))))))))))))))))))
(.cond (.tmp 36)
(.ops [
.op ⟨(some 37), (.pure (.mv (.tmp 9))), none⟩,
.op ⟨(some 38), (.pure (.bin .add (.tmp 37) (.const (.int .i64 (1))))), none⟩,
.op ⟨(some 9), (.pure (.mv (.tmp 38))), none⟩])
(.skip)))
(.seq (.seq (.draw false
(.take ⟨(some 39), (.pure (.mv (.tmp 0))), none⟩
(.take ⟨(some 40), (.pure (.mv (.tmp 3))), none⟩
(.take ⟨(some 41), (.pure (.mv (.tmp 8))), none⟩
(.take ⟨(some 42), (.pure (.bin .add (.tmp 40) (.tmp 41))), none⟩
(.take ⟨(some 43), (.pure (.idx 1 (.tmp 39) (.tmp 42))), none⟩
(.take ⟨(some 45), (.pure (.mv (.tmp 0))), none⟩
(.take ⟨(some 46), (.pure (.mv (.tmp 3))), none⟩
(.take ⟨(some 47), (.pure (.mv (.tmp 9))), none⟩
(.take ⟨(some 48), (.pure (.bin .add (.tmp 46) (.tmp 47))), none⟩
(.take ⟨(some 49), (.pure (.idx 1 (.tmp 45) (.tmp 48))), none⟩
(.only false ⟨(some 44), (.load none (.tmp 43)), none⟩
(.only false ⟨(some 50), (.load none (.tmp 49)), none⟩
(.only true ⟨(some 51), (.eff (.call 111 [(.tmp 44), (.tmp 50)])), none⟩
(.take ⟨(some 52), (.pure (.bnot (.tmp 51))), none⟩
(.done))))))))))))))))
(.cond (.tmp 52)
(.ret)
(.skip)))
(.seq (.draw false
(.take ⟨(some 53), (.pure (.mv (.tmp 0))), none⟩
(.take ⟨(some 54), (.pure (.mv (.tmp 3))), none⟩
(.take ⟨(some 55), (.pure (.mv (.tmp 8))), none⟩
(.take ⟨(some 56), (.pure (.bin .add (.tmp 54) (.tmp 55))), none⟩
(.take ⟨(some 57), (.pure (.mv (.tmp 0))), none⟩
(.take ⟨(some 58), (.pure (.mv (.tmp 3))), none⟩
(.take ⟨(some 59), (.pure (.mv (.tmp 9))), none⟩
(.take ⟨(some 60), (.pure (.bin .add (.tmp 58) (.tmp 59))), none⟩
(.take ⟨(some 61), (.pure (.mv (.tmp 0))), none⟩
(.take ⟨(some 62), (.pure (.mv (.tmp 3))), none⟩
(.take ⟨(some 63), (.pure (.mv (.tmp 9))), none⟩
(.take ⟨(some 64), (.pure (.bin .add (.tmp 62) (.tmp 63))), none⟩
(.take ⟨(some 65), (.pure (.idx 1 (.tmp 61) (.tmp 64))), none⟩
(.take ⟨(some 67), (.pure (.mv (.tmp 0))), none⟩
(.take ⟨(some 68), (.pure (.mv (.tmp 3))), none⟩
(.take ⟨(some 69), (.pure (.mv (.tmp 8))), none⟩
(.take ⟨(some 70), (.pure (.bin .add (.tmp 68) (.tmp 69))), none⟩
(.take ⟨(some 71), (.pure (.idx 1 (.tmp 67) (.tmp 70))), none⟩
(.only false ⟨(some 66), (.load none (.tmp 65)), none⟩
(.only false ⟨(some 72), (.load none (.tmp 71)), none⟩
(.take ⟨(some 73), (.pure (.idx 1 (.tmp 53) (.tmp 56))), none⟩
(.only true ⟨none, (.eff (.store 1 (.tmp 73) (.tmp 66))), none⟩
(.take ⟨(some 74), (.pure (.idx 1 (.tmp 57) (.tmp 60))), none⟩
(.only true ⟨none, (.eff (.store 1 (.tmp 74) (.tmp 72))), none⟩
(.done))))))))))))))))))))))))))
(.ops [
.op ⟨(some 75), (.pure (.mv (.tmp 9))), none⟩,
.op ⟨(some 8), (.pure (.mv (.tmp 75))), none⟩]))))))))),
[]⟩
theorem r_slices_siftDownOrdered_int : resFun Try.prog f_slices_siftDownOrdered_int = some c_slices_siftDownOrdered_int := by kernel_rfl
end Go.Proofs.Ytjmcijcdncgaiaa
