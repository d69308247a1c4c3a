/- slices.Sort and slices.Compact at ints in this program: the tables of numbers and the bodies held against the library's own, printed by the kit's tool lay-plain; and the contracts. Condition: none. -/
import Derived.Test.YtjmcijcdncgaiaaSortI
import Derived.Test.YtjmcijcdncgaiaaLaws1
import Derived.Test.YtjmcijcdncgaiaaProg
import Derived.KernelRfl
namespace Go.Proofs.Ytjmcijcdncgaiaa
open Go.Vc Go.Shelf Go.Sort
set_option linter.all false
def sortInts_ren : Go.Shelf.Ren := ⟨fun | 189 => 69 | 125 => 93 | 257 => 92 | 128 => 114 | 129 => 115 | 294 => 105 | 295 => 106 | 296 => 107 | 297 => 108 | 298 => 109 | 299 => 110 | 216 => 111 | 300 => 112 | 301 => 113 | 328 => 119 | 329 => 120 | 330 => 121 | 331 => 122 | 332 => 123 | 215 => 91 | 343 => 125 | n => n, fun | 28 => 22 | 3 => 3 | 46 => 81 | 0 => 0 | 51 => 98 | 53 => 74 | 4 => 4 | 183 => 91 | 182 => 90 | 131 => 95 | 5 => 5 | 9 => 9 | 218 => 101 | 222 => 105 | 228 => 107 | 229 => 108 | n => n, fun | n => n⟩
theorem sortInts : Go.Proofs.Lays.n189 Try.prog sortInts_ren := {
  mixed := by kernel_rfl
  f125 := Try.func93.trans (congrArg some (by kernel_rfl))
  f128 := Try.func114.trans (congrArg some (by kernel_rfl))
  f129 := Try.func115.trans (congrArg some (by kernel_rfl))
  f189 := Try.func69.trans (congrArg some (by kernel_rfl))
  f215 := Try.func91.trans (congrArg some (by kernel_rfl))
  f216 := Try.func111.trans (congrArg some (by kernel_rfl))
  f257 := Try.func92.trans (congrArg some (by kernel_rfl))
  f294 := Try.func105.trans (congrArg some (by kernel_rfl))
  f295 := Try.func106.trans (congrArg some (by kernel_rfl))
  f296 := Try.func107.trans (congrArg some (by kernel_rfl))
  f297 := Try.func108.trans (congrArg some (by kernel_rfl))
  f298 := Try.func109.trans (congrArg some (by kernel_rfl))
  f299 := Try.func110.trans (congrArg some (by kernel_rfl))
  f300 := Try.func112.trans (congrArg some (by kernel_rfl))
  f301 := Try.func113.trans (congrArg some (by kernel_rfl))
  f328 := Try.func119.trans (congrArg some (by kernel_rfl))
  f329 := Try.func120.trans (congrArg some (by kernel_rfl))
  f330 := Try.func121.trans (congrArg some (by kernel_rfl))
  f331 := Try.func122.trans (congrArg some (by kernel_rfl))
  f332 := Try.func123.trans (congrArg some (by kernel_rfl))
  f343 := Try.func125.trans (congrArg some (by kernel_rfl))
  t0 := Try.underlying0
  a0 := Try.isAgg0
  z0 := Try.sizeOf0
  v0 := Try.zeroValue0
  t3 := Try.underlying3
  a3 := Try.isAgg3
  z3 := Try.sizeOf3
  v3 := Try.zeroValue3
  t4 := Try.underlying4
  a4 := Try.isAgg4
  z4 := Try.sizeOf4
  v4 := Try.zeroValue4
  t5 := Try.underlying5
  a5 := Try.isAgg5
  z5 := Try.sizeOf5
  v5 := Try.zeroValue5
  t9 := Try.underlying9
  a9 := Try.isAgg9
  z9 := Try.sizeOf9
  v9 := Try.zeroValue9
  t28 := Try.underlying22
  a28 := Try.isAgg22
  z28 := Try.sizeOf22
  v28 := Try.zeroValue22
  t46 := Try.underlying81
  a46 := Try.isAgg81
  z46 := Try.sizeOf81
  v46 := Try.zeroValue81
  t51 := Try.underlying98
  a51 := Try.isAgg98
  z51 := Try.sizeOf98
  v51 := Try.zeroValue98
  t53 := Try.underlying74
  a53 := Try.isAgg74
  z53 := Try.sizeOf74
  v53 := Try.zeroValue74
  t131 := Try.underlying95
  a131 := Try.isAgg95
  z131 := Try.sizeOf95
  v131 := Try.zeroValue95
  t182 := Try.underlying90
  a182 := Try.isAgg90
  z182 := Try.sizeOf90
  v182 := Try.zeroValue90
  t183 := Try.underlying91
  a183 := Try.isAgg91
  z183 := Try.sizeOf91
  v183 := Try.zeroValue91
  t218 := Try.underlying101
  a218 := Try.isAgg101
  z218 := Try.sizeOf101
  v218 := Try.zeroValue101
  t222 := Try.underlying105
  a222 := Try.isAgg105
  z222 := Try.sizeOf105
  v222 := Try.zeroValue105
  t228 := Try.underlying107
  a228 := Try.isAgg107
  z228 := Try.sizeOf107
  v228 := Try.zeroValue107
  t229 := Try.underlying108
  a229 := Try.isAgg108
  z229 := Try.sizeOf108
  v229 := Try.zeroValue108 }
def compactInts_ren : Go.Shelf.Ren := ⟨fun | 20 => 70 | n => n, fun | 22 => 22 | 3 => 3 | 4 => 4 | 0 => 0 | n => n, fun | n => n⟩
theorem compactInts : Go.Proofs.Lays2.n20 Try.prog compactInts_ren := {
  mixed := by kernel_rfl
  f20 := Try.func70.trans (congrArg some (by kernel_rfl))
  t0 := Try.underlying0
  a0 := Try.isAgg0
  z0 := Try.sizeOf0
  v0 := Try.zeroValue0
  t3 := Try.underlying3
  a3 := Try.isAgg3
  z3 := Try.sizeOf3
  v3 := Try.zeroValue3
  t4 := Try.underlying4
  a4 := Try.isAgg4
  z4 := Try.sizeOf4
  v4 := Try.zeroValue4
  t22 := Try.underlying22
  a22 := Try.isAgg22
  z22 := Try.sizeOf22
  v22 := Try.zeroValue22
  i3 := by kernel_rfl }

theorem slices_Sort_ok (v : Value) (xs : List Int) (h : Heap) (hs : SlO h v xs) (hl : xs.length ≤ 1000000) :
    Cn f_slices_Sort_Lint_int [v] h fun r h' => r = .tuple #[] ∧ SlO h' v (xs.mergeSort fun x y => decide (x ≤ y)) ∧ Mod (blks v) h h' :=
  sortInts_gen sortInts rfl ⟨Try.f69, Try.func69, by kernel_rfl, by kernel_rfl⟩ v xs h hs hl
theorem slices_Compact_ok (v : Value) (xs : List Int) (h : Heap) (hs : SlO h v xs) (hl : xs.length ≤ 1000000) :
    Cn f_slices_Compact_Lint_int [v] h fun r h' => SlO h' r (Lib.compact xs) ∧ Mod (blks v) h h' ∧ ∀ b ∈ blks r, b ∈ blks v ∨ h.size ≤ b :=
  compactInts_gen compactInts rfl ⟨Try.f70, Try.func70, by kernel_rfl, by kernel_rfl⟩ v xs h hs hl
end Go.Proofs.Ytjmcijcdncgaiaa
