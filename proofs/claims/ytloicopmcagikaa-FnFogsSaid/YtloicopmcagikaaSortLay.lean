/- SortLay. Condition: none. -/
import Derived.Test.YtloicopmcagikaaSortK
import Derived.Test.YtloicopmcagikaaMgB
import Derived.Test.YtloicopmcagikaaMgA
import Derived.Test.YtloicopmcagikaaProg
import Derived.KernelRfl
/- slices.SortFunc at this seat's fogs: the table of numbers and the bodies held against the library's own, printed by the kit's tool lay-plain; and the contract of it. Condition: none. -/
namespace Go.Proofs.Ytloicopmcagikaa
open Go.Vc Go.Shelf Go.Sort
set_option linter.all false
def sortFog_ren : Go.Shelf.Ren := ⟨fun | 6 => 68 | 15 => 87 | 14 => 86 | 28 => 101 | 29 => 102 | 20 => 93 | 21 => 94 | 22 => 95 | 23 => 96 | 24 => 97 | 25 => 98 | 26 => 99 | 27 => 100 | 46 => 104 | 47 => 105 | 48 => 106 | 49 => 107 | 50 => 108 | 57 => 109 | n => n, fun | 22 => 28 | 24 => 57 | 25 => 88 | 3 => 3 | 39 => 104 | 0 => 0 | 53 => 119 | 55 => 64 | 4 => 4 | 46 => 113 | 45 => 112 | 50 => 31 | 5 => 5 | 9 => 9 | 66 => 121 | 70 => 125 | 76 => 127 | 77 => 128 | n => n, fun | n => n⟩
theorem sortFog : Go.Proofs.SlLaysF0.n6 Try.prog sortFog_ren := {
 mixed := by kernel_rfl
 f6 := ⟨Try.f68.name, by decide, Try.func68.trans (congrArg some (by kernel_rfl))⟩
 f14 := ⟨Try.f86.name, by decide, Try.func86.trans (congrArg some (by kernel_rfl))⟩
 f15 := Try.func87.trans (congrArg some (by kernel_rfl))
 f20 := ⟨Try.f93.name, by decide, Try.func93.trans (congrArg some (by kernel_rfl))⟩
 f21 := ⟨Try.f94.name, by decide, Try.func94.trans (congrArg some (by kernel_rfl))⟩
 f22 := ⟨Try.f95.name, by decide, Try.func95.trans (congrArg some (by kernel_rfl))⟩
 f23 := ⟨Try.f96.name, by decide, Try.func96.trans (congrArg some (by kernel_rfl))⟩
 f24 := ⟨Try.f97.name, by decide, Try.func97.trans (congrArg some (by kernel_rfl))⟩
 f25 := ⟨Try.f98.name, by decide, Try.func98.trans (congrArg some (by kernel_rfl))⟩
 f26 := ⟨Try.f99.name, by decide, Try.func99.trans (congrArg some (by kernel_rfl))⟩
 f27 := ⟨Try.f100.name, by decide, Try.func100.trans (congrArg some (by kernel_rfl))⟩
 f28 := Try.func101.trans (congrArg some (by kernel_rfl))
 f29 := Try.func102.trans (congrArg some (by kernel_rfl))
 f46 := ⟨Try.f104.name, by decide, Try.func104.trans (congrArg some (by kernel_rfl))⟩
 f47 := Try.func105.trans (congrArg some (by kernel_rfl))
 f48 := Try.func106.trans (congrArg some (by kernel_rfl))
 f49 := ⟨Try.f107.name, by decide, Try.func107.trans (congrArg some (by kernel_rfl))⟩
 f50 := ⟨Try.f108.name, by decide, Try.func108.trans (congrArg some (by kernel_rfl))⟩
 f57 := ⟨Try.f109.name, by decide, Try.func109.trans (congrArg some (by kernel_rfl))⟩
 t0 := Try.underlying0
 a0 := Try.isAgg0
 z0 := Try.sizeOf0
 v0 := Try.zeroValue0
 t3 := Try.underlying3
 a3 := Try.isAgg3
 z3 := Try.sizeOf3
 v3 := Try.zeroValue3
 t4 := Try.underlying4
 a4 := Try.isAgg4
 z4 := Try.sizeOf4
 v4 := Try.zeroValue4
 t5 := Try.underlying5
 a5 := Try.isAgg5
 z5 := Try.sizeOf5
 v5 := Try.zeroValue5
 t9 := Try.underlying9
 a9 := Try.isAgg9
 z9 := Try.sizeOf9
 v9 := Try.zeroValue9
 t22 := Try.underlying28
 a22 := Try.isAgg28
 z22 := Try.sizeOf28
 v22 := Try.zeroValue28
 t25 := Try.underlying88
 a25 := Try.isAgg88
 z25 := Try.sizeOf88
 v25 := Try.zeroValue88
 t39 := Try.underlying104
 a39 := Try.isAgg104
 z39 := Try.sizeOf104
 v39 := Try.zeroValue104
 t45 := Try.underlying112
 a45 := Try.isAgg112
 z45 := Try.sizeOf112
 v45 := Try.zeroValue112
 t46 := Try.underlying113
 a46 := Try.isAgg113
 z46 := Try.sizeOf113
 v46 := Try.zeroValue113
 t50 := Try.underlying31
 a50 := Try.isAgg31
 z50 := Try.sizeOf31
 v50 := Try.zeroValue31
 t53 := Try.underlying119
 a53 := Try.isAgg119
 z53 := Try.sizeOf119
 v53 := Try.zeroValue119
 t55 := Try.underlying64
 a55 := Try.isAgg64
 z55 := Try.sizeOf64
 v55 := Try.zeroValue64
 t66 := Try.underlying121
 a66 := Try.isAgg121
 z66 := Try.sizeOf121
 v66 := Try.zeroValue121
 t70 := Try.underlying125
 a70 := Try.isAgg125
 z70 := Try.sizeOf125
 v70 := Try.zeroValue125
 t76 := Try.underlying127
 a76 := Try.isAgg127
 z76 := Try.sizeOf127
 v76 := Try.zeroValue127
 t77 := Try.underlying128
 a77 := Try.isAgg128
 z77 := Try.sizeOf128
 v77 := Try.zeroValue128 }

theorem fgLtOf (x y : FogD) : ltOf fgCmp x y = decide (x.link < y.link ∨ (x.link = y.link ∧ x.fr < y.fr)) := by
 unfold ltOf
 rw [decide_eq_decide]; exact fgCmp_lt
theorem fgSwo : SWO (ltOf fgCmp) where
 irrefl x := by rw [fgLtOf]; simp
 trans x y z h1 h2 := by rw [fgLtOf] at *; simp at *; omega
 ntrans x y z h1 h2 := by rw [fgLtOf] at *; simp at *; omega
instance : Inhabited FogD := ⟨⟨0, 0, 0⟩⟩
theorem sortFogs_ok (v : Value) (xs : List FogD) (h : Heap) (hs : SlO h v xs) (hne : xs ≠ []) (hl : xs.length ≤ 1000000) :
  Cn f_slices_SortFunc_Limpl_Fog_impl_Fog [v, .func (.func f_impl_compareFogs) #[] #[]] h fun r h' => ∃ ys : List FogD, r = .tuple #[] ∧ SlO h' v ys ∧ Mod (blks v) h h' ∧ ys.Perm xs ∧ ∀ (i j : Nat) (x y : FogD), i < j → ys[i]? = some x → ys[j]? = some y → ¬ fgCmp y x < 0 :=
 sortFunc_ok sortFog (fun w => (aggN_some (n := 3) (by kernel_rfl) w).1) (fun w => (aggN_some (n := 3) (by kernel_rfl) w).2) fgCmp fgSwo f_impl_compareFogs (fun x y h => impl_compareFogs_ok x y h) rfl ⟨Try.f68, Try.func68, by kernel_rfl, by kernel_rfl⟩ v xs h hs hne hl
end Go.Proofs.Ytloicopmcagikaa

