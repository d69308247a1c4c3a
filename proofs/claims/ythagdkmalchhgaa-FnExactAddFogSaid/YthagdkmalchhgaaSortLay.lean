/- slices.SortFunc at this seat's fogs: the table of numbers and the bodies held against the library's own, printed by the kit's tool lay-plain; and the contract of it. Condition: none. -/
import Derived.Test.YthagdkmalchhgaaSortK
import Derived.Test.YthagdkmalchhgaaRo13
import Derived.Test.YthagdkmalchhgaaRo3
import Derived.Test.YthagdkmalchhgaaProg
import Derived.KernelRfl
namespace Go.Proofs.Ythagdkmalchhgaa
open Go.Vc Go.Shelf Go.Sort
set_option linter.all false
def sortFog_ren : Go.Shelf.Ren := ⟨fun | 6 => 164 | 15 => 193 | 14 => 192 | 28 => 206 | 29 => 207 | 20 => 198 | 21 => 199 | 22 => 200 | 23 => 201 | 24 => 202 | 25 => 203 | 26 => 204 | 27 => 205 | 46 => 209 | 47 => 210 | 48 => 211 | 49 => 212 | 50 => 213 | 57 => 214 | n => n, fun | 22 => 41 | 24 => 96 | 25 => 144 | 3 => 3 | 39 => 173 | 0 => 0 | 53 => 185 | 55 => 128 | 4 => 4 | 46 => 179 | 45 => 178 | 50 => 27 | 5 => 5 | 9 => 9 | 66 => 187 | 70 => 191 | 76 => 193 | 77 => 194 | n => n, fun | n => n⟩
theorem sortFog : Go.Proofs.SlLaysF0.n6 Try.prog sortFog_ren := {
  mixed := by kernel_rfl
  f6 := ⟨Try.f164.name, by decide, Try.func164.trans (congrArg some (by kernel_rfl))⟩
  f14 := ⟨Try.f192.name, by decide, Try.func192.trans (congrArg some (by kernel_rfl))⟩
  f15 := Try.func193.trans (congrArg some (by kernel_rfl))
  f20 := ⟨Try.f198.name, by decide, Try.func198.trans (congrArg some (by kernel_rfl))⟩
  f21 := ⟨Try.f199.name, by decide, Try.func199.trans (congrArg some (by kernel_rfl))⟩
  f22 := ⟨Try.f200.name, by decide, Try.func200.trans (congrArg some (by kernel_rfl))⟩
  f23 := ⟨Try.f201.name, by decide, Try.func201.trans (congrArg some (by kernel_rfl))⟩
  f24 := ⟨Try.f202.name, by decide, Try.func202.trans (congrArg some (by kernel_rfl))⟩
  f25 := ⟨Try.f203.name, by decide, Try.func203.trans (congrArg some (by kernel_rfl))⟩
  f26 := ⟨Try.f204.name, by decide, Try.func204.trans (congrArg some (by kernel_rfl))⟩
  f27 := ⟨Try.f205.name, by decide, Try.func205.trans (congrArg some (by kernel_rfl))⟩
  f28 := Try.func206.trans (congrArg some (by kernel_rfl))
  f29 := Try.func207.trans (congrArg some (by kernel_rfl))
  f46 := ⟨Try.f209.name, by decide, Try.func209.trans (congrArg some (by kernel_rfl))⟩
  f47 := Try.func210.trans (congrArg some (by kernel_rfl))
  f48 := Try.func211.trans (congrArg some (by kernel_rfl))
  f49 := ⟨Try.f212.name, by decide, Try.func212.trans (congrArg some (by kernel_rfl))⟩
  f50 := ⟨Try.f213.name, by decide, Try.func213.trans (congrArg some (by kernel_rfl))⟩
  f57 := ⟨Try.f214.name, by decide, Try.func214.trans (congrArg some (by kernel_rfl))⟩
  t0 := Try.underlying0
  a0 := Try.isAgg0
  z0 := Try.sizeOf0
  v0 := Try.zeroValue0
  t3 := Try.underlying3
  a3 := Try.isAgg3
  z3 := Try.sizeOf3
  v3 := Try.zeroValue3
  t4 := Try.underlying4
  a4 := Try.isAgg4
  z4 := Try.sizeOf4
  v4 := Try.zeroValue4
  t5 := Try.underlying5
  a5 := Try.isAgg5
  z5 := Try.sizeOf5
  v5 := Try.zeroValue5
  t9 := Try.underlying9
  a9 := Try.isAgg9
  z9 := Try.sizeOf9
  v9 := Try.zeroValue9
  t22 := Try.underlying41
  a22 := Try.isAgg41
  z22 := Try.sizeOf41
  v22 := Try.zeroValue41
  t25 := Try.underlying144
  a25 := Try.isAgg144
  z25 := Try.sizeOf144
  v25 := Try.zeroValue144
  t39 := Try.underlying173
  a39 := Try.isAgg173
  z39 := Try.sizeOf173
  v39 := Try.zeroValue173
  t45 := Try.underlying178
  a45 := Try.isAgg178
  z45 := Try.sizeOf178
  v45 := Try.zeroValue178
  t46 := Try.underlying179
  a46 := Try.isAgg179
  z46 := Try.sizeOf179
  v46 := Try.zeroValue179
  t50 := Try.underlying27
  a50 := Try.isAgg27
  z50 := Try.sizeOf27
  v50 := Try.zeroValue27
  t53 := Try.underlying185
  a53 := Try.isAgg185
  z53 := Try.sizeOf185
  v53 := Try.zeroValue185
  t55 := Try.underlying128
  a55 := Try.isAgg128
  z55 := Try.sizeOf128
  v55 := Try.zeroValue128
  t66 := Try.underlying187
  a66 := Try.isAgg187
  z66 := Try.sizeOf187
  v66 := Try.zeroValue187
  t70 := Try.underlying191
  a70 := Try.isAgg191
  z70 := Try.sizeOf191
  v70 := Try.zeroValue191
  t76 := Try.underlying193
  a76 := Try.isAgg193
  z76 := Try.sizeOf193
  v76 := Try.zeroValue193
  t77 := Try.underlying194
  a77 := Try.isAgg194
  z77 := Try.sizeOf194
  v77 := Try.zeroValue194 }

theorem fgLtOf (x y : FogD) : ltOf fgCmp x y = decide (x.link < y.link ∨ (x.link = y.link ∧ x.fr < y.fr)) := by
  unfold ltOf
  rw [decide_eq_decide]; exact fgCmp_lt
theorem fgSwo : SWO (ltOf fgCmp) where
  irrefl x := by rw [fgLtOf]; simp
  trans x y z h1 h2 := by rw [fgLtOf] at *; simp at *; omega
  ntrans x y z h1 h2 := by rw [fgLtOf] at *; simp at *; omega
instance : Inhabited FogD := ⟨⟨0, 0, 0⟩⟩
theorem sortFogs_ok (v : Value) (xs : List FogD) (h : Heap) (hs : SlO h v xs) (hne : xs ≠ []) (hl : xs.length ≤ 1000000) :
    Cn f_slices_SortFunc_Limpl_Fog_impl_Fog [v, .func (.func f_impl_compareFogs) #[] #[]] h fun r h' => ∃ ys : List FogD, r = .tuple #[] ∧ SlO h' v ys ∧ Mod (blks v) h h' ∧ ys.Perm xs ∧ ∀ (i j : Nat) (x y : FogD), i < j → ys[i]? = some x → ys[j]? = some y → ¬ fgCmp y x < 0 :=
  sortFunc_ok sortFog (fun w => (aggN_some (n := 3) (by kernel_rfl) w).1) (fun w => (aggN_some (n := 3) (by kernel_rfl) w).2) fgCmp fgSwo f_impl_compareFogs (fun x y h => impl_compareFogs_ok x y h) rfl ⟨Try.f164, Try.func164, by kernel_rfl, by kernel_rfl⟩ v xs h hs hne hl
end Go.Proofs.Ythagdkmalchhgaa
