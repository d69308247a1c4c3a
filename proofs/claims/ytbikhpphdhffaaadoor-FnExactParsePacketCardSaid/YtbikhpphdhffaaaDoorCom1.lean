/- Tests whether numbers lie within bounds. Condition: none. -/
import Derived.Test.YtbikhpphdhffaaaDoorLaws1
namespace Go.Proofs.YtbikhpphdhffaaaDoor
open Go.Vc

theorem within_ok (n lo hi : Int) (h : Heap) : Cn f_impl_within [.int .i64 n, .int .i64 lo, .int .i64 hi] h fun v h' => v = .bool (decide (lo ≤ n ∧ n ≤ hi)) ∧ h' = h := by
  refine calls_of r_impl_within ?_
  refine SplitVC.mk (fun h1 => ?_) (fun h1 => ?_)
  · exact ⟨bool_is (by omega), rfl⟩
  · exact ⟨bool_f (by omega), rfl⟩
theorem l1In_ok (n lo hi : Int) (h : Heap) : Cn f_spec_l1In [.int .i64 n, .int .i64 lo, .int .i64 hi] h fun v h' => v = .bool (decide (lo ≤ n ∧ n ≤ hi)) ∧ h' = h := by
  refine calls_of r_spec_l1In ?_
  refine SplitVC.mk (fun h1 => ?_) (fun h1 => ?_)
  · exact ⟨bool_is (by omega), rfl⟩
  · exact ⟨bool_f (by omega), rfl⟩

abbrev AllIn (lo hi : Int) (xs : List Int) : Prop := ∀ x ∈ xs, lo ≤ x ∧ x ≤ hi

theorem allIn_step {lo hi : Int} {xs : List Int} {k : Nat} (hk : k < xs.length) (h : AllIn lo hi (xs.take k)) (hx : lo ≤ xs[k] ∧ xs[k] ≤ hi) : AllIn lo hi (xs.take (k + 1)) := by
  intro x hm
  rw [List.take_succ_eq_append_getElem hk] at hm
  rcases List.mem_append.1 hm with hm | hm
  · exact h x hm
  · simp at hm; subst hm; exact hx

end Go.Proofs.YtbikhpphdhffaaaDoor

