/- Tests whether numbers lie within bounds. Condition: none. -/
import Derived.Test.YtpbjcaadnbeplaaLaws1
namespace Go.Proofs.Ytpbjcaadnbeplaa
open Go.Vc

theorem within_ok (n lo hi : Int) (h : Heap) : Cn f_impl_within [.int .i64 n, .int .i64 lo, .int .i64 hi] h fun v h' => v = .bool (decide (lo ≤ n ∧ n ≤ hi)) ∧ h' = h := by
  refine calls_of r_impl_within ?_
  refine SplitVC.mk (fun h1 => ?_) (fun h1 => ?_)
  · exact ⟨bool_is (by omega), rfl⟩
  · exact ⟨bool_f (by omega), rfl⟩
theorem l1In_ok (n lo hi : Int) (h : Heap) : Cn f_spec_l1In [.int .i64 n, .int .i64 lo, .int .i64 hi] h fun v h' => v = .bool (decide (lo ≤ n ∧ n ≤ hi)) ∧ h' = h := by
  refine calls_of r_spec_l1In ?_
  refine SplitVC.mk (fun h1 => ?_) (fun h1 => ?_)
  · exact ⟨bool_is (by omega), rfl⟩
  · exact ⟨bool_f (by omega), rfl⟩

end Go.Proofs.Ytpbjcaadnbeplaa


