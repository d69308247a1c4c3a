/- PlainCount: what it returns, and its law. Condition: none. -/
import Derived.Test.YtckkablifoblbaaLn1
import Derived.Test.YtckkablifoblbaaTypes
namespace Go.Proofs.Ytckkablifoblbaa
open Go.Vc
set_option linter.all false

/-- the results of PlainCount -/
def plainOut (t r n : Int) : Int × Bool := if LineOk t r ∧ 0 ≤ n ∧ n ≤ 20 then (2 * n * (t - 1), true) else (0, false)

theorem mul_bound {n t : Int} (h1 : 0 ≤ n) (h2 : n ≤ 20) (h3 : 2 ≤ t) (h4 : t ≤ 10) : 0 ≤ 2 * n * (t - 1) ∧ 2 * n * (t - 1) ≤ 360 := by
  have a : 0 ≤ 2 * n * (t - 1) := Int.mul_nonneg (by omega) (by omega)
  have b : 2 * n * (t - 1) ≤ 40 * 9 := Int.mul_le_mul (by omega) (by omega) (by omega) (by omega)
  omega

theorem implPlainCount_ok (t r n : Int) (h : Heap) : Cn f_impl_PlainCount [lineV t r, .int .i64 n] h fun v h' => ∃ a b, v = .tuple #[.int .i64 a, .bool b] ∧ plainOut t r n = (a, b) ∧ Ext h h' := by
  refine calls_of r_impl_PlainCount ?_
  refine AllocVC.mk [.int .i64 t, .int .i64 r] rfl (fun h1 b hb hsz he hbx => ?_)
  refine hbx.loadA rfl ?_
  refine (isLine_ok _ _ _).mono ?_
  rintro _ h2 ⟨rfl, e2⟩
  refine SplitVC.mk (fun c => ?_) (fun c => ?_)
  · exact CondVC.t ⟨_, _, rfl, by rw [plainOut, if_neg (fun ha => c ha.1)], he.trans e2⟩
  · refine (within_ok _ _ _ _).mono ?_
    rintro _ _ ⟨rfl, rfl⟩
    refine CondVC.mk (fun c2 => ?_) (fun c2 => ?_)
    · exact ⟨_, _, rfl, by rw [plainOut, if_neg (fun ha => c2 ha.2)], he.trans e2⟩
    · have c : LineOk t r := Classical.not_not.1 c
      have c2 : 0 ≤ n ∧ n ≤ 20 := Classical.not_not.1 c2
      have := mul_bound c2.1 c2.2 c.1.1 c.1.2
      refine ArithVC.mk (by omega) ?_
      refine (hbx.ext e2).load rfl ?_
      refine ArithVC.mk (by omega) ?_
      refine ArithVC.mk (by omega) ?_
      exact ⟨_, _, rfl, by rw [plainOut, if_pos ⟨c, c2⟩], he.trans e2⟩
theorem specPlainCount_ok (t r n : Int) (h : Heap) : Cn f_spec_PlainCount [lineV t r, .int .i64 n] h fun v h' => ∃ a b, v = .tuple #[.int .i64 a, .bool b] ∧ plainOut t r n = (a, b) ∧ Ext h h' := by
  refine calls_of r_spec_PlainCount ?_
  refine AllocVC.mk [.int .i64 t, .int .i64 r] rfl (fun h1 b hb hsz he hbx => ?_)
  refine hbx.loadA rfl ?_
  refine (liLine_ok _ _ _).mono ?_
  rintro _ h2 ⟨rfl, e2⟩
  refine SplitVC.mk (fun c => ?_) (fun c => ?_)
  · exact CondVC.t ⟨_, _, rfl, by rw [plainOut, if_neg (fun ha => c ha.1)], he.trans e2⟩
  · refine (l1In_ok _ _ _ _).mono ?_
    rintro _ _ ⟨rfl, rfl⟩
    refine CondVC.mk (fun c2 => ?_) (fun c2 => ?_)
    · exact ⟨_, _, rfl, by rw [plainOut, if_neg (fun ha => c2 ha.2)], he.trans e2⟩
    · have c : LineOk t r := Classical.not_not.1 c
      have c2 : 0 ≤ n ∧ n ≤ 20 := Classical.not_not.1 c2
      have := mul_bound c2.1 c2.2 c.1.1 c.1.2
      refine ArithVC.mk (by omega) ?_
      refine (hbx.ext e2).load rfl ?_
      refine ArithVC.mk (by omega) ?_
      refine ArithVC.mk (by omega) ?_
      exact ⟨_, _, rfl, by rw [plainOut, if_pos ⟨c, c2⟩], he.trans e2⟩
end Go.Proofs.Ytckkablifoblbaa
