/- The law FnExactPlainCount: its text returns true. Condition: none. -/
import Derived.Test.YtckkablifoblbaaLn2
namespace Go.Proofs.Ytckkablifoblbaa.finFnExactPlainCount
open Go.Vc
theorem law_ok (h : Heap) (x0 : LineD) (_ : LineD.good h x0) (x1 : Int) (_ : I64 x1) : Cn f_laws_FnExactPlainCount [x0.val, .int .i64 x1] h fun v h' => v = .bool true ∧ Ext h h' := by
  obtain ⟨t, r⟩ := x0
  refine calls_of r_laws_FnExactPlainCount ?_
  refine AllocVC.mk [.int .i64 t, .int .i64 r] rfl (fun h1 b hb hsz he hbx => ?_)
  refine hbx.loadA rfl ?_
  refine (toLine_ok _ _ _).mono ?_
  rintro _ h2 ⟨rfl, e2⟩
  refine (specPlainCount_ok _ _ _ _).mono ?_
  rintro _ h3 ⟨a, b, rfl, o1, e3⟩
  refine ((hbx.ext e2).ext e3).loadA rfl ?_
  refine (toLine_ok _ _ _).mono ?_
  rintro _ h4 ⟨rfl, e4⟩
  refine (implPlainCount_ok _ _ _ _).mono ?_
  rintro _ h5 ⟨a', b', rfl, o2, e5⟩
  rw [o1] at o2
  obtain ⟨rfl, rfl⟩ := Prod.mk.inj o2
  refine SplitVC.no (by simp) ?_
  refine CondVC.no (by simp) ?_
  exact ⟨rfl, (((he.trans e2).trans e3).trans e4).trans e5⟩
end Go.Proofs.Ytckkablifoblbaa.finFnExactPlainCount
