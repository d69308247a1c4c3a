/- The law FnExactStuckAt: its text returns true. Condition: none. -/
import Derived.Test.YtckkablifoblbaaLn8
namespace Go.Proofs.Ytckkablifoblbaa.finFnExactStuckAt
open Go.Vc
set_option maxRecDepth 100000 in
set_option maxHeartbeats 2000000 in
theorem law_ok (h : Heap) (x0 : LineD) (_ : LineD.good h x0) (v1 : Value) (x1 : List Int) (s1 : Sl h v1 x1) (_ : ∀ y ∈ x1, I64 y) (v2 : Value) (x2 : List Int) (s2 : Sl h v2 x2) (_ : ∀ y ∈ x2, I64 y) : Cn f_laws_FnExactStuckAt [x0.val, v1, v2] h fun v h' => v = .bool true ∧ Ext h h' := by
  obtain ⟨y0_towers, y0_tries⟩ := x0
  refine calls_of r_laws_FnExactStuckAt ?_
  refine AllocVC.mk [.int .i64 y0_towers, .int .i64 y0_tries] rfl (fun h1 b0 _ _ eh1 bx0 => ?_)
  have f2 := s1.ext eh1
  have f3 := s2.ext eh1
  have E4 := (Ext.refl h).trans eh1
  have z5 := eh1.size
  refine f2.lenVC ?_
  refine CondVC.mk (fun _ => ⟨rfl, E4⟩) (fun c1 => ?_)
  have c1 : x1.length ≤ 1048576 := by omega
  refine f3.lenVC ?_
  refine CondVC.mk (fun _ => ⟨rfl, E4⟩) (fun c2 => ?_)
  have c2 : x2.length ≤ 1048576 := by omega
  refine bx0.loadA rfl ?_
  refine (toLine_ok _ _ _).mono ?_
  rintro _ h6 ⟨rfl, eh6⟩
  have f7 := f2.ext eh6
  have f8 := f3.ext eh6
  have f9 := bx0.ext eh6
  have E10 := E4.trans eh6
  have z11 := eh6.size
  refine (toIntS_ok _ _ _ f7 c1).mono ?_
  rintro p1 h12 ⟨s_p1, eh12, fr_p1⟩
  have f13 := f7.ext eh12
  have f14 := f8.ext eh12
  have f15 := f9.ext eh12
  have E16 := E10.trans eh12
  have z17 := eh12.size
  have lt_p1 := s_p1.lt
  refine (toIntS_ok _ _ _ f14 c2).mono ?_
  rintro p2 h18 ⟨s_p2, eh18, fr_p2⟩
  have f19 := f13.ext eh18
  have f20 := f14.ext eh18
  have f21 := f15.ext eh18
  have f22 := s_p1.ext eh18
  have E23 := E16.trans eh18
  have z24 := eh18.size
  have lt_p2 := s_p2.lt
  refine (specStuckAt_ok _ _ _ _ _ _ _ f22.toSl s_p2.toSl).mono ?_
  rintro _ h25 ⟨rfl, eh25⟩
  have f26 := f19.ext eh25
  have f27 := f20.ext eh25
  have f28 := f21.ext eh25
  have f29 := f22.ext eh25
  have f30 := s_p2.ext eh25
  have E31 := E23.trans eh25
  have z32 := eh25.size
  refine (toIntS_ok _ _ _ f26 c1).mono ?_
  rintro u1 h33 ⟨s_u1, eh33, fr_u1⟩
  have f34 := f26.ext eh33
  have f35 := f27.ext eh33
  have f36 := f28.ext eh33
  have E37 := E31.trans eh33
  have z38 := eh33.size
  have lt_u1 := s_u1.lt
  refine (toIntS_ok _ _ _ f35 c2).mono ?_
  rintro u2 h39 ⟨s_u2, eh39, fr_u2⟩
  have f40 := f34.ext eh39
  have f41 := f35.ext eh39
  have f42 := f36.ext eh39
  have f43 := s_u1.ext eh39
  have E44 := E37.trans eh39
  have z45 := eh39.size
  have lt_u2 := s_u2.lt
  refine f42.loadA rfl ?_
  refine (toLine_ok _ _ _).mono ?_
  rintro _ h46 ⟨rfl, eh46⟩
  have f47 := f40.ext eh46
  have f48 := f41.ext eh46
  have f49 := f42.ext eh46
  have f50 := f43.ext eh46
  have f51 := s_u2.ext eh46
  have E52 := E44.trans eh46
  have z53 := eh46.size
  refine (implStuckAt_ok _ _ _ _ _ _ _ f50.toSl f51.toSl).mono ?_
  rintro _ h54 ⟨rfl, eh54⟩
  have f55 := f47.ext eh54
  have f56 := f48.ext eh54
  have f57 := f49.ext eh54
  have f58 := f50.ext eh54
  have f59 := f51.ext eh54
  have E60 := E52.trans eh54
  have z61 := eh54.size
  refine SplitVC.no (by simp) ?_
  refine SplitVC.no (by simp) ?_
  refine CondVC.no (by simp) ?_
  refine (toIntS_ok _ _ _ f55 c1).mono ?_
  rintro t1 h62 ⟨s_t1, eh62, fr_t1⟩
  have f63 := f55.ext eh62
  have f64 := f56.ext eh62
  have f65 := f57.ext eh62
  have f66 := f58.ext eh62
  have f67 := f59.ext eh62
  have E68 := E60.trans eh62
  have z69 := eh62.size
  have lt_t1 := s_t1.lt
  refine (eqIntS_ok _ _ _ _ _ f66.toSl s_t1.toSl).mono ?_
  rintro _ h62 ⟨rfl, rfl⟩
  refine CondVC.no (by simp) ?_
  refine (toIntS_ok _ _ _ f64 c2).mono ?_
  rintro t2 h70 ⟨s_t2, eh70, fr_t2⟩
  have f71 := f63.ext eh70
  have f72 := f64.ext eh70
  have f73 := f65.ext eh70
  have f74 := f66.ext eh70
  have f75 := f67.ext eh70
  have E76 := E68.trans eh70
  have z77 := eh70.size
  have lt_t2 := s_t2.lt
  refine (eqIntS_ok _ _ _ _ _ f75.toSl s_t2.toSl).mono ?_
  rintro _ h70 ⟨rfl, rfl⟩
  refine CondVC.no (by simp) ?_
  exact ⟨rfl, E76⟩
end Go.Proofs.Ytckkablifoblbaa.finFnExactStuckAt
