/- The law FnExactIsAckScript: its text returns true. Condition: none. -/
import Derived.Test.YtibhbphikijecaaAk1
namespace Go.Proofs.Ytibhbphikijecaa.finFnExactIsAckScript
open Go.Vc
set_option maxRecDepth 100000 in
set_option maxHeartbeats 2000000 in
theorem law_ok (h : Heap) (v0 : Value) (x0 : List Int) (s0 : Sl h v0 x0) (_ : ∀ y ∈ x0, I64 y) : Cn f_laws_FnExactIsAckScript [v0] h fun v h' => v = .bool true ∧ Ext h h' := by
  refine calls_of r_laws_FnExactIsAckScript ?_
  refine s0.lenVC ?_
  refine CondVC.mk (fun _ => ⟨rfl, (Ext.refl h)⟩) (fun c0 => ?_)
  have c0 : x0.length ≤ 1048576 := by omega
  refine (toIntS_ok _ _ _ s0 c0).mono ?_
  rintro p0 h1 ⟨s_p0, eh1, fr_p0⟩
  have f2 := s0.ext eh1
  have E3 := (Ext.refl h).trans eh1
  have z4 := eh1.size
  have lt_p0 := s_p0.lt
  refine (specIsAckScript_ok _ _ _ s_p0.toSl).mono ?_
  rintro _ h5 ⟨rfl, eh5⟩
  have f6 := f2.ext eh5
  have f7 := s_p0.ext eh5
  have E8 := E3.trans eh5
  have z9 := eh5.size
  refine (toIntS_ok _ _ _ f6 c0).mono ?_
  rintro u0 h10 ⟨s_u0, eh10, fr_u0⟩
  have f11 := f6.ext eh10
  have E12 := E8.trans eh10
  have z13 := eh10.size
  have lt_u0 := s_u0.lt
  refine (implIsAckScript_ok _ _ _ s_u0.toSl).mono ?_
  rintro _ h14 ⟨rfl, eh14⟩
  have f15 := f11.ext eh14
  have f16 := s_u0.ext eh14
  have E17 := E12.trans eh14
  have z18 := eh14.size
  refine CondVC.no (by simp) ?_
  refine (toIntS_ok _ _ _ f15 c0).mono ?_
  rintro t0 h19 ⟨s_t0, eh19, fr_t0⟩
  have f20 := f15.ext eh19
  have f21 := f16.ext eh19
  have E22 := E17.trans eh19
  have z23 := eh19.size
  have lt_t0 := s_t0.lt
  refine (eqIntS_ok _ _ _ _ _ f21.toSl s_t0.toSl).mono ?_
  rintro _ h19 ⟨rfl, rfl⟩
  refine CondVC.no (by simp) ?_
  exact ⟨rfl, E22⟩
end Go.Proofs.Ytibhbphikijecaa.finFnExactIsAckScript
