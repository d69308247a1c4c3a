/- The law FnExactWithPattern: its text returns true. Condition: none. -/
import Derived.Test.YtckkablifoblbaaLn3
namespace Go.Proofs.Ytckkablifoblbaa.finFnExactWithPattern
open Go.Vc
theorem law_ok (h : Heap) (v0 : Value) (x0 : List Int) (s0 : Sl h v0 x0) (_ : ∀ y ∈ x0, I64 y) (x1 : Int) (_ : I64 x1) (x2 : Int) (_ : I64 x2) : Cn f_laws_FnExactWithPattern [v0, .int .i64 x1, .int .i64 x2] h fun v h' => v = .bool true ∧ Ext h h' := by
  refine calls_of r_laws_FnExactWithPattern ?_
  refine s0.lenVC ?_
  refine CondVC.mk (fun _ => ⟨rfl, (Ext.refl h)⟩) (fun c0 => ?_)
  have c0 : x0.length ≤ 1048576 := by omega
  refine (toIntS_ok _ _ _ s0 c0).mono ?_
  rintro p0 h1 ⟨s_p0, eh1, fr_p0⟩
  have f2 := s0.ext eh1
  have E3 := (Ext.refl h).trans eh1
  have z4 := eh1.size
  have lt_p0 := s_p0.lt
  refine (specWithPattern_ok _ _ _ _ _ s_p0.toSl).mono ?_
  rintro _ h5 ⟨w0, rfl, s_w0, eh5, fr_w0⟩
  have f6 := f2.ext eh5
  have f7 := s_p0.ext eh5
  have E8 := E3.trans eh5
  have z9 := eh5.size
  have lt_w0 := s_w0.lt
  refine (toIntS_ok _ _ _ f6 c0).mono ?_
  rintro u0 h10 ⟨s_u0, eh10, fr_u0⟩
  have f11 := f6.ext eh10
  have f12 := s_w0.ext eh10
  have E13 := E8.trans eh10
  have z14 := eh10.size
  have lt_u0 := s_u0.lt
  refine (implWithPattern_ok _ _ _ _ _ s_u0.toSl).mono ?_
  rintro _ h15 ⟨g0, rfl, s_g0, eh15, fr_g0⟩
  have f16 := f11.ext eh15
  have f17 := f12.ext eh15
  have f18 := s_u0.ext eh15
  have E19 := E13.trans eh15
  have z20 := eh15.size
  have lt_g0 := s_g0.lt
  refine (eqIntS_ok _ _ _ _ _ s_g0.toSl f17.toSl).mono ?_
  rintro _ h15 ⟨rfl, rfl⟩
  refine SplitVC.no (by simp) ?_
  refine CondVC.no (by simp) ?_
  refine (toIntS_ok _ _ _ f16 c0).mono ?_
  rintro t0 h21 ⟨s_t0, eh21, fr_t0⟩
  have f22 := f16.ext eh21
  have f23 := f17.ext eh21
  have f24 := f18.ext eh21
  have f25 := s_g0.ext eh21
  have E26 := E19.trans eh21
  have z27 := eh21.size
  have lt_t0 := s_t0.lt
  refine (eqIntS_ok _ _ _ _ _ f24.toSl s_t0.toSl).mono ?_
  rintro _ h21 ⟨rfl, rfl⟩
  refine CondVC.no (by simp) ?_
  refine (markIntS_ok _ _ (1) _ f24 (by omega) (by omega) (by omega)).mono ?_
  rintro _ h28 ⟨rfl, mk_u0, mh28, zh28⟩
  have f29 := f22.mod mh28 (fr_u0.apart (fun b hb => by have := s0.lt b hb; omega))
  have f30 := f23.mod mh28 (fr_u0.apart (fun b hb => by have := lt_w0 b hb; omega))
  have f31 := f25.mod mh28 (fr_g0.apart' (fun b hb => by have := lt_u0 b hb; omega))
  have E32 := E26.mod mh28 (fun b hb => by have := fr_u0 b hb; omega)
  refine SplitVC.no (by omega) ?_
  refine (eqIntS_ok _ _ _ _ _ f31.toSl f30.toSl).mono ?_
  rintro _ h28 ⟨rfl, rfl⟩
  refine SplitVC.no (by simp) ?_
  refine CondVC.no (by simp) ?_
  have ln0 := patOut_len x0 x1 x2
  refine (markIntS_ok _ _ (1) _ f31 (by omega) (by omega) (by omega)).mono ?_
  rintro _ h33 ⟨rfl, mk_g0, mh33, zh33⟩
  have f34 := f29.mod mh33 (fr_g0.apart (fun b hb => by have := s0.lt b hb; omega))
  have f35 := f30.mod mh33 (fr_g0.apart (fun b hb => by have := lt_w0 b hb; omega))
  have E36 := E32.mod mh33 (fun b hb => by have := fr_g0 b hb; omega)
  refine (heldIntS_ok _ _ 1 _ mk_g0.toSl (by omega) (by omega) (by omega)).mono ?_
  rintro _ h33 ⟨rfl, rfl⟩
  refine CondVC.no (by omega) ?_
  refine CondVC.no (by simp) ?_
  refine (toIntS_ok _ _ _ f34 c0).mono ?_
  rintro q0 h37 ⟨s_q0, eh37, fr_q0⟩
  have f38 := f34.ext eh37
  have f39 := f35.ext eh37
  have f40 := mk_g0.ext eh37
  have E41 := E36.trans eh37
  have z42 := eh37.size
  have lt_q0 := s_q0.lt
  refine (implWithPattern_ok _ _ _ _ _ s_q0.toSl).mono ?_
  rintro _ h43 ⟨h0, rfl, s_h0, eh43, fr_h0⟩
  have f44 := f38.ext eh43
  have f45 := f39.ext eh43
  have f46 := f40.ext eh43
  have f47 := s_q0.ext eh43
  have E48 := E41.trans eh43
  have z49 := eh43.size
  have lt_h0 := s_h0.lt
  refine (eqIntS_ok _ _ _ _ _ s_h0.toSl f45.toSl).mono ?_
  rintro _ h43 ⟨rfl, rfl⟩
  refine SplitVC.no (by simp) ?_
  refine CondVC.no (by simp) ?_
  refine (heldIntS_ok _ _ 1 _ f46.toSl (by omega) (by omega) (by omega)).mono ?_
  rintro _ h43 ⟨rfl, rfl⟩
  refine CondVC.no (by omega) ?_
  refine CondVC.no (by simp) ?_
  exact ⟨rfl, E48⟩
end Go.Proofs.Ytckkablifoblbaa.finFnExactWithPattern
