/- The law FnExactPlainGlances: its text returns true. Condition: none. Printed by a program. -/
import Derived.Test.YtgfokmjnfaopaaaRp1
namespace Go.Proofs.Ytgfokmjnfaopaaa.finFnExactPlainGlances
open Go.Vc
set_option maxRecDepth 100000 in
set_option maxHeartbeats 2000000 in
theorem law_ok (h : Heap) (v0 : Value) (x0 : List Int) (s_v0 : Sl h v0 x0) (_ : ∀ y ∈ x0, I64 y) : Cn f_laws_FnExactPlainGlances [v0] h fun v h' => v = .bool true ∧ Ext h h' := by
  have lt_v0 := s_v0.lt
  refine calls_of r_laws_FnExactPlainGlances ?_
  refine s_v0.lenVC ?_
  refine CondVC.mk (fun _ => ⟨rfl, (Ext.refl h)⟩) (fun c1 => ?_)
  have bd2 : x0.length ≤ 1048576 := by omega
  refine (toIntS_ok _ _ _ s_v0 bd2).mono ?_
  rintro r4 h3 ⟨s_r4, eh3, fr_r4⟩
  have E5 := (Ext.refl h).trans eh3
  have z6 := eh3.size
  have lt_r4 := s_r4.lt
  refine (specPlainGlances_ok _ _ _ s_r4.toSl).mono ?_
  rintro _ h7 ⟨r8, rfl, s_r8, eh7, fr_r8⟩
  have E9 := E5.trans eh7
  have z10 := eh7.size
  have lt_r8 := s_r8.lt
  have f11 := ((s_v0.ext eh3).ext eh7)
  refine (toIntS_ok _ _ _ f11 bd2).mono ?_
  rintro r13 h12 ⟨s_r13, eh12, fr_r13⟩
  have E14 := E9.trans eh12
  have z15 := eh12.size
  have lt_r13 := s_r13.lt
  refine (implPlainGlances_ok _ _ _ s_r13.toSl).mono ?_
  rintro _ h16 ⟨r17, rfl, s_r17, eh16, fr_r17⟩
  have E18 := E14.trans eh16
  have z19 := eh16.size
  have lt_r17 := s_r17.lt
  have lens := pgOut_len (x0)
  have f20 := ((s_r8.ext eh12).ext eh16)
  refine (eqGlanceS_ok _ _ _ _ _ s_r17.toSl f20.toSl).mono ?_
  rintro _ h21 ⟨rfl, eh21⟩
  have E22 := E18.trans eh21
  have z23 := eh21.size
  refine SplitVC.no (by simp) ?_
  refine CondVC.no (by simp) ?_
  have f24 := (((f11.ext eh12).ext eh16).ext eh21)
  refine (toIntS_ok _ _ _ f24 bd2).mono ?_
  rintro r26 h25 ⟨s_r26, eh25, fr_r26⟩
  have E27 := E22.trans eh25
  have z28 := eh25.size
  have lt_r26 := s_r26.lt
  have f29 := (((s_r13.ext eh16).ext eh21).ext eh25)
  refine (eqIntS_ok _ _ _ _ _ f29.toSl s_r26.toSl).mono ?_
  rintro _ h25 ⟨rfl, rfl⟩
  refine CondVC.no (by simp) ?_
  refine (markIntS_ok _ _ (1) _ f29 (by omega) (by omega) (by omega)).mono ?_
  rintro _ h30 ⟨rfl, mk31, mh30, zh30⟩
  have E32 := E27.mod mh30 (fun b hb => by have := fr_r13 b hb; omega)
  refine SplitVC.no (by omega) ?_
  have f33 := (((s_r17.ext eh21).ext eh25).mod mh30 (fr_r17.apart' (fun b hb => by have := lt_r13 b hb; omega)))
  have f34 := (((f20.ext eh21).ext eh25).mod mh30 (fr_r13.apart (fun b hb => by have := lt_r8 b hb; omega)))
  refine (eqGlanceS_ok _ _ _ _ _ f33.toSl f34.toSl).mono ?_
  rintro _ h35 ⟨rfl, eh35⟩
  have E36 := E32.trans eh35
  have z37 := eh35.size
  refine SplitVC.no (by simp) ?_
  refine CondVC.no (by simp) ?_
  have f38 := (f33.ext eh35)
  refine (markGlanceS_ok _ _ (1) _ f38 (by omega) (by omega) (by omega)).mono ?_
  rintro _ h39 ⟨rfl, mk40, mh39, zh39⟩
  have E41 := E36.mod mh39 (fun b hb => by have := fr_r17 b hb; omega)
  refine (heldGlanceS_ok _ _ (1) _ mk40.toSl (by omega) (by omega) (by omega)).mono ?_
  rintro _ h39 ⟨rfl, rfl⟩
  refine CondVC.no (by omega) ?_
  refine CondVC.no (by simp) ?_
  have f42 := ((((f24.ext eh25).mod mh30 (fr_r13.apart (fun b hb => by have := lt_v0 b hb; omega))).ext eh35).mod mh39 (fr_r17.apart (fun b hb => by have := lt_v0 b hb; omega)))
  refine (toIntS_ok _ _ _ f42 bd2).mono ?_
  rintro r44 h43 ⟨s_r44, eh43, fr_r44⟩
  have E45 := E41.trans eh43
  have z46 := eh43.size
  have lt_r44 := s_r44.lt
  refine (implPlainGlances_ok _ _ _ s_r44.toSl).mono ?_
  rintro _ h47 ⟨r48, rfl, s_r48, eh47, fr_r48⟩
  have E49 := E45.trans eh47
  have z50 := eh47.size
  have lt_r48 := s_r48.lt
  have f51 := ((((f34.ext eh35).mod mh39 (fr_r17.apart (fun b hb => by have := lt_r8 b hb; omega))).ext eh43).ext eh47)
  refine (eqGlanceS_ok _ _ _ _ _ s_r48.toSl f51.toSl).mono ?_
  rintro _ h52 ⟨rfl, eh52⟩
  have E53 := E49.trans eh52
  have z54 := eh52.size
  refine SplitVC.no (by simp) ?_
  refine CondVC.no (by simp) ?_
  have f55 := (((mk40.ext eh43).ext eh47).ext eh52)
  refine (heldGlanceS_ok _ _ (1) _ f55.toSl (by omega) (by omega) (by omega)).mono ?_
  rintro _ h52 ⟨rfl, rfl⟩
  refine CondVC.no (by omega) ?_
  refine CondVC.no (by simp) ?_
  exact ⟨rfl, E53⟩
end Go.Proofs.Ytgfokmjnfaopaaa.finFnExactPlainGlances
