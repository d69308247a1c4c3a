/- The law FnExactWithMisreading: its text returns true. Condition: none. Printed by a program. -/
import Derived.Test.YtgfokmjnfaopaaaGl2
namespace Go.Proofs.Ytgfokmjnfaopaaa.finFnExactWithMisreading
open Go.Vc
set_option maxRecDepth 100000 in
set_option maxHeartbeats 2000000 in
theorem law_ok (h : Heap) (v0 : Value) (x0 : List GlanceD) (s_v0 : Sl h v0 x0) (_ : ∀ y ∈ x0, GlanceD.good h y) (x1 : Int) (_ : I64 x1) (x2 : Int) (_ : I64 x2) : Cn f_laws_FnExactWithMisreading [v0, .int .i64 x1, .int .i64 x2] h fun v h' => v = .bool true ∧ Ext h h' := by
  have lt_v0 := s_v0.lt
  refine calls_of r_laws_FnExactWithMisreading ?_
  refine (szGlanceS_ok _ _ _ _ s_v0 (by omega) (by omega)).mono ?_
  rintro _ h1 ⟨n2, rfl, eh1, hmn2, hkn2⟩
  have E3 := (Ext.refl h).trans eh1
  have z4 := eh1.size
  refine CondVC.mk (fun _ => ⟨rfl, E3⟩) (fun c5 => ?_)
  obtain ⟨hmn2, hkn2⟩ := And.intro (hmn2 (by omega)) hkn2
  have bd6 : x0.length ≤ 1048576 := by omega
  have f7 := (s_v0.ext eh1)
  refine (toGlanceS_ok _ _ _ f7 bd6).mono ?_
  rintro r9 h8 ⟨s_r9, eh8, fr_r9⟩
  have E10 := E3.trans eh8
  have z11 := eh8.size
  have lt_r9 := s_r9.lt
  refine (specWithMisreading_ok _ _ _ _ _ s_r9.toSl).mono ?_
  rintro _ h12 ⟨r13, rfl, s_r13, eh12, fr_r13⟩
  have E14 := E10.trans eh12
  have z15 := eh12.size
  have lt_r13 := s_r13.lt
  have f16 := ((f7.ext eh8).ext eh12)
  refine (toGlanceS_ok _ _ _ f16 bd6).mono ?_
  rintro r18 h17 ⟨s_r18, eh17, fr_r18⟩
  have E19 := E14.trans eh17
  have z20 := eh17.size
  have lt_r18 := s_r18.lt
  refine (implWithMisreading_ok _ _ _ _ _ s_r18.toSl).mono ?_
  rintro _ h21 ⟨r22, rfl, s_r22, eh21, fr_r22⟩
  have E23 := E19.trans eh21
  have z24 := eh21.size
  have lt_r22 := s_r22.lt
  have lens := wmOut_len (x0) (x1) (x2)
  have f25 := ((s_r13.ext eh17).ext eh21)
  refine (eqGlanceS_ok _ _ _ _ _ s_r22.toSl f25.toSl).mono ?_
  rintro _ h26 ⟨rfl, eh26⟩
  have E27 := E23.trans eh26
  have z28 := eh26.size
  refine SplitVC.no (by simp) ?_
  refine CondVC.no (by simp) ?_
  have f29 := (((f16.ext eh17).ext eh21).ext eh26)
  refine (toGlanceS_ok _ _ _ f29 bd6).mono ?_
  rintro r31 h30 ⟨s_r31, eh30, fr_r31⟩
  have E32 := E27.trans eh30
  have z33 := eh30.size
  have lt_r31 := s_r31.lt
  have f34 := (((s_r18.ext eh21).ext eh26).ext eh30)
  refine (eqGlanceS_ok _ _ _ _ _ f34.toSl s_r31.toSl).mono ?_
  rintro _ h35 ⟨rfl, eh35⟩
  have E36 := E32.trans eh35
  have z37 := eh35.size
  refine CondVC.no (by simp) ?_
  have f38 := (f34.ext eh35)
  refine (markGlanceS_ok _ _ (1) _ f38 (by omega) (by omega) (by omega)).mono ?_
  rintro _ h39 ⟨rfl, mk40, mh39, zh39⟩
  have E41 := E36.mod mh39 (fun b hb => by have := fr_r18 b hb; omega)
  refine SplitVC.no (by omega) ?_
  have f42 := ((((s_r22.ext eh26).ext eh30).ext eh35).mod mh39 (fr_r22.apart' (fun b hb => by have := lt_r18 b hb; omega)))
  have f43 := ((((f25.ext eh26).ext eh30).ext eh35).mod mh39 (fr_r18.apart (fun b hb => by have := lt_r13 b hb; omega)))
  refine (eqGlanceS_ok _ _ _ _ _ f42.toSl f43.toSl).mono ?_
  rintro _ h44 ⟨rfl, eh44⟩
  have E45 := E41.trans eh44
  have z46 := eh44.size
  refine SplitVC.no (by simp) ?_
  refine CondVC.no (by simp) ?_
  have f47 := (f42.ext eh44)
  refine (markGlanceS_ok _ _ (1) _ f47 (by omega) (by omega) (by omega)).mono ?_
  rintro _ h48 ⟨rfl, mk49, mh48, zh48⟩
  have E50 := E45.mod mh48 (fun b hb => by have := fr_r22 b hb; omega)
  refine (heldGlanceS_ok _ _ (1) _ mk49.toSl (by omega) (by omega) (by omega)).mono ?_
  rintro _ h48 ⟨rfl, rfl⟩
  refine CondVC.no (by omega) ?_
  refine CondVC.no (by simp) ?_
  have f51 := (((((f29.ext eh30).ext eh35).mod mh39 (fr_r18.apart (fun b hb => by have := lt_v0 b hb; omega))).ext eh44).mod mh48 (fr_r22.apart (fun b hb => by have := lt_v0 b hb; omega)))
  refine (toGlanceS_ok _ _ _ f51 bd6).mono ?_
  rintro r53 h52 ⟨s_r53, eh52, fr_r53⟩
  have E54 := E50.trans eh52
  have z55 := eh52.size
  have lt_r53 := s_r53.lt
  refine (implWithMisreading_ok _ _ _ _ _ s_r53.toSl).mono ?_
  rintro _ h56 ⟨r57, rfl, s_r57, eh56, fr_r57⟩
  have E58 := E54.trans eh56
  have z59 := eh56.size
  have lt_r57 := s_r57.lt
  have f60 := ((((f43.ext eh44).mod mh48 (fr_r22.apart (fun b hb => by have := lt_r13 b hb; omega))).ext eh52).ext eh56)
  refine (eqGlanceS_ok _ _ _ _ _ s_r57.toSl f60.toSl).mono ?_
  rintro _ h61 ⟨rfl, eh61⟩
  have E62 := E58.trans eh61
  have z63 := eh61.size
  refine SplitVC.no (by simp) ?_
  refine CondVC.no (by simp) ?_
  have f64 := (((mk49.ext eh52).ext eh56).ext eh61)
  refine (heldGlanceS_ok _ _ (1) _ f64.toSl (by omega) (by omega) (by omega)).mono ?_
  rintro _ h61 ⟨rfl, rfl⟩
  refine CondVC.no (by omega) ?_
  refine CondVC.no (by simp) ?_
  exact ⟨rfl, E62⟩
end Go.Proofs.Ytgfokmjnfaopaaa.finFnExactWithMisreading
