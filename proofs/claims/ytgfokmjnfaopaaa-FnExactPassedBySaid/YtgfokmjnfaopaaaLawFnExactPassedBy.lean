/- The law FnExactPassedBy: its text returns true. Condition: none. Printed by a program. -/
import Derived.Test.YtgfokmjnfaopaaaRp7
namespace Go.Proofs.Ytgfokmjnfaopaaa.finFnExactPassedBy
open Go.Vc
set_option linter.all false
set_option maxRecDepth 100000 in
set_option maxHeartbeats 2000000 in
theorem law_ok (h : Heap) (v0 : Value) (x0 : List GlanceD) (s_v0 : Sl h v0 x0) (_ : ∀ y ∈ x0, GlanceD.good h y) : Cn f_laws_FnExactPassedBy [v0] h fun v h' => v = .bool true ∧ Ext h h' := by
  have lt_v0 := s_v0.lt
  have lens := pb_len x0
  refine calls_of r_laws_FnExactPassedBy ?_
  refine v_seq ?_
  refine v_ops ?_
  refine s_pure (.bool false) (fun _ q => q) ?_
  refine s_nil ?_
  refine p_seqN ?_
  refine v_seq ?_
  refine v_ops ?_
  refine s_pure (.int .i64 1048576) (fun _ q => q) ?_
  refine s_nil ?_
  refine p_seqN ?_
  refine v_seq ?_
  refine v_ops ?_
  refine s_pure v0 (fun _ q => q) ?_
  refine s_pure (.int .i64 1048576) (fun _ q => q) ?_
  refine s_call [v0, .int .i64 1048576] rfl (szGlanceS_ok v0 x0 1048576 _ s_v0 (by omega) (by omega)) ?_
  rintro _ h1 ⟨n2, rfl, eh1, hmn2, hkn2⟩
  have E3 := (Ext.refl h).trans eh1
  have z4 := eh1.size
  refine s_pure (.int .i64 n2) (fun _ q => q) ?_
  refine s_nil ?_
  refine p_seqN ?_
  refine v_seq ?_
  refine v_seq ?_
  refine v_ops ?_
  refine s_pure (.int .i64 n2) (fun _ q => q) ?_
  refine s_pure (.bool (decide (n2 < 0))) (fun _ q => q) ?_
  refine s_nil ?_
  refine p_seqN ?_
  refine v_cond rfl (fun c5 => ?_) (fun c5 => ?_)
  ·
    refine v_seq ?_
    refine v_ops ?_
    refine s_pure (.bool true) (fun _ q => q) ?_
    refine s_nil ?_
    refine p_seqN ?_
    refine v_ret ?_
    refine p_seqR ?_
    refine p_ret [.bool true] (.bool true) (fun _ q => q) rfl ?_
    exact ⟨rfl, E3⟩
  obtain ⟨hmn2, hkn2⟩ := And.intro (hmn2 (by omega)) hkn2
  have bd6 : x0.length ≤ 1048576 := by omega
  refine v_skip ?_
  refine p_seqN ?_
  refine v_seq ?_
  refine v_ops ?_
  refine s_pure v0 (fun _ q => q) ?_
  have f7 := (s_v0.ext eh1)
  refine s_call [v0] rfl (toGlanceS_ok v0 x0 _ f7 bd6) ?_
  rintro r9 h8 ⟨s_r9, eh8, fr_r9⟩
  have E10 := E3.trans eh8
  have z11 := eh8.size
  have lt_r9 := s_r9.lt
  refine s_call [r9] rfl (spec_PassedBy_ok r9 x0 _ s_r9.toSl) ?_
  rintro _ h13 ⟨r12, rfl, s_r12, fr_r12, eh13⟩
  have E14 := E10.trans eh13
  have z15 := eh13.size
  have lt_r12 := s_r12.lt
  refine s_pure (.tuple #[r12, .int .i64 ((pbOut x0).2.1), .bool ((pbOut x0).2.2)]) (fun _ q => q) ?_
  refine s_pure r12 (fun _ q => q) ?_
  refine s_pure (.int .i64 ((pbOut x0).2.1)) (fun _ q => q) ?_
  refine s_pure (.bool ((pbOut x0).2.2)) (fun _ q => q) ?_
  refine s_pure r12 (fun _ q => q) ?_
  refine s_pure (.int .i64 ((pbOut x0).2.1)) (fun _ q => q) ?_
  refine s_pure (.bool ((pbOut x0).2.2)) (fun _ q => q) ?_
  refine s_nil ?_
  refine p_seqN ?_
  refine v_seq ?_
  refine v_ops ?_
  refine s_pure v0 (fun _ q => q) ?_
  have f16 := ((f7.ext eh8).ext eh13)
  refine s_call [v0] rfl (toGlanceS_ok v0 x0 _ f16 bd6) ?_
  rintro r18 h17 ⟨s_r18, eh17, fr_r18⟩
  have E19 := E14.trans eh17
  have z20 := eh17.size
  have lt_r18 := s_r18.lt
  refine s_pure r18 (fun _ q => q) ?_
  refine s_nil ?_
  refine p_seqN ?_
  refine v_seq ?_
  refine v_ops ?_
  refine s_pure r18 (fun _ q => q) ?_
  refine s_call [r18] rfl (impl_PassedBy_ok r18 x0 _ s_r18.toSl) ?_
  rintro _ h22 ⟨r21, rfl, s_r21, fr_r21, eh22⟩
  have E23 := E19.trans eh22
  have z24 := eh22.size
  have lt_r21 := s_r21.lt
  refine s_pure (.tuple #[r21, .int .i64 ((pbOut x0).2.1), .bool ((pbOut x0).2.2)]) (fun _ q => q) ?_
  refine s_pure r21 (fun _ q => q) ?_
  refine s_pure (.int .i64 ((pbOut x0).2.1)) (fun _ q => q) ?_
  refine s_pure (.bool ((pbOut x0).2.2)) (fun _ q => q) ?_
  refine s_pure r21 (fun _ q => q) ?_
  refine s_pure (.int .i64 ((pbOut x0).2.1)) (fun _ q => q) ?_
  refine s_pure (.bool ((pbOut x0).2.2)) (fun _ q => q) ?_
  refine s_nil ?_
  refine p_seqN ?_
  refine v_seq ?_
  refine v_seq ?_
  refine v_ops ?_
  refine s_pure r21 (fun _ q => q) ?_
  refine s_pure r12 (fun _ q => q) ?_
  have f25 := ((s_r12.ext eh17).ext eh22)
  refine s_call [r21, r12] rfl (eqIntS_ok r21 r12 ((pbOut x0).1) ((pbOut x0).1) _ s_r21.toSl f25.toSl) ?_
  rintro _ h26 ⟨rfl, hqh26⟩
  have eh26 := Ext.ofEq hqh26
  clear hqh26
  have E27 := E23.trans eh26
  have z28 := eh26.size
  refine s_pure (.bool (!(decide ((pbOut x0).1 = (pbOut x0).1)))) (fun _ q => q) ?_
  refine s_pure (.bool (!(decide ((pbOut x0).1 = (pbOut x0).1)))) (fun _ q => q) ?_
  refine s_splitN rfl (by first | assumption | omega | (simp; done) | (simp; omega) | simp_all) ?_
  refine s_run rfl ?_
  refine s_pure (.int .i64 ((pbOut x0).2.1)) (fun _ q => q) ?_
  refine s_run rfl ?_
  refine s_pure (.int .i64 ((pbOut x0).2.1)) (fun _ q => q) ?_
  refine s_run rfl ?_
  refine s_pure (.bool ((pbOut x0).2.1 != (pbOut x0).2.1)) (fun _ q => q) ?_
  refine s_pure (.bool ((pbOut x0).2.1 != (pbOut x0).2.1)) (fun _ q => q) ?_
  refine s_pure (.bool ((pbOut x0).2.1 != (pbOut x0).2.1)) (fun _ q => q) ?_
  refine s_splitN rfl (by first | assumption | omega | (simp; done) | (simp; omega) | simp_all) ?_
  refine s_run rfl ?_
  refine s_pure (.bool ((pbOut x0).2.2)) (fun _ q => q) ?_
  refine s_run rfl ?_
  refine s_pure (.bool ((pbOut x0).2.2)) (fun _ q => q) ?_
  refine s_run rfl ?_
  refine s_pure (.bool ((pbOut x0).2.2 != (pbOut x0).2.2)) (fun _ q => q) ?_
  refine s_pure (.bool ((pbOut x0).2.2 != (pbOut x0).2.2)) (fun _ q => q) ?_
  refine s_nil ?_
  refine p_seqN ?_
  refine v_condN rfl (by first | assumption | omega | (simp; done) | (simp; omega) | simp_all) ?_
  refine v_skip ?_
  refine p_seqN ?_
  refine v_seq ?_
  refine v_seq ?_
  refine v_ops ?_
  refine s_pure r18 (fun _ q => q) ?_
  refine s_pure v0 (fun _ q => q) ?_
  have f29 := (((f16.ext eh17).ext eh22).ext eh26)
  refine s_call [v0] rfl (toGlanceS_ok v0 x0 _ f29 bd6) ?_
  rintro r31 h30 ⟨s_r31, eh30, fr_r31⟩
  have E32 := E27.trans eh30
  have z33 := eh30.size
  have lt_r31 := s_r31.lt
  have f34 := (((s_r18.ext eh22).ext eh26).ext eh30)
  refine s_call [r18, r31] rfl (eqGlanceS_ok r18 r31 x0 x0 _ f34.toSl s_r31.toSl) ?_
  rintro _ h35 ⟨rfl, eh35⟩
  have E36 := E32.trans eh35
  have z37 := eh35.size
  refine s_pure (.bool (!(decide (x0 = x0)))) (fun _ q => q) ?_
  refine s_nil ?_
  refine p_seqN ?_
  refine v_condN rfl (by first | assumption | omega | (simp; done) | (simp; omega) | simp_all) ?_
  refine v_skip ?_
  refine p_seqN ?_
  refine v_seq ?_
  refine v_ops ?_
  refine s_pure (.int .i64 1) (fun _ q => q) ?_
  refine s_nil ?_
  refine p_seqN ?_
  refine v_seq ?_
  refine v_ops ?_
  refine s_pure r18 (fun _ q => q) ?_
  refine s_pure (.int .i64 1) (fun _ q => q) ?_
  have f38 := (f34.ext eh35)
  refine s_call [r18, .int .i64 1] rfl (markGlanceS_ok r18 x0 (1) _ f38 (by omega) (by omega) (by omega)) ?_
  rintro _ h39 ⟨rfl, mk40, mh39, zh39⟩
  have E41 := E36.mod mh39 (fun b hb => by have := fr_r18 b hb; omega)
  refine s_pure (.int .i64 (1 + 2 * (x0.length : Int))) (fun _ q => q) ?_
  refine s_nil ?_
  refine p_seqN ?_
  refine v_seq ?_
  refine v_seq ?_
  refine v_ops ?_
  refine s_pure (.int .i64 (1 + 2 * (x0.length : Int))) (fun _ q => q) ?_
  refine s_pure (.bool (decide ((1 + 2 * (x0.length : Int)) < 0))) (fun _ q => q) ?_
  refine s_pure (.bool (decide ((1 + 2 * (x0.length : Int)) < 0))) (fun _ q => q) ?_
  refine s_splitN rfl (by first | assumption | omega | (simp; done) | (simp; omega) | simp_all) ?_
  refine s_run rfl ?_
  refine s_pure r21 (fun _ q => q) ?_
  refine s_run rfl ?_
  refine s_pure r12 (fun _ q => q) ?_
  refine s_run rfl ?_
  have f42 := ((((s_r21.ext eh26).ext eh30).ext eh35).mod mh39 (fr_r21.apart' (fun b hb => by have := lt_r18 b hb; omega)))
  have f43 := ((((f25.ext eh26).ext eh30).ext eh35).mod mh39 (fr_r18.apart (fun b hb => by have := lt_r12 b hb; omega)))
  refine s_call [r21, r12] rfl (eqIntS_ok r21 r12 ((pbOut x0).1) ((pbOut x0).1) _ f42.toSl f43.toSl) ?_
  rintro _ h44 ⟨rfl, hqh44⟩
  have eh44 := Ext.ofEq hqh44
  clear hqh44
  have E45 := E41.trans eh44
  have z46 := eh44.size
  refine s_run rfl ?_
  refine s_pure (.bool (!(decide ((pbOut x0).1 = (pbOut x0).1)))) (fun _ q => q) ?_
  refine s_pure (.bool (!(decide ((pbOut x0).1 = (pbOut x0).1)))) (fun _ q => q) ?_
  refine s_pure (.bool (!(decide ((pbOut x0).1 = (pbOut x0).1)))) (fun _ q => q) ?_
  refine s_splitN rfl (by first | assumption | omega | (simp; done) | (simp; omega) | simp_all) ?_
  refine s_run rfl ?_
  refine s_pure (.int .i64 ((pbOut x0).2.1)) (fun _ q => q) ?_
  refine s_run rfl ?_
  refine s_pure (.int .i64 ((pbOut x0).2.1)) (fun _ q => q) ?_
  refine s_run rfl ?_
  refine s_pure (.bool ((pbOut x0).2.1 != (pbOut x0).2.1)) (fun _ q => q) ?_
  refine s_pure (.bool ((pbOut x0).2.1 != (pbOut x0).2.1)) (fun _ q => q) ?_
  refine s_pure (.bool ((pbOut x0).2.1 != (pbOut x0).2.1)) (fun _ q => q) ?_
  refine s_splitN rfl (by first | assumption | omega | (simp; done) | (simp; omega) | simp_all) ?_
  refine s_run rfl ?_
  refine s_pure (.bool ((pbOut x0).2.2)) (fun _ q => q) ?_
  refine s_run rfl ?_
  refine s_pure (.bool ((pbOut x0).2.2)) (fun _ q => q) ?_
  refine s_run rfl ?_
  refine s_pure (.bool ((pbOut x0).2.2 != (pbOut x0).2.2)) (fun _ q => q) ?_
  refine s_pure (.bool ((pbOut x0).2.2 != (pbOut x0).2.2)) (fun _ q => q) ?_
  refine s_nil ?_
  refine p_seqN ?_
  refine v_condN rfl (by first | assumption | omega | (simp; done) | (simp; omega) | simp_all) ?_
  refine v_skip ?_
  refine p_seqN ?_
  refine v_seq ?_
  refine v_ops ?_
  refine s_pure (.int .i64 1) (fun _ q => q) ?_
  refine s_nil ?_
  refine p_seqN ?_
  refine v_seq ?_
  refine v_ops ?_
  refine s_pure r21 (fun _ q => q) ?_
  refine s_pure (.int .i64 1) (fun _ q => q) ?_
  have f47 := (f42.ext eh44)
  refine s_call [r21, .int .i64 1] rfl (markIntS_ok r21 ((pbOut x0).1) (1) _ f47 (by omega) (by omega) (by omega)) ?_
  rintro _ h48 ⟨rfl, mk49, mh48, zh48⟩
  have E50 := E45.mod mh48 (fun b hb => by have := fr_r21 b hb; omega)
  refine s_pure (.int .i64 (1 + ((pbOut x0).1.length : Int))) (fun _ q => q) ?_
  refine s_nil ?_
  refine p_seqN ?_
  refine v_seq ?_
  refine v_ops ?_
  refine s_pure (.int .i64 1) (fun _ q => q) ?_
  refine s_nil ?_
  refine p_seqN ?_
  refine v_seq ?_
  refine v_ops ?_
  refine s_pure r21 (fun _ q => q) ?_
  refine s_pure (.int .i64 1) (fun _ q => q) ?_
  refine s_call [r21, .int .i64 1] rfl (heldIntS_ok _ _ (1) _ mk49.toSl (by omega) (by omega) (by omega)) ?_
  rintro _ h51 ⟨rfl, hqh51⟩
  have eh51 := Ext.ofEq hqh51
  clear hqh51
  have E52 := E50.trans eh51
  have z53 := eh51.size
  refine s_pure (.int .i64 (1 + ((pbOut x0).1.length : Int))) (fun _ q => q) ?_
  refine s_nil ?_
  refine p_seqN ?_
  refine v_seq ?_
  refine v_seq ?_
  refine v_ops ?_
  refine s_pure (.int .i64 (1 + ((pbOut x0).1.length : Int))) (fun _ q => q) ?_
  refine s_pure (.bool (decide ((1 + ((pbOut x0).1.length : Int)) < 0))) (fun _ q => q) ?_
  refine s_nil ?_
  refine p_seqN ?_
  refine v_condN rfl (by first | assumption | omega | (simp; done) | (simp; omega) | simp_all) ?_
  refine v_skip ?_
  refine p_seqN ?_
  refine v_seq ?_
  refine v_seq ?_
  refine v_ops ?_
  refine s_pure (.int .i64 (1 + ((pbOut x0).1.length : Int))) (fun _ q => q) ?_
  refine s_pure (.int .i64 (1 + ((pbOut x0).1.length : Int))) (fun _ q => q) ?_
  refine s_pure (.bool ((1 + ((pbOut x0).1.length : Int)) != (1 + ((pbOut x0).1.length : Int)))) (fun _ q => q) ?_
  refine s_nil ?_
  refine p_seqN ?_
  refine v_condN rfl (by first | assumption | omega | (simp; done) | (simp; omega) | simp_all) ?_
  refine v_skip ?_
  refine p_seqN ?_
  refine v_seq ?_
  refine v_ops ?_
  refine s_pure v0 (fun _ q => q) ?_
  have f54 := ((((((f29.ext eh30).ext eh35).mod mh39 (fr_r18.apart (fun b hb => by have := lt_v0 b hb; omega))).ext eh44).mod mh48 (fr_r21.apart (fun b hb => by have := lt_v0 b hb; omega))).ext eh51)
  refine s_call [v0] rfl (toGlanceS_ok v0 x0 _ f54 bd6) ?_
  rintro r56 h55 ⟨s_r56, eh55, fr_r56⟩
  have E57 := E52.trans eh55
  have z58 := eh55.size
  have lt_r56 := s_r56.lt
  refine s_call [r56] rfl (impl_PassedBy_ok r56 x0 _ s_r56.toSl) ?_
  rintro _ h60 ⟨r59, rfl, s_r59, fr_r59, eh60⟩
  have E61 := E57.trans eh60
  have z62 := eh60.size
  have lt_r59 := s_r59.lt
  refine s_pure (.tuple #[r59, .int .i64 ((pbOut x0).2.1), .bool ((pbOut x0).2.2)]) (fun _ q => q) ?_
  refine s_pure r59 (fun _ q => q) ?_
  refine s_pure (.int .i64 ((pbOut x0).2.1)) (fun _ q => q) ?_
  refine s_pure (.bool ((pbOut x0).2.2)) (fun _ q => q) ?_
  refine s_pure r59 (fun _ q => q) ?_
  refine s_pure (.int .i64 ((pbOut x0).2.1)) (fun _ q => q) ?_
  refine s_pure (.bool ((pbOut x0).2.2)) (fun _ q => q) ?_
  refine s_nil ?_
  refine p_seqN ?_
  refine v_seq ?_
  refine v_seq ?_
  refine v_ops ?_
  refine s_pure r59 (fun _ q => q) ?_
  refine s_pure r12 (fun _ q => q) ?_
  have f63 := (((((f43.ext eh44).mod mh48 (fr_r21.apart (fun b hb => by have := lt_r12 b hb; omega))).ext eh51).ext eh55).ext eh60)
  refine s_call [r59, r12] rfl (eqIntS_ok r59 r12 ((pbOut x0).1) ((pbOut x0).1) _ s_r59.toSl f63.toSl) ?_
  rintro _ h64 ⟨rfl, hqh64⟩
  have eh64 := Ext.ofEq hqh64
  clear hqh64
  have E65 := E61.trans eh64
  have z66 := eh64.size
  refine s_pure (.bool (!(decide ((pbOut x0).1 = (pbOut x0).1)))) (fun _ q => q) ?_
  refine s_pure (.bool (!(decide ((pbOut x0).1 = (pbOut x0).1)))) (fun _ q => q) ?_
  refine s_splitN rfl (by first | assumption | omega | (simp; done) | (simp; omega) | simp_all) ?_
  refine s_run rfl ?_
  refine s_pure (.int .i64 ((pbOut x0).2.1)) (fun _ q => q) ?_
  refine s_run rfl ?_
  refine s_pure (.int .i64 ((pbOut x0).2.1)) (fun _ q => q) ?_
  refine s_run rfl ?_
  refine s_pure (.bool ((pbOut x0).2.1 != (pbOut x0).2.1)) (fun _ q => q) ?_
  refine s_pure (.bool ((pbOut x0).2.1 != (pbOut x0).2.1)) (fun _ q => q) ?_
  refine s_pure (.bool ((pbOut x0).2.1 != (pbOut x0).2.1)) (fun _ q => q) ?_
  refine s_splitN rfl (by first | assumption | omega | (simp; done) | (simp; omega) | simp_all) ?_
  refine s_run rfl ?_
  refine s_pure (.bool ((pbOut x0).2.2)) (fun _ q => q) ?_
  refine s_run rfl ?_
  refine s_pure (.bool ((pbOut x0).2.2)) (fun _ q => q) ?_
  refine s_run rfl ?_
  refine s_pure (.bool ((pbOut x0).2.2 != (pbOut x0).2.2)) (fun _ q => q) ?_
  refine s_pure (.bool ((pbOut x0).2.2 != (pbOut x0).2.2)) (fun _ q => q) ?_
  refine s_nil ?_
  refine p_seqN ?_
  refine v_condN rfl (by first | assumption | omega | (simp; done) | (simp; omega) | simp_all) ?_
  refine v_skip ?_
  refine p_seqN ?_
  refine v_seq ?_
  refine v_ops ?_
  refine s_pure (.int .i64 1) (fun _ q => q) ?_
  refine s_nil ?_
  refine p_seqN ?_
  refine v_seq ?_
  refine v_ops ?_
  refine s_pure r21 (fun _ q => q) ?_
  refine s_pure (.int .i64 1) (fun _ q => q) ?_
  have f67 := ((((mk49.ext eh51).ext eh55).ext eh60).ext eh64)
  refine s_call [r21, .int .i64 1] rfl (heldIntS_ok _ _ (1) _ f67.toSl (by omega) (by omega) (by omega)) ?_
  rintro _ h68 ⟨rfl, hqh68⟩
  have eh68 := Ext.ofEq hqh68
  clear hqh68
  have E69 := E65.trans eh68
  have z70 := eh68.size
  refine s_pure (.int .i64 (1 + ((pbOut x0).1.length : Int))) (fun _ q => q) ?_
  refine s_nil ?_
  refine p_seqN ?_
  refine v_seq ?_
  refine v_seq ?_
  refine v_ops ?_
  refine s_pure (.int .i64 (1 + ((pbOut x0).1.length : Int))) (fun _ q => q) ?_
  refine s_pure (.bool (decide ((1 + ((pbOut x0).1.length : Int)) < 0))) (fun _ q => q) ?_
  refine s_nil ?_
  refine p_seqN ?_
  refine v_condN rfl (by first | assumption | omega | (simp; done) | (simp; omega) | simp_all) ?_
  refine v_skip ?_
  refine p_seqN ?_
  refine v_seq ?_
  refine v_seq ?_
  refine v_ops ?_
  refine s_pure (.int .i64 (1 + ((pbOut x0).1.length : Int))) (fun _ q => q) ?_
  refine s_pure (.int .i64 (1 + ((pbOut x0).1.length : Int))) (fun _ q => q) ?_
  refine s_pure (.bool ((1 + ((pbOut x0).1.length : Int)) != (1 + ((pbOut x0).1.length : Int)))) (fun _ q => q) ?_
  refine s_nil ?_
  refine p_seqN ?_
  refine v_condN rfl (by first | assumption | omega | (simp; done) | (simp; omega) | simp_all) ?_
  refine v_skip ?_
  refine p_seqN ?_
  refine v_seq ?_
  refine v_ops ?_
  refine s_pure (.bool true) (fun _ q => q) ?_
  refine s_nil ?_
  refine p_seqN ?_
  refine v_ret ?_
  refine p_ret [.bool true] (.bool true) (fun _ q => q) rfl ?_
  exact ⟨rfl, E69⟩
end Go.Proofs.Ytgfokmjnfaopaaa.finFnExactPassedBy
