/- The law FnExactWrongShows: its text returns true. Condition: none. Printed by a program. -/
import Derived.Test.YtgfokmjnfaopaaaRp7
namespace Go.Proofs.Ytgfokmjnfaopaaa.finFnExactWrongShows
open Go.Vc
set_option linter.all false
set_option maxRecDepth 100000 in
set_option maxHeartbeats 2000000 in
theorem law_ok (h : Heap) (v0 : Value) (x0 : List GlanceD) (s_v0 : Sl h v0 x0) (_ : ∀ y ∈ x0, GlanceD.good h y) : Cn f_laws_FnExactWrongShows [v0] h fun v h' => v = .bool true ∧ Ext h h' := by
  have lt_v0 := s_v0.lt
  refine calls_of r_laws_FnExactWrongShows ?_
  refine v_seq ?_
  refine v_ops ?_
  refine s_pure (.bool false) (fun _ q => q) ?_
  refine s_nil ?_
  refine p_seqN ?_
  refine v_seq ?_
  refine v_ops ?_
  refine s_pure (.int .i64 1048576) (fun _ q => q) ?_
  refine s_nil ?_
  refine p_seqN ?_
  refine v_seq ?_
  refine v_ops ?_
  refine s_pure v0 (fun _ q => q) ?_
  refine s_pure (.int .i64 1048576) (fun _ q => q) ?_
  refine s_call [v0, .int .i64 1048576] rfl (szGlanceS_ok v0 x0 1048576 _ s_v0 (by omega) (by omega)) ?_
  rintro _ h1 ⟨n2, rfl, eh1, hmn2, hkn2⟩
  have E3 := (Ext.refl h).trans eh1
  have z4 := eh1.size
  refine s_pure (.int .i64 n2) (fun _ q => q) ?_
  refine s_nil ?_
  refine p_seqN ?_
  refine v_seq ?_
  refine v_seq ?_
  refine v_ops ?_
  refine s_pure (.int .i64 n2) (fun _ q => q) ?_
  refine s_pure (.bool (decide (n2 < 0))) (fun _ q => q) ?_
  refine s_nil ?_
  refine p_seqN ?_
  refine v_cond rfl (fun c5 => ?_) (fun c5 => ?_)
  ·
    refine v_seq ?_
    refine v_ops ?_
    refine s_pure (.bool true) (fun _ q => q) ?_
    refine s_nil ?_
    refine p_seqN ?_
    refine v_ret ?_
    refine p_seqR ?_
    refine p_ret [.bool true] (.bool true) (fun _ q => q) rfl ?_
    exact ⟨rfl, E3⟩
  obtain ⟨hmn2, hkn2⟩ := And.intro (hmn2 (by omega)) hkn2
  have bd6 : x0.length ≤ 1048576 := by omega
  refine v_skip ?_
  refine p_seqN ?_
  refine v_seq ?_
  refine v_ops ?_
  refine s_pure v0 (fun _ q => q) ?_
  have f7 := (s_v0.ext eh1)
  refine s_call [v0] rfl (toGlanceS_ok v0 x0 _ f7 bd6) ?_
  rintro r9 h8 ⟨s_r9, eh8, fr_r9⟩
  have E10 := E3.trans eh8
  have z11 := eh8.size
  have lt_r9 := s_r9.lt
  refine s_call [r9] rfl (spec_WrongShows_ok r9 x0 _ s_r9.toSl) ?_
  rintro _ h12 ⟨rfl, eh12⟩
  have E13 := E10.trans eh12
  have z14 := eh12.size
  refine s_pure (.tuple #[.int .i64 ((wsOut x0).1), .bool ((wsOut x0).2)]) (fun _ q => q) ?_
  refine s_pure (.int .i64 ((wsOut x0).1)) (fun _ q => q) ?_
  refine s_pure (.bool ((wsOut x0).2)) (fun _ q => q) ?_
  refine s_pure (.int .i64 ((wsOut x0).1)) (fun _ q => q) ?_
  refine s_pure (.bool ((wsOut x0).2)) (fun _ q => q) ?_
  refine s_nil ?_
  refine p_seqN ?_
  refine v_seq ?_
  refine v_ops ?_
  refine s_pure v0 (fun _ q => q) ?_
  have f15 := ((f7.ext eh8).ext eh12)
  refine s_call [v0] rfl (toGlanceS_ok v0 x0 _ f15 bd6) ?_
  rintro r17 h16 ⟨s_r17, eh16, fr_r17⟩
  have E18 := E13.trans eh16
  have z19 := eh16.size
  have lt_r17 := s_r17.lt
  refine s_pure r17 (fun _ q => q) ?_
  refine s_nil ?_
  refine p_seqN ?_
  refine v_seq ?_
  refine v_ops ?_
  refine s_pure r17 (fun _ q => q) ?_
  refine s_call [r17] rfl (impl_WrongShows_ok r17 x0 _ s_r17.toSl) ?_
  rintro _ h20 ⟨rfl, eh20⟩
  have E21 := E18.trans eh20
  have z22 := eh20.size
  refine s_pure (.tuple #[.int .i64 ((wsOut x0).1), .bool ((wsOut x0).2)]) (fun _ q => q) ?_
  refine s_pure (.int .i64 ((wsOut x0).1)) (fun _ q => q) ?_
  refine s_pure (.bool ((wsOut x0).2)) (fun _ q => q) ?_
  refine s_pure (.int .i64 ((wsOut x0).1)) (fun _ q => q) ?_
  refine s_pure (.bool ((wsOut x0).2)) (fun _ q => q) ?_
  refine s_nil ?_
  refine p_seqN ?_
  refine v_seq ?_
  refine v_seq ?_
  refine v_ops ?_
  refine s_pure (.int .i64 ((wsOut x0).1)) (fun _ q => q) ?_
  refine s_pure (.int .i64 ((wsOut x0).1)) (fun _ q => q) ?_
  refine s_pure (.bool ((wsOut x0).1 != (wsOut x0).1)) (fun _ q => q) ?_
  refine s_pure (.bool ((wsOut x0).1 != (wsOut x0).1)) (fun _ q => q) ?_
  refine s_splitN rfl (by first | assumption | omega | (simp; done) | (simp; omega) | simp_all) ?_
  refine s_run rfl ?_
  refine s_pure (.bool ((wsOut x0).2)) (fun _ q => q) ?_
  refine s_run rfl ?_
  refine s_pure (.bool ((wsOut x0).2)) (fun _ q => q) ?_
  refine s_run rfl ?_
  refine s_pure (.bool ((wsOut x0).2 != (wsOut x0).2)) (fun _ q => q) ?_
  refine s_pure (.bool ((wsOut x0).2 != (wsOut x0).2)) (fun _ q => q) ?_
  refine s_nil ?_
  refine p_seqN ?_
  refine v_condN rfl (by first | assumption | omega | (simp; done) | (simp; omega) | simp_all) ?_
  refine v_skip ?_
  refine p_seqN ?_
  refine v_seq ?_
  refine v_seq ?_
  refine v_ops ?_
  refine s_pure r17 (fun _ q => q) ?_
  refine s_pure v0 (fun _ q => q) ?_
  have f23 := ((f15.ext eh16).ext eh20)
  refine s_call [v0] rfl (toGlanceS_ok v0 x0 _ f23 bd6) ?_
  rintro r25 h24 ⟨s_r25, eh24, fr_r25⟩
  have E26 := E21.trans eh24
  have z27 := eh24.size
  have lt_r25 := s_r25.lt
  have f28 := ((s_r17.ext eh20).ext eh24)
  refine s_call [r17, r25] rfl (eqGlanceS_ok r17 r25 x0 x0 _ f28.toSl s_r25.toSl) ?_
  rintro _ h29 ⟨rfl, eh29⟩
  have E30 := E26.trans eh29
  have z31 := eh29.size
  refine s_pure (.bool (!(decide (x0 = x0)))) (fun _ q => q) ?_
  refine s_nil ?_
  refine p_seqN ?_
  refine v_condN rfl (by first | assumption | omega | (simp; done) | (simp; omega) | simp_all) ?_
  refine v_skip ?_
  refine p_seqN ?_
  refine v_seq ?_
  refine v_ops ?_
  refine s_pure (.bool true) (fun _ q => q) ?_
  refine s_nil ?_
  refine p_seqN ?_
  refine v_ret ?_
  refine p_ret [.bool true] (.bool true) (fun _ q => q) rfl ?_
  exact ⟨rfl, E30⟩
end Go.Proofs.Ytgfokmjnfaopaaa.finFnExactWrongShows
