/- The law FnExactIsRepeater: its text returns true. Condition: none. Printed by a program. -/
import Derived.Test.YtgfokmjnfaopaaaRp2
namespace Go.Proofs.Ytgfokmjnfaopaaa.finFnExactIsRepeater
open Go.Vc
set_option linter.all false
set_option maxRecDepth 100000 in
set_option maxHeartbeats 2000000 in
theorem law_ok (h : Heap) (x0 : RepD) (w0 : RepD.good h x0) : Cn f_laws_FnExactIsRepeater [x0.val] h fun v h' => v = .bool true ∧ Ext h h' := by
  obtain ⟨y0_phase, y0_holds, y0_again, y0_shown, y0_passed⟩ := x0
  obtain ⟨b_y0_phase, b_y0_holds, b_y0_again, b_y0_shown, ⟨x0_passed, s_v0_passed, _⟩⟩ := w0
  change I64 y0_phase at b_y0_phase
  unfold I64 at b_y0_phase
  change I64 y0_holds at b_y0_holds
  unfold I64 at b_y0_holds
  change I64 y0_again at b_y0_again
  unfold I64 at b_y0_again
  change I64 y0_shown at b_y0_shown
  unfold I64 at b_y0_shown
  change Sl h y0_passed.v x0_passed at s_v0_passed
  have lt_v0_passed := s_v0_passed.lt
  refine calls_of r_laws_FnExactIsRepeater ?_
  refine v_seq ?_
  refine v_ops ?_
  refine s_box [.int .i64 y0_phase, .int .i64 y0_holds, .int .i64 y0_again, .int .i64 y0_shown, y0_passed.v] rfl (fun h2 b1 hbb1 hzb1 eh2 bxb1 => ?_)
  have E3 := (Ext.refl h).trans eh2
  have z4 := eh2.size
  have lbb1 := bxb1.lt
  refine s_pure (.bool false) (fun _ q => q) ?_
  refine s_nil ?_
  refine p_seqN ?_
  refine v_seq ?_
  refine v_ops ?_
  refine s_pure (.int .i64 1048576) (fun _ q => q) ?_
  refine s_nil ?_
  refine p_seqN ?_
  refine v_seq ?_
  refine v_ops ?_
  refine s_load (.agg #[.int .i64 y0_phase, .int .i64 y0_holds, .int .i64 y0_again, .int .i64 y0_shown, y0_passed.v]) (fun _ q => bxb1.loadA rfl q) ?_
  refine s_pure (.int .i64 1048576) (fun _ q => q) ?_
  have f5 := (s_v0_passed.ext eh2)
  refine s_call [.agg #[.int .i64 y0_phase, .int .i64 y0_holds, .int .i64 y0_again, .int .i64 y0_shown, y0_passed.v], .int .i64 1048576] rfl (szRepeater_ok y0_phase y0_holds y0_again y0_shown y0_passed.v x0_passed 1048576 _ f5 (by omega) (by omega)) ?_
  rintro _ h6 ⟨n7, rfl, eh6, hmn7, hkn7⟩
  have E8 := E3.trans eh6
  have z9 := eh6.size
  refine s_pure (.int .i64 n7) (fun _ q => q) ?_
  refine s_nil ?_
  refine p_seqN ?_
  refine v_seq ?_
  refine v_seq ?_
  refine v_ops ?_
  refine s_pure (.int .i64 n7) (fun _ q => q) ?_
  refine s_pure (.bool (decide (n7 < 0))) (fun _ q => q) ?_
  refine s_nil ?_
  refine p_seqN ?_
  refine v_cond rfl (fun c10 => ?_) (fun c10 => ?_)
  ·
    refine v_seq ?_
    refine v_ops ?_
    refine s_pure (.bool true) (fun _ q => q) ?_
    refine s_nil ?_
    refine p_seqN ?_
    refine v_ret ?_
    refine p_seqR ?_
    refine p_ret [.bool true] (.bool true) (fun _ q => q) rfl ?_
    exact ⟨rfl, E8⟩
  obtain ⟨hmn7, hkn7⟩ := And.intro (hmn7 (by omega)) hkn7
  have bd11 : x0_passed.length ≤ 1048576 := by omega
  refine v_skip ?_
  refine p_seqN ?_
  refine v_seq ?_
  refine v_ops ?_
  have f12 := (bxb1.ext eh6)
  refine s_load (.agg #[.int .i64 y0_phase, .int .i64 y0_holds, .int .i64 y0_again, .int .i64 y0_shown, y0_passed.v]) (fun _ q => f12.loadA rfl q) ?_
  have f13 := (f5.ext eh6)
  refine s_call [.agg #[.int .i64 y0_phase, .int .i64 y0_holds, .int .i64 y0_again, .int .i64 y0_shown, y0_passed.v]] rfl (toRepeater_ok y0_phase y0_holds y0_again y0_shown y0_passed.v x0_passed _ f13 bd11) ?_
  rintro _ h14 ⟨r15, rfl, s_r15, eh14, fr_r15⟩
  have E16 := E8.trans eh14
  have z17 := eh14.size
  have lt_r15 := s_r15.lt
  refine s_call [.agg #[.int .i64 y0_phase, .int .i64 y0_holds, .int .i64 y0_again, .int .i64 y0_shown, r15]] rfl (spec_IsRepeater_ok (⟨y0_phase, y0_holds, y0_again, y0_shown, x0_passed⟩ : RepP) r15 _ s_r15.toSl) ?_
  rintro _ h18 ⟨rfl, eh18⟩
  have E19 := E16.trans eh18
  have z20 := eh18.size
  refine s_pure (.bool (decide (RepOk (⟨y0_phase, y0_holds, y0_again, y0_shown, x0_passed⟩ : RepP)))) (fun _ q => q) ?_
  refine s_nil ?_
  refine p_seqN ?_
  refine v_seq ?_
  refine v_ops ?_
  have f21 := ((f12.ext eh14).ext eh18)
  refine s_load (.agg #[.int .i64 y0_phase, .int .i64 y0_holds, .int .i64 y0_again, .int .i64 y0_shown, y0_passed.v]) (fun _ q => f21.loadA rfl q) ?_
  have f22 := ((f13.ext eh14).ext eh18)
  refine s_call [.agg #[.int .i64 y0_phase, .int .i64 y0_holds, .int .i64 y0_again, .int .i64 y0_shown, y0_passed.v]] rfl (toRepeater_ok y0_phase y0_holds y0_again y0_shown y0_passed.v x0_passed _ f22 bd11) ?_
  rintro _ h23 ⟨r24, rfl, s_r24, eh23, fr_r24⟩
  have E25 := E19.trans eh23
  have z26 := eh23.size
  have lt_r24 := s_r24.lt
  refine s_new (fun h28 b27 hbb27 hzb27 eh28 bxb27 => ?_)
  have E29 := E25.trans eh28
  have z30 := eh28.size
  have lbb27 := bxb27.lt
  have f31 := (s_r24.ext eh28)
  refine s_stBx (.agg #[.int .i64 y0_phase, .int .i64 y0_holds, .int .i64 y0_again, .int .i64 y0_shown, r24]) [.int .i64 y0_phase, .int .i64 y0_holds, .int .i64 y0_again, .int .i64 y0_shown, r24] [.int .i64 y0_phase, .int .i64 y0_holds, .int .i64 y0_again, .int .i64 y0_shown, r24] bxb27 rfl rfl rfl rfl (by simp) (all_cons rfl (all_cons rfl (all_cons rfl (all_cons rfl (all_cons f31.one1 all_nil))))) rfl (fun h32 mh32 sh32 bxx33 => ?_)
  have E34 := E29.mod mh32 (fun b hb => by simp at hb; omega)
  refine s_nil ?_
  refine p_seqN ?_
  refine v_seq ?_
  refine v_ops ?_
  refine s_load (.agg #[.int .i64 y0_phase, .int .i64 y0_holds, .int .i64 y0_again, .int .i64 y0_shown, r24]) (fun _ q => bxx33.loadA rfl q) ?_
  have f35 := (f31.mod mh32 (fun b hb hc => by simp at hc; have := lt_r24 b hb; omega))
  refine s_call [.agg #[.int .i64 y0_phase, .int .i64 y0_holds, .int .i64 y0_again, .int .i64 y0_shown, r24]] rfl (impl_IsRepeater_ok (⟨y0_phase, y0_holds, y0_again, y0_shown, x0_passed⟩ : RepP) r24 _ f35.toSl) ?_
  rintro _ h36 ⟨rfl, eh36⟩
  have E37 := E34.trans eh36
  have z38 := eh36.size
  refine s_pure (.bool (decide (RepOk (⟨y0_phase, y0_holds, y0_again, y0_shown, x0_passed⟩ : RepP)))) (fun _ q => q) ?_
  refine s_nil ?_
  refine p_seqN ?_
  refine v_seq ?_
  refine v_seq ?_
  refine v_ops ?_
  refine s_pure (.bool (decide (RepOk (⟨y0_phase, y0_holds, y0_again, y0_shown, x0_passed⟩ : RepP)))) (fun _ q => q) ?_
  refine s_pure (.bool (decide (RepOk (⟨y0_phase, y0_holds, y0_again, y0_shown, x0_passed⟩ : RepP)))) (fun _ q => q) ?_
  refine s_pure (.bool (decide (RepOk (⟨y0_phase, y0_holds, y0_again, y0_shown, x0_passed⟩ : RepP)) != decide (RepOk (⟨y0_phase, y0_holds, y0_again, y0_shown, x0_passed⟩ : RepP)))) (fun _ q => q) ?_
  refine s_nil ?_
  refine p_seqN ?_
  refine v_condN rfl (by first | assumption | omega | (simp; done) | (simp; omega) | simp_all) ?_
  refine v_skip ?_
  refine p_seqN ?_
  refine v_seq ?_
  refine v_seq ?_
  have f39 := (bxx33.ext eh36)
  refine v_draw (DrawVC.hold [b27] ?_)
  refine d_loadT (.agg #[.int .i64 y0_phase, .int .i64 y0_holds, .int .i64 y0_again, .int .i64 y0_shown, r24]) (fun _ q => f39.takeA (by simp) rfl q) ?_
  have f40 := ((((f21.ext eh23).ext eh28).mod mh32 (by simp; omega)).ext eh36)
  refine d_loadO (.agg #[.int .i64 y0_phase, .int .i64 y0_holds, .int .i64 y0_again, .int .i64 y0_shown, y0_passed.v]) (fun _ q => f40.loadA rfl q) ?_
  refine d_eff ?_
  have f41 := ((((f22.ext eh23).ext eh28).mod mh32 (fun b hb hc => by simp at hc; have := lt_v0_passed b hb; omega)).ext eh36)
  refine s_call [.agg #[.int .i64 y0_phase, .int .i64 y0_holds, .int .i64 y0_again, .int .i64 y0_shown, y0_passed.v]] rfl (toRepeater_ok y0_phase y0_holds y0_again y0_shown y0_passed.v x0_passed _ f41 bd11) ?_
  rintro _ h42 ⟨r43, rfl, s_r43, eh42, fr_r43⟩
  have E44 := E37.trans eh42
  have z45 := eh42.size
  have G46 := eh42
  have lt_r43 := s_r43.lt
  refine s_nil ⟨fun _ x hx => G46.blk x (by simp at hx; omega), ?_⟩
  refine d_eff ?_
  have f47 := ((f35.ext eh36).ext eh42)
  refine s_call [.agg #[.int .i64 y0_phase, .int .i64 y0_holds, .int .i64 y0_again, .int .i64 y0_shown, r24], .agg #[.int .i64 y0_phase, .int .i64 y0_holds, .int .i64 y0_again, .int .i64 y0_shown, r43]] rfl (eqRepeater_ok y0_phase y0_holds y0_again y0_shown r24 x0_passed y0_phase y0_holds y0_again y0_shown r43 x0_passed _ f47.toSl s_r43.toSl) ?_
  rintro _ h48 ⟨rfl, eh48⟩
  have E49 := E44.trans eh48
  have z50 := eh48.size
  have G51 := G46.trans eh48
  refine s_nil ⟨fun _ x hx => G51.blk x (by simp at hx; omega), ?_⟩
  refine d_pureT (.bool (!(decide (y0_phase = y0_phase ∧ y0_holds = y0_holds ∧ y0_again = y0_again ∧ y0_shown = y0_shown ∧ x0_passed = x0_passed)))) (fun _ q => q) ?_
  refine d_done ?_
  refine p_seqN ?_
  refine v_condN rfl (by first | assumption | omega | (simp; done) | (simp; omega) | simp_all) ?_
  refine v_skip ?_
  refine p_seqN ?_
  refine v_seq ?_
  refine v_ops ?_
  refine s_pure (.bool true) (fun _ q => q) ?_
  refine s_nil ?_
  refine p_seqN ?_
  refine v_ret ?_
  refine p_ret [.bool true] (.bool true) (fun _ q => q) rfl ?_
  exact ⟨rfl, E49⟩
end Go.Proofs.Ytgfokmjnfaopaaa.finFnExactIsRepeater
