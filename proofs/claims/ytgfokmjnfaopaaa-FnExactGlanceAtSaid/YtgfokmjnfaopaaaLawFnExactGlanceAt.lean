/- The law FnExactGlanceAt: its text returns true. Condition: none. Printed by a program. -/
import Derived.Test.YtgfokmjnfaopaaaRp7
namespace Go.Proofs.Ytgfokmjnfaopaaa.finFnExactGlanceAt
open Go.Vc
set_option linter.all false
set_option maxRecDepth 100000 in
set_option maxHeartbeats 2000000 in
theorem law_ok (h : Heap) (x0 : RepD) (w0 : RepD.good h x0) (x1 : GlanceD) (w1 : GlanceD.good h x1) : Cn f_laws_FnExactGlanceAt [x0.val, x1.val] h fun v h' => v = .bool true ∧ Ext h h' := by
  obtain ⟨y0_phase, y0_holds, y0_again, y0_shown, y0_passed⟩ := x0
  obtain ⟨b_y0_phase, b_y0_holds, b_y0_again, b_y0_shown, ⟨x0_passed, s_v0_passed, _⟩⟩ := w0
  change I64 y0_phase at b_y0_phase
  unfold I64 at b_y0_phase
  change I64 y0_holds at b_y0_holds
  unfold I64 at b_y0_holds
  change I64 y0_again at b_y0_again
  unfold I64 at b_y0_again
  change I64 y0_shown at b_y0_shown
  unfold I64 at b_y0_shown
  change Sl h y0_passed.v x0_passed at s_v0_passed
  have lt_v0_passed := s_v0_passed.lt
  obtain ⟨y1_next, y1_signal⟩ := x1
  obtain ⟨b_y1_next, b_y1_signal⟩ := w1
  change I64 y1_signal at b_y1_signal
  unfold I64 at b_y1_signal
  have lens := rg_len ⟨y0_phase, y0_holds, y0_again, y0_shown, x0_passed⟩ [⟨y1_next, y1_signal⟩]
  refine calls_of r_laws_FnExactGlanceAt ?_
  refine v_seq ?_
  refine v_ops ?_
  refine s_box [.int .i64 y0_phase, .int .i64 y0_holds, .int .i64 y0_again, .int .i64 y0_shown, y0_passed.v] rfl (fun h2 b1 hbb1 hzb1 eh2 bxb1 => ?_)
  have E3 := (Ext.refl h).trans eh2
  have z4 := eh2.size
  have lbb1 := bxb1.lt
  refine s_box [.bool y1_next, .int .i64 y1_signal] rfl (fun h6 b5 hbb5 hzb5 eh6 bxb5 => ?_)
  have E7 := E3.trans eh6
  have z8 := eh6.size
  have lbb5 := bxb5.lt
  refine s_pure (.bool false) (fun _ q => q) ?_
  refine s_nil ?_
  refine p_seqN ?_
  refine v_seq ?_
  refine v_ops ?_
  refine s_pure (.int .i64 1048576) (fun _ q => q) ?_
  refine s_nil ?_
  refine p_seqN ?_
  refine v_seq ?_
  refine v_ops ?_
  have f9 := (bxb1.ext eh6)
  refine s_load (.agg #[.int .i64 y0_phase, .int .i64 y0_holds, .int .i64 y0_again, .int .i64 y0_shown, y0_passed.v]) (fun _ q => f9.loadA rfl q) ?_
  refine s_pure (.int .i64 1048576) (fun _ q => q) ?_
  have f10 := ((s_v0_passed.ext eh2).ext eh6)
  refine s_call [.agg #[.int .i64 y0_phase, .int .i64 y0_holds, .int .i64 y0_again, .int .i64 y0_shown, y0_passed.v], .int .i64 1048576] rfl (szRepeater_ok y0_phase y0_holds y0_again y0_shown y0_passed.v x0_passed 1048576 _ f10 (by omega) (by omega)) ?_
  rintro _ h11 ⟨n12, rfl, eh11, hmn12, hkn12⟩
  have E13 := E7.trans eh11
  have z14 := eh11.size
  refine s_pure (.int .i64 n12) (fun _ q => q) ?_
  refine s_nil ?_
  refine p_seqN ?_
  refine v_seq ?_
  refine v_seq ?_
  refine v_ops ?_
  refine s_pure (.int .i64 n12) (fun _ q => q) ?_
  refine s_pure (.bool (decide (n12 < 0))) (fun _ q => q) ?_
  refine s_nil ?_
  refine p_seqN ?_
  refine v_cond rfl (fun c15 => ?_) (fun c15 => ?_)
  ·
    refine v_seq ?_
    refine v_ops ?_
    refine s_pure (.bool true) (fun _ q => q) ?_
    refine s_nil ?_
    refine p_seqN ?_
    refine v_ret ?_
    refine p_seqR ?_
    refine p_ret [.bool true] (.bool true) (fun _ q => q) rfl ?_
    exact ⟨rfl, E13⟩
  obtain ⟨hmn12, hkn12⟩ := And.intro (hmn12 (by omega)) hkn12
  have bd16 : x0_passed.length ≤ 1048576 := by omega
  refine v_skip ?_
  refine p_seqN ?_
  refine v_seq ?_
  have f17 := (f9.ext eh11)
  have f18 := (bxb5.ext eh11)
  refine v_draw (DrawVC.cut (α := Value × Nat) ([b1] ++ [b5]) (fun zz => [(2, .pointer (some ⟨b1, 0, none⟩)), (3, .pointer (some ⟨b5, 0, none⟩)), (6, .pointer (some ⟨zz.2, 0, none⟩)), (7, .bool ((rgOut (⟨y0_phase, y0_holds, y0_again, y0_shown, x0_passed⟩ : RepP) [(⟨y1_next, y1_signal⟩ : GlanceD)]).2))]) (fun zz h' => SlO h' zz.1 (((rgOut (⟨y0_phase, y0_holds, y0_again, y0_shown, x0_passed⟩ : RepP) [(⟨y1_next, y1_signal⟩ : GlanceD)]).1).passed) ∧ Fr h11.size zz.1 ∧ Bx h' zz.2 [.int .i64 (((rgOut (⟨y0_phase, y0_holds, y0_again, y0_shown, x0_passed⟩ : RepP) [(⟨y1_next, y1_signal⟩ : GlanceD)]).1).phase), .int .i64 (((rgOut (⟨y0_phase, y0_holds, y0_again, y0_shown, x0_passed⟩ : RepP) [(⟨y1_next, y1_signal⟩ : GlanceD)]).1).holds), .int .i64 (((rgOut (⟨y0_phase, y0_holds, y0_again, y0_shown, x0_passed⟩ : RepP) [(⟨y1_next, y1_signal⟩ : GlanceD)]).1).again), .int .i64 (((rgOut (⟨y0_phase, y0_holds, y0_again, y0_shown, x0_passed⟩ : RepP) [(⟨y1_next, y1_signal⟩ : GlanceD)]).1).shown), zz.1] 27 ∧ h11.size ≤ zz.2 ∧ zz.2 ∉ blks zz.1 ∧ Ext h11 h') ?_ ?_)
  ·
    refine d_loadT (.agg #[.int .i64 y0_phase, .int .i64 y0_holds, .int .i64 y0_again, .int .i64 y0_shown, y0_passed.v]) (fun _ q => f17.takeA (by simp) rfl q) ?_
    refine d_loadT (.agg #[.bool y1_next, .int .i64 y1_signal]) (fun _ q => f18.takeA (by simp) rfl q) ?_
    refine d_fork ?_ ?_
    ·
      refine d_eff ?_
      have f19 := (f10.ext eh11)
      refine s_call [.agg #[.int .i64 y0_phase, .int .i64 y0_holds, .int .i64 y0_again, .int .i64 y0_shown, y0_passed.v]] rfl (toRepeater_ok y0_phase y0_holds y0_again y0_shown y0_passed.v x0_passed _ f19 bd16) ?_
      rintro _ h20 ⟨r21, rfl, s_r21, eh20, fr_r21⟩
      have E22 := E13.trans eh20
      have z23 := eh20.size
      have G24 := eh20
      have lt_r21 := s_r21.lt
      refine s_nil ⟨fun _ x hx => G24.blk x (by simp at hx; omega), ?_⟩
      refine d_fork ?_ ?_
      ·
        refine d_eff ?_
        refine s_call [.agg #[.bool y1_next, .int .i64 y1_signal]] rfl (toGlance_ok y1_next y1_signal _ ) ?_
        rintro _ h25 ⟨rfl, eh25⟩
        have E26 := E22.trans eh25
        have z27 := eh25.size
        have G28 := G24.trans eh25
        refine s_nil ⟨fun _ x hx => G28.blk x (by simp at hx; omega), ?_⟩
        refine d_fork ?_ ?_
        ·
          refine d_eff ?_
          have f29 := (s_r21.ext eh25)
          refine s_call [.agg #[.int .i64 y0_phase, .int .i64 y0_holds, .int .i64 y0_again, .int .i64 y0_shown, r21], .agg #[.bool y1_next, .int .i64 y1_signal]] rfl (spec_GlanceAt_ok (⟨y0_phase, y0_holds, y0_again, y0_shown, x0_passed⟩ : RepP) r21 (⟨y1_next, y1_signal⟩ : GlanceD) _ f29.toSl) ?_
          rintro _ h31 ⟨r30, rfl, s_r30, fr_r30, eh31⟩
          have E32 := E26.trans eh31
          have z33 := eh31.size
          have G34 := G28.trans eh31
          have lt_r30 := s_r30.lt
          refine s_nil ⟨fun _ x hx => G34.blk x (by simp at hx; omega), ?_⟩
          refine d_pureT (.tuple #[.agg #[.int .i64 (((rgOut (⟨y0_phase, y0_holds, y0_again, y0_shown, x0_passed⟩ : RepP) [(⟨y1_next, y1_signal⟩ : GlanceD)]).1).phase), .int .i64 (((rgOut (⟨y0_phase, y0_holds, y0_again, y0_shown, x0_passed⟩ : RepP) [(⟨y1_next, y1_signal⟩ : GlanceD)]).1).holds), .int .i64 (((rgOut (⟨y0_phase, y0_holds, y0_again, y0_shown, x0_passed⟩ : RepP) [(⟨y1_next, y1_signal⟩ : GlanceD)]).1).again), .int .i64 (((rgOut (⟨y0_phase, y0_holds, y0_again, y0_shown, x0_passed⟩ : RepP) [(⟨y1_next, y1_signal⟩ : GlanceD)]).1).shown), r30], .bool ((rgOut (⟨y0_phase, y0_holds, y0_again, y0_shown, x0_passed⟩ : RepP) [(⟨y1_next, y1_signal⟩ : GlanceD)]).2)]) (fun _ q => q) ?_
          refine d_pureT (.agg #[.int .i64 (((rgOut (⟨y0_phase, y0_holds, y0_again, y0_shown, x0_passed⟩ : RepP) [(⟨y1_next, y1_signal⟩ : GlanceD)]).1).phase), .int .i64 (((rgOut (⟨y0_phase, y0_holds, y0_again, y0_shown, x0_passed⟩ : RepP) [(⟨y1_next, y1_signal⟩ : GlanceD)]).1).holds), .int .i64 (((rgOut (⟨y0_phase, y0_holds, y0_again, y0_shown, x0_passed⟩ : RepP) [(⟨y1_next, y1_signal⟩ : GlanceD)]).1).again), .int .i64 (((rgOut (⟨y0_phase, y0_holds, y0_again, y0_shown, x0_passed⟩ : RepP) [(⟨y1_next, y1_signal⟩ : GlanceD)]).1).shown), r30]) (fun _ q => q) ?_
          refine d_pureT (.bool ((rgOut (⟨y0_phase, y0_holds, y0_again, y0_shown, x0_passed⟩ : RepP) [(⟨y1_next, y1_signal⟩ : GlanceD)]).2)) (fun _ q => q) ?_
          refine d_eff ?_
          refine s_new (fun h36 b35 hbb35 hzb35 eh36 bxb35 => ?_)
          have E37 := E32.trans eh36
          have z38 := eh36.size
          have G39 := G34.trans eh36
          have lbb35 := bxb35.lt
          refine s_nil ⟨fun _ x hx => G39.blk x (by simp at hx; omega), ?_⟩
          refine d_eff ?_
          refine s_stBx (.agg #[.int .i64 (((rgOut (⟨y0_phase, y0_holds, y0_again, y0_shown, x0_passed⟩ : RepP) [(⟨y1_next, y1_signal⟩ : GlanceD)]).1).phase), .int .i64 (((rgOut (⟨y0_phase, y0_holds, y0_again, y0_shown, x0_passed⟩ : RepP) [(⟨y1_next, y1_signal⟩ : GlanceD)]).1).holds), .int .i64 (((rgOut (⟨y0_phase, y0_holds, y0_again, y0_shown, x0_passed⟩ : RepP) [(⟨y1_next, y1_signal⟩ : GlanceD)]).1).again), .int .i64 (((rgOut (⟨y0_phase, y0_holds, y0_again, y0_shown, x0_passed⟩ : RepP) [(⟨y1_next, y1_signal⟩ : GlanceD)]).1).shown), r30]) [.int .i64 (((rgOut (⟨y0_phase, y0_holds, y0_again, y0_shown, x0_passed⟩ : RepP) [(⟨y1_next, y1_signal⟩ : GlanceD)]).1).phase), .int .i64 (((rgOut (⟨y0_phase, y0_holds, y0_again, y0_shown, x0_passed⟩ : RepP) [(⟨y1_next, y1_signal⟩ : GlanceD)]).1).holds), .int .i64 (((rgOut (⟨y0_phase, y0_holds, y0_again, y0_shown, x0_passed⟩ : RepP) [(⟨y1_next, y1_signal⟩ : GlanceD)]).1).again), .int .i64 (((rgOut (⟨y0_phase, y0_holds, y0_again, y0_shown, x0_passed⟩ : RepP) [(⟨y1_next, y1_signal⟩ : GlanceD)]).1).shown), r30] [.int .i64 (((rgOut (⟨y0_phase, y0_holds, y0_again, y0_shown, x0_passed⟩ : RepP) [(⟨y1_next, y1_signal⟩ : GlanceD)]).1).phase), .int .i64 (((rgOut (⟨y0_phase, y0_holds, y0_again, y0_shown, x0_passed⟩ : RepP) [(⟨y1_next, y1_signal⟩ : GlanceD)]).1).holds), .int .i64 (((rgOut (⟨y0_phase, y0_holds, y0_again, y0_shown, x0_passed⟩ : RepP) [(⟨y1_next, y1_signal⟩ : GlanceD)]).1).again), .int .i64 (((rgOut (⟨y0_phase, y0_holds, y0_again, y0_shown, x0_passed⟩ : RepP) [(⟨y1_next, y1_signal⟩ : GlanceD)]).1).shown), r30] bxb35 rfl rfl rfl rfl (by simp) (all_cons rfl (all_cons rfl (all_cons rfl (all_cons rfl (all_cons s_r30.one1 all_nil))))) rfl (fun h40 mh40 sh40 bxx41 => ?_)
          have E42 := E37.mod mh40 (fun b hb => by simp at hb; omega)
          have G43 := G39.mod mh40 (fun b hb => by simp at hb; omega)
          refine s_nil ⟨fun hl => (by cases hl), ?_⟩
          refine d_pureT (.bool ((rgOut (⟨y0_phase, y0_holds, y0_again, y0_shown, x0_passed⟩ : RepP) [(⟨y1_next, y1_signal⟩ : GlanceD)]).2)) (fun _ q => q) ?_
          have f44 := ((s_r30.ext eh36).mod mh40 (fun b hb hc => by simp at hc; have := lt_r30 b hb; omega))
          refine d_done ⟨(r30, b35), ⟨rfl, rfl, rfl, rfl⟩, f44, fr_r30.mono (by omega), bxx41, by omega, (fun hc => by have := lt_r30 _ hc; omega), G43⟩
        ·
          refine d_eff ?_
          refine s_new (fun h46 b45 hbb45 hzb45 eh46 bxb45 => ?_)
          have E47 := E26.trans eh46
          have z48 := eh46.size
          have G49 := G28.trans eh46
          have lbb45 := bxb45.lt
          refine s_nil ⟨fun _ x hx => G49.blk x (by simp at hx; omega), ?_⟩
          refine d_eff ?_
          have f50 := ((s_r21.ext eh25).ext eh46)
          refine s_call [.agg #[.int .i64 y0_phase, .int .i64 y0_holds, .int .i64 y0_again, .int .i64 y0_shown, r21], .agg #[.bool y1_next, .int .i64 y1_signal]] rfl (spec_GlanceAt_ok (⟨y0_phase, y0_holds, y0_again, y0_shown, x0_passed⟩ : RepP) r21 (⟨y1_next, y1_signal⟩ : GlanceD) _ f50.toSl) ?_
          rintro _ h52 ⟨r51, rfl, s_r51, fr_r51, eh52⟩
          have E53 := E47.trans eh52
          have z54 := eh52.size
          have G55 := G49.trans eh52
          have lt_r51 := s_r51.lt
          refine s_nil ⟨fun _ x hx => G55.blk x (by simp at hx; omega), ?_⟩
          refine d_pureT (.tuple #[.agg #[.int .i64 (((rgOut (⟨y0_phase, y0_holds, y0_again, y0_shown, x0_passed⟩ : RepP) [(⟨y1_next, y1_signal⟩ : GlanceD)]).1).phase), .int .i64 (((rgOut (⟨y0_phase, y0_holds, y0_again, y0_shown, x0_passed⟩ : RepP) [(⟨y1_next, y1_signal⟩ : GlanceD)]).1).holds), .int .i64 (((rgOut (⟨y0_phase, y0_holds, y0_again, y0_shown, x0_passed⟩ : RepP) [(⟨y1_next, y1_signal⟩ : GlanceD)]).1).again), .int .i64 (((rgOut (⟨y0_phase, y0_holds, y0_again, y0_shown, x0_passed⟩ : RepP) [(⟨y1_next, y1_signal⟩ : GlanceD)]).1).shown), r51], .bool ((rgOut (⟨y0_phase, y0_holds, y0_again, y0_shown, x0_passed⟩ : RepP) [(⟨y1_next, y1_signal⟩ : GlanceD)]).2)]) (fun _ q => q) ?_
          refine d_pureT (.agg #[.int .i64 (((rgOut (⟨y0_phase, y0_holds, y0_again, y0_shown, x0_passed⟩ : RepP) [(⟨y1_next, y1_signal⟩ : GlanceD)]).1).phase), .int .i64 (((rgOut (⟨y0_phase, y0_holds, y0_again, y0_shown, x0_passed⟩ : RepP) [(⟨y1_next, y1_signal⟩ : GlanceD)]).1).holds), .int .i64 (((rgOut (⟨y0_phase, y0_holds, y0_again, y0_shown, x0_passed⟩ : RepP) [(⟨y1_next, y1_signal⟩ : GlanceD)]).1).again), .int .i64 (((rgOut (⟨y0_phase, y0_holds, y0_again, y0_shown, x0_passed⟩ : RepP) [(⟨y1_next, y1_signal⟩ : GlanceD)]).1).shown), r51]) (fun _ q => q) ?_
          refine d_pureT (.bool ((rgOut (⟨y0_phase, y0_holds, y0_again, y0_shown, x0_passed⟩ : RepP) [(⟨y1_next, y1_signal⟩ : GlanceD)]).2)) (fun _ q => q) ?_
          refine d_eff ?_
          have f56 := (bxb45.ext eh52)
          refine s_stBx (.agg #[.int .i64 (((rgOut (⟨y0_phase, y0_holds, y0_again, y0_shown, x0_passed⟩ : RepP) [(⟨y1_next, y1_signal⟩ : GlanceD)]).1).phase), .int .i64 (((rgOut (⟨y0_phase, y0_holds, y0_again, y0_shown, x0_passed⟩ : RepP) [(⟨y1_next, y1_signal⟩ : GlanceD)]).1).holds), .int .i64 (((rgOut (⟨y0_phase, y0_holds, y0_again, y0_shown, x0_passed⟩ : RepP) [(⟨y1_next, y1_signal⟩ : GlanceD)]).1).again), .int .i64 (((rgOut (⟨y0_phase, y0_holds, y0_again, y0_shown, x0_passed⟩ : RepP) [(⟨y1_next, y1_signal⟩ : GlanceD)]).1).shown), r51]) [.int .i64 (((rgOut (⟨y0_phase, y0_holds, y0_again, y0_shown, x0_passed⟩ : RepP) [(⟨y1_next, y1_signal⟩ : GlanceD)]).1).phase), .int .i64 (((rgOut (⟨y0_phase, y0_holds, y0_again, y0_shown, x0_passed⟩ : RepP) [(⟨y1_next, y1_signal⟩ : GlanceD)]).1).holds), .int .i64 (((rgOut (⟨y0_phase, y0_holds, y0_again, y0_shown, x0_passed⟩ : RepP) [(⟨y1_next, y1_signal⟩ : GlanceD)]).1).again), .int .i64 (((rgOut (⟨y0_phase, y0_holds, y0_again, y0_shown, x0_passed⟩ : RepP) [(⟨y1_next, y1_signal⟩ : GlanceD)]).1).shown), r51] [.int .i64 (((rgOut (⟨y0_phase, y0_holds, y0_again, y0_shown, x0_passed⟩ : RepP) [(⟨y1_next, y1_signal⟩ : GlanceD)]).1).phase), .int .i64 (((rgOut (⟨y0_phase, y0_holds, y0_again, y0_shown, x0_passed⟩ : RepP) [(⟨y1_next, y1_signal⟩ : GlanceD)]).1).holds), .int .i64 (((rgOut (⟨y0_phase, y0_holds, y0_again, y0_shown, x0_passed⟩ : RepP) [(⟨y1_next, y1_signal⟩ : GlanceD)]).1).again), .int .i64 (((rgOut (⟨y0_phase, y0_holds, y0_again, y0_shown, x0_passed⟩ : RepP) [(⟨y1_next, y1_signal⟩ : GlanceD)]).1).shown), r51] f56 rfl rfl rfl rfl (by simp) (all_cons rfl (all_cons rfl (all_cons rfl (all_cons rfl (all_cons s_r51.one1 all_nil))))) rfl (fun h57 mh57 sh57 bxx58 => ?_)
          have E59 := E53.mod mh57 (fun b hb => by simp at hb; omega)
          have G60 := G55.mod mh57 (fun b hb => by simp at hb; omega)
          refine s_nil ⟨fun hl => (by cases hl), ?_⟩
          refine d_pureT (.bool ((rgOut (⟨y0_phase, y0_holds, y0_again, y0_shown, x0_passed⟩ : RepP) [(⟨y1_next, y1_signal⟩ : GlanceD)]).2)) (fun _ q => q) ?_
          have f61 := (s_r51.mod mh57 (fun b hb hc => by simp at hc; have := fr_r51 b hb; omega))
          refine d_done ⟨(r51, b45), ⟨rfl, rfl, rfl, rfl⟩, f61, fr_r51.mono (by omega), bxx58, by omega, (fr_r51.out (by omega)), G60⟩
      ·
        refine d_eff ?_
        refine s_new (fun h63 b62 hbb62 hzb62 eh63 bxb62 => ?_)
        have E64 := E22.trans eh63
        have z65 := eh63.size
        have G66 := G24.trans eh63
        have lbb62 := bxb62.lt
        refine s_nil ⟨fun _ x hx => G66.blk x (by simp at hx; omega), ?_⟩
        refine d_eff ?_
        refine s_call [.agg #[.bool y1_next, .int .i64 y1_signal]] rfl (toGlance_ok y1_next y1_signal _ ) ?_
        rintro _ h67 ⟨rfl, eh67⟩
        have E68 := E64.trans eh67
        have z69 := eh67.size
        have G70 := G66.trans eh67
        refine s_nil ⟨fun _ x hx => G70.blk x (by simp at hx; omega), ?_⟩
        refine d_eff ?_
        have f71 := ((s_r21.ext eh63).ext eh67)
        refine s_call [.agg #[.int .i64 y0_phase, .int .i64 y0_holds, .int .i64 y0_again, .int .i64 y0_shown, r21], .agg #[.bool y1_next, .int .i64 y1_signal]] rfl (spec_GlanceAt_ok (⟨y0_phase, y0_holds, y0_again, y0_shown, x0_passed⟩ : RepP) r21 (⟨y1_next, y1_signal⟩ : GlanceD) _ f71.toSl) ?_
        rintro _ h73 ⟨r72, rfl, s_r72, fr_r72, eh73⟩
        have E74 := E68.trans eh73
        have z75 := eh73.size
        have G76 := G70.trans eh73
        have lt_r72 := s_r72.lt
        refine s_nil ⟨fun _ x hx => G76.blk x (by simp at hx; omega), ?_⟩
        refine d_pureT (.tuple #[.agg #[.int .i64 (((rgOut (⟨y0_phase, y0_holds, y0_again, y0_shown, x0_passed⟩ : RepP) [(⟨y1_next, y1_signal⟩ : GlanceD)]).1).phase), .int .i64 (((rgOut (⟨y0_phase, y0_holds, y0_again, y0_shown, x0_passed⟩ : RepP) [(⟨y1_next, y1_signal⟩ : GlanceD)]).1).holds), .int .i64 (((rgOut (⟨y0_phase, y0_holds, y0_again, y0_shown, x0_passed⟩ : RepP) [(⟨y1_next, y1_signal⟩ : GlanceD)]).1).again), .int .i64 (((rgOut (⟨y0_phase, y0_holds, y0_again, y0_shown, x0_passed⟩ : RepP) [(⟨y1_next, y1_signal⟩ : GlanceD)]).1).shown), r72], .bool ((rgOut (⟨y0_phase, y0_holds, y0_again, y0_shown, x0_passed⟩ : RepP) [(⟨y1_next, y1_signal⟩ : GlanceD)]).2)]) (fun _ q => q) ?_
        refine d_pureT (.agg #[.int .i64 (((rgOut (⟨y0_phase, y0_holds, y0_again, y0_shown, x0_passed⟩ : RepP) [(⟨y1_next, y1_signal⟩ : GlanceD)]).1).phase), .int .i64 (((rgOut (⟨y0_phase, y0_holds, y0_again, y0_shown, x0_passed⟩ : RepP) [(⟨y1_next, y1_signal⟩ : GlanceD)]).1).holds), .int .i64 (((rgOut (⟨y0_phase, y0_holds, y0_again, y0_shown, x0_passed⟩ : RepP) [(⟨y1_next, y1_signal⟩ : GlanceD)]).1).again), .int .i64 (((rgOut (⟨y0_phase, y0_holds, y0_again, y0_shown, x0_passed⟩ : RepP) [(⟨y1_next, y1_signal⟩ : GlanceD)]).1).shown), r72]) (fun _ q => q) ?_
        refine d_pureT (.bool ((rgOut (⟨y0_phase, y0_holds, y0_again, y0_shown, x0_passed⟩ : RepP) [(⟨y1_next, y1_signal⟩ : GlanceD)]).2)) (fun _ q => q) ?_
        refine d_eff ?_
        have f77 := ((bxb62.ext eh67).ext eh73)
        refine s_stBx (.agg #[.int .i64 (((rgOut (⟨y0_phase, y0_holds, y0_again, y0_shown, x0_passed⟩ : RepP) [(⟨y1_next, y1_signal⟩ : GlanceD)]).1).phase), .int .i64 (((rgOut (⟨y0_phase, y0_holds, y0_again, y0_shown, x0_passed⟩ : RepP) [(⟨y1_next, y1_signal⟩ : GlanceD)]).1).holds), .int .i64 (((rgOut (⟨y0_phase, y0_holds, y0_again, y0_shown, x0_passed⟩ : RepP) [(⟨y1_next, y1_signal⟩ : GlanceD)]).1).again), .int .i64 (((rgOut (⟨y0_phase, y0_holds, y0_again, y0_shown, x0_passed⟩ : RepP) [(⟨y1_next, y1_signal⟩ : GlanceD)]).1).shown), r72]) [.int .i64 (((rgOut (⟨y0_phase, y0_holds, y0_again, y0_shown, x0_passed⟩ : RepP) [(⟨y1_next, y1_signal⟩ : GlanceD)]).1).phase), .int .i64 (((rgOut (⟨y0_phase, y0_holds, y0_again, y0_shown, x0_passed⟩ : RepP) [(⟨y1_next, y1_signal⟩ : GlanceD)]).1).holds), .int .i64 (((rgOut (⟨y0_phase, y0_holds, y0_again, y0_shown, x0_passed⟩ : RepP) [(⟨y1_next, y1_signal⟩ : GlanceD)]).1).again), .int .i64 (((rgOut (⟨y0_phase, y0_holds, y0_again, y0_shown, x0_passed⟩ : RepP) [(⟨y1_next, y1_signal⟩ : GlanceD)]).1).shown), r72] [.int .i64 (((rgOut (⟨y0_phase, y0_holds, y0_again, y0_shown, x0_passed⟩ : RepP) [(⟨y1_next, y1_signal⟩ : GlanceD)]).1).phase), .int .i64 (((rgOut (⟨y0_phase, y0_holds, y0_again, y0_shown, x0_passed⟩ : RepP) [(⟨y1_next, y1_signal⟩ : GlanceD)]).1).holds), .int .i64 (((rgOut (⟨y0_phase, y0_holds, y0_again, y0_shown, x0_passed⟩ : RepP) [(⟨y1_next, y1_signal⟩ : GlanceD)]).1).again), .int .i64 (((rgOut (⟨y0_phase, y0_holds, y0_again, y0_shown, x0_passed⟩ : RepP) [(⟨y1_next, y1_signal⟩ : GlanceD)]).1).shown), r72] f77 rfl rfl rfl rfl (by simp) (all_cons rfl (all_cons rfl (all_cons rfl (all_cons rfl (all_cons s_r72.one1 all_nil))))) rfl (fun h78 mh78 sh78 bxx79 => ?_)
        have E80 := E74.mod mh78 (fun b hb => by simp at hb; omega)
        have G81 := G76.mod mh78 (fun b hb => by simp at hb; omega)
        refine s_nil ⟨fun hl => (by cases hl), ?_⟩
        refine d_pureT (.bool ((rgOut (⟨y0_phase, y0_holds, y0_again, y0_shown, x0_passed⟩ : RepP) [(⟨y1_next, y1_signal⟩ : GlanceD)]).2)) (fun _ q => q) ?_
        have f82 := (s_r72.mod mh78 (fun b hb hc => by simp at hc; have := fr_r72 b hb; omega))
        refine d_done ⟨(r72, b62), ⟨rfl, rfl, rfl, rfl⟩, f82, fr_r72.mono (by omega), bxx79, by omega, (fr_r72.out (by omega)), G81⟩
    ·
      refine d_eff ?_
      refine s_new (fun h84 b83 hbb83 hzb83 eh84 bxb83 => ?_)
      have E85 := E13.trans eh84
      have z86 := eh84.size
      have G87 := eh84
      have lbb83 := bxb83.lt
      refine s_nil ⟨fun _ x hx => G87.blk x (by simp at hx; omega), ?_⟩
      refine d_eff ?_
      have f88 := ((f10.ext eh11).ext eh84)
      refine s_call [.agg #[.int .i64 y0_phase, .int .i64 y0_holds, .int .i64 y0_again, .int .i64 y0_shown, y0_passed.v]] rfl (toRepeater_ok y0_phase y0_holds y0_again y0_shown y0_passed.v x0_passed _ f88 bd16) ?_
      rintro _ h89 ⟨r90, rfl, s_r90, eh89, fr_r90⟩
      have E91 := E85.trans eh89
      have z92 := eh89.size
      have G93 := G87.trans eh89
      have lt_r90 := s_r90.lt
      refine s_nil ⟨fun _ x hx => G93.blk x (by simp at hx; omega), ?_⟩
      refine d_eff ?_
      refine s_call [.agg #[.bool y1_next, .int .i64 y1_signal]] rfl (toGlance_ok y1_next y1_signal _ ) ?_
      rintro _ h94 ⟨rfl, eh94⟩
      have E95 := E91.trans eh94
      have z96 := eh94.size
      have G97 := G93.trans eh94
      refine s_nil ⟨fun _ x hx => G97.blk x (by simp at hx; omega), ?_⟩
      refine d_eff ?_
      have f98 := (s_r90.ext eh94)
      refine s_call [.agg #[.int .i64 y0_phase, .int .i64 y0_holds, .int .i64 y0_again, .int .i64 y0_shown, r90], .agg #[.bool y1_next, .int .i64 y1_signal]] rfl (spec_GlanceAt_ok (⟨y0_phase, y0_holds, y0_again, y0_shown, x0_passed⟩ : RepP) r90 (⟨y1_next, y1_signal⟩ : GlanceD) _ f98.toSl) ?_
      rintro _ h100 ⟨r99, rfl, s_r99, fr_r99, eh100⟩
      have E101 := E95.trans eh100
      have z102 := eh100.size
      have G103 := G97.trans eh100
      have lt_r99 := s_r99.lt
      refine s_nil ⟨fun _ x hx => G103.blk x (by simp at hx; omega), ?_⟩
      refine d_pureT (.tuple #[.agg #[.int .i64 (((rgOut (⟨y0_phase, y0_holds, y0_again, y0_shown, x0_passed⟩ : RepP) [(⟨y1_next, y1_signal⟩ : GlanceD)]).1).phase), .int .i64 (((rgOut (⟨y0_phase, y0_holds, y0_again, y0_shown, x0_passed⟩ : RepP) [(⟨y1_next, y1_signal⟩ : GlanceD)]).1).holds), .int .i64 (((rgOut (⟨y0_phase, y0_holds, y0_again, y0_shown, x0_passed⟩ : RepP) [(⟨y1_next, y1_signal⟩ : GlanceD)]).1).again), .int .i64 (((rgOut (⟨y0_phase, y0_holds, y0_again, y0_shown, x0_passed⟩ : RepP) [(⟨y1_next, y1_signal⟩ : GlanceD)]).1).shown), r99], .bool ((rgOut (⟨y0_phase, y0_holds, y0_again, y0_shown, x0_passed⟩ : RepP) [(⟨y1_next, y1_signal⟩ : GlanceD)]).2)]) (fun _ q => q) ?_
      refine d_pureT (.agg #[.int .i64 (((rgOut (⟨y0_phase, y0_holds, y0_again, y0_shown, x0_passed⟩ : RepP) [(⟨y1_next, y1_signal⟩ : GlanceD)]).1).phase), .int .i64 (((rgOut (⟨y0_phase, y0_holds, y0_again, y0_shown, x0_passed⟩ : RepP) [(⟨y1_next, y1_signal⟩ : GlanceD)]).1).holds), .int .i64 (((rgOut (⟨y0_phase, y0_holds, y0_again, y0_shown, x0_passed⟩ : RepP) [(⟨y1_next, y1_signal⟩ : GlanceD)]).1).again), .int .i64 (((rgOut (⟨y0_phase, y0_holds, y0_again, y0_shown, x0_passed⟩ : RepP) [(⟨y1_next, y1_signal⟩ : GlanceD)]).1).shown), r99]) (fun _ q => q) ?_
      refine d_pureT (.bool ((rgOut (⟨y0_phase, y0_holds, y0_again, y0_shown, x0_passed⟩ : RepP) [(⟨y1_next, y1_signal⟩ : GlanceD)]).2)) (fun _ q => q) ?_
      refine d_eff ?_
      have f104 := (((bxb83.ext eh89).ext eh94).ext eh100)
      refine s_stBx (.agg #[.int .i64 (((rgOut (⟨y0_phase, y0_holds, y0_again, y0_shown, x0_passed⟩ : RepP) [(⟨y1_next, y1_signal⟩ : GlanceD)]).1).phase), .int .i64 (((rgOut (⟨y0_phase, y0_holds, y0_again, y0_shown, x0_passed⟩ : RepP) [(⟨y1_next, y1_signal⟩ : GlanceD)]).1).holds), .int .i64 (((rgOut (⟨y0_phase, y0_holds, y0_again, y0_shown, x0_passed⟩ : RepP) [(⟨y1_next, y1_signal⟩ : GlanceD)]).1).again), .int .i64 (((rgOut (⟨y0_phase, y0_holds, y0_again, y0_shown, x0_passed⟩ : RepP) [(⟨y1_next, y1_signal⟩ : GlanceD)]).1).shown), r99]) [.int .i64 (((rgOut (⟨y0_phase, y0_holds, y0_again, y0_shown, x0_passed⟩ : RepP) [(⟨y1_next, y1_signal⟩ : GlanceD)]).1).phase), .int .i64 (((rgOut (⟨y0_phase, y0_holds, y0_again, y0_shown, x0_passed⟩ : RepP) [(⟨y1_next, y1_signal⟩ : GlanceD)]).1).holds), .int .i64 (((rgOut (⟨y0_phase, y0_holds, y0_again, y0_shown, x0_passed⟩ : RepP) [(⟨y1_next, y1_signal⟩ : GlanceD)]).1).again), .int .i64 (((rgOut (⟨y0_phase, y0_holds, y0_again, y0_shown, x0_passed⟩ : RepP) [(⟨y1_next, y1_signal⟩ : GlanceD)]).1).shown), r99] [.int .i64 (((rgOut (⟨y0_phase, y0_holds, y0_again, y0_shown, x0_passed⟩ : RepP) [(⟨y1_next, y1_signal⟩ : GlanceD)]).1).phase), .int .i64 (((rgOut (⟨y0_phase, y0_holds, y0_again, y0_shown, x0_passed⟩ : RepP) [(⟨y1_next, y1_signal⟩ : GlanceD)]).1).holds), .int .i64 (((rgOut (⟨y0_phase, y0_holds, y0_again, y0_shown, x0_passed⟩ : RepP) [(⟨y1_next, y1_signal⟩ : GlanceD)]).1).again), .int .i64 (((rgOut (⟨y0_phase, y0_holds, y0_again, y0_shown, x0_passed⟩ : RepP) [(⟨y1_next, y1_signal⟩ : GlanceD)]).1).shown), r99] f104 rfl rfl rfl rfl (by simp) (all_cons rfl (all_cons rfl (all_cons rfl (all_cons rfl (all_cons s_r99.one1 all_nil))))) rfl (fun h105 mh105 sh105 bxx106 => ?_)
      have E107 := E101.mod mh105 (fun b hb => by simp at hb; omega)
      have G108 := G103.mod mh105 (fun b hb => by simp at hb; omega)
      refine s_nil ⟨fun hl => (by cases hl), ?_⟩
      refine d_pureT (.bool ((rgOut (⟨y0_phase, y0_holds, y0_again, y0_shown, x0_passed⟩ : RepP) [(⟨y1_next, y1_signal⟩ : GlanceD)]).2)) (fun _ q => q) ?_
      have f109 := (s_r99.mod mh105 (fun b hb hc => by simp at hc; have := fr_r99 b hb; omega))
      refine d_done ⟨(r99, b83), ⟨rfl, rfl, rfl, rfl⟩, f109, fr_r99.mono (by omega), bxx106, by omega, (fr_r99.out (by omega)), G108⟩
  rintro ⟨r110, p111⟩ R113 h112 ⟨s_r110, fr_r110, bxp111, lop111, np_p111_r110, eh112⟩
  simp only at s_r110 fr_r110 bxp111 lop111 np_p111_r110 eh112
  have E114 := E13.trans eh112
  have z115 := eh112.size
  have lt_r110 := s_r110.lt
  have lbp111 := bxp111.lt
  refine p_seqN ?_
  refine v_seq ?_
  refine v_ops ?_
  have f116 := (f17.ext eh112)
  refine s_load (.agg #[.int .i64 y0_phase, .int .i64 y0_holds, .int .i64 y0_again, .int .i64 y0_shown, y0_passed.v]) (fun _ q => f116.loadA rfl q) ?_
  have f117 := ((f10.ext eh11).ext eh112)
  refine s_call [.agg #[.int .i64 y0_phase, .int .i64 y0_holds, .int .i64 y0_again, .int .i64 y0_shown, y0_passed.v]] rfl (toRepeater_ok y0_phase y0_holds y0_again y0_shown y0_passed.v x0_passed _ f117 bd16) ?_
  rintro _ h118 ⟨r119, rfl, s_r119, eh118, fr_r119⟩
  have E120 := E114.trans eh118
  have z121 := eh118.size
  have lt_r119 := s_r119.lt
  refine s_new (fun h123 b122 hbb122 hzb122 eh123 bxb122 => ?_)
  have E124 := E120.trans eh123
  have z125 := eh123.size
  have lbb122 := bxb122.lt
  refine s_stBx (.agg #[.int .i64 y0_phase, .int .i64 y0_holds, .int .i64 y0_again, .int .i64 y0_shown, r119]) [.int .i64 y0_phase, .int .i64 y0_holds, .int .i64 y0_again, .int .i64 y0_shown, r119] [.int .i64 y0_phase, .int .i64 y0_holds, .int .i64 y0_again, .int .i64 y0_shown, r119] bxb122 rfl rfl rfl rfl (by simp) (all_cons rfl (all_cons rfl (all_cons rfl (all_cons rfl (all_cons s_r119.one1 all_nil))))) rfl (fun h126 mh126 sh126 bxx127 => ?_)
  have E128 := E124.mod mh126 (fun b hb => by simp at hb; omega)
  refine s_nil ?_
  refine p_seqN ?_
  refine v_seq ?_
  have f129 := ((((f18.ext eh112).ext eh118).ext eh123).mod mh126 (by simp; omega))
  refine v_draw (DrawVC.cut (α := Value × Nat) ([b122] ++ [b5]) (fun zz => [(2, .pointer (some ⟨b1, 0, none⟩)), (3, .pointer (some ⟨b5, 0, none⟩)), (6, .pointer (some ⟨p111, 0, none⟩)), (7, .bool ((rgOut (⟨y0_phase, y0_holds, y0_again, y0_shown, x0_passed⟩ : RepP) [(⟨y1_next, y1_signal⟩ : GlanceD)]).2)), (8, .pointer (some ⟨b122, 0, none⟩)), (9, .pointer (some ⟨zz.2, 0, none⟩)), (10, .bool ((rgOut (⟨y0_phase, y0_holds, y0_again, y0_shown, x0_passed⟩ : RepP) [(⟨y1_next, y1_signal⟩ : GlanceD)]).2))]) (fun zz h' => SlO h' zz.1 (((rgOut (⟨y0_phase, y0_holds, y0_again, y0_shown, x0_passed⟩ : RepP) [(⟨y1_next, y1_signal⟩ : GlanceD)]).1).passed) ∧ Fr h126.size zz.1 ∧ Bx h' zz.2 [.int .i64 (((rgOut (⟨y0_phase, y0_holds, y0_again, y0_shown, x0_passed⟩ : RepP) [(⟨y1_next, y1_signal⟩ : GlanceD)]).1).phase), .int .i64 (((rgOut (⟨y0_phase, y0_holds, y0_again, y0_shown, x0_passed⟩ : RepP) [(⟨y1_next, y1_signal⟩ : GlanceD)]).1).holds), .int .i64 (((rgOut (⟨y0_phase, y0_holds, y0_again, y0_shown, x0_passed⟩ : RepP) [(⟨y1_next, y1_signal⟩ : GlanceD)]).1).again), .int .i64 (((rgOut (⟨y0_phase, y0_holds, y0_again, y0_shown, x0_passed⟩ : RepP) [(⟨y1_next, y1_signal⟩ : GlanceD)]).1).shown), zz.1] 27 ∧ h126.size ≤ zz.2 ∧ zz.2 ∉ blks zz.1 ∧ Ext h126 h') ?_ ?_)
  ·
    refine d_loadT (.agg #[.int .i64 y0_phase, .int .i64 y0_holds, .int .i64 y0_again, .int .i64 y0_shown, r119]) (fun _ q => bxx127.takeA (by simp) rfl q) ?_
    refine d_loadT (.agg #[.bool y1_next, .int .i64 y1_signal]) (fun _ q => f129.takeA (by simp) rfl q) ?_
    refine d_fork ?_ ?_
    ·
      refine d_eff ?_
      refine s_call [.agg #[.bool y1_next, .int .i64 y1_signal]] rfl (toGlance_ok y1_next y1_signal _ ) ?_
      rintro _ h130 ⟨rfl, eh130⟩
      have E131 := E128.trans eh130
      have z132 := eh130.size
      have G133 := eh130
      refine s_nil ⟨fun _ x hx => G133.blk x (by simp at hx; omega), ?_⟩
      refine d_fork ?_ ?_
      ·
        refine d_eff ?_
        have f134 := (((s_r119.ext eh123).mod mh126 (fun b hb hc => by simp at hc; have := lt_r119 b hb; omega)).ext eh130)
        refine s_call [.agg #[.int .i64 y0_phase, .int .i64 y0_holds, .int .i64 y0_again, .int .i64 y0_shown, r119], .agg #[.bool y1_next, .int .i64 y1_signal]] rfl (impl_GlanceAt_ok (⟨y0_phase, y0_holds, y0_again, y0_shown, x0_passed⟩ : RepP) r119 (⟨y1_next, y1_signal⟩ : GlanceD) _ f134.toSl) ?_
        rintro _ h136 ⟨r135, rfl, s_r135, fr_r135, eh136⟩
        have E137 := E131.trans eh136
        have z138 := eh136.size
        have G139 := G133.trans eh136
        have lt_r135 := s_r135.lt
        refine s_nil ⟨fun _ x hx => G139.blk x (by simp at hx; omega), ?_⟩
        refine d_pureT (.tuple #[.agg #[.int .i64 (((rgOut (⟨y0_phase, y0_holds, y0_again, y0_shown, x0_passed⟩ : RepP) [(⟨y1_next, y1_signal⟩ : GlanceD)]).1).phase), .int .i64 (((rgOut (⟨y0_phase, y0_holds, y0_again, y0_shown, x0_passed⟩ : RepP) [(⟨y1_next, y1_signal⟩ : GlanceD)]).1).holds), .int .i64 (((rgOut (⟨y0_phase, y0_holds, y0_again, y0_shown, x0_passed⟩ : RepP) [(⟨y1_next, y1_signal⟩ : GlanceD)]).1).again), .int .i64 (((rgOut (⟨y0_phase, y0_holds, y0_again, y0_shown, x0_passed⟩ : RepP) [(⟨y1_next, y1_signal⟩ : GlanceD)]).1).shown), r135], .bool ((rgOut (⟨y0_phase, y0_holds, y0_again, y0_shown, x0_passed⟩ : RepP) [(⟨y1_next, y1_signal⟩ : GlanceD)]).2)]) (fun _ q => q) ?_
        refine d_pureT (.agg #[.int .i64 (((rgOut (⟨y0_phase, y0_holds, y0_again, y0_shown, x0_passed⟩ : RepP) [(⟨y1_next, y1_signal⟩ : GlanceD)]).1).phase), .int .i64 (((rgOut (⟨y0_phase, y0_holds, y0_again, y0_shown, x0_passed⟩ : RepP) [(⟨y1_next, y1_signal⟩ : GlanceD)]).1).holds), .int .i64 (((rgOut (⟨y0_phase, y0_holds, y0_again, y0_shown, x0_passed⟩ : RepP) [(⟨y1_next, y1_signal⟩ : GlanceD)]).1).again), .int .i64 (((rgOut (⟨y0_phase, y0_holds, y0_again, y0_shown, x0_passed⟩ : RepP) [(⟨y1_next, y1_signal⟩ : GlanceD)]).1).shown), r135]) (fun _ q => q) ?_
        refine d_pureT (.bool ((rgOut (⟨y0_phase, y0_holds, y0_again, y0_shown, x0_passed⟩ : RepP) [(⟨y1_next, y1_signal⟩ : GlanceD)]).2)) (fun _ q => q) ?_
        refine d_eff ?_
        refine s_new (fun h141 b140 hbb140 hzb140 eh141 bxb140 => ?_)
        have E142 := E137.trans eh141
        have z143 := eh141.size
        have G144 := G139.trans eh141
        have lbb140 := bxb140.lt
        refine s_nil ⟨fun _ x hx => G144.blk x (by simp at hx; omega), ?_⟩
        refine d_eff ?_
        refine s_stBx (.agg #[.int .i64 (((rgOut (⟨y0_phase, y0_holds, y0_again, y0_shown, x0_passed⟩ : RepP) [(⟨y1_next, y1_signal⟩ : GlanceD)]).1).phase), .int .i64 (((rgOut (⟨y0_phase, y0_holds, y0_again, y0_shown, x0_passed⟩ : RepP) [(⟨y1_next, y1_signal⟩ : GlanceD)]).1).holds), .int .i64 (((rgOut (⟨y0_phase, y0_holds, y0_again, y0_shown, x0_passed⟩ : RepP) [(⟨y1_next, y1_signal⟩ : GlanceD)]).1).again), .int .i64 (((rgOut (⟨y0_phase, y0_holds, y0_again, y0_shown, x0_passed⟩ : RepP) [(⟨y1_next, y1_signal⟩ : GlanceD)]).1).shown), r135]) [.int .i64 (((rgOut (⟨y0_phase, y0_holds, y0_again, y0_shown, x0_passed⟩ : RepP) [(⟨y1_next, y1_signal⟩ : GlanceD)]).1).phase), .int .i64 (((rgOut (⟨y0_phase, y0_holds, y0_again, y0_shown, x0_passed⟩ : RepP) [(⟨y1_next, y1_signal⟩ : GlanceD)]).1).holds), .int .i64 (((rgOut (⟨y0_phase, y0_holds, y0_again, y0_shown, x0_passed⟩ : RepP) [(⟨y1_next, y1_signal⟩ : GlanceD)]).1).again), .int .i64 (((rgOut (⟨y0_phase, y0_holds, y0_again, y0_shown, x0_passed⟩ : RepP) [(⟨y1_next, y1_signal⟩ : GlanceD)]).1).shown), r135] [.int .i64 (((rgOut (⟨y0_phase, y0_holds, y0_again, y0_shown, x0_passed⟩ : RepP) [(⟨y1_next, y1_signal⟩ : GlanceD)]).1).phase), .int .i64 (((rgOut (⟨y0_phase, y0_holds, y0_again, y0_shown, x0_passed⟩ : RepP) [(⟨y1_next, y1_signal⟩ : GlanceD)]).1).holds), .int .i64 (((rgOut (⟨y0_phase, y0_holds, y0_again, y0_shown, x0_passed⟩ : RepP) [(⟨y1_next, y1_signal⟩ : GlanceD)]).1).again), .int .i64 (((rgOut (⟨y0_phase, y0_holds, y0_again, y0_shown, x0_passed⟩ : RepP) [(⟨y1_next, y1_signal⟩ : GlanceD)]).1).shown), r135] bxb140 rfl rfl rfl rfl (by simp) (all_cons rfl (all_cons rfl (all_cons rfl (all_cons rfl (all_cons s_r135.one1 all_nil))))) rfl (fun h145 mh145 sh145 bxx146 => ?_)
        have E147 := E142.mod mh145 (fun b hb => by simp at hb; omega)
        have G148 := G144.mod mh145 (fun b hb => by simp at hb; omega)
        refine s_nil ⟨fun hl => (by cases hl), ?_⟩
        refine d_pureT (.bool ((rgOut (⟨y0_phase, y0_holds, y0_again, y0_shown, x0_passed⟩ : RepP) [(⟨y1_next, y1_signal⟩ : GlanceD)]).2)) (fun _ q => q) ?_
        have f149 := ((s_r135.ext eh141).mod mh145 (fun b hb hc => by simp at hc; have := lt_r135 b hb; omega))
        refine d_done ⟨(r135, b140), ⟨rfl, rfl, rfl, rfl, rfl, rfl, rfl⟩, f149, fr_r135.mono (by omega), bxx146, by omega, (fun hc => by have := lt_r135 _ hc; omega), G148⟩
      ·
        refine d_eff ?_
        refine s_new (fun h151 b150 hbb150 hzb150 eh151 bxb150 => ?_)
        have E152 := E131.trans eh151
        have z153 := eh151.size
        have G154 := G133.trans eh151
        have lbb150 := bxb150.lt
        refine s_nil ⟨fun _ x hx => G154.blk x (by simp at hx; omega), ?_⟩
        refine d_eff ?_
        have f155 := ((((s_r119.ext eh123).mod mh126 (fun b hb hc => by simp at hc; have := lt_r119 b hb; omega)).ext eh130).ext eh151)
        refine s_call [.agg #[.int .i64 y0_phase, .int .i64 y0_holds, .int .i64 y0_again, .int .i64 y0_shown, r119], .agg #[.bool y1_next, .int .i64 y1_signal]] rfl (impl_GlanceAt_ok (⟨y0_phase, y0_holds, y0_again, y0_shown, x0_passed⟩ : RepP) r119 (⟨y1_next, y1_signal⟩ : GlanceD) _ f155.toSl) ?_
        rintro _ h157 ⟨r156, rfl, s_r156, fr_r156, eh157⟩
        have E158 := E152.trans eh157
        have z159 := eh157.size
        have G160 := G154.trans eh157
        have lt_r156 := s_r156.lt
        refine s_nil ⟨fun _ x hx => G160.blk x (by simp at hx; omega), ?_⟩
        refine d_pureT (.tuple #[.agg #[.int .i64 (((rgOut (⟨y0_phase, y0_holds, y0_again, y0_shown, x0_passed⟩ : RepP) [(⟨y1_next, y1_signal⟩ : GlanceD)]).1).phase), .int .i64 (((rgOut (⟨y0_phase, y0_holds, y0_again, y0_shown, x0_passed⟩ : RepP) [(⟨y1_next, y1_signal⟩ : GlanceD)]).1).holds), .int .i64 (((rgOut (⟨y0_phase, y0_holds, y0_again, y0_shown, x0_passed⟩ : RepP) [(⟨y1_next, y1_signal⟩ : GlanceD)]).1).again), .int .i64 (((rgOut (⟨y0_phase, y0_holds, y0_again, y0_shown, x0_passed⟩ : RepP) [(⟨y1_next, y1_signal⟩ : GlanceD)]).1).shown), r156], .bool ((rgOut (⟨y0_phase, y0_holds, y0_again, y0_shown, x0_passed⟩ : RepP) [(⟨y1_next, y1_signal⟩ : GlanceD)]).2)]) (fun _ q => q) ?_
        refine d_pureT (.agg #[.int .i64 (((rgOut (⟨y0_phase, y0_holds, y0_again, y0_shown, x0_passed⟩ : RepP) [(⟨y1_next, y1_signal⟩ : GlanceD)]).1).phase), .int .i64 (((rgOut (⟨y0_phase, y0_holds, y0_again, y0_shown, x0_passed⟩ : RepP) [(⟨y1_next, y1_signal⟩ : GlanceD)]).1).holds), .int .i64 (((rgOut (⟨y0_phase, y0_holds, y0_again, y0_shown, x0_passed⟩ : RepP) [(⟨y1_next, y1_signal⟩ : GlanceD)]).1).again), .int .i64 (((rgOut (⟨y0_phase, y0_holds, y0_again, y0_shown, x0_passed⟩ : RepP) [(⟨y1_next, y1_signal⟩ : GlanceD)]).1).shown), r156]) (fun _ q => q) ?_
        refine d_pureT (.bool ((rgOut (⟨y0_phase, y0_holds, y0_again, y0_shown, x0_passed⟩ : RepP) [(⟨y1_next, y1_signal⟩ : GlanceD)]).2)) (fun _ q => q) ?_
        refine d_eff ?_
        have f161 := (bxb150.ext eh157)
        refine s_stBx (.agg #[.int .i64 (((rgOut (⟨y0_phase, y0_holds, y0_again, y0_shown, x0_passed⟩ : RepP) [(⟨y1_next, y1_signal⟩ : GlanceD)]).1).phase), .int .i64 (((rgOut (⟨y0_phase, y0_holds, y0_again, y0_shown, x0_passed⟩ : RepP) [(⟨y1_next, y1_signal⟩ : GlanceD)]).1).holds), .int .i64 (((rgOut (⟨y0_phase, y0_holds, y0_again, y0_shown, x0_passed⟩ : RepP) [(⟨y1_next, y1_signal⟩ : GlanceD)]).1).again), .int .i64 (((rgOut (⟨y0_phase, y0_holds, y0_again, y0_shown, x0_passed⟩ : RepP) [(⟨y1_next, y1_signal⟩ : GlanceD)]).1).shown), r156]) [.int .i64 (((rgOut (⟨y0_phase, y0_holds, y0_again, y0_shown, x0_passed⟩ : RepP) [(⟨y1_next, y1_signal⟩ : GlanceD)]).1).phase), .int .i64 (((rgOut (⟨y0_phase, y0_holds, y0_again, y0_shown, x0_passed⟩ : RepP) [(⟨y1_next, y1_signal⟩ : GlanceD)]).1).holds), .int .i64 (((rgOut (⟨y0_phase, y0_holds, y0_again, y0_shown, x0_passed⟩ : RepP) [(⟨y1_next, y1_signal⟩ : GlanceD)]).1).again), .int .i64 (((rgOut (⟨y0_phase, y0_holds, y0_again, y0_shown, x0_passed⟩ : RepP) [(⟨y1_next, y1_signal⟩ : GlanceD)]).1).shown), r156] [.int .i64 (((rgOut (⟨y0_phase, y0_holds, y0_again, y0_shown, x0_passed⟩ : RepP) [(⟨y1_next, y1_signal⟩ : GlanceD)]).1).phase), .int .i64 (((rgOut (⟨y0_phase, y0_holds, y0_again, y0_shown, x0_passed⟩ : RepP) [(⟨y1_next, y1_signal⟩ : GlanceD)]).1).holds), .int .i64 (((rgOut (⟨y0_phase, y0_holds, y0_again, y0_shown, x0_passed⟩ : RepP) [(⟨y1_next, y1_signal⟩ : GlanceD)]).1).again), .int .i64 (((rgOut (⟨y0_phase, y0_holds, y0_again, y0_shown, x0_passed⟩ : RepP) [(⟨y1_next, y1_signal⟩ : GlanceD)]).1).shown), r156] f161 rfl rfl rfl rfl (by simp) (all_cons rfl (all_cons rfl (all_cons rfl (all_cons rfl (all_cons s_r156.one1 all_nil))))) rfl (fun h162 mh162 sh162 bxx163 => ?_)
        have E164 := E158.mod mh162 (fun b hb => by simp at hb; omega)
        have G165 := G160.mod mh162 (fun b hb => by simp at hb; omega)
        refine s_nil ⟨fun hl => (by cases hl), ?_⟩
        refine d_pureT (.bool ((rgOut (⟨y0_phase, y0_holds, y0_again, y0_shown, x0_passed⟩ : RepP) [(⟨y1_next, y1_signal⟩ : GlanceD)]).2)) (fun _ q => q) ?_
        have f166 := (s_r156.mod mh162 (fun b hb hc => by simp at hc; have := fr_r156 b hb; omega))
        refine d_done ⟨(r156, b150), ⟨rfl, rfl, rfl, rfl, rfl, rfl, rfl⟩, f166, fr_r156.mono (by omega), bxx163, by omega, (fr_r156.out (by omega)), G165⟩
    ·
      refine d_eff ?_
      refine s_new (fun h168 b167 hbb167 hzb167 eh168 bxb167 => ?_)
      have E169 := E128.trans eh168
      have z170 := eh168.size
      have G171 := eh168
      have lbb167 := bxb167.lt
      refine s_nil ⟨fun _ x hx => G171.blk x (by simp at hx; omega), ?_⟩
      refine d_eff ?_
      refine s_call [.agg #[.bool y1_next, .int .i64 y1_signal]] rfl (toGlance_ok y1_next y1_signal _ ) ?_
      rintro _ h172 ⟨rfl, eh172⟩
      have E173 := E169.trans eh172
      have z174 := eh172.size
      have G175 := G171.trans eh172
      refine s_nil ⟨fun _ x hx => G175.blk x (by simp at hx; omega), ?_⟩
      refine d_eff ?_
      have f176 := ((((s_r119.ext eh123).mod mh126 (fun b hb hc => by simp at hc; have := lt_r119 b hb; omega)).ext eh168).ext eh172)
      refine s_call [.agg #[.int .i64 y0_phase, .int .i64 y0_holds, .int .i64 y0_again, .int .i64 y0_shown, r119], .agg #[.bool y1_next, .int .i64 y1_signal]] rfl (impl_GlanceAt_ok (⟨y0_phase, y0_holds, y0_again, y0_shown, x0_passed⟩ : RepP) r119 (⟨y1_next, y1_signal⟩ : GlanceD) _ f176.toSl) ?_
      rintro _ h178 ⟨r177, rfl, s_r177, fr_r177, eh178⟩
      have E179 := E173.trans eh178
      have z180 := eh178.size
      have G181 := G175.trans eh178
      have lt_r177 := s_r177.lt
      refine s_nil ⟨fun _ x hx => G181.blk x (by simp at hx; omega), ?_⟩
      refine d_pureT (.tuple #[.agg #[.int .i64 (((rgOut (⟨y0_phase, y0_holds, y0_again, y0_shown, x0_passed⟩ : RepP) [(⟨y1_next, y1_signal⟩ : GlanceD)]).1).phase), .int .i64 (((rgOut (⟨y0_phase, y0_holds, y0_again, y0_shown, x0_passed⟩ : RepP) [(⟨y1_next, y1_signal⟩ : GlanceD)]).1).holds), .int .i64 (((rgOut (⟨y0_phase, y0_holds, y0_again, y0_shown, x0_passed⟩ : RepP) [(⟨y1_next, y1_signal⟩ : GlanceD)]).1).again), .int .i64 (((rgOut (⟨y0_phase, y0_holds, y0_again, y0_shown, x0_passed⟩ : RepP) [(⟨y1_next, y1_signal⟩ : GlanceD)]).1).shown), r177], .bool ((rgOut (⟨y0_phase, y0_holds, y0_again, y0_shown, x0_passed⟩ : RepP) [(⟨y1_next, y1_signal⟩ : GlanceD)]).2)]) (fun _ q => q) ?_
      refine d_pureT (.agg #[.int .i64 (((rgOut (⟨y0_phase, y0_holds, y0_again, y0_shown, x0_passed⟩ : RepP) [(⟨y1_next, y1_signal⟩ : GlanceD)]).1).phase), .int .i64 (((rgOut (⟨y0_phase, y0_holds, y0_again, y0_shown, x0_passed⟩ : RepP) [(⟨y1_next, y1_signal⟩ : GlanceD)]).1).holds), .int .i64 (((rgOut (⟨y0_phase, y0_holds, y0_again, y0_shown, x0_passed⟩ : RepP) [(⟨y1_next, y1_signal⟩ : GlanceD)]).1).again), .int .i64 (((rgOut (⟨y0_phase, y0_holds, y0_again, y0_shown, x0_passed⟩ : RepP) [(⟨y1_next, y1_signal⟩ : GlanceD)]).1).shown), r177]) (fun _ q => q) ?_
      refine d_pureT (.bool ((rgOut (⟨y0_phase, y0_holds, y0_again, y0_shown, x0_passed⟩ : RepP) [(⟨y1_next, y1_signal⟩ : GlanceD)]).2)) (fun _ q => q) ?_
      refine d_eff ?_
      have f182 := ((bxb167.ext eh172).ext eh178)
      refine s_stBx (.agg #[.int .i64 (((rgOut (⟨y0_phase, y0_holds, y0_again, y0_shown, x0_passed⟩ : RepP) [(⟨y1_next, y1_signal⟩ : GlanceD)]).1).phase), .int .i64 (((rgOut (⟨y0_phase, y0_holds, y0_again, y0_shown, x0_passed⟩ : RepP) [(⟨y1_next, y1_signal⟩ : GlanceD)]).1).holds), .int .i64 (((rgOut (⟨y0_phase, y0_holds, y0_again, y0_shown, x0_passed⟩ : RepP) [(⟨y1_next, y1_signal⟩ : GlanceD)]).1).again), .int .i64 (((rgOut (⟨y0_phase, y0_holds, y0_again, y0_shown, x0_passed⟩ : RepP) [(⟨y1_next, y1_signal⟩ : GlanceD)]).1).shown), r177]) [.int .i64 (((rgOut (⟨y0_phase, y0_holds, y0_again, y0_shown, x0_passed⟩ : RepP) [(⟨y1_next, y1_signal⟩ : GlanceD)]).1).phase), .int .i64 (((rgOut (⟨y0_phase, y0_holds, y0_again, y0_shown, x0_passed⟩ : RepP) [(⟨y1_next, y1_signal⟩ : GlanceD)]).1).holds), .int .i64 (((rgOut (⟨y0_phase, y0_holds, y0_again, y0_shown, x0_passed⟩ : RepP) [(⟨y1_next, y1_signal⟩ : GlanceD)]).1).again), .int .i64 (((rgOut (⟨y0_phase, y0_holds, y0_again, y0_shown, x0_passed⟩ : RepP) [(⟨y1_next, y1_signal⟩ : GlanceD)]).1).shown), r177] [.int .i64 (((rgOut (⟨y0_phase, y0_holds, y0_again, y0_shown, x0_passed⟩ : RepP) [(⟨y1_next, y1_signal⟩ : GlanceD)]).1).phase), .int .i64 (((rgOut (⟨y0_phase, y0_holds, y0_again, y0_shown, x0_passed⟩ : RepP) [(⟨y1_next, y1_signal⟩ : GlanceD)]).1).holds), .int .i64 (((rgOut (⟨y0_phase, y0_holds, y0_again, y0_shown, x0_passed⟩ : RepP) [(⟨y1_next, y1_signal⟩ : GlanceD)]).1).again), .int .i64 (((rgOut (⟨y0_phase, y0_holds, y0_again, y0_shown, x0_passed⟩ : RepP) [(⟨y1_next, y1_signal⟩ : GlanceD)]).1).shown), r177] f182 rfl rfl rfl rfl (by simp) (all_cons rfl (all_cons rfl (all_cons rfl (all_cons rfl (all_cons s_r177.one1 all_nil))))) rfl (fun h183 mh183 sh183 bxx184 => ?_)
      have E185 := E179.mod mh183 (fun b hb => by simp at hb; omega)
      have G186 := G181.mod mh183 (fun b hb => by simp at hb; omega)
      refine s_nil ⟨fun hl => (by cases hl), ?_⟩
      refine d_pureT (.bool ((rgOut (⟨y0_phase, y0_holds, y0_again, y0_shown, x0_passed⟩ : RepP) [(⟨y1_next, y1_signal⟩ : GlanceD)]).2)) (fun _ q => q) ?_
      have f187 := (s_r177.mod mh183 (fun b hb hc => by simp at hc; have := fr_r177 b hb; omega))
      refine d_done ⟨(r177, b167), ⟨rfl, rfl, rfl, rfl, rfl, rfl, rfl⟩, f187, fr_r177.mono (by omega), bxx184, by omega, (fr_r177.out (by omega)), G186⟩
  rintro ⟨r188, p189⟩ R191 h190 ⟨s_r188, fr_r188, bxp189, lop189, np_p189_r188, eh190⟩
  simp only at s_r188 fr_r188 bxp189 lop189 np_p189_r188 eh190
  have E192 := E128.trans eh190
  have z193 := eh190.size
  have lt_r188 := s_r188.lt
  have lbp189 := bxp189.lt
  refine p_seqN ?_
  refine v_seq ?_
  refine v_seq ?_
  refine v_ops ?_
  refine s_load (.agg #[.int .i64 (((rgOut (⟨y0_phase, y0_holds, y0_again, y0_shown, x0_passed⟩ : RepP) [(⟨y1_next, y1_signal⟩ : GlanceD)]).1).phase), .int .i64 (((rgOut (⟨y0_phase, y0_holds, y0_again, y0_shown, x0_passed⟩ : RepP) [(⟨y1_next, y1_signal⟩ : GlanceD)]).1).holds), .int .i64 (((rgOut (⟨y0_phase, y0_holds, y0_again, y0_shown, x0_passed⟩ : RepP) [(⟨y1_next, y1_signal⟩ : GlanceD)]).1).again), .int .i64 (((rgOut (⟨y0_phase, y0_holds, y0_again, y0_shown, x0_passed⟩ : RepP) [(⟨y1_next, y1_signal⟩ : GlanceD)]).1).shown), r188]) (fun _ q => bxp189.loadA rfl q) ?_
  have f194 := ((((bxp111.ext eh118).ext eh123).mod mh126 (by simp; omega)).ext eh190)
  refine s_load (.agg #[.int .i64 (((rgOut (⟨y0_phase, y0_holds, y0_again, y0_shown, x0_passed⟩ : RepP) [(⟨y1_next, y1_signal⟩ : GlanceD)]).1).phase), .int .i64 (((rgOut (⟨y0_phase, y0_holds, y0_again, y0_shown, x0_passed⟩ : RepP) [(⟨y1_next, y1_signal⟩ : GlanceD)]).1).holds), .int .i64 (((rgOut (⟨y0_phase, y0_holds, y0_again, y0_shown, x0_passed⟩ : RepP) [(⟨y1_next, y1_signal⟩ : GlanceD)]).1).again), .int .i64 (((rgOut (⟨y0_phase, y0_holds, y0_again, y0_shown, x0_passed⟩ : RepP) [(⟨y1_next, y1_signal⟩ : GlanceD)]).1).shown), r110]) (fun _ q => f194.loadA rfl q) ?_
  have f195 := ((((s_r110.ext eh118).ext eh123).mod mh126 (fun b hb hc => by simp at hc; have := lt_r110 b hb; omega)).ext eh190)
  refine s_call [.agg #[.int .i64 (((rgOut (⟨y0_phase, y0_holds, y0_again, y0_shown, x0_passed⟩ : RepP) [(⟨y1_next, y1_signal⟩ : GlanceD)]).1).phase), .int .i64 (((rgOut (⟨y0_phase, y0_holds, y0_again, y0_shown, x0_passed⟩ : RepP) [(⟨y1_next, y1_signal⟩ : GlanceD)]).1).holds), .int .i64 (((rgOut (⟨y0_phase, y0_holds, y0_again, y0_shown, x0_passed⟩ : RepP) [(⟨y1_next, y1_signal⟩ : GlanceD)]).1).again), .int .i64 (((rgOut (⟨y0_phase, y0_holds, y0_again, y0_shown, x0_passed⟩ : RepP) [(⟨y1_next, y1_signal⟩ : GlanceD)]).1).shown), r188], .agg #[.int .i64 (((rgOut (⟨y0_phase, y0_holds, y0_again, y0_shown, x0_passed⟩ : RepP) [(⟨y1_next, y1_signal⟩ : GlanceD)]).1).phase), .int .i64 (((rgOut (⟨y0_phase, y0_holds, y0_again, y0_shown, x0_passed⟩ : RepP) [(⟨y1_next, y1_signal⟩ : GlanceD)]).1).holds), .int .i64 (((rgOut (⟨y0_phase, y0_holds, y0_again, y0_shown, x0_passed⟩ : RepP) [(⟨y1_next, y1_signal⟩ : GlanceD)]).1).again), .int .i64 (((rgOut (⟨y0_phase, y0_holds, y0_again, y0_shown, x0_passed⟩ : RepP) [(⟨y1_next, y1_signal⟩ : GlanceD)]).1).shown), r110]] rfl (eqRepeater_ok (((rgOut (⟨y0_phase, y0_holds, y0_again, y0_shown, x0_passed⟩ : RepP) [(⟨y1_next, y1_signal⟩ : GlanceD)]).1).phase) (((rgOut (⟨y0_phase, y0_holds, y0_again, y0_shown, x0_passed⟩ : RepP) [(⟨y1_next, y1_signal⟩ : GlanceD)]).1).holds) (((rgOut (⟨y0_phase, y0_holds, y0_again, y0_shown, x0_passed⟩ : RepP) [(⟨y1_next, y1_signal⟩ : GlanceD)]).1).again) (((rgOut (⟨y0_phase, y0_holds, y0_again, y0_shown, x0_passed⟩ : RepP) [(⟨y1_next, y1_signal⟩ : GlanceD)]).1).shown) r188 (((rgOut (⟨y0_phase, y0_holds, y0_again, y0_shown, x0_passed⟩ : RepP) [(⟨y1_next, y1_signal⟩ : GlanceD)]).1).passed) (((rgOut (⟨y0_phase, y0_holds, y0_again, y0_shown, x0_passed⟩ : RepP) [(⟨y1_next, y1_signal⟩ : GlanceD)]).1).phase) (((rgOut (⟨y0_phase, y0_holds, y0_again, y0_shown, x0_passed⟩ : RepP) [(⟨y1_next, y1_signal⟩ : GlanceD)]).1).holds) (((rgOut (⟨y0_phase, y0_holds, y0_again, y0_shown, x0_passed⟩ : RepP) [(⟨y1_next, y1_signal⟩ : GlanceD)]).1).again) (((rgOut (⟨y0_phase, y0_holds, y0_again, y0_shown, x0_passed⟩ : RepP) [(⟨y1_next, y1_signal⟩ : GlanceD)]).1).shown) r110 (((rgOut (⟨y0_phase, y0_holds, y0_again, y0_shown, x0_passed⟩ : RepP) [(⟨y1_next, y1_signal⟩ : GlanceD)]).1).passed) _ s_r188.toSl f195.toSl) ?_
  rintro _ h196 ⟨rfl, eh196⟩
  have E197 := E192.trans eh196
  have z198 := eh196.size
  refine s_pure (.bool (!(decide (((rgOut (⟨y0_phase, y0_holds, y0_again, y0_shown, x0_passed⟩ : RepP) [(⟨y1_next, y1_signal⟩ : GlanceD)]).1).phase = ((rgOut (⟨y0_phase, y0_holds, y0_again, y0_shown, x0_passed⟩ : RepP) [(⟨y1_next, y1_signal⟩ : GlanceD)]).1).phase ∧ ((rgOut (⟨y0_phase, y0_holds, y0_again, y0_shown, x0_passed⟩ : RepP) [(⟨y1_next, y1_signal⟩ : GlanceD)]).1).holds = ((rgOut (⟨y0_phase, y0_holds, y0_again, y0_shown, x0_passed⟩ : RepP) [(⟨y1_next, y1_signal⟩ : GlanceD)]).1).holds ∧ ((rgOut (⟨y0_phase, y0_holds, y0_again, y0_shown, x0_passed⟩ : RepP) [(⟨y1_next, y1_signal⟩ : GlanceD)]).1).again = ((rgOut (⟨y0_phase, y0_holds, y0_again, y0_shown, x0_passed⟩ : RepP) [(⟨y1_next, y1_signal⟩ : GlanceD)]).1).again ∧ ((rgOut (⟨y0_phase, y0_holds, y0_again, y0_shown, x0_passed⟩ : RepP) [(⟨y1_next, y1_signal⟩ : GlanceD)]).1).shown = ((rgOut (⟨y0_phase, y0_holds, y0_again, y0_shown, x0_passed⟩ : RepP) [(⟨y1_next, y1_signal⟩ : GlanceD)]).1).shown ∧ ((rgOut (⟨y0_phase, y0_holds, y0_again, y0_shown, x0_passed⟩ : RepP) [(⟨y1_next, y1_signal⟩ : GlanceD)]).1).passed = ((rgOut (⟨y0_phase, y0_holds, y0_again, y0_shown, x0_passed⟩ : RepP) [(⟨y1_next, y1_signal⟩ : GlanceD)]).1).passed)))) (fun _ q => q) ?_
  refine s_pure (.bool (!(decide (((rgOut (⟨y0_phase, y0_holds, y0_again, y0_shown, x0_passed⟩ : RepP) [(⟨y1_next, y1_signal⟩ : GlanceD)]).1).phase = ((rgOut (⟨y0_phase, y0_holds, y0_again, y0_shown, x0_passed⟩ : RepP) [(⟨y1_next, y1_signal⟩ : GlanceD)]).1).phase ∧ ((rgOut (⟨y0_phase, y0_holds, y0_again, y0_shown, x0_passed⟩ : RepP) [(⟨y1_next, y1_signal⟩ : GlanceD)]).1).holds = ((rgOut (⟨y0_phase, y0_holds, y0_again, y0_shown, x0_passed⟩ : RepP) [(⟨y1_next, y1_signal⟩ : GlanceD)]).1).holds ∧ ((rgOut (⟨y0_phase, y0_holds, y0_again, y0_shown, x0_passed⟩ : RepP) [(⟨y1_next, y1_signal⟩ : GlanceD)]).1).again = ((rgOut (⟨y0_phase, y0_holds, y0_again, y0_shown, x0_passed⟩ : RepP) [(⟨y1_next, y1_signal⟩ : GlanceD)]).1).again ∧ ((rgOut (⟨y0_phase, y0_holds, y0_again, y0_shown, x0_passed⟩ : RepP) [(⟨y1_next, y1_signal⟩ : GlanceD)]).1).shown = ((rgOut (⟨y0_phase, y0_holds, y0_again, y0_shown, x0_passed⟩ : RepP) [(⟨y1_next, y1_signal⟩ : GlanceD)]).1).shown ∧ ((rgOut (⟨y0_phase, y0_holds, y0_again, y0_shown, x0_passed⟩ : RepP) [(⟨y1_next, y1_signal⟩ : GlanceD)]).1).passed = ((rgOut (⟨y0_phase, y0_holds, y0_again, y0_shown, x0_passed⟩ : RepP) [(⟨y1_next, y1_signal⟩ : GlanceD)]).1).passed)))) (fun _ q => q) ?_
  refine s_splitN rfl (by first | assumption | omega | (simp; done) | (simp; omega) | simp_all) ?_
  refine s_run rfl ?_
  refine s_pure (.bool ((rgOut (⟨y0_phase, y0_holds, y0_again, y0_shown, x0_passed⟩ : RepP) [(⟨y1_next, y1_signal⟩ : GlanceD)]).2)) (fun _ q => q) ?_
  refine s_run rfl ?_
  refine s_pure (.bool ((rgOut (⟨y0_phase, y0_holds, y0_again, y0_shown, x0_passed⟩ : RepP) [(⟨y1_next, y1_signal⟩ : GlanceD)]).2)) (fun _ q => q) ?_
  refine s_run rfl ?_
  refine s_pure (.bool ((rgOut (⟨y0_phase, y0_holds, y0_again, y0_shown, x0_passed⟩ : RepP) [(⟨y1_next, y1_signal⟩ : GlanceD)]).2 != (rgOut (⟨y0_phase, y0_holds, y0_again, y0_shown, x0_passed⟩ : RepP) [(⟨y1_next, y1_signal⟩ : GlanceD)]).2)) (fun _ q => q) ?_
  refine s_pure (.bool ((rgOut (⟨y0_phase, y0_holds, y0_again, y0_shown, x0_passed⟩ : RepP) [(⟨y1_next, y1_signal⟩ : GlanceD)]).2 != (rgOut (⟨y0_phase, y0_holds, y0_again, y0_shown, x0_passed⟩ : RepP) [(⟨y1_next, y1_signal⟩ : GlanceD)]).2)) (fun _ q => q) ?_
  refine s_nil ?_
  refine p_seqN ?_
  refine v_condN rfl (by first | assumption | omega | (simp; done) | (simp; omega) | simp_all) ?_
  refine v_skip ?_
  refine p_seqN ?_
  refine v_seq ?_
  refine v_seq ?_
  have f199 := ((bxx127.ext eh190).ext eh196)
  refine v_draw (DrawVC.hold [b122] ?_)
  refine d_loadT (.agg #[.int .i64 y0_phase, .int .i64 y0_holds, .int .i64 y0_again, .int .i64 y0_shown, r119]) (fun _ q => f199.takeA (by simp) rfl q) ?_
  have f200 := (((((f116.ext eh118).ext eh123).mod mh126 (by simp; omega)).ext eh190).ext eh196)
  refine d_loadO (.agg #[.int .i64 y0_phase, .int .i64 y0_holds, .int .i64 y0_again, .int .i64 y0_shown, y0_passed.v]) (fun _ q => f200.loadA rfl q) ?_
  refine d_eff ?_
  have f201 := (((((f117.ext eh118).ext eh123).mod mh126 (fun b hb hc => by simp at hc; have := lt_v0_passed b hb; omega)).ext eh190).ext eh196)
  refine s_call [.agg #[.int .i64 y0_phase, .int .i64 y0_holds, .int .i64 y0_again, .int .i64 y0_shown, y0_passed.v]] rfl (toRepeater_ok y0_phase y0_holds y0_again y0_shown y0_passed.v x0_passed _ f201 bd16) ?_
  rintro _ h202 ⟨r203, rfl, s_r203, eh202, fr_r203⟩
  have E204 := E197.trans eh202
  have z205 := eh202.size
  have G206 := eh202
  have lt_r203 := s_r203.lt
  refine s_nil ⟨fun _ x hx => G206.blk x (by simp at hx; omega), ?_⟩
  refine d_eff ?_
  have f207 := (((((s_r119.ext eh123).mod mh126 (fun b hb hc => by simp at hc; have := lt_r119 b hb; omega)).ext eh190).ext eh196).ext eh202)
  refine s_call [.agg #[.int .i64 y0_phase, .int .i64 y0_holds, .int .i64 y0_again, .int .i64 y0_shown, r119], .agg #[.int .i64 y0_phase, .int .i64 y0_holds, .int .i64 y0_again, .int .i64 y0_shown, r203]] rfl (eqRepeater_ok y0_phase y0_holds y0_again y0_shown r119 x0_passed y0_phase y0_holds y0_again y0_shown r203 x0_passed _ f207.toSl s_r203.toSl) ?_
  rintro _ h208 ⟨rfl, eh208⟩
  have E209 := E204.trans eh208
  have z210 := eh208.size
  have G211 := G206.trans eh208
  refine s_nil ⟨fun _ x hx => G211.blk x (by simp at hx; omega), ?_⟩
  refine d_pureT (.bool (!(decide (y0_phase = y0_phase ∧ y0_holds = y0_holds ∧ y0_again = y0_again ∧ y0_shown = y0_shown ∧ x0_passed = x0_passed)))) (fun _ q => q) ?_
  refine d_done ?_
  refine p_seqN ?_
  refine v_condN rfl (by first | assumption | omega | (simp; done) | (simp; omega) | simp_all) ?_
  refine v_skip ?_
  refine p_seqN ?_
  refine v_seq ?_
  refine v_ops ?_
  refine s_pure (.int .i64 1) (fun _ q => q) ?_
  refine s_nil ?_
  refine p_seqN ?_
  refine v_seq ?_
  refine v_ops ?_
  have f212 := ((f199.ext eh202).ext eh208)
  refine s_load (.agg #[.int .i64 y0_phase, .int .i64 y0_holds, .int .i64 y0_again, .int .i64 y0_shown, r119]) (fun _ q => f212.loadA rfl q) ?_
  refine s_pure (.int .i64 1) (fun _ q => q) ?_
  have f213 := (f207.ext eh208)
  refine s_call [.agg #[.int .i64 y0_phase, .int .i64 y0_holds, .int .i64 y0_again, .int .i64 y0_shown, r119], .int .i64 1] rfl (markRepeater_ok y0_phase y0_holds y0_again y0_shown r119 x0_passed (1) _ f213 (by omega) (by omega) (by omega)) ?_
  rintro _ h214 ⟨rfl, mk215, mh214, zh214⟩
  have E216 := E209.mod mh214 (fun b hb => by have := fr_r119 b hb; omega)
  refine s_pure (.int .i64 (1 + (x0_passed.length : Int))) (fun _ q => q) ?_
  refine s_nil ?_
  refine p_seqN ?_
  refine v_seq ?_
  refine v_seq ?_
  refine v_ops ?_
  refine s_pure (.int .i64 (1 + (x0_passed.length : Int))) (fun _ q => q) ?_
  refine s_pure (.bool (decide ((1 + (x0_passed.length : Int)) < 0))) (fun _ q => q) ?_
  refine s_pure (.bool (decide ((1 + (x0_passed.length : Int)) < 0))) (fun _ q => q) ?_
  refine s_splitN rfl (by first | assumption | omega | (simp; done) | (simp; omega) | simp_all) ?_
  refine s_run rfl ?_
  have f217 := ((((bxp189.ext eh196).ext eh202).ext eh208).mod mh214 (fun hc => by have := lt_r119 _ hc; omega))
  refine s_load (.agg #[.int .i64 (((rgOut (⟨y0_phase, y0_holds, y0_again, y0_shown, x0_passed⟩ : RepP) [(⟨y1_next, y1_signal⟩ : GlanceD)]).1).phase), .int .i64 (((rgOut (⟨y0_phase, y0_holds, y0_again, y0_shown, x0_passed⟩ : RepP) [(⟨y1_next, y1_signal⟩ : GlanceD)]).1).holds), .int .i64 (((rgOut (⟨y0_phase, y0_holds, y0_again, y0_shown, x0_passed⟩ : RepP) [(⟨y1_next, y1_signal⟩ : GlanceD)]).1).again), .int .i64 (((rgOut (⟨y0_phase, y0_holds, y0_again, y0_shown, x0_passed⟩ : RepP) [(⟨y1_next, y1_signal⟩ : GlanceD)]).1).shown), r188]) (fun _ q => f217.loadA rfl q) ?_
  refine s_run rfl ?_
  have f218 := ((((f194.ext eh196).ext eh202).ext eh208).mod mh214 (fr_r119.out (by omega)))
  refine s_load (.agg #[.int .i64 (((rgOut (⟨y0_phase, y0_holds, y0_again, y0_shown, x0_passed⟩ : RepP) [(⟨y1_next, y1_signal⟩ : GlanceD)]).1).phase), .int .i64 (((rgOut (⟨y0_phase, y0_holds, y0_again, y0_shown, x0_passed⟩ : RepP) [(⟨y1_next, y1_signal⟩ : GlanceD)]).1).holds), .int .i64 (((rgOut (⟨y0_phase, y0_holds, y0_again, y0_shown, x0_passed⟩ : RepP) [(⟨y1_next, y1_signal⟩ : GlanceD)]).1).again), .int .i64 (((rgOut (⟨y0_phase, y0_holds, y0_again, y0_shown, x0_passed⟩ : RepP) [(⟨y1_next, y1_signal⟩ : GlanceD)]).1).shown), r110]) (fun _ q => f218.loadA rfl q) ?_
  refine s_run rfl ?_
  have f219 := ((((s_r188.ext eh196).ext eh202).ext eh208).mod mh214 (fr_r188.apart' (fun b hb => by have := lt_r119 b hb; omega)))
  have f220 := ((((f195.ext eh196).ext eh202).ext eh208).mod mh214 (fr_r119.apart (fun b hb => by have := lt_r110 b hb; omega)))
  refine s_call [.agg #[.int .i64 (((rgOut (⟨y0_phase, y0_holds, y0_again, y0_shown, x0_passed⟩ : RepP) [(⟨y1_next, y1_signal⟩ : GlanceD)]).1).phase), .int .i64 (((rgOut (⟨y0_phase, y0_holds, y0_again, y0_shown, x0_passed⟩ : RepP) [(⟨y1_next, y1_signal⟩ : GlanceD)]).1).holds), .int .i64 (((rgOut (⟨y0_phase, y0_holds, y0_again, y0_shown, x0_passed⟩ : RepP) [(⟨y1_next, y1_signal⟩ : GlanceD)]).1).again), .int .i64 (((rgOut (⟨y0_phase, y0_holds, y0_again, y0_shown, x0_passed⟩ : RepP) [(⟨y1_next, y1_signal⟩ : GlanceD)]).1).shown), r188], .agg #[.int .i64 (((rgOut (⟨y0_phase, y0_holds, y0_again, y0_shown, x0_passed⟩ : RepP) [(⟨y1_next, y1_signal⟩ : GlanceD)]).1).phase), .int .i64 (((rgOut (⟨y0_phase, y0_holds, y0_again, y0_shown, x0_passed⟩ : RepP) [(⟨y1_next, y1_signal⟩ : GlanceD)]).1).holds), .int .i64 (((rgOut (⟨y0_phase, y0_holds, y0_again, y0_shown, x0_passed⟩ : RepP) [(⟨y1_next, y1_signal⟩ : GlanceD)]).1).again), .int .i64 (((rgOut (⟨y0_phase, y0_holds, y0_again, y0_shown, x0_passed⟩ : RepP) [(⟨y1_next, y1_signal⟩ : GlanceD)]).1).shown), r110]] rfl (eqRepeater_ok (((rgOut (⟨y0_phase, y0_holds, y0_again, y0_shown, x0_passed⟩ : RepP) [(⟨y1_next, y1_signal⟩ : GlanceD)]).1).phase) (((rgOut (⟨y0_phase, y0_holds, y0_again, y0_shown, x0_passed⟩ : RepP) [(⟨y1_next, y1_signal⟩ : GlanceD)]).1).holds) (((rgOut (⟨y0_phase, y0_holds, y0_again, y0_shown, x0_passed⟩ : RepP) [(⟨y1_next, y1_signal⟩ : GlanceD)]).1).again) (((rgOut (⟨y0_phase, y0_holds, y0_again, y0_shown, x0_passed⟩ : RepP) [(⟨y1_next, y1_signal⟩ : GlanceD)]).1).shown) r188 (((rgOut (⟨y0_phase, y0_holds, y0_again, y0_shown, x0_passed⟩ : RepP) [(⟨y1_next, y1_signal⟩ : GlanceD)]).1).passed) (((rgOut (⟨y0_phase, y0_holds, y0_again, y0_shown, x0_passed⟩ : RepP) [(⟨y1_next, y1_signal⟩ : GlanceD)]).1).phase) (((rgOut (⟨y0_phase, y0_holds, y0_again, y0_shown, x0_passed⟩ : RepP) [(⟨y1_next, y1_signal⟩ : GlanceD)]).1).holds) (((rgOut (⟨y0_phase, y0_holds, y0_again, y0_shown, x0_passed⟩ : RepP) [(⟨y1_next, y1_signal⟩ : GlanceD)]).1).again) (((rgOut (⟨y0_phase, y0_holds, y0_again, y0_shown, x0_passed⟩ : RepP) [(⟨y1_next, y1_signal⟩ : GlanceD)]).1).shown) r110 (((rgOut (⟨y0_phase, y0_holds, y0_again, y0_shown, x0_passed⟩ : RepP) [(⟨y1_next, y1_signal⟩ : GlanceD)]).1).passed) _ f219.toSl f220.toSl) ?_
  rintro _ h221 ⟨rfl, eh221⟩
  have E222 := E216.trans eh221
  have z223 := eh221.size
  refine s_run rfl ?_
  refine s_pure (.bool (!(decide (((rgOut (⟨y0_phase, y0_holds, y0_again, y0_shown, x0_passed⟩ : RepP) [(⟨y1_next, y1_signal⟩ : GlanceD)]).1).phase = ((rgOut (⟨y0_phase, y0_holds, y0_again, y0_shown, x0_passed⟩ : RepP) [(⟨y1_next, y1_signal⟩ : GlanceD)]).1).phase ∧ ((rgOut (⟨y0_phase, y0_holds, y0_again, y0_shown, x0_passed⟩ : RepP) [(⟨y1_next, y1_signal⟩ : GlanceD)]).1).holds = ((rgOut (⟨y0_phase, y0_holds, y0_again, y0_shown, x0_passed⟩ : RepP) [(⟨y1_next, y1_signal⟩ : GlanceD)]).1).holds ∧ ((rgOut (⟨y0_phase, y0_holds, y0_again, y0_shown, x0_passed⟩ : RepP) [(⟨y1_next, y1_signal⟩ : GlanceD)]).1).again = ((rgOut (⟨y0_phase, y0_holds, y0_again, y0_shown, x0_passed⟩ : RepP) [(⟨y1_next, y1_signal⟩ : GlanceD)]).1).again ∧ ((rgOut (⟨y0_phase, y0_holds, y0_again, y0_shown, x0_passed⟩ : RepP) [(⟨y1_next, y1_signal⟩ : GlanceD)]).1).shown = ((rgOut (⟨y0_phase, y0_holds, y0_again, y0_shown, x0_passed⟩ : RepP) [(⟨y1_next, y1_signal⟩ : GlanceD)]).1).shown ∧ ((rgOut (⟨y0_phase, y0_holds, y0_again, y0_shown, x0_passed⟩ : RepP) [(⟨y1_next, y1_signal⟩ : GlanceD)]).1).passed = ((rgOut (⟨y0_phase, y0_holds, y0_again, y0_shown, x0_passed⟩ : RepP) [(⟨y1_next, y1_signal⟩ : GlanceD)]).1).passed)))) (fun _ q => q) ?_
  refine s_pure (.bool (!(decide (((rgOut (⟨y0_phase, y0_holds, y0_again, y0_shown, x0_passed⟩ : RepP) [(⟨y1_next, y1_signal⟩ : GlanceD)]).1).phase = ((rgOut (⟨y0_phase, y0_holds, y0_again, y0_shown, x0_passed⟩ : RepP) [(⟨y1_next, y1_signal⟩ : GlanceD)]).1).phase ∧ ((rgOut (⟨y0_phase, y0_holds, y0_again, y0_shown, x0_passed⟩ : RepP) [(⟨y1_next, y1_signal⟩ : GlanceD)]).1).holds = ((rgOut (⟨y0_phase, y0_holds, y0_again, y0_shown, x0_passed⟩ : RepP) [(⟨y1_next, y1_signal⟩ : GlanceD)]).1).holds ∧ ((rgOut (⟨y0_phase, y0_holds, y0_again, y0_shown, x0_passed⟩ : RepP) [(⟨y1_next, y1_signal⟩ : GlanceD)]).1).again = ((rgOut (⟨y0_phase, y0_holds, y0_again, y0_shown, x0_passed⟩ : RepP) [(⟨y1_next, y1_signal⟩ : GlanceD)]).1).again ∧ ((rgOut (⟨y0_phase, y0_holds, y0_again, y0_shown, x0_passed⟩ : RepP) [(⟨y1_next, y1_signal⟩ : GlanceD)]).1).shown = ((rgOut (⟨y0_phase, y0_holds, y0_again, y0_shown, x0_passed⟩ : RepP) [(⟨y1_next, y1_signal⟩ : GlanceD)]).1).shown ∧ ((rgOut (⟨y0_phase, y0_holds, y0_again, y0_shown, x0_passed⟩ : RepP) [(⟨y1_next, y1_signal⟩ : GlanceD)]).1).passed = ((rgOut (⟨y0_phase, y0_holds, y0_again, y0_shown, x0_passed⟩ : RepP) [(⟨y1_next, y1_signal⟩ : GlanceD)]).1).passed)))) (fun _ q => q) ?_
  refine s_pure (.bool (!(decide (((rgOut (⟨y0_phase, y0_holds, y0_again, y0_shown, x0_passed⟩ : RepP) [(⟨y1_next, y1_signal⟩ : GlanceD)]).1).phase = ((rgOut (⟨y0_phase, y0_holds, y0_again, y0_shown, x0_passed⟩ : RepP) [(⟨y1_next, y1_signal⟩ : GlanceD)]).1).phase ∧ ((rgOut (⟨y0_phase, y0_holds, y0_again, y0_shown, x0_passed⟩ : RepP) [(⟨y1_next, y1_signal⟩ : GlanceD)]).1).holds = ((rgOut (⟨y0_phase, y0_holds, y0_again, y0_shown, x0_passed⟩ : RepP) [(⟨y1_next, y1_signal⟩ : GlanceD)]).1).holds ∧ ((rgOut (⟨y0_phase, y0_holds, y0_again, y0_shown, x0_passed⟩ : RepP) [(⟨y1_next, y1_signal⟩ : GlanceD)]).1).again = ((rgOut (⟨y0_phase, y0_holds, y0_again, y0_shown, x0_passed⟩ : RepP) [(⟨y1_next, y1_signal⟩ : GlanceD)]).1).again ∧ ((rgOut (⟨y0_phase, y0_holds, y0_again, y0_shown, x0_passed⟩ : RepP) [(⟨y1_next, y1_signal⟩ : GlanceD)]).1).shown = ((rgOut (⟨y0_phase, y0_holds, y0_again, y0_shown, x0_passed⟩ : RepP) [(⟨y1_next, y1_signal⟩ : GlanceD)]).1).shown ∧ ((rgOut (⟨y0_phase, y0_holds, y0_again, y0_shown, x0_passed⟩ : RepP) [(⟨y1_next, y1_signal⟩ : GlanceD)]).1).passed = ((rgOut (⟨y0_phase, y0_holds, y0_again, y0_shown, x0_passed⟩ : RepP) [(⟨y1_next, y1_signal⟩ : GlanceD)]).1).passed)))) (fun _ q => q) ?_
  refine s_splitN rfl (by first | assumption | omega | (simp; done) | (simp; omega) | simp_all) ?_
  refine s_run rfl ?_
  refine s_pure (.bool ((rgOut (⟨y0_phase, y0_holds, y0_again, y0_shown, x0_passed⟩ : RepP) [(⟨y1_next, y1_signal⟩ : GlanceD)]).2)) (fun _ q => q) ?_
  refine s_run rfl ?_
  refine s_pure (.bool ((rgOut (⟨y0_phase, y0_holds, y0_again, y0_shown, x0_passed⟩ : RepP) [(⟨y1_next, y1_signal⟩ : GlanceD)]).2)) (fun _ q => q) ?_
  refine s_run rfl ?_
  refine s_pure (.bool ((rgOut (⟨y0_phase, y0_holds, y0_again, y0_shown, x0_passed⟩ : RepP) [(⟨y1_next, y1_signal⟩ : GlanceD)]).2 != (rgOut (⟨y0_phase, y0_holds, y0_again, y0_shown, x0_passed⟩ : RepP) [(⟨y1_next, y1_signal⟩ : GlanceD)]).2)) (fun _ q => q) ?_
  refine s_pure (.bool ((rgOut (⟨y0_phase, y0_holds, y0_again, y0_shown, x0_passed⟩ : RepP) [(⟨y1_next, y1_signal⟩ : GlanceD)]).2 != (rgOut (⟨y0_phase, y0_holds, y0_again, y0_shown, x0_passed⟩ : RepP) [(⟨y1_next, y1_signal⟩ : GlanceD)]).2)) (fun _ q => q) ?_
  refine s_nil ?_
  refine p_seqN ?_
  refine v_condN rfl (by first | assumption | omega | (simp; done) | (simp; omega) | simp_all) ?_
  refine v_skip ?_
  refine p_seqN ?_
  refine v_seq ?_
  refine v_ops ?_
  refine s_pure (.int .i64 1) (fun _ q => q) ?_
  refine s_nil ?_
  refine p_seqN ?_
  refine v_seq ?_
  refine v_ops ?_
  have f224 := (f217.ext eh221)
  refine s_load (.agg #[.int .i64 (((rgOut (⟨y0_phase, y0_holds, y0_again, y0_shown, x0_passed⟩ : RepP) [(⟨y1_next, y1_signal⟩ : GlanceD)]).1).phase), .int .i64 (((rgOut (⟨y0_phase, y0_holds, y0_again, y0_shown, x0_passed⟩ : RepP) [(⟨y1_next, y1_signal⟩ : GlanceD)]).1).holds), .int .i64 (((rgOut (⟨y0_phase, y0_holds, y0_again, y0_shown, x0_passed⟩ : RepP) [(⟨y1_next, y1_signal⟩ : GlanceD)]).1).again), .int .i64 (((rgOut (⟨y0_phase, y0_holds, y0_again, y0_shown, x0_passed⟩ : RepP) [(⟨y1_next, y1_signal⟩ : GlanceD)]).1).shown), r188]) (fun _ q => f224.loadA rfl q) ?_
  refine s_pure (.int .i64 1) (fun _ q => q) ?_
  have f225 := (f219.ext eh221)
  refine s_call [.agg #[.int .i64 (((rgOut (⟨y0_phase, y0_holds, y0_again, y0_shown, x0_passed⟩ : RepP) [(⟨y1_next, y1_signal⟩ : GlanceD)]).1).phase), .int .i64 (((rgOut (⟨y0_phase, y0_holds, y0_again, y0_shown, x0_passed⟩ : RepP) [(⟨y1_next, y1_signal⟩ : GlanceD)]).1).holds), .int .i64 (((rgOut (⟨y0_phase, y0_holds, y0_again, y0_shown, x0_passed⟩ : RepP) [(⟨y1_next, y1_signal⟩ : GlanceD)]).1).again), .int .i64 (((rgOut (⟨y0_phase, y0_holds, y0_again, y0_shown, x0_passed⟩ : RepP) [(⟨y1_next, y1_signal⟩ : GlanceD)]).1).shown), r188], .int .i64 1] rfl (markRepeater_ok (((rgOut (⟨y0_phase, y0_holds, y0_again, y0_shown, x0_passed⟩ : RepP) [(⟨y1_next, y1_signal⟩ : GlanceD)]).1).phase) (((rgOut (⟨y0_phase, y0_holds, y0_again, y0_shown, x0_passed⟩ : RepP) [(⟨y1_next, y1_signal⟩ : GlanceD)]).1).holds) (((rgOut (⟨y0_phase, y0_holds, y0_again, y0_shown, x0_passed⟩ : RepP) [(⟨y1_next, y1_signal⟩ : GlanceD)]).1).again) (((rgOut (⟨y0_phase, y0_holds, y0_again, y0_shown, x0_passed⟩ : RepP) [(⟨y1_next, y1_signal⟩ : GlanceD)]).1).shown) r188 (((rgOut (⟨y0_phase, y0_holds, y0_again, y0_shown, x0_passed⟩ : RepP) [(⟨y1_next, y1_signal⟩ : GlanceD)]).1).passed) (1) _ f225 (by omega) (by omega) (by omega)) ?_
  rintro _ h226 ⟨rfl, mk227, mh226, zh226⟩
  have E228 := E222.mod mh226 (fun b hb => by have := fr_r188 b hb; omega)
  refine s_pure (.int .i64 (1 + (((rgOut (⟨y0_phase, y0_holds, y0_again, y0_shown, x0_passed⟩ : RepP) [(⟨y1_next, y1_signal⟩ : GlanceD)]).1).passed.length : Int))) (fun _ q => q) ?_
  refine s_nil ?_
  refine p_seqN ?_
  refine v_seq ?_
  refine v_ops ?_
  refine s_pure (.int .i64 1) (fun _ q => q) ?_
  refine s_nil ?_
  refine p_seqN ?_
  refine v_seq ?_
  refine v_ops ?_
  have f229 := (f224.mod mh226 np_p189_r188)
  refine s_load (.agg #[.int .i64 (((rgOut (⟨y0_phase, y0_holds, y0_again, y0_shown, x0_passed⟩ : RepP) [(⟨y1_next, y1_signal⟩ : GlanceD)]).1).phase), .int .i64 (((rgOut (⟨y0_phase, y0_holds, y0_again, y0_shown, x0_passed⟩ : RepP) [(⟨y1_next, y1_signal⟩ : GlanceD)]).1).holds), .int .i64 (((rgOut (⟨y0_phase, y0_holds, y0_again, y0_shown, x0_passed⟩ : RepP) [(⟨y1_next, y1_signal⟩ : GlanceD)]).1).again), .int .i64 (((rgOut (⟨y0_phase, y0_holds, y0_again, y0_shown, x0_passed⟩ : RepP) [(⟨y1_next, y1_signal⟩ : GlanceD)]).1).shown), r188]) (fun _ q => f229.loadA rfl q) ?_
  refine s_pure (.int .i64 1) (fun _ q => q) ?_
  refine s_call [.agg #[.int .i64 (((rgOut (⟨y0_phase, y0_holds, y0_again, y0_shown, x0_passed⟩ : RepP) [(⟨y1_next, y1_signal⟩ : GlanceD)]).1).phase), .int .i64 (((rgOut (⟨y0_phase, y0_holds, y0_again, y0_shown, x0_passed⟩ : RepP) [(⟨y1_next, y1_signal⟩ : GlanceD)]).1).holds), .int .i64 (((rgOut (⟨y0_phase, y0_holds, y0_again, y0_shown, x0_passed⟩ : RepP) [(⟨y1_next, y1_signal⟩ : GlanceD)]).1).again), .int .i64 (((rgOut (⟨y0_phase, y0_holds, y0_again, y0_shown, x0_passed⟩ : RepP) [(⟨y1_next, y1_signal⟩ : GlanceD)]).1).shown), r188], .int .i64 1] rfl (heldRepeater_ok (((rgOut (⟨y0_phase, y0_holds, y0_again, y0_shown, x0_passed⟩ : RepP) [(⟨y1_next, y1_signal⟩ : GlanceD)]).1).phase) (((rgOut (⟨y0_phase, y0_holds, y0_again, y0_shown, x0_passed⟩ : RepP) [(⟨y1_next, y1_signal⟩ : GlanceD)]).1).holds) (((rgOut (⟨y0_phase, y0_holds, y0_again, y0_shown, x0_passed⟩ : RepP) [(⟨y1_next, y1_signal⟩ : GlanceD)]).1).again) (((rgOut (⟨y0_phase, y0_holds, y0_again, y0_shown, x0_passed⟩ : RepP) [(⟨y1_next, y1_signal⟩ : GlanceD)]).1).shown) _ _ (1) _ mk227.toSl (by omega) (by omega) (by omega)) ?_
  rintro _ h230 ⟨rfl, eh230⟩
  have E231 := E228.trans eh230
  have z232 := eh230.size
  refine s_pure (.int .i64 (1 + (((rgOut (⟨y0_phase, y0_holds, y0_again, y0_shown, x0_passed⟩ : RepP) [(⟨y1_next, y1_signal⟩ : GlanceD)]).1).passed.length : Int))) (fun _ q => q) ?_
  refine s_nil ?_
  refine p_seqN ?_
  refine v_seq ?_
  refine v_seq ?_
  refine v_ops ?_
  refine s_pure (.int .i64 (1 + (((rgOut (⟨y0_phase, y0_holds, y0_again, y0_shown, x0_passed⟩ : RepP) [(⟨y1_next, y1_signal⟩ : GlanceD)]).1).passed.length : Int))) (fun _ q => q) ?_
  refine s_pure (.bool (decide ((1 + (((rgOut (⟨y0_phase, y0_holds, y0_again, y0_shown, x0_passed⟩ : RepP) [(⟨y1_next, y1_signal⟩ : GlanceD)]).1).passed.length : Int)) < 0))) (fun _ q => q) ?_
  refine s_nil ?_
  refine p_seqN ?_
  refine v_condN rfl (by first | assumption | omega | (simp; done) | (simp; omega) | simp_all) ?_
  refine v_skip ?_
  refine p_seqN ?_
  refine v_seq ?_
  refine v_seq ?_
  refine v_ops ?_
  refine s_pure (.int .i64 (1 + (((rgOut (⟨y0_phase, y0_holds, y0_again, y0_shown, x0_passed⟩ : RepP) [(⟨y1_next, y1_signal⟩ : GlanceD)]).1).passed.length : Int))) (fun _ q => q) ?_
  refine s_pure (.int .i64 (1 + (((rgOut (⟨y0_phase, y0_holds, y0_again, y0_shown, x0_passed⟩ : RepP) [(⟨y1_next, y1_signal⟩ : GlanceD)]).1).passed.length : Int))) (fun _ q => q) ?_
  refine s_pure (.bool ((1 + (((rgOut (⟨y0_phase, y0_holds, y0_again, y0_shown, x0_passed⟩ : RepP) [(⟨y1_next, y1_signal⟩ : GlanceD)]).1).passed.length : Int)) != (1 + (((rgOut (⟨y0_phase, y0_holds, y0_again, y0_shown, x0_passed⟩ : RepP) [(⟨y1_next, y1_signal⟩ : GlanceD)]).1).passed.length : Int)))) (fun _ q => q) ?_
  refine s_nil ?_
  refine p_seqN ?_
  refine v_condN rfl (by first | assumption | omega | (simp; done) | (simp; omega) | simp_all) ?_
  refine v_skip ?_
  refine p_seqN ?_
  refine v_seq ?_
  have f233 := ((((((f200.ext eh202).ext eh208).mod mh214 (fr_r119.out (by omega))).ext eh221).mod mh226 (fr_r188.out (by omega))).ext eh230)
  have f234 := ((((((((f129.ext eh190).ext eh196).ext eh202).ext eh208).mod mh214 (fr_r119.out (by omega))).ext eh221).mod mh226 (fr_r188.out (by omega))).ext eh230)
  refine v_draw (DrawVC.cut (α := Value × Nat) ([b1] ++ [b5]) (fun zz => [(6, .pointer (some ⟨p111, 0, none⟩)), (7, .bool ((rgOut (⟨y0_phase, y0_holds, y0_again, y0_shown, x0_passed⟩ : RepP) [(⟨y1_next, y1_signal⟩ : GlanceD)]).2)), (9, .pointer (some ⟨p189, 0, none⟩)), (12, .int .i64 (1 + (((rgOut (⟨y0_phase, y0_holds, y0_again, y0_shown, x0_passed⟩ : RepP) [(⟨y1_next, y1_signal⟩ : GlanceD)]).1).passed.length : Int))), (14, .pointer (some ⟨zz.2, 0, none⟩)), (15, .bool ((rgOut (⟨y0_phase, y0_holds, y0_again, y0_shown, x0_passed⟩ : RepP) [(⟨y1_next, y1_signal⟩ : GlanceD)]).2))]) (fun zz h' => SlO h' zz.1 (((rgOut (⟨y0_phase, y0_holds, y0_again, y0_shown, x0_passed⟩ : RepP) [(⟨y1_next, y1_signal⟩ : GlanceD)]).1).passed) ∧ Fr h230.size zz.1 ∧ Bx h' zz.2 [.int .i64 (((rgOut (⟨y0_phase, y0_holds, y0_again, y0_shown, x0_passed⟩ : RepP) [(⟨y1_next, y1_signal⟩ : GlanceD)]).1).phase), .int .i64 (((rgOut (⟨y0_phase, y0_holds, y0_again, y0_shown, x0_passed⟩ : RepP) [(⟨y1_next, y1_signal⟩ : GlanceD)]).1).holds), .int .i64 (((rgOut (⟨y0_phase, y0_holds, y0_again, y0_shown, x0_passed⟩ : RepP) [(⟨y1_next, y1_signal⟩ : GlanceD)]).1).again), .int .i64 (((rgOut (⟨y0_phase, y0_holds, y0_again, y0_shown, x0_passed⟩ : RepP) [(⟨y1_next, y1_signal⟩ : GlanceD)]).1).shown), zz.1] 27 ∧ h230.size ≤ zz.2 ∧ zz.2 ∉ blks zz.1 ∧ Ext h230 h') ?_ ?_)
  ·
    refine d_loadT (.agg #[.int .i64 y0_phase, .int .i64 y0_holds, .int .i64 y0_again, .int .i64 y0_shown, y0_passed.v]) (fun _ q => f233.takeA (by simp) rfl q) ?_
    refine d_loadT (.agg #[.bool y1_next, .int .i64 y1_signal]) (fun _ q => f234.takeA (by simp) rfl q) ?_
    refine d_fork ?_ ?_
    ·
      refine d_eff ?_
      have f235 := ((((((f201.ext eh202).ext eh208).mod mh214 (fr_r119.apart (fun b hb => by have := lt_v0_passed b hb; omega))).ext eh221).mod mh226 (fr_r188.apart (fun b hb => by have := lt_v0_passed b hb; omega))).ext eh230)
      refine s_call [.agg #[.int .i64 y0_phase, .int .i64 y0_holds, .int .i64 y0_again, .int .i64 y0_shown, y0_passed.v]] rfl (toRepeater_ok y0_phase y0_holds y0_again y0_shown y0_passed.v x0_passed _ f235 bd16) ?_
      rintro _ h236 ⟨r237, rfl, s_r237, eh236, fr_r237⟩
      have E238 := E231.trans eh236
      have z239 := eh236.size
      have G240 := eh236
      have lt_r237 := s_r237.lt
      refine s_nil ⟨fun _ x hx => G240.blk x (by simp at hx; omega), ?_⟩
      refine d_fork ?_ ?_
      ·
        refine d_eff ?_
        refine s_call [.agg #[.bool y1_next, .int .i64 y1_signal]] rfl (toGlance_ok y1_next y1_signal _ ) ?_
        rintro _ h241 ⟨rfl, eh241⟩
        have E242 := E238.trans eh241
        have z243 := eh241.size
        have G244 := G240.trans eh241
        refine s_nil ⟨fun _ x hx => G244.blk x (by simp at hx; omega), ?_⟩
        refine d_fork ?_ ?_
        ·
          refine d_eff ?_
          have f245 := (s_r237.ext eh241)
          refine s_call [.agg #[.int .i64 y0_phase, .int .i64 y0_holds, .int .i64 y0_again, .int .i64 y0_shown, r237], .agg #[.bool y1_next, .int .i64 y1_signal]] rfl (impl_GlanceAt_ok (⟨y0_phase, y0_holds, y0_again, y0_shown, x0_passed⟩ : RepP) r237 (⟨y1_next, y1_signal⟩ : GlanceD) _ f245.toSl) ?_
          rintro _ h247 ⟨r246, rfl, s_r246, fr_r246, eh247⟩
          have E248 := E242.trans eh247
          have z249 := eh247.size
          have G250 := G244.trans eh247
          have lt_r246 := s_r246.lt
          refine s_nil ⟨fun _ x hx => G250.blk x (by simp at hx; omega), ?_⟩
          refine d_pureT (.tuple #[.agg #[.int .i64 (((rgOut (⟨y0_phase, y0_holds, y0_again, y0_shown, x0_passed⟩ : RepP) [(⟨y1_next, y1_signal⟩ : GlanceD)]).1).phase), .int .i64 (((rgOut (⟨y0_phase, y0_holds, y0_again, y0_shown, x0_passed⟩ : RepP) [(⟨y1_next, y1_signal⟩ : GlanceD)]).1).holds), .int .i64 (((rgOut (⟨y0_phase, y0_holds, y0_again, y0_shown, x0_passed⟩ : RepP) [(⟨y1_next, y1_signal⟩ : GlanceD)]).1).again), .int .i64 (((rgOut (⟨y0_phase, y0_holds, y0_again, y0_shown, x0_passed⟩ : RepP) [(⟨y1_next, y1_signal⟩ : GlanceD)]).1).shown), r246], .bool ((rgOut (⟨y0_phase, y0_holds, y0_again, y0_shown, x0_passed⟩ : RepP) [(⟨y1_next, y1_signal⟩ : GlanceD)]).2)]) (fun _ q => q) ?_
          refine d_pureT (.agg #[.int .i64 (((rgOut (⟨y0_phase, y0_holds, y0_again, y0_shown, x0_passed⟩ : RepP) [(⟨y1_next, y1_signal⟩ : GlanceD)]).1).phase), .int .i64 (((rgOut (⟨y0_phase, y0_holds, y0_again, y0_shown, x0_passed⟩ : RepP) [(⟨y1_next, y1_signal⟩ : GlanceD)]).1).holds), .int .i64 (((rgOut (⟨y0_phase, y0_holds, y0_again, y0_shown, x0_passed⟩ : RepP) [(⟨y1_next, y1_signal⟩ : GlanceD)]).1).again), .int .i64 (((rgOut (⟨y0_phase, y0_holds, y0_again, y0_shown, x0_passed⟩ : RepP) [(⟨y1_next, y1_signal⟩ : GlanceD)]).1).shown), r246]) (fun _ q => q) ?_
          refine d_pureT (.bool ((rgOut (⟨y0_phase, y0_holds, y0_again, y0_shown, x0_passed⟩ : RepP) [(⟨y1_next, y1_signal⟩ : GlanceD)]).2)) (fun _ q => q) ?_
          refine d_eff ?_
          refine s_new (fun h252 b251 hbb251 hzb251 eh252 bxb251 => ?_)
          have E253 := E248.trans eh252
          have z254 := eh252.size
          have G255 := G250.trans eh252
          have lbb251 := bxb251.lt
          refine s_nil ⟨fun _ x hx => G255.blk x (by simp at hx; omega), ?_⟩
          refine d_eff ?_
          refine s_stBx (.agg #[.int .i64 (((rgOut (⟨y0_phase, y0_holds, y0_again, y0_shown, x0_passed⟩ : RepP) [(⟨y1_next, y1_signal⟩ : GlanceD)]).1).phase), .int .i64 (((rgOut (⟨y0_phase, y0_holds, y0_again, y0_shown, x0_passed⟩ : RepP) [(⟨y1_next, y1_signal⟩ : GlanceD)]).1).holds), .int .i64 (((rgOut (⟨y0_phase, y0_holds, y0_again, y0_shown, x0_passed⟩ : RepP) [(⟨y1_next, y1_signal⟩ : GlanceD)]).1).again), .int .i64 (((rgOut (⟨y0_phase, y0_holds, y0_again, y0_shown, x0_passed⟩ : RepP) [(⟨y1_next, y1_signal⟩ : GlanceD)]).1).shown), r246]) [.int .i64 (((rgOut (⟨y0_phase, y0_holds, y0_again, y0_shown, x0_passed⟩ : RepP) [(⟨y1_next, y1_signal⟩ : GlanceD)]).1).phase), .int .i64 (((rgOut (⟨y0_phase, y0_holds, y0_again, y0_shown, x0_passed⟩ : RepP) [(⟨y1_next, y1_signal⟩ : GlanceD)]).1).holds), .int .i64 (((rgOut (⟨y0_phase, y0_holds, y0_again, y0_shown, x0_passed⟩ : RepP) [(⟨y1_next, y1_signal⟩ : GlanceD)]).1).again), .int .i64 (((rgOut (⟨y0_phase, y0_holds, y0_again, y0_shown, x0_passed⟩ : RepP) [(⟨y1_next, y1_signal⟩ : GlanceD)]).1).shown), r246] [.int .i64 (((rgOut (⟨y0_phase, y0_holds, y0_again, y0_shown, x0_passed⟩ : RepP) [(⟨y1_next, y1_signal⟩ : GlanceD)]).1).phase), .int .i64 (((rgOut (⟨y0_phase, y0_holds, y0_again, y0_shown, x0_passed⟩ : RepP) [(⟨y1_next, y1_signal⟩ : GlanceD)]).1).holds), .int .i64 (((rgOut (⟨y0_phase, y0_holds, y0_again, y0_shown, x0_passed⟩ : RepP) [(⟨y1_next, y1_signal⟩ : GlanceD)]).1).again), .int .i64 (((rgOut (⟨y0_phase, y0_holds, y0_again, y0_shown, x0_passed⟩ : RepP) [(⟨y1_next, y1_signal⟩ : GlanceD)]).1).shown), r246] bxb251 rfl rfl rfl rfl (by simp) (all_cons rfl (all_cons rfl (all_cons rfl (all_cons rfl (all_cons s_r246.one1 all_nil))))) rfl (fun h256 mh256 sh256 bxx257 => ?_)
          have E258 := E253.mod mh256 (fun b hb => by simp at hb; omega)
          have G259 := G255.mod mh256 (fun b hb => by simp at hb; omega)
          refine s_nil ⟨fun hl => (by cases hl), ?_⟩
          refine d_pureT (.bool ((rgOut (⟨y0_phase, y0_holds, y0_again, y0_shown, x0_passed⟩ : RepP) [(⟨y1_next, y1_signal⟩ : GlanceD)]).2)) (fun _ q => q) ?_
          have f260 := ((s_r246.ext eh252).mod mh256 (fun b hb hc => by simp at hc; have := lt_r246 b hb; omega))
          refine d_done ⟨(r246, b251), ⟨rfl, rfl, rfl, rfl, rfl, rfl⟩, f260, fr_r246.mono (by omega), bxx257, by omega, (fun hc => by have := lt_r246 _ hc; omega), G259⟩
        ·
          refine d_eff ?_
          refine s_new (fun h262 b261 hbb261 hzb261 eh262 bxb261 => ?_)
          have E263 := E242.trans eh262
          have z264 := eh262.size
          have G265 := G244.trans eh262
          have lbb261 := bxb261.lt
          refine s_nil ⟨fun _ x hx => G265.blk x (by simp at hx; omega), ?_⟩
          refine d_eff ?_
          have f266 := ((s_r237.ext eh241).ext eh262)
          refine s_call [.agg #[.int .i64 y0_phase, .int .i64 y0_holds, .int .i64 y0_again, .int .i64 y0_shown, r237], .agg #[.bool y1_next, .int .i64 y1_signal]] rfl (impl_GlanceAt_ok (⟨y0_phase, y0_holds, y0_again, y0_shown, x0_passed⟩ : RepP) r237 (⟨y1_next, y1_signal⟩ : GlanceD) _ f266.toSl) ?_
          rintro _ h268 ⟨r267, rfl, s_r267, fr_r267, eh268⟩
          have E269 := E263.trans eh268
          have z270 := eh268.size
          have G271 := G265.trans eh268
          have lt_r267 := s_r267.lt
          refine s_nil ⟨fun _ x hx => G271.blk x (by simp at hx; omega), ?_⟩
          refine d_pureT (.tuple #[.agg #[.int .i64 (((rgOut (⟨y0_phase, y0_holds, y0_again, y0_shown, x0_passed⟩ : RepP) [(⟨y1_next, y1_signal⟩ : GlanceD)]).1).phase), .int .i64 (((rgOut (⟨y0_phase, y0_holds, y0_again, y0_shown, x0_passed⟩ : RepP) [(⟨y1_next, y1_signal⟩ : GlanceD)]).1).holds), .int .i64 (((rgOut (⟨y0_phase, y0_holds, y0_again, y0_shown, x0_passed⟩ : RepP) [(⟨y1_next, y1_signal⟩ : GlanceD)]).1).again), .int .i64 (((rgOut (⟨y0_phase, y0_holds, y0_again, y0_shown, x0_passed⟩ : RepP) [(⟨y1_next, y1_signal⟩ : GlanceD)]).1).shown), r267], .bool ((rgOut (⟨y0_phase, y0_holds, y0_again, y0_shown, x0_passed⟩ : RepP) [(⟨y1_next, y1_signal⟩ : GlanceD)]).2)]) (fun _ q => q) ?_
          refine d_pureT (.agg #[.int .i64 (((rgOut (⟨y0_phase, y0_holds, y0_again, y0_shown, x0_passed⟩ : RepP) [(⟨y1_next, y1_signal⟩ : GlanceD)]).1).phase), .int .i64 (((rgOut (⟨y0_phase, y0_holds, y0_again, y0_shown, x0_passed⟩ : RepP) [(⟨y1_next, y1_signal⟩ : GlanceD)]).1).holds), .int .i64 (((rgOut (⟨y0_phase, y0_holds, y0_again, y0_shown, x0_passed⟩ : RepP) [(⟨y1_next, y1_signal⟩ : GlanceD)]).1).again), .int .i64 (((rgOut (⟨y0_phase, y0_holds, y0_again, y0_shown, x0_passed⟩ : RepP) [(⟨y1_next, y1_signal⟩ : GlanceD)]).1).shown), r267]) (fun _ q => q) ?_
          refine d_pureT (.bool ((rgOut (⟨y0_phase, y0_holds, y0_again, y0_shown, x0_passed⟩ : RepP) [(⟨y1_next, y1_signal⟩ : GlanceD)]).2)) (fun _ q => q) ?_
          refine d_eff ?_
          have f272 := (bxb261.ext eh268)
          refine s_stBx (.agg #[.int .i64 (((rgOut (⟨y0_phase, y0_holds, y0_again, y0_shown, x0_passed⟩ : RepP) [(⟨y1_next, y1_signal⟩ : GlanceD)]).1).phase), .int .i64 (((rgOut (⟨y0_phase, y0_holds, y0_again, y0_shown, x0_passed⟩ : RepP) [(⟨y1_next, y1_signal⟩ : GlanceD)]).1).holds), .int .i64 (((rgOut (⟨y0_phase, y0_holds, y0_again, y0_shown, x0_passed⟩ : RepP) [(⟨y1_next, y1_signal⟩ : GlanceD)]).1).again), .int .i64 (((rgOut (⟨y0_phase, y0_holds, y0_again, y0_shown, x0_passed⟩ : RepP) [(⟨y1_next, y1_signal⟩ : GlanceD)]).1).shown), r267]) [.int .i64 (((rgOut (⟨y0_phase, y0_holds, y0_again, y0_shown, x0_passed⟩ : RepP) [(⟨y1_next, y1_signal⟩ : GlanceD)]).1).phase), .int .i64 (((rgOut (⟨y0_phase, y0_holds, y0_again, y0_shown, x0_passed⟩ : RepP) [(⟨y1_next, y1_signal⟩ : GlanceD)]).1).holds), .int .i64 (((rgOut (⟨y0_phase, y0_holds, y0_again, y0_shown, x0_passed⟩ : RepP) [(⟨y1_next, y1_signal⟩ : GlanceD)]).1).again), .int .i64 (((rgOut (⟨y0_phase, y0_holds, y0_again, y0_shown, x0_passed⟩ : RepP) [(⟨y1_next, y1_signal⟩ : GlanceD)]).1).shown), r267] [.int .i64 (((rgOut (⟨y0_phase, y0_holds, y0_again, y0_shown, x0_passed⟩ : RepP) [(⟨y1_next, y1_signal⟩ : GlanceD)]).1).phase), .int .i64 (((rgOut (⟨y0_phase, y0_holds, y0_again, y0_shown, x0_passed⟩ : RepP) [(⟨y1_next, y1_signal⟩ : GlanceD)]).1).holds), .int .i64 (((rgOut (⟨y0_phase, y0_holds, y0_again, y0_shown, x0_passed⟩ : RepP) [(⟨y1_next, y1_signal⟩ : GlanceD)]).1).again), .int .i64 (((rgOut (⟨y0_phase, y0_holds, y0_again, y0_shown, x0_passed⟩ : RepP) [(⟨y1_next, y1_signal⟩ : GlanceD)]).1).shown), r267] f272 rfl rfl rfl rfl (by simp) (all_cons rfl (all_cons rfl (all_cons rfl (all_cons rfl (all_cons s_r267.one1 all_nil))))) rfl (fun h273 mh273 sh273 bxx274 => ?_)
          have E275 := E269.mod mh273 (fun b hb => by simp at hb; omega)
          have G276 := G271.mod mh273 (fun b hb => by simp at hb; omega)
          refine s_nil ⟨fun hl => (by cases hl), ?_⟩
          refine d_pureT (.bool ((rgOut (⟨y0_phase, y0_holds, y0_again, y0_shown, x0_passed⟩ : RepP) [(⟨y1_next, y1_signal⟩ : GlanceD)]).2)) (fun _ q => q) ?_
          have f277 := (s_r267.mod mh273 (fun b hb hc => by simp at hc; have := fr_r267 b hb; omega))
          refine d_done ⟨(r267, b261), ⟨rfl, rfl, rfl, rfl, rfl, rfl⟩, f277, fr_r267.mono (by omega), bxx274, by omega, (fr_r267.out (by omega)), G276⟩
      ·
        refine d_eff ?_
        refine s_new (fun h279 b278 hbb278 hzb278 eh279 bxb278 => ?_)
        have E280 := E238.trans eh279
        have z281 := eh279.size
        have G282 := G240.trans eh279
        have lbb278 := bxb278.lt
        refine s_nil ⟨fun _ x hx => G282.blk x (by simp at hx; omega), ?_⟩
        refine d_eff ?_
        refine s_call [.agg #[.bool y1_next, .int .i64 y1_signal]] rfl (toGlance_ok y1_next y1_signal _ ) ?_
        rintro _ h283 ⟨rfl, eh283⟩
        have E284 := E280.trans eh283
        have z285 := eh283.size
        have G286 := G282.trans eh283
        refine s_nil ⟨fun _ x hx => G286.blk x (by simp at hx; omega), ?_⟩
        refine d_eff ?_
        have f287 := ((s_r237.ext eh279).ext eh283)
        refine s_call [.agg #[.int .i64 y0_phase, .int .i64 y0_holds, .int .i64 y0_again, .int .i64 y0_shown, r237], .agg #[.bool y1_next, .int .i64 y1_signal]] rfl (impl_GlanceAt_ok (⟨y0_phase, y0_holds, y0_again, y0_shown, x0_passed⟩ : RepP) r237 (⟨y1_next, y1_signal⟩ : GlanceD) _ f287.toSl) ?_
        rintro _ h289 ⟨r288, rfl, s_r288, fr_r288, eh289⟩
        have E290 := E284.trans eh289
        have z291 := eh289.size
        have G292 := G286.trans eh289
        have lt_r288 := s_r288.lt
        refine s_nil ⟨fun _ x hx => G292.blk x (by simp at hx; omega), ?_⟩
        refine d_pureT (.tuple #[.agg #[.int .i64 (((rgOut (⟨y0_phase, y0_holds, y0_again, y0_shown, x0_passed⟩ : RepP) [(⟨y1_next, y1_signal⟩ : GlanceD)]).1).phase), .int .i64 (((rgOut (⟨y0_phase, y0_holds, y0_again, y0_shown, x0_passed⟩ : RepP) [(⟨y1_next, y1_signal⟩ : GlanceD)]).1).holds), .int .i64 (((rgOut (⟨y0_phase, y0_holds, y0_again, y0_shown, x0_passed⟩ : RepP) [(⟨y1_next, y1_signal⟩ : GlanceD)]).1).again), .int .i64 (((rgOut (⟨y0_phase, y0_holds, y0_again, y0_shown, x0_passed⟩ : RepP) [(⟨y1_next, y1_signal⟩ : GlanceD)]).1).shown), r288], .bool ((rgOut (⟨y0_phase, y0_holds, y0_again, y0_shown, x0_passed⟩ : RepP) [(⟨y1_next, y1_signal⟩ : GlanceD)]).2)]) (fun _ q => q) ?_
        refine d_pureT (.agg #[.int .i64 (((rgOut (⟨y0_phase, y0_holds, y0_again, y0_shown, x0_passed⟩ : RepP) [(⟨y1_next, y1_signal⟩ : GlanceD)]).1).phase), .int .i64 (((rgOut (⟨y0_phase, y0_holds, y0_again, y0_shown, x0_passed⟩ : RepP) [(⟨y1_next, y1_signal⟩ : GlanceD)]).1).holds), .int .i64 (((rgOut (⟨y0_phase, y0_holds, y0_again, y0_shown, x0_passed⟩ : RepP) [(⟨y1_next, y1_signal⟩ : GlanceD)]).1).again), .int .i64 (((rgOut (⟨y0_phase, y0_holds, y0_again, y0_shown, x0_passed⟩ : RepP) [(⟨y1_next, y1_signal⟩ : GlanceD)]).1).shown), r288]) (fun _ q => q) ?_
        refine d_pureT (.bool ((rgOut (⟨y0_phase, y0_holds, y0_again, y0_shown, x0_passed⟩ : RepP) [(⟨y1_next, y1_signal⟩ : GlanceD)]).2)) (fun _ q => q) ?_
        refine d_eff ?_
        have f293 := ((bxb278.ext eh283).ext eh289)
        refine s_stBx (.agg #[.int .i64 (((rgOut (⟨y0_phase, y0_holds, y0_again, y0_shown, x0_passed⟩ : RepP) [(⟨y1_next, y1_signal⟩ : GlanceD)]).1).phase), .int .i64 (((rgOut (⟨y0_phase, y0_holds, y0_again, y0_shown, x0_passed⟩ : RepP) [(⟨y1_next, y1_signal⟩ : GlanceD)]).1).holds), .int .i64 (((rgOut (⟨y0_phase, y0_holds, y0_again, y0_shown, x0_passed⟩ : RepP) [(⟨y1_next, y1_signal⟩ : GlanceD)]).1).again), .int .i64 (((rgOut (⟨y0_phase, y0_holds, y0_again, y0_shown, x0_passed⟩ : RepP) [(⟨y1_next, y1_signal⟩ : GlanceD)]).1).shown), r288]) [.int .i64 (((rgOut (⟨y0_phase, y0_holds, y0_again, y0_shown, x0_passed⟩ : RepP) [(⟨y1_next, y1_signal⟩ : GlanceD)]).1).phase), .int .i64 (((rgOut (⟨y0_phase, y0_holds, y0_again, y0_shown, x0_passed⟩ : RepP) [(⟨y1_next, y1_signal⟩ : GlanceD)]).1).holds), .int .i64 (((rgOut (⟨y0_phase, y0_holds, y0_again, y0_shown, x0_passed⟩ : RepP) [(⟨y1_next, y1_signal⟩ : GlanceD)]).1).again), .int .i64 (((rgOut (⟨y0_phase, y0_holds, y0_again, y0_shown, x0_passed⟩ : RepP) [(⟨y1_next, y1_signal⟩ : GlanceD)]).1).shown), r288] [.int .i64 (((rgOut (⟨y0_phase, y0_holds, y0_again, y0_shown, x0_passed⟩ : RepP) [(⟨y1_next, y1_signal⟩ : GlanceD)]).1).phase), .int .i64 (((rgOut (⟨y0_phase, y0_holds, y0_again, y0_shown, x0_passed⟩ : RepP) [(⟨y1_next, y1_signal⟩ : GlanceD)]).1).holds), .int .i64 (((rgOut (⟨y0_phase, y0_holds, y0_again, y0_shown, x0_passed⟩ : RepP) [(⟨y1_next, y1_signal⟩ : GlanceD)]).1).again), .int .i64 (((rgOut (⟨y0_phase, y0_holds, y0_again, y0_shown, x0_passed⟩ : RepP) [(⟨y1_next, y1_signal⟩ : GlanceD)]).1).shown), r288] f293 rfl rfl rfl rfl (by simp) (all_cons rfl (all_cons rfl (all_cons rfl (all_cons rfl (all_cons s_r288.one1 all_nil))))) rfl (fun h294 mh294 sh294 bxx295 => ?_)
        have E296 := E290.mod mh294 (fun b hb => by simp at hb; omega)
        have G297 := G292.mod mh294 (fun b hb => by simp at hb; omega)
        refine s_nil ⟨fun hl => (by cases hl), ?_⟩
        refine d_pureT (.bool ((rgOut (⟨y0_phase, y0_holds, y0_again, y0_shown, x0_passed⟩ : RepP) [(⟨y1_next, y1_signal⟩ : GlanceD)]).2)) (fun _ q => q) ?_
        have f298 := (s_r288.mod mh294 (fun b hb hc => by simp at hc; have := fr_r288 b hb; omega))
        refine d_done ⟨(r288, b278), ⟨rfl, rfl, rfl, rfl, rfl, rfl⟩, f298, fr_r288.mono (by omega), bxx295, by omega, (fr_r288.out (by omega)), G297⟩
    ·
      refine d_eff ?_
      refine s_new (fun h300 b299 hbb299 hzb299 eh300 bxb299 => ?_)
      have E301 := E231.trans eh300
      have z302 := eh300.size
      have G303 := eh300
      have lbb299 := bxb299.lt
      refine s_nil ⟨fun _ x hx => G303.blk x (by simp at hx; omega), ?_⟩
      refine d_eff ?_
      have f304 := (((((((f201.ext eh202).ext eh208).mod mh214 (fr_r119.apart (fun b hb => by have := lt_v0_passed b hb; omega))).ext eh221).mod mh226 (fr_r188.apart (fun b hb => by have := lt_v0_passed b hb; omega))).ext eh230).ext eh300)
      refine s_call [.agg #[.int .i64 y0_phase, .int .i64 y0_holds, .int .i64 y0_again, .int .i64 y0_shown, y0_passed.v]] rfl (toRepeater_ok y0_phase y0_holds y0_again y0_shown y0_passed.v x0_passed _ f304 bd16) ?_
      rintro _ h305 ⟨r306, rfl, s_r306, eh305, fr_r306⟩
      have E307 := E301.trans eh305
      have z308 := eh305.size
      have G309 := G303.trans eh305
      have lt_r306 := s_r306.lt
      refine s_nil ⟨fun _ x hx => G309.blk x (by simp at hx; omega), ?_⟩
      refine d_eff ?_
      refine s_call [.agg #[.bool y1_next, .int .i64 y1_signal]] rfl (toGlance_ok y1_next y1_signal _ ) ?_
      rintro _ h310 ⟨rfl, eh310⟩
      have E311 := E307.trans eh310
      have z312 := eh310.size
      have G313 := G309.trans eh310
      refine s_nil ⟨fun _ x hx => G313.blk x (by simp at hx; omega), ?_⟩
      refine d_eff ?_
      have f314 := (s_r306.ext eh310)
      refine s_call [.agg #[.int .i64 y0_phase, .int .i64 y0_holds, .int .i64 y0_again, .int .i64 y0_shown, r306], .agg #[.bool y1_next, .int .i64 y1_signal]] rfl (impl_GlanceAt_ok (⟨y0_phase, y0_holds, y0_again, y0_shown, x0_passed⟩ : RepP) r306 (⟨y1_next, y1_signal⟩ : GlanceD) _ f314.toSl) ?_
      rintro _ h316 ⟨r315, rfl, s_r315, fr_r315, eh316⟩
      have E317 := E311.trans eh316
      have z318 := eh316.size
      have G319 := G313.trans eh316
      have lt_r315 := s_r315.lt
      refine s_nil ⟨fun _ x hx => G319.blk x (by simp at hx; omega), ?_⟩
      refine d_pureT (.tuple #[.agg #[.int .i64 (((rgOut (⟨y0_phase, y0_holds, y0_again, y0_shown, x0_passed⟩ : RepP) [(⟨y1_next, y1_signal⟩ : GlanceD)]).1).phase), .int .i64 (((rgOut (⟨y0_phase, y0_holds, y0_again, y0_shown, x0_passed⟩ : RepP) [(⟨y1_next, y1_signal⟩ : GlanceD)]).1).holds), .int .i64 (((rgOut (⟨y0_phase, y0_holds, y0_again, y0_shown, x0_passed⟩ : RepP) [(⟨y1_next, y1_signal⟩ : GlanceD)]).1).again), .int .i64 (((rgOut (⟨y0_phase, y0_holds, y0_again, y0_shown, x0_passed⟩ : RepP) [(⟨y1_next, y1_signal⟩ : GlanceD)]).1).shown), r315], .bool ((rgOut (⟨y0_phase, y0_holds, y0_again, y0_shown, x0_passed⟩ : RepP) [(⟨y1_next, y1_signal⟩ : GlanceD)]).2)]) (fun _ q => q) ?_
      refine d_pureT (.agg #[.int .i64 (((rgOut (⟨y0_phase, y0_holds, y0_again, y0_shown, x0_passed⟩ : RepP) [(⟨y1_next, y1_signal⟩ : GlanceD)]).1).phase), .int .i64 (((rgOut (⟨y0_phase, y0_holds, y0_again, y0_shown, x0_passed⟩ : RepP) [(⟨y1_next, y1_signal⟩ : GlanceD)]).1).holds), .int .i64 (((rgOut (⟨y0_phase, y0_holds, y0_again, y0_shown, x0_passed⟩ : RepP) [(⟨y1_next, y1_signal⟩ : GlanceD)]).1).again), .int .i64 (((rgOut (⟨y0_phase, y0_holds, y0_again, y0_shown, x0_passed⟩ : RepP) [(⟨y1_next, y1_signal⟩ : GlanceD)]).1).shown), r315]) (fun _ q => q) ?_
      refine d_pureT (.bool ((rgOut (⟨y0_phase, y0_holds, y0_again, y0_shown, x0_passed⟩ : RepP) [(⟨y1_next, y1_signal⟩ : GlanceD)]).2)) (fun _ q => q) ?_
      refine d_eff ?_
      have f320 := (((bxb299.ext eh305).ext eh310).ext eh316)
      refine s_stBx (.agg #[.int .i64 (((rgOut (⟨y0_phase, y0_holds, y0_again, y0_shown, x0_passed⟩ : RepP) [(⟨y1_next, y1_signal⟩ : GlanceD)]).1).phase), .int .i64 (((rgOut (⟨y0_phase, y0_holds, y0_again, y0_shown, x0_passed⟩ : RepP) [(⟨y1_next, y1_signal⟩ : GlanceD)]).1).holds), .int .i64 (((rgOut (⟨y0_phase, y0_holds, y0_again, y0_shown, x0_passed⟩ : RepP) [(⟨y1_next, y1_signal⟩ : GlanceD)]).1).again), .int .i64 (((rgOut (⟨y0_phase, y0_holds, y0_again, y0_shown, x0_passed⟩ : RepP) [(⟨y1_next, y1_signal⟩ : GlanceD)]).1).shown), r315]) [.int .i64 (((rgOut (⟨y0_phase, y0_holds, y0_again, y0_shown, x0_passed⟩ : RepP) [(⟨y1_next, y1_signal⟩ : GlanceD)]).1).phase), .int .i64 (((rgOut (⟨y0_phase, y0_holds, y0_again, y0_shown, x0_passed⟩ : RepP) [(⟨y1_next, y1_signal⟩ : GlanceD)]).1).holds), .int .i64 (((rgOut (⟨y0_phase, y0_holds, y0_again, y0_shown, x0_passed⟩ : RepP) [(⟨y1_next, y1_signal⟩ : GlanceD)]).1).again), .int .i64 (((rgOut (⟨y0_phase, y0_holds, y0_again, y0_shown, x0_passed⟩ : RepP) [(⟨y1_next, y1_signal⟩ : GlanceD)]).1).shown), r315] [.int .i64 (((rgOut (⟨y0_phase, y0_holds, y0_again, y0_shown, x0_passed⟩ : RepP) [(⟨y1_next, y1_signal⟩ : GlanceD)]).1).phase), .int .i64 (((rgOut (⟨y0_phase, y0_holds, y0_again, y0_shown, x0_passed⟩ : RepP) [(⟨y1_next, y1_signal⟩ : GlanceD)]).1).holds), .int .i64 (((rgOut (⟨y0_phase, y0_holds, y0_again, y0_shown, x0_passed⟩ : RepP) [(⟨y1_next, y1_signal⟩ : GlanceD)]).1).again), .int .i64 (((rgOut (⟨y0_phase, y0_holds, y0_again, y0_shown, x0_passed⟩ : RepP) [(⟨y1_next, y1_signal⟩ : GlanceD)]).1).shown), r315] f320 rfl rfl rfl rfl (by simp) (all_cons rfl (all_cons rfl (all_cons rfl (all_cons rfl (all_cons s_r315.one1 all_nil))))) rfl (fun h321 mh321 sh321 bxx322 => ?_)
      have E323 := E317.mod mh321 (fun b hb => by simp at hb; omega)
      have G324 := G319.mod mh321 (fun b hb => by simp at hb; omega)
      refine s_nil ⟨fun hl => (by cases hl), ?_⟩
      refine d_pureT (.bool ((rgOut (⟨y0_phase, y0_holds, y0_again, y0_shown, x0_passed⟩ : RepP) [(⟨y1_next, y1_signal⟩ : GlanceD)]).2)) (fun _ q => q) ?_
      have f325 := (s_r315.mod mh321 (fun b hb hc => by simp at hc; have := fr_r315 b hb; omega))
      refine d_done ⟨(r315, b299), ⟨rfl, rfl, rfl, rfl, rfl, rfl⟩, f325, fr_r315.mono (by omega), bxx322, by omega, (fr_r315.out (by omega)), G324⟩
  rintro ⟨r326, p327⟩ R329 h328 ⟨s_r326, fr_r326, bxp327, lop327, np_p327_r326, eh328⟩
  simp only at s_r326 fr_r326 bxp327 lop327 np_p327_r326 eh328
  have E330 := E231.trans eh328
  have z331 := eh328.size
  have lt_r326 := s_r326.lt
  have lbp327 := bxp327.lt
  refine p_seqN ?_
  refine v_seq ?_
  refine v_seq ?_
  refine v_ops ?_
  refine s_load (.agg #[.int .i64 (((rgOut (⟨y0_phase, y0_holds, y0_again, y0_shown, x0_passed⟩ : RepP) [(⟨y1_next, y1_signal⟩ : GlanceD)]).1).phase), .int .i64 (((rgOut (⟨y0_phase, y0_holds, y0_again, y0_shown, x0_passed⟩ : RepP) [(⟨y1_next, y1_signal⟩ : GlanceD)]).1).holds), .int .i64 (((rgOut (⟨y0_phase, y0_holds, y0_again, y0_shown, x0_passed⟩ : RepP) [(⟨y1_next, y1_signal⟩ : GlanceD)]).1).again), .int .i64 (((rgOut (⟨y0_phase, y0_holds, y0_again, y0_shown, x0_passed⟩ : RepP) [(⟨y1_next, y1_signal⟩ : GlanceD)]).1).shown), r326]) (fun _ q => bxp327.loadA rfl q) ?_
  have f332 := ((((f218.ext eh221).mod mh226 (fr_r188.out (by omega))).ext eh230).ext eh328)
  refine s_load (.agg #[.int .i64 (((rgOut (⟨y0_phase, y0_holds, y0_again, y0_shown, x0_passed⟩ : RepP) [(⟨y1_next, y1_signal⟩ : GlanceD)]).1).phase), .int .i64 (((rgOut (⟨y0_phase, y0_holds, y0_again, y0_shown, x0_passed⟩ : RepP) [(⟨y1_next, y1_signal⟩ : GlanceD)]).1).holds), .int .i64 (((rgOut (⟨y0_phase, y0_holds, y0_again, y0_shown, x0_passed⟩ : RepP) [(⟨y1_next, y1_signal⟩ : GlanceD)]).1).again), .int .i64 (((rgOut (⟨y0_phase, y0_holds, y0_again, y0_shown, x0_passed⟩ : RepP) [(⟨y1_next, y1_signal⟩ : GlanceD)]).1).shown), r110]) (fun _ q => f332.loadA rfl q) ?_
  have f333 := ((((f220.ext eh221).mod mh226 (fr_r188.apart (fun b hb => by have := lt_r110 b hb; omega))).ext eh230).ext eh328)
  refine s_call [.agg #[.int .i64 (((rgOut (⟨y0_phase, y0_holds, y0_again, y0_shown, x0_passed⟩ : RepP) [(⟨y1_next, y1_signal⟩ : GlanceD)]).1).phase), .int .i64 (((rgOut (⟨y0_phase, y0_holds, y0_again, y0_shown, x0_passed⟩ : RepP) [(⟨y1_next, y1_signal⟩ : GlanceD)]).1).holds), .int .i64 (((rgOut (⟨y0_phase, y0_holds, y0_again, y0_shown, x0_passed⟩ : RepP) [(⟨y1_next, y1_signal⟩ : GlanceD)]).1).again), .int .i64 (((rgOut (⟨y0_phase, y0_holds, y0_again, y0_shown, x0_passed⟩ : RepP) [(⟨y1_next, y1_signal⟩ : GlanceD)]).1).shown), r326], .agg #[.int .i64 (((rgOut (⟨y0_phase, y0_holds, y0_again, y0_shown, x0_passed⟩ : RepP) [(⟨y1_next, y1_signal⟩ : GlanceD)]).1).phase), .int .i64 (((rgOut (⟨y0_phase, y0_holds, y0_again, y0_shown, x0_passed⟩ : RepP) [(⟨y1_next, y1_signal⟩ : GlanceD)]).1).holds), .int .i64 (((rgOut (⟨y0_phase, y0_holds, y0_again, y0_shown, x0_passed⟩ : RepP) [(⟨y1_next, y1_signal⟩ : GlanceD)]).1).again), .int .i64 (((rgOut (⟨y0_phase, y0_holds, y0_again, y0_shown, x0_passed⟩ : RepP) [(⟨y1_next, y1_signal⟩ : GlanceD)]).1).shown), r110]] rfl (eqRepeater_ok (((rgOut (⟨y0_phase, y0_holds, y0_again, y0_shown, x0_passed⟩ : RepP) [(⟨y1_next, y1_signal⟩ : GlanceD)]).1).phase) (((rgOut (⟨y0_phase, y0_holds, y0_again, y0_shown, x0_passed⟩ : RepP) [(⟨y1_next, y1_signal⟩ : GlanceD)]).1).holds) (((rgOut (⟨y0_phase, y0_holds, y0_again, y0_shown, x0_passed⟩ : RepP) [(⟨y1_next, y1_signal⟩ : GlanceD)]).1).again) (((rgOut (⟨y0_phase, y0_holds, y0_again, y0_shown, x0_passed⟩ : RepP) [(⟨y1_next, y1_signal⟩ : GlanceD)]).1).shown) r326 (((rgOut (⟨y0_phase, y0_holds, y0_again, y0_shown, x0_passed⟩ : RepP) [(⟨y1_next, y1_signal⟩ : GlanceD)]).1).passed) (((rgOut (⟨y0_phase, y0_holds, y0_again, y0_shown, x0_passed⟩ : RepP) [(⟨y1_next, y1_signal⟩ : GlanceD)]).1).phase) (((rgOut (⟨y0_phase, y0_holds, y0_again, y0_shown, x0_passed⟩ : RepP) [(⟨y1_next, y1_signal⟩ : GlanceD)]).1).holds) (((rgOut (⟨y0_phase, y0_holds, y0_again, y0_shown, x0_passed⟩ : RepP) [(⟨y1_next, y1_signal⟩ : GlanceD)]).1).again) (((rgOut (⟨y0_phase, y0_holds, y0_again, y0_shown, x0_passed⟩ : RepP) [(⟨y1_next, y1_signal⟩ : GlanceD)]).1).shown) r110 (((rgOut (⟨y0_phase, y0_holds, y0_again, y0_shown, x0_passed⟩ : RepP) [(⟨y1_next, y1_signal⟩ : GlanceD)]).1).passed) _ s_r326.toSl f333.toSl) ?_
  rintro _ h334 ⟨rfl, eh334⟩
  have E335 := E330.trans eh334
  have z336 := eh334.size
  refine s_pure (.bool (!(decide (((rgOut (⟨y0_phase, y0_holds, y0_again, y0_shown, x0_passed⟩ : RepP) [(⟨y1_next, y1_signal⟩ : GlanceD)]).1).phase = ((rgOut (⟨y0_phase, y0_holds, y0_again, y0_shown, x0_passed⟩ : RepP) [(⟨y1_next, y1_signal⟩ : GlanceD)]).1).phase ∧ ((rgOut (⟨y0_phase, y0_holds, y0_again, y0_shown, x0_passed⟩ : RepP) [(⟨y1_next, y1_signal⟩ : GlanceD)]).1).holds = ((rgOut (⟨y0_phase, y0_holds, y0_again, y0_shown, x0_passed⟩ : RepP) [(⟨y1_next, y1_signal⟩ : GlanceD)]).1).holds ∧ ((rgOut (⟨y0_phase, y0_holds, y0_again, y0_shown, x0_passed⟩ : RepP) [(⟨y1_next, y1_signal⟩ : GlanceD)]).1).again = ((rgOut (⟨y0_phase, y0_holds, y0_again, y0_shown, x0_passed⟩ : RepP) [(⟨y1_next, y1_signal⟩ : GlanceD)]).1).again ∧ ((rgOut (⟨y0_phase, y0_holds, y0_again, y0_shown, x0_passed⟩ : RepP) [(⟨y1_next, y1_signal⟩ : GlanceD)]).1).shown = ((rgOut (⟨y0_phase, y0_holds, y0_again, y0_shown, x0_passed⟩ : RepP) [(⟨y1_next, y1_signal⟩ : GlanceD)]).1).shown ∧ ((rgOut (⟨y0_phase, y0_holds, y0_again, y0_shown, x0_passed⟩ : RepP) [(⟨y1_next, y1_signal⟩ : GlanceD)]).1).passed = ((rgOut (⟨y0_phase, y0_holds, y0_again, y0_shown, x0_passed⟩ : RepP) [(⟨y1_next, y1_signal⟩ : GlanceD)]).1).passed)))) (fun _ q => q) ?_
  refine s_pure (.bool (!(decide (((rgOut (⟨y0_phase, y0_holds, y0_again, y0_shown, x0_passed⟩ : RepP) [(⟨y1_next, y1_signal⟩ : GlanceD)]).1).phase = ((rgOut (⟨y0_phase, y0_holds, y0_again, y0_shown, x0_passed⟩ : RepP) [(⟨y1_next, y1_signal⟩ : GlanceD)]).1).phase ∧ ((rgOut (⟨y0_phase, y0_holds, y0_again, y0_shown, x0_passed⟩ : RepP) [(⟨y1_next, y1_signal⟩ : GlanceD)]).1).holds = ((rgOut (⟨y0_phase, y0_holds, y0_again, y0_shown, x0_passed⟩ : RepP) [(⟨y1_next, y1_signal⟩ : GlanceD)]).1).holds ∧ ((rgOut (⟨y0_phase, y0_holds, y0_again, y0_shown, x0_passed⟩ : RepP) [(⟨y1_next, y1_signal⟩ : GlanceD)]).1).again = ((rgOut (⟨y0_phase, y0_holds, y0_again, y0_shown, x0_passed⟩ : RepP) [(⟨y1_next, y1_signal⟩ : GlanceD)]).1).again ∧ ((rgOut (⟨y0_phase, y0_holds, y0_again, y0_shown, x0_passed⟩ : RepP) [(⟨y1_next, y1_signal⟩ : GlanceD)]).1).shown = ((rgOut (⟨y0_phase, y0_holds, y0_again, y0_shown, x0_passed⟩ : RepP) [(⟨y1_next, y1_signal⟩ : GlanceD)]).1).shown ∧ ((rgOut (⟨y0_phase, y0_holds, y0_again, y0_shown, x0_passed⟩ : RepP) [(⟨y1_next, y1_signal⟩ : GlanceD)]).1).passed = ((rgOut (⟨y0_phase, y0_holds, y0_again, y0_shown, x0_passed⟩ : RepP) [(⟨y1_next, y1_signal⟩ : GlanceD)]).1).passed)))) (fun _ q => q) ?_
  refine s_splitN rfl (by first | assumption | omega | (simp; done) | (simp; omega) | simp_all) ?_
  refine s_run rfl ?_
  refine s_pure (.bool ((rgOut (⟨y0_phase, y0_holds, y0_again, y0_shown, x0_passed⟩ : RepP) [(⟨y1_next, y1_signal⟩ : GlanceD)]).2)) (fun _ q => q) ?_
  refine s_run rfl ?_
  refine s_pure (.bool ((rgOut (⟨y0_phase, y0_holds, y0_again, y0_shown, x0_passed⟩ : RepP) [(⟨y1_next, y1_signal⟩ : GlanceD)]).2)) (fun _ q => q) ?_
  refine s_run rfl ?_
  refine s_pure (.bool ((rgOut (⟨y0_phase, y0_holds, y0_again, y0_shown, x0_passed⟩ : RepP) [(⟨y1_next, y1_signal⟩ : GlanceD)]).2 != (rgOut (⟨y0_phase, y0_holds, y0_again, y0_shown, x0_passed⟩ : RepP) [(⟨y1_next, y1_signal⟩ : GlanceD)]).2)) (fun _ q => q) ?_
  refine s_pure (.bool ((rgOut (⟨y0_phase, y0_holds, y0_again, y0_shown, x0_passed⟩ : RepP) [(⟨y1_next, y1_signal⟩ : GlanceD)]).2 != (rgOut (⟨y0_phase, y0_holds, y0_again, y0_shown, x0_passed⟩ : RepP) [(⟨y1_next, y1_signal⟩ : GlanceD)]).2)) (fun _ q => q) ?_
  refine s_nil ?_
  refine p_seqN ?_
  refine v_condN rfl (by first | assumption | omega | (simp; done) | (simp; omega) | simp_all) ?_
  refine v_skip ?_
  refine p_seqN ?_
  refine v_seq ?_
  refine v_ops ?_
  refine s_pure (.int .i64 1) (fun _ q => q) ?_
  refine s_nil ?_
  refine p_seqN ?_
  refine v_seq ?_
  refine v_ops ?_
  have f337 := (((f229.ext eh230).ext eh328).ext eh334)
  refine s_load (.agg #[.int .i64 (((rgOut (⟨y0_phase, y0_holds, y0_again, y0_shown, x0_passed⟩ : RepP) [(⟨y1_next, y1_signal⟩ : GlanceD)]).1).phase), .int .i64 (((rgOut (⟨y0_phase, y0_holds, y0_again, y0_shown, x0_passed⟩ : RepP) [(⟨y1_next, y1_signal⟩ : GlanceD)]).1).holds), .int .i64 (((rgOut (⟨y0_phase, y0_holds, y0_again, y0_shown, x0_passed⟩ : RepP) [(⟨y1_next, y1_signal⟩ : GlanceD)]).1).again), .int .i64 (((rgOut (⟨y0_phase, y0_holds, y0_again, y0_shown, x0_passed⟩ : RepP) [(⟨y1_next, y1_signal⟩ : GlanceD)]).1).shown), r188]) (fun _ q => f337.loadA rfl q) ?_
  refine s_pure (.int .i64 1) (fun _ q => q) ?_
  have f338 := (((mk227.ext eh230).ext eh328).ext eh334)
  refine s_call [.agg #[.int .i64 (((rgOut (⟨y0_phase, y0_holds, y0_again, y0_shown, x0_passed⟩ : RepP) [(⟨y1_next, y1_signal⟩ : GlanceD)]).1).phase), .int .i64 (((rgOut (⟨y0_phase, y0_holds, y0_again, y0_shown, x0_passed⟩ : RepP) [(⟨y1_next, y1_signal⟩ : GlanceD)]).1).holds), .int .i64 (((rgOut (⟨y0_phase, y0_holds, y0_again, y0_shown, x0_passed⟩ : RepP) [(⟨y1_next, y1_signal⟩ : GlanceD)]).1).again), .int .i64 (((rgOut (⟨y0_phase, y0_holds, y0_again, y0_shown, x0_passed⟩ : RepP) [(⟨y1_next, y1_signal⟩ : GlanceD)]).1).shown), r188], .int .i64 1] rfl (heldRepeater_ok (((rgOut (⟨y0_phase, y0_holds, y0_again, y0_shown, x0_passed⟩ : RepP) [(⟨y1_next, y1_signal⟩ : GlanceD)]).1).phase) (((rgOut (⟨y0_phase, y0_holds, y0_again, y0_shown, x0_passed⟩ : RepP) [(⟨y1_next, y1_signal⟩ : GlanceD)]).1).holds) (((rgOut (⟨y0_phase, y0_holds, y0_again, y0_shown, x0_passed⟩ : RepP) [(⟨y1_next, y1_signal⟩ : GlanceD)]).1).again) (((rgOut (⟨y0_phase, y0_holds, y0_again, y0_shown, x0_passed⟩ : RepP) [(⟨y1_next, y1_signal⟩ : GlanceD)]).1).shown) _ _ (1) _ f338.toSl (by omega) (by omega) (by omega)) ?_
  rintro _ h339 ⟨rfl, eh339⟩
  have E340 := E335.trans eh339
  have z341 := eh339.size
  refine s_pure (.int .i64 (1 + (((rgOut (⟨y0_phase, y0_holds, y0_again, y0_shown, x0_passed⟩ : RepP) [(⟨y1_next, y1_signal⟩ : GlanceD)]).1).passed.length : Int))) (fun _ q => q) ?_
  refine s_nil ?_
  refine p_seqN ?_
  refine v_seq ?_
  refine v_seq ?_
  refine v_ops ?_
  refine s_pure (.int .i64 (1 + (((rgOut (⟨y0_phase, y0_holds, y0_again, y0_shown, x0_passed⟩ : RepP) [(⟨y1_next, y1_signal⟩ : GlanceD)]).1).passed.length : Int))) (fun _ q => q) ?_
  refine s_pure (.bool (decide ((1 + (((rgOut (⟨y0_phase, y0_holds, y0_again, y0_shown, x0_passed⟩ : RepP) [(⟨y1_next, y1_signal⟩ : GlanceD)]).1).passed.length : Int)) < 0))) (fun _ q => q) ?_
  refine s_nil ?_
  refine p_seqN ?_
  refine v_condN rfl (by first | assumption | omega | (simp; done) | (simp; omega) | simp_all) ?_
  refine v_skip ?_
  refine p_seqN ?_
  refine v_seq ?_
  refine v_seq ?_
  refine v_ops ?_
  refine s_pure (.int .i64 (1 + (((rgOut (⟨y0_phase, y0_holds, y0_again, y0_shown, x0_passed⟩ : RepP) [(⟨y1_next, y1_signal⟩ : GlanceD)]).1).passed.length : Int))) (fun _ q => q) ?_
  refine s_pure (.int .i64 (1 + (((rgOut (⟨y0_phase, y0_holds, y0_again, y0_shown, x0_passed⟩ : RepP) [(⟨y1_next, y1_signal⟩ : GlanceD)]).1).passed.length : Int))) (fun _ q => q) ?_
  refine s_pure (.bool ((1 + (((rgOut (⟨y0_phase, y0_holds, y0_again, y0_shown, x0_passed⟩ : RepP) [(⟨y1_next, y1_signal⟩ : GlanceD)]).1).passed.length : Int)) != (1 + (((rgOut (⟨y0_phase, y0_holds, y0_again, y0_shown, x0_passed⟩ : RepP) [(⟨y1_next, y1_signal⟩ : GlanceD)]).1).passed.length : Int)))) (fun _ q => q) ?_
  refine s_nil ?_
  refine p_seqN ?_
  refine v_condN rfl (by first | assumption | omega | (simp; done) | (simp; omega) | simp_all) ?_
  refine v_skip ?_
  refine p_seqN ?_
  refine v_seq ?_
  refine v_ops ?_
  refine s_pure (.bool true) (fun _ q => q) ?_
  refine s_nil ?_
  refine p_seqN ?_
  refine v_ret ?_
  refine p_ret [.bool true] (.bool true) (fun _ q => q) rfl ?_
  exact ⟨rfl, E340⟩
end Go.Proofs.Ytgfokmjnfaopaaa.finFnExactGlanceAt
