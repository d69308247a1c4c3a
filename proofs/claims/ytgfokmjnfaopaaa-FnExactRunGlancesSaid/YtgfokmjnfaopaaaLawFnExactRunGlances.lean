/- The law FnExactRunGlances: its text returns true. Condition: none. Printed by a program. -/
import Derived.Test.YtgfokmjnfaopaaaRp7
namespace Go.Proofs.Ytgfokmjnfaopaaa.finFnExactRunGlances
open Go.Vc
set_option linter.all false
set_option maxRecDepth 100000 in
set_option maxHeartbeats 2000000 in
theorem law_ok (h : Heap) (x0 : RepD) (w0 : RepD.good h x0) (v1 : Value) (x1 : List GlanceD) (s_v1 : Sl h v1 x1) (_ : ∀ y ∈ x1, GlanceD.good h y) : Cn f_laws_FnExactRunGlances [x0.val, v1] h fun v h' => v = .bool true ∧ Ext h h' := by
  obtain ⟨y0_phase, y0_holds, y0_again, y0_shown, y0_passed⟩ := x0
  obtain ⟨b_y0_phase, b_y0_holds, b_y0_again, b_y0_shown, ⟨x0_passed, s_v0_passed, _⟩⟩ := w0
  change I64 y0_phase at b_y0_phase
  unfold I64 at b_y0_phase
  change I64 y0_holds at b_y0_holds
  unfold I64 at b_y0_holds
  change I64 y0_again at b_y0_again
  unfold I64 at b_y0_again
  change I64 y0_shown at b_y0_shown
  unfold I64 at b_y0_shown
  change Sl h y0_passed.v x0_passed at s_v0_passed
  have lt_v0_passed := s_v0_passed.lt
  have lt_v1 := s_v1.lt
  have lens := rg_len ⟨y0_phase, y0_holds, y0_again, y0_shown, x0_passed⟩ x1
  refine calls_of r_laws_FnExactRunGlances ?_
  refine v_seq ?_
  refine v_ops ?_
  refine s_box [.int .i64 y0_phase, .int .i64 y0_holds, .int .i64 y0_again, .int .i64 y0_shown, y0_passed.v] rfl (fun h2 b1 hbb1 hzb1 eh2 bxb1 => ?_)
  have E3 := (Ext.refl h).trans eh2
  have z4 := eh2.size
  have lbb1 := bxb1.lt
  refine s_pure (.bool false) (fun _ q => q) ?_
  refine s_nil ?_
  refine p_seqN ?_
  refine v_seq ?_
  refine v_ops ?_
  refine s_pure (.int .i64 1048576) (fun _ q => q) ?_
  refine s_nil ?_
  refine p_seqN ?_
  refine v_seq ?_
  refine v_ops ?_
  refine s_load (.agg #[.int .i64 y0_phase, .int .i64 y0_holds, .int .i64 y0_again, .int .i64 y0_shown, y0_passed.v]) (fun _ q => bxb1.loadA rfl q) ?_
  refine s_pure (.int .i64 1048576) (fun _ q => q) ?_
  have f5 := (s_v0_passed.ext eh2)
  refine s_call [.agg #[.int .i64 y0_phase, .int .i64 y0_holds, .int .i64 y0_again, .int .i64 y0_shown, y0_passed.v], .int .i64 1048576] rfl (szRepeater_ok y0_phase y0_holds y0_again y0_shown y0_passed.v x0_passed 1048576 _ f5 (by omega) (by omega)) ?_
  rintro _ h6 ⟨n7, rfl, eh6, hmn7, hkn7⟩
  have E8 := E3.trans eh6
  have z9 := eh6.size
  refine s_pure (.int .i64 n7) (fun _ q => q) ?_
  refine s_nil ?_
  refine p_seqN ?_
  refine v_seq ?_
  refine v_seq ?_
  refine v_ops ?_
  refine s_pure (.int .i64 n7) (fun _ q => q) ?_
  refine s_pure (.bool (decide (n7 < 0))) (fun _ q => q) ?_
  refine s_nil ?_
  refine p_seqN ?_
  refine v_cond rfl (fun c10 => ?_) (fun c10 => ?_)
  ·
    refine v_seq ?_
    refine v_ops ?_
    refine s_pure (.bool true) (fun _ q => q) ?_
    refine s_nil ?_
    refine p_seqN ?_
    refine v_ret ?_
    refine p_seqR ?_
    refine p_ret [.bool true] (.bool true) (fun _ q => q) rfl ?_
    exact ⟨rfl, E8⟩
  obtain ⟨hmn7, hkn7⟩ := And.intro (hmn7 (by omega)) hkn7
  have bd11 : x0_passed.length ≤ 1048576 := by omega
  refine v_skip ?_
  refine p_seqN ?_
  refine v_seq ?_
  refine v_ops ?_
  refine s_pure v1 (fun _ q => q) ?_
  refine s_pure (.int .i64 n7) (fun _ q => q) ?_
  have f12 := ((s_v1.ext eh2).ext eh6)
  refine s_call [v1, .int .i64 n7] rfl (szGlanceS_ok v1 x1 n7 _ f12 (by omega) (by omega)) ?_
  rintro _ h13 ⟨n14, rfl, eh13, hmn14, hkn14⟩
  have E15 := E8.trans eh13
  have z16 := eh13.size
  refine s_pure (.int .i64 n14) (fun _ q => q) ?_
  refine s_nil ?_
  refine p_seqN ?_
  refine v_seq ?_
  refine v_seq ?_
  refine v_ops ?_
  refine s_pure (.int .i64 n14) (fun _ q => q) ?_
  refine s_pure (.bool (decide (n14 < 0))) (fun _ q => q) ?_
  refine s_nil ?_
  refine p_seqN ?_
  refine v_cond rfl (fun c17 => ?_) (fun c17 => ?_)
  ·
    refine v_seq ?_
    refine v_ops ?_
    refine s_pure (.bool true) (fun _ q => q) ?_
    refine s_nil ?_
    refine p_seqN ?_
    refine v_ret ?_
    refine p_seqR ?_
    refine p_ret [.bool true] (.bool true) (fun _ q => q) rfl ?_
    exact ⟨rfl, E15⟩
  obtain ⟨hmn14, hkn14⟩ := And.intro (hmn14 (by omega)) hkn14
  have bd18 : x1.length ≤ 1048576 := by omega
  refine v_skip ?_
  refine p_seqN ?_
  refine v_seq ?_
  refine v_ops ?_
  have f19 := ((bxb1.ext eh6).ext eh13)
  refine s_load (.agg #[.int .i64 y0_phase, .int .i64 y0_holds, .int .i64 y0_again, .int .i64 y0_shown, y0_passed.v]) (fun _ q => f19.loadA rfl q) ?_
  have f20 := ((f5.ext eh6).ext eh13)
  refine s_call [.agg #[.int .i64 y0_phase, .int .i64 y0_holds, .int .i64 y0_again, .int .i64 y0_shown, y0_passed.v]] rfl (toRepeater_ok y0_phase y0_holds y0_again y0_shown y0_passed.v x0_passed _ f20 bd11) ?_
  rintro _ h21 ⟨r22, rfl, s_r22, eh21, fr_r22⟩
  have E23 := E15.trans eh21
  have z24 := eh21.size
  have lt_r22 := s_r22.lt
  refine s_pure v1 (fun _ q => q) ?_
  have f25 := ((f12.ext eh13).ext eh21)
  refine s_call [v1] rfl (toGlanceS_ok v1 x1 _ f25 bd18) ?_
  rintro r27 h26 ⟨s_r27, eh26, fr_r27⟩
  have E28 := E23.trans eh26
  have z29 := eh26.size
  have lt_r27 := s_r27.lt
  have f30 := (s_r22.ext eh26)
  refine s_call [.agg #[.int .i64 y0_phase, .int .i64 y0_holds, .int .i64 y0_again, .int .i64 y0_shown, r22], r27] rfl (spec_RunGlances_ok (⟨y0_phase, y0_holds, y0_again, y0_shown, x0_passed⟩ : RepP) r22 r27 x1 _ f30.toSl s_r27.toSl) ?_
  rintro _ h32 ⟨r31, rfl, s_r31, fr_r31, eh32⟩
  have E33 := E28.trans eh32
  have z34 := eh32.size
  have lt_r31 := s_r31.lt
  refine s_pure (.tuple #[.agg #[.int .i64 (((rgOut (⟨y0_phase, y0_holds, y0_again, y0_shown, x0_passed⟩ : RepP) x1).1).phase), .int .i64 (((rgOut (⟨y0_phase, y0_holds, y0_again, y0_shown, x0_passed⟩ : RepP) x1).1).holds), .int .i64 (((rgOut (⟨y0_phase, y0_holds, y0_again, y0_shown, x0_passed⟩ : RepP) x1).1).again), .int .i64 (((rgOut (⟨y0_phase, y0_holds, y0_again, y0_shown, x0_passed⟩ : RepP) x1).1).shown), r31], .bool ((rgOut (⟨y0_phase, y0_holds, y0_again, y0_shown, x0_passed⟩ : RepP) x1).2)]) (fun _ q => q) ?_
  refine s_pure (.agg #[.int .i64 (((rgOut (⟨y0_phase, y0_holds, y0_again, y0_shown, x0_passed⟩ : RepP) x1).1).phase), .int .i64 (((rgOut (⟨y0_phase, y0_holds, y0_again, y0_shown, x0_passed⟩ : RepP) x1).1).holds), .int .i64 (((rgOut (⟨y0_phase, y0_holds, y0_again, y0_shown, x0_passed⟩ : RepP) x1).1).again), .int .i64 (((rgOut (⟨y0_phase, y0_holds, y0_again, y0_shown, x0_passed⟩ : RepP) x1).1).shown), r31]) (fun _ q => q) ?_
  refine s_pure (.bool ((rgOut (⟨y0_phase, y0_holds, y0_again, y0_shown, x0_passed⟩ : RepP) x1).2)) (fun _ q => q) ?_
  refine s_new (fun h36 b35 hbb35 hzb35 eh36 bxb35 => ?_)
  have E37 := E33.trans eh36
  have z38 := eh36.size
  have lbb35 := bxb35.lt
  refine s_stBx (.agg #[.int .i64 (((rgOut (⟨y0_phase, y0_holds, y0_again, y0_shown, x0_passed⟩ : RepP) x1).1).phase), .int .i64 (((rgOut (⟨y0_phase, y0_holds, y0_again, y0_shown, x0_passed⟩ : RepP) x1).1).holds), .int .i64 (((rgOut (⟨y0_phase, y0_holds, y0_again, y0_shown, x0_passed⟩ : RepP) x1).1).again), .int .i64 (((rgOut (⟨y0_phase, y0_holds, y0_again, y0_shown, x0_passed⟩ : RepP) x1).1).shown), r31]) [.int .i64 (((rgOut (⟨y0_phase, y0_holds, y0_again, y0_shown, x0_passed⟩ : RepP) x1).1).phase), .int .i64 (((rgOut (⟨y0_phase, y0_holds, y0_again, y0_shown, x0_passed⟩ : RepP) x1).1).holds), .int .i64 (((rgOut (⟨y0_phase, y0_holds, y0_again, y0_shown, x0_passed⟩ : RepP) x1).1).again), .int .i64 (((rgOut (⟨y0_phase, y0_holds, y0_again, y0_shown, x0_passed⟩ : RepP) x1).1).shown), r31] [.int .i64 (((rgOut (⟨y0_phase, y0_holds, y0_again, y0_shown, x0_passed⟩ : RepP) x1).1).phase), .int .i64 (((rgOut (⟨y0_phase, y0_holds, y0_again, y0_shown, x0_passed⟩ : RepP) x1).1).holds), .int .i64 (((rgOut (⟨y0_phase, y0_holds, y0_again, y0_shown, x0_passed⟩ : RepP) x1).1).again), .int .i64 (((rgOut (⟨y0_phase, y0_holds, y0_again, y0_shown, x0_passed⟩ : RepP) x1).1).shown), r31] bxb35 rfl rfl rfl rfl (by simp) (all_cons rfl (all_cons rfl (all_cons rfl (all_cons rfl (all_cons s_r31.one1 all_nil))))) rfl (fun h39 mh39 sh39 bxx40 => ?_)
  have E41 := E37.mod mh39 (fun b hb => by simp at hb; omega)
  refine s_pure (.bool ((rgOut (⟨y0_phase, y0_holds, y0_again, y0_shown, x0_passed⟩ : RepP) x1).2)) (fun _ q => q) ?_
  refine s_nil ?_
  refine p_seqN ?_
  refine v_seq ?_
  refine v_ops ?_
  have f42 := (((((f19.ext eh21).ext eh26).ext eh32).ext eh36).mod mh39 (by simp; omega))
  refine s_load (.agg #[.int .i64 y0_phase, .int .i64 y0_holds, .int .i64 y0_again, .int .i64 y0_shown, y0_passed.v]) (fun _ q => f42.loadA rfl q) ?_
  have f43 := (((((f20.ext eh21).ext eh26).ext eh32).ext eh36).mod mh39 (fun b hb hc => by simp at hc; have := lt_v0_passed b hb; omega))
  refine s_call [.agg #[.int .i64 y0_phase, .int .i64 y0_holds, .int .i64 y0_again, .int .i64 y0_shown, y0_passed.v]] rfl (toRepeater_ok y0_phase y0_holds y0_again y0_shown y0_passed.v x0_passed _ f43 bd11) ?_
  rintro _ h44 ⟨r45, rfl, s_r45, eh44, fr_r45⟩
  have E46 := E41.trans eh44
  have z47 := eh44.size
  have lt_r45 := s_r45.lt
  refine s_new (fun h49 b48 hbb48 hzb48 eh49 bxb48 => ?_)
  have E50 := E46.trans eh49
  have z51 := eh49.size
  have lbb48 := bxb48.lt
  refine s_stBx (.agg #[.int .i64 y0_phase, .int .i64 y0_holds, .int .i64 y0_again, .int .i64 y0_shown, r45]) [.int .i64 y0_phase, .int .i64 y0_holds, .int .i64 y0_again, .int .i64 y0_shown, r45] [.int .i64 y0_phase, .int .i64 y0_holds, .int .i64 y0_again, .int .i64 y0_shown, r45] bxb48 rfl rfl rfl rfl (by simp) (all_cons rfl (all_cons rfl (all_cons rfl (all_cons rfl (all_cons s_r45.one1 all_nil))))) rfl (fun h52 mh52 sh52 bxx53 => ?_)
  have E54 := E50.mod mh52 (fun b hb => by simp at hb; omega)
  refine s_nil ?_
  refine p_seqN ?_
  refine v_seq ?_
  refine v_ops ?_
  refine s_pure v1 (fun _ q => q) ?_
  have f55 := (((((((f25.ext eh26).ext eh32).ext eh36).mod mh39 (fun b hb hc => by simp at hc; have := lt_v1 b hb; omega)).ext eh44).ext eh49).mod mh52 (fun b hb hc => by simp at hc; have := lt_v1 b hb; omega))
  refine s_call [v1] rfl (toGlanceS_ok v1 x1 _ f55 bd18) ?_
  rintro r57 h56 ⟨s_r57, eh56, fr_r57⟩
  have E58 := E54.trans eh56
  have z59 := eh56.size
  have lt_r57 := s_r57.lt
  refine s_pure r57 (fun _ q => q) ?_
  refine s_nil ?_
  refine p_seqN ?_
  refine v_seq ?_
  refine v_ops ?_
  have f60 := (bxx53.ext eh56)
  refine s_load (.agg #[.int .i64 y0_phase, .int .i64 y0_holds, .int .i64 y0_again, .int .i64 y0_shown, r45]) (fun _ q => f60.loadA rfl q) ?_
  refine s_pure r57 (fun _ q => q) ?_
  have f61 := (((s_r45.ext eh49).mod mh52 (fun b hb hc => by simp at hc; have := lt_r45 b hb; omega)).ext eh56)
  refine s_call [.agg #[.int .i64 y0_phase, .int .i64 y0_holds, .int .i64 y0_again, .int .i64 y0_shown, r45], r57] rfl (impl_RunGlances_ok (⟨y0_phase, y0_holds, y0_again, y0_shown, x0_passed⟩ : RepP) r45 r57 x1 _ f61.toSl s_r57.toSl) ?_
  rintro _ h63 ⟨r62, rfl, s_r62, fr_r62, eh63⟩
  have E64 := E58.trans eh63
  have z65 := eh63.size
  have lt_r62 := s_r62.lt
  refine s_pure (.tuple #[.agg #[.int .i64 (((rgOut (⟨y0_phase, y0_holds, y0_again, y0_shown, x0_passed⟩ : RepP) x1).1).phase), .int .i64 (((rgOut (⟨y0_phase, y0_holds, y0_again, y0_shown, x0_passed⟩ : RepP) x1).1).holds), .int .i64 (((rgOut (⟨y0_phase, y0_holds, y0_again, y0_shown, x0_passed⟩ : RepP) x1).1).again), .int .i64 (((rgOut (⟨y0_phase, y0_holds, y0_again, y0_shown, x0_passed⟩ : RepP) x1).1).shown), r62], .bool ((rgOut (⟨y0_phase, y0_holds, y0_again, y0_shown, x0_passed⟩ : RepP) x1).2)]) (fun _ q => q) ?_
  refine s_pure (.agg #[.int .i64 (((rgOut (⟨y0_phase, y0_holds, y0_again, y0_shown, x0_passed⟩ : RepP) x1).1).phase), .int .i64 (((rgOut (⟨y0_phase, y0_holds, y0_again, y0_shown, x0_passed⟩ : RepP) x1).1).holds), .int .i64 (((rgOut (⟨y0_phase, y0_holds, y0_again, y0_shown, x0_passed⟩ : RepP) x1).1).again), .int .i64 (((rgOut (⟨y0_phase, y0_holds, y0_again, y0_shown, x0_passed⟩ : RepP) x1).1).shown), r62]) (fun _ q => q) ?_
  refine s_pure (.bool ((rgOut (⟨y0_phase, y0_holds, y0_again, y0_shown, x0_passed⟩ : RepP) x1).2)) (fun _ q => q) ?_
  refine s_new (fun h67 b66 hbb66 hzb66 eh67 bxb66 => ?_)
  have E68 := E64.trans eh67
  have z69 := eh67.size
  have lbb66 := bxb66.lt
  refine s_stBx (.agg #[.int .i64 (((rgOut (⟨y0_phase, y0_holds, y0_again, y0_shown, x0_passed⟩ : RepP) x1).1).phase), .int .i64 (((rgOut (⟨y0_phase, y0_holds, y0_again, y0_shown, x0_passed⟩ : RepP) x1).1).holds), .int .i64 (((rgOut (⟨y0_phase, y0_holds, y0_again, y0_shown, x0_passed⟩ : RepP) x1).1).again), .int .i64 (((rgOut (⟨y0_phase, y0_holds, y0_again, y0_shown, x0_passed⟩ : RepP) x1).1).shown), r62]) [.int .i64 (((rgOut (⟨y0_phase, y0_holds, y0_again, y0_shown, x0_passed⟩ : RepP) x1).1).phase), .int .i64 (((rgOut (⟨y0_phase, y0_holds, y0_again, y0_shown, x0_passed⟩ : RepP) x1).1).holds), .int .i64 (((rgOut (⟨y0_phase, y0_holds, y0_again, y0_shown, x0_passed⟩ : RepP) x1).1).again), .int .i64 (((rgOut (⟨y0_phase, y0_holds, y0_again, y0_shown, x0_passed⟩ : RepP) x1).1).shown), r62] [.int .i64 (((rgOut (⟨y0_phase, y0_holds, y0_again, y0_shown, x0_passed⟩ : RepP) x1).1).phase), .int .i64 (((rgOut (⟨y0_phase, y0_holds, y0_again, y0_shown, x0_passed⟩ : RepP) x1).1).holds), .int .i64 (((rgOut (⟨y0_phase, y0_holds, y0_again, y0_shown, x0_passed⟩ : RepP) x1).1).again), .int .i64 (((rgOut (⟨y0_phase, y0_holds, y0_again, y0_shown, x0_passed⟩ : RepP) x1).1).shown), r62] bxb66 rfl rfl rfl rfl (by simp) (all_cons rfl (all_cons rfl (all_cons rfl (all_cons rfl (all_cons s_r62.one1 all_nil))))) rfl (fun h70 mh70 sh70 bxx71 => ?_)
  have E72 := E68.mod mh70 (fun b hb => by simp at hb; omega)
  refine s_pure (.bool ((rgOut (⟨y0_phase, y0_holds, y0_again, y0_shown, x0_passed⟩ : RepP) x1).2)) (fun _ q => q) ?_
  refine s_nil ?_
  refine p_seqN ?_
  refine v_seq ?_
  refine v_seq ?_
  refine v_ops ?_
  refine s_load (.agg #[.int .i64 (((rgOut (⟨y0_phase, y0_holds, y0_again, y0_shown, x0_passed⟩ : RepP) x1).1).phase), .int .i64 (((rgOut (⟨y0_phase, y0_holds, y0_again, y0_shown, x0_passed⟩ : RepP) x1).1).holds), .int .i64 (((rgOut (⟨y0_phase, y0_holds, y0_again, y0_shown, x0_passed⟩ : RepP) x1).1).again), .int .i64 (((rgOut (⟨y0_phase, y0_holds, y0_again, y0_shown, x0_passed⟩ : RepP) x1).1).shown), r62]) (fun _ q => bxx71.loadA rfl q) ?_
  have f73 := (((((((bxx40.ext eh44).ext eh49).mod mh52 (by simp; omega)).ext eh56).ext eh63).ext eh67).mod mh70 (by simp; omega))
  refine s_load (.agg #[.int .i64 (((rgOut (⟨y0_phase, y0_holds, y0_again, y0_shown, x0_passed⟩ : RepP) x1).1).phase), .int .i64 (((rgOut (⟨y0_phase, y0_holds, y0_again, y0_shown, x0_passed⟩ : RepP) x1).1).holds), .int .i64 (((rgOut (⟨y0_phase, y0_holds, y0_again, y0_shown, x0_passed⟩ : RepP) x1).1).again), .int .i64 (((rgOut (⟨y0_phase, y0_holds, y0_again, y0_shown, x0_passed⟩ : RepP) x1).1).shown), r31]) (fun _ q => f73.loadA rfl q) ?_
  have f74 := ((s_r62.ext eh67).mod mh70 (fun b hb hc => by simp at hc; have := lt_r62 b hb; omega))
  have f75 := (((((((((s_r31.ext eh36).mod mh39 (fun b hb hc => by simp at hc; have := lt_r31 b hb; omega)).ext eh44).ext eh49).mod mh52 (fun b hb hc => by simp at hc; have := lt_r31 b hb; omega)).ext eh56).ext eh63).ext eh67).mod mh70 (fun b hb hc => by simp at hc; have := lt_r31 b hb; omega))
  refine s_call [.agg #[.int .i64 (((rgOut (⟨y0_phase, y0_holds, y0_again, y0_shown, x0_passed⟩ : RepP) x1).1).phase), .int .i64 (((rgOut (⟨y0_phase, y0_holds, y0_again, y0_shown, x0_passed⟩ : RepP) x1).1).holds), .int .i64 (((rgOut (⟨y0_phase, y0_holds, y0_again, y0_shown, x0_passed⟩ : RepP) x1).1).again), .int .i64 (((rgOut (⟨y0_phase, y0_holds, y0_again, y0_shown, x0_passed⟩ : RepP) x1).1).shown), r62], .agg #[.int .i64 (((rgOut (⟨y0_phase, y0_holds, y0_again, y0_shown, x0_passed⟩ : RepP) x1).1).phase), .int .i64 (((rgOut (⟨y0_phase, y0_holds, y0_again, y0_shown, x0_passed⟩ : RepP) x1).1).holds), .int .i64 (((rgOut (⟨y0_phase, y0_holds, y0_again, y0_shown, x0_passed⟩ : RepP) x1).1).again), .int .i64 (((rgOut (⟨y0_phase, y0_holds, y0_again, y0_shown, x0_passed⟩ : RepP) x1).1).shown), r31]] rfl (eqRepeater_ok (((rgOut (⟨y0_phase, y0_holds, y0_again, y0_shown, x0_passed⟩ : RepP) x1).1).phase) (((rgOut (⟨y0_phase, y0_holds, y0_again, y0_shown, x0_passed⟩ : RepP) x1).1).holds) (((rgOut (⟨y0_phase, y0_holds, y0_again, y0_shown, x0_passed⟩ : RepP) x1).1).again) (((rgOut (⟨y0_phase, y0_holds, y0_again, y0_shown, x0_passed⟩ : RepP) x1).1).shown) r62 (((rgOut (⟨y0_phase, y0_holds, y0_again, y0_shown, x0_passed⟩ : RepP) x1).1).passed) (((rgOut (⟨y0_phase, y0_holds, y0_again, y0_shown, x0_passed⟩ : RepP) x1).1).phase) (((rgOut (⟨y0_phase, y0_holds, y0_again, y0_shown, x0_passed⟩ : RepP) x1).1).holds) (((rgOut (⟨y0_phase, y0_holds, y0_again, y0_shown, x0_passed⟩ : RepP) x1).1).again) (((rgOut (⟨y0_phase, y0_holds, y0_again, y0_shown, x0_passed⟩ : RepP) x1).1).shown) r31 (((rgOut (⟨y0_phase, y0_holds, y0_again, y0_shown, x0_passed⟩ : RepP) x1).1).passed) _ f74.toSl f75.toSl) ?_
  rintro _ h76 ⟨rfl, eh76⟩
  have E77 := E72.trans eh76
  have z78 := eh76.size
  refine s_pure (.bool (!(decide (((rgOut (⟨y0_phase, y0_holds, y0_again, y0_shown, x0_passed⟩ : RepP) x1).1).phase = ((rgOut (⟨y0_phase, y0_holds, y0_again, y0_shown, x0_passed⟩ : RepP) x1).1).phase ∧ ((rgOut (⟨y0_phase, y0_holds, y0_again, y0_shown, x0_passed⟩ : RepP) x1).1).holds = ((rgOut (⟨y0_phase, y0_holds, y0_again, y0_shown, x0_passed⟩ : RepP) x1).1).holds ∧ ((rgOut (⟨y0_phase, y0_holds, y0_again, y0_shown, x0_passed⟩ : RepP) x1).1).again = ((rgOut (⟨y0_phase, y0_holds, y0_again, y0_shown, x0_passed⟩ : RepP) x1).1).again ∧ ((rgOut (⟨y0_phase, y0_holds, y0_again, y0_shown, x0_passed⟩ : RepP) x1).1).shown = ((rgOut (⟨y0_phase, y0_holds, y0_again, y0_shown, x0_passed⟩ : RepP) x1).1).shown ∧ ((rgOut (⟨y0_phase, y0_holds, y0_again, y0_shown, x0_passed⟩ : RepP) x1).1).passed = ((rgOut (⟨y0_phase, y0_holds, y0_again, y0_shown, x0_passed⟩ : RepP) x1).1).passed)))) (fun _ q => q) ?_
  refine s_pure (.bool (!(decide (((rgOut (⟨y0_phase, y0_holds, y0_again, y0_shown, x0_passed⟩ : RepP) x1).1).phase = ((rgOut (⟨y0_phase, y0_holds, y0_again, y0_shown, x0_passed⟩ : RepP) x1).1).phase ∧ ((rgOut (⟨y0_phase, y0_holds, y0_again, y0_shown, x0_passed⟩ : RepP) x1).1).holds = ((rgOut (⟨y0_phase, y0_holds, y0_again, y0_shown, x0_passed⟩ : RepP) x1).1).holds ∧ ((rgOut (⟨y0_phase, y0_holds, y0_again, y0_shown, x0_passed⟩ : RepP) x1).1).again = ((rgOut (⟨y0_phase, y0_holds, y0_again, y0_shown, x0_passed⟩ : RepP) x1).1).again ∧ ((rgOut (⟨y0_phase, y0_holds, y0_again, y0_shown, x0_passed⟩ : RepP) x1).1).shown = ((rgOut (⟨y0_phase, y0_holds, y0_again, y0_shown, x0_passed⟩ : RepP) x1).1).shown ∧ ((rgOut (⟨y0_phase, y0_holds, y0_again, y0_shown, x0_passed⟩ : RepP) x1).1).passed = ((rgOut (⟨y0_phase, y0_holds, y0_again, y0_shown, x0_passed⟩ : RepP) x1).1).passed)))) (fun _ q => q) ?_
  refine s_splitN rfl (by first | assumption | omega | (simp; done) | (simp; omega) | simp_all) ?_
  refine s_run rfl ?_
  refine s_pure (.bool ((rgOut (⟨y0_phase, y0_holds, y0_again, y0_shown, x0_passed⟩ : RepP) x1).2)) (fun _ q => q) ?_
  refine s_run rfl ?_
  refine s_pure (.bool ((rgOut (⟨y0_phase, y0_holds, y0_again, y0_shown, x0_passed⟩ : RepP) x1).2)) (fun _ q => q) ?_
  refine s_run rfl ?_
  refine s_pure (.bool ((rgOut (⟨y0_phase, y0_holds, y0_again, y0_shown, x0_passed⟩ : RepP) x1).2 != (rgOut (⟨y0_phase, y0_holds, y0_again, y0_shown, x0_passed⟩ : RepP) x1).2)) (fun _ q => q) ?_
  refine s_pure (.bool ((rgOut (⟨y0_phase, y0_holds, y0_again, y0_shown, x0_passed⟩ : RepP) x1).2 != (rgOut (⟨y0_phase, y0_holds, y0_again, y0_shown, x0_passed⟩ : RepP) x1).2)) (fun _ q => q) ?_
  refine s_nil ?_
  refine p_seqN ?_
  refine v_condN rfl (by first | assumption | omega | (simp; done) | (simp; omega) | simp_all) ?_
  refine v_skip ?_
  refine p_seqN ?_
  refine v_seq ?_
  refine v_seq ?_
  have f79 := ((((f60.ext eh63).ext eh67).mod mh70 (by simp; omega)).ext eh76)
  refine v_draw (DrawVC.hold [b48] ?_)
  refine d_loadT (.agg #[.int .i64 y0_phase, .int .i64 y0_holds, .int .i64 y0_again, .int .i64 y0_shown, r45]) (fun _ q => f79.takeA (by simp) rfl q) ?_
  have f80 := ((((((((f42.ext eh44).ext eh49).mod mh52 (by simp; omega)).ext eh56).ext eh63).ext eh67).mod mh70 (by simp; omega)).ext eh76)
  refine d_loadO (.agg #[.int .i64 y0_phase, .int .i64 y0_holds, .int .i64 y0_again, .int .i64 y0_shown, y0_passed.v]) (fun _ q => f80.loadA rfl q) ?_
  refine d_eff ?_
  have f81 := ((((((((f43.ext eh44).ext eh49).mod mh52 (fun b hb hc => by simp at hc; have := lt_v0_passed b hb; omega)).ext eh56).ext eh63).ext eh67).mod mh70 (fun b hb hc => by simp at hc; have := lt_v0_passed b hb; omega)).ext eh76)
  refine s_call [.agg #[.int .i64 y0_phase, .int .i64 y0_holds, .int .i64 y0_again, .int .i64 y0_shown, y0_passed.v]] rfl (toRepeater_ok y0_phase y0_holds y0_again y0_shown y0_passed.v x0_passed _ f81 bd11) ?_
  rintro _ h82 ⟨r83, rfl, s_r83, eh82, fr_r83⟩
  have E84 := E77.trans eh82
  have z85 := eh82.size
  have G86 := eh82
  have lt_r83 := s_r83.lt
  refine s_nil ⟨fun _ x hx => G86.blk x (by simp at hx; omega), ?_⟩
  refine d_eff ?_
  have f87 := (((((f61.ext eh63).ext eh67).mod mh70 (fun b hb hc => by simp at hc; have := lt_r45 b hb; omega)).ext eh76).ext eh82)
  refine s_call [.agg #[.int .i64 y0_phase, .int .i64 y0_holds, .int .i64 y0_again, .int .i64 y0_shown, r45], .agg #[.int .i64 y0_phase, .int .i64 y0_holds, .int .i64 y0_again, .int .i64 y0_shown, r83]] rfl (eqRepeater_ok y0_phase y0_holds y0_again y0_shown r45 x0_passed y0_phase y0_holds y0_again y0_shown r83 x0_passed _ f87.toSl s_r83.toSl) ?_
  rintro _ h88 ⟨rfl, eh88⟩
  have E89 := E84.trans eh88
  have z90 := eh88.size
  have G91 := G86.trans eh88
  refine s_nil ⟨fun _ x hx => G91.blk x (by simp at hx; omega), ?_⟩
  refine d_pureT (.bool (!(decide (y0_phase = y0_phase ∧ y0_holds = y0_holds ∧ y0_again = y0_again ∧ y0_shown = y0_shown ∧ x0_passed = x0_passed)))) (fun _ q => q) ?_
  refine d_done ?_
  refine p_seqN ?_
  refine v_condN rfl (by first | assumption | omega | (simp; done) | (simp; omega) | simp_all) ?_
  refine v_skip ?_
  refine p_seqN ?_
  refine v_seq ?_
  refine v_seq ?_
  refine v_ops ?_
  refine s_pure r57 (fun _ q => q) ?_
  refine s_pure v1 (fun _ q => q) ?_
  have f92 := (((((((f55.ext eh56).ext eh63).ext eh67).mod mh70 (fun b hb hc => by simp at hc; have := lt_v1 b hb; omega)).ext eh76).ext eh82).ext eh88)
  refine s_call [v1] rfl (toGlanceS_ok v1 x1 _ f92 bd18) ?_
  rintro r94 h93 ⟨s_r94, eh93, fr_r94⟩
  have E95 := E89.trans eh93
  have z96 := eh93.size
  have lt_r94 := s_r94.lt
  have f97 := (((((((s_r57.ext eh63).ext eh67).mod mh70 (fun b hb hc => by simp at hc; have := lt_r57 b hb; omega)).ext eh76).ext eh82).ext eh88).ext eh93)
  refine s_call [r57, r94] rfl (eqGlanceS_ok r57 r94 x1 x1 _ f97.toSl s_r94.toSl) ?_
  rintro _ h98 ⟨rfl, eh98⟩
  have E99 := E95.trans eh98
  have z100 := eh98.size
  refine s_pure (.bool (!(decide (x1 = x1)))) (fun _ q => q) ?_
  refine s_nil ?_
  refine p_seqN ?_
  refine v_condN rfl (by first | assumption | omega | (simp; done) | (simp; omega) | simp_all) ?_
  refine v_skip ?_
  refine p_seqN ?_
  refine v_seq ?_
  refine v_ops ?_
  refine s_pure (.int .i64 1) (fun _ q => q) ?_
  refine s_nil ?_
  refine p_seqN ?_
  refine v_seq ?_
  refine v_ops ?_
  have f101 := ((((f79.ext eh82).ext eh88).ext eh93).ext eh98)
  refine s_load (.agg #[.int .i64 y0_phase, .int .i64 y0_holds, .int .i64 y0_again, .int .i64 y0_shown, r45]) (fun _ q => f101.loadA rfl q) ?_
  refine s_pure (.int .i64 1) (fun _ q => q) ?_
  have f102 := (((f87.ext eh88).ext eh93).ext eh98)
  refine s_call [.agg #[.int .i64 y0_phase, .int .i64 y0_holds, .int .i64 y0_again, .int .i64 y0_shown, r45], .int .i64 1] rfl (markRepeater_ok y0_phase y0_holds y0_again y0_shown r45 x0_passed (1) _ f102 (by omega) (by omega) (by omega)) ?_
  rintro _ h103 ⟨rfl, mk104, mh103, zh103⟩
  have E105 := E99.mod mh103 (fun b hb => by have := fr_r45 b hb; omega)
  refine s_pure (.int .i64 (1 + (x0_passed.length : Int))) (fun _ q => q) ?_
  refine s_nil ?_
  refine p_seqN ?_
  refine v_seq ?_
  refine v_ops ?_
  refine s_pure r57 (fun _ q => q) ?_
  refine s_pure (.int .i64 (1 + (x0_passed.length : Int))) (fun _ q => q) ?_
  have f106 := ((f97.ext eh98).mod mh103 (fr_r57.apart' (fun b hb => by have := lt_r45 b hb; omega)))
  refine s_call [r57, .int .i64 (1 + (x0_passed.length : Int))] rfl (markGlanceS_ok r57 x1 ((1 + (x0_passed.length : Int))) _ f106 (by omega) (by omega) (by omega)) ?_
  rintro _ h107 ⟨rfl, mk108, mh107, zh107⟩
  have E109 := E105.mod mh107 (fun b hb => by have := fr_r57 b hb; omega)
  refine s_pure (.int .i64 ((1 + (x0_passed.length : Int)) + 2 * (x1.length : Int))) (fun _ q => q) ?_
  refine s_nil ?_
  refine p_seqN ?_
  refine v_seq ?_
  refine v_seq ?_
  refine v_ops ?_
  refine s_pure (.int .i64 ((1 + (x0_passed.length : Int)) + 2 * (x1.length : Int))) (fun _ q => q) ?_
  refine s_pure (.bool (decide (((1 + (x0_passed.length : Int)) + 2 * (x1.length : Int)) < 0))) (fun _ q => q) ?_
  refine s_pure (.bool (decide (((1 + (x0_passed.length : Int)) + 2 * (x1.length : Int)) < 0))) (fun _ q => q) ?_
  refine s_splitN rfl (by first | assumption | omega | (simp; done) | (simp; omega) | simp_all) ?_
  refine s_run rfl ?_
  have f110 := (((((((bxx71.ext eh76).ext eh82).ext eh88).ext eh93).ext eh98).mod mh103 (fun hc => by have := lt_r45 _ hc; omega)).mod mh107 (fun hc => by have := lt_r57 _ hc; omega))
  refine s_load (.agg #[.int .i64 (((rgOut (⟨y0_phase, y0_holds, y0_again, y0_shown, x0_passed⟩ : RepP) x1).1).phase), .int .i64 (((rgOut (⟨y0_phase, y0_holds, y0_again, y0_shown, x0_passed⟩ : RepP) x1).1).holds), .int .i64 (((rgOut (⟨y0_phase, y0_holds, y0_again, y0_shown, x0_passed⟩ : RepP) x1).1).again), .int .i64 (((rgOut (⟨y0_phase, y0_holds, y0_again, y0_shown, x0_passed⟩ : RepP) x1).1).shown), r62]) (fun _ q => f110.loadA rfl q) ?_
  refine s_run rfl ?_
  have f111 := (((((((f73.ext eh76).ext eh82).ext eh88).ext eh93).ext eh98).mod mh103 (fr_r45.out (by omega))).mod mh107 (fr_r57.out (by omega)))
  refine s_load (.agg #[.int .i64 (((rgOut (⟨y0_phase, y0_holds, y0_again, y0_shown, x0_passed⟩ : RepP) x1).1).phase), .int .i64 (((rgOut (⟨y0_phase, y0_holds, y0_again, y0_shown, x0_passed⟩ : RepP) x1).1).holds), .int .i64 (((rgOut (⟨y0_phase, y0_holds, y0_again, y0_shown, x0_passed⟩ : RepP) x1).1).again), .int .i64 (((rgOut (⟨y0_phase, y0_holds, y0_again, y0_shown, x0_passed⟩ : RepP) x1).1).shown), r31]) (fun _ q => f111.loadA rfl q) ?_
  refine s_run rfl ?_
  have f112 := (((((((f74.ext eh76).ext eh82).ext eh88).ext eh93).ext eh98).mod mh103 (fr_r62.apart' (fun b hb => by have := lt_r45 b hb; omega))).mod mh107 (fr_r62.apart' (fun b hb => by have := lt_r57 b hb; omega)))
  have f113 := (((((((f75.ext eh76).ext eh82).ext eh88).ext eh93).ext eh98).mod mh103 (fr_r45.apart (fun b hb => by have := lt_r31 b hb; omega))).mod mh107 (fr_r57.apart (fun b hb => by have := lt_r31 b hb; omega)))
  refine s_call [.agg #[.int .i64 (((rgOut (⟨y0_phase, y0_holds, y0_again, y0_shown, x0_passed⟩ : RepP) x1).1).phase), .int .i64 (((rgOut (⟨y0_phase, y0_holds, y0_again, y0_shown, x0_passed⟩ : RepP) x1).1).holds), .int .i64 (((rgOut (⟨y0_phase, y0_holds, y0_again, y0_shown, x0_passed⟩ : RepP) x1).1).again), .int .i64 (((rgOut (⟨y0_phase, y0_holds, y0_again, y0_shown, x0_passed⟩ : RepP) x1).1).shown), r62], .agg #[.int .i64 (((rgOut (⟨y0_phase, y0_holds, y0_again, y0_shown, x0_passed⟩ : RepP) x1).1).phase), .int .i64 (((rgOut (⟨y0_phase, y0_holds, y0_again, y0_shown, x0_passed⟩ : RepP) x1).1).holds), .int .i64 (((rgOut (⟨y0_phase, y0_holds, y0_again, y0_shown, x0_passed⟩ : RepP) x1).1).again), .int .i64 (((rgOut (⟨y0_phase, y0_holds, y0_again, y0_shown, x0_passed⟩ : RepP) x1).1).shown), r31]] rfl (eqRepeater_ok (((rgOut (⟨y0_phase, y0_holds, y0_again, y0_shown, x0_passed⟩ : RepP) x1).1).phase) (((rgOut (⟨y0_phase, y0_holds, y0_again, y0_shown, x0_passed⟩ : RepP) x1).1).holds) (((rgOut (⟨y0_phase, y0_holds, y0_again, y0_shown, x0_passed⟩ : RepP) x1).1).again) (((rgOut (⟨y0_phase, y0_holds, y0_again, y0_shown, x0_passed⟩ : RepP) x1).1).shown) r62 (((rgOut (⟨y0_phase, y0_holds, y0_again, y0_shown, x0_passed⟩ : RepP) x1).1).passed) (((rgOut (⟨y0_phase, y0_holds, y0_again, y0_shown, x0_passed⟩ : RepP) x1).1).phase) (((rgOut (⟨y0_phase, y0_holds, y0_again, y0_shown, x0_passed⟩ : RepP) x1).1).holds) (((rgOut (⟨y0_phase, y0_holds, y0_again, y0_shown, x0_passed⟩ : RepP) x1).1).again) (((rgOut (⟨y0_phase, y0_holds, y0_again, y0_shown, x0_passed⟩ : RepP) x1).1).shown) r31 (((rgOut (⟨y0_phase, y0_holds, y0_again, y0_shown, x0_passed⟩ : RepP) x1).1).passed) _ f112.toSl f113.toSl) ?_
  rintro _ h114 ⟨rfl, eh114⟩
  have E115 := E109.trans eh114
  have z116 := eh114.size
  refine s_run rfl ?_
  refine s_pure (.bool (!(decide (((rgOut (⟨y0_phase, y0_holds, y0_again, y0_shown, x0_passed⟩ : RepP) x1).1).phase = ((rgOut (⟨y0_phase, y0_holds, y0_again, y0_shown, x0_passed⟩ : RepP) x1).1).phase ∧ ((rgOut (⟨y0_phase, y0_holds, y0_again, y0_shown, x0_passed⟩ : RepP) x1).1).holds = ((rgOut (⟨y0_phase, y0_holds, y0_again, y0_shown, x0_passed⟩ : RepP) x1).1).holds ∧ ((rgOut (⟨y0_phase, y0_holds, y0_again, y0_shown, x0_passed⟩ : RepP) x1).1).again = ((rgOut (⟨y0_phase, y0_holds, y0_again, y0_shown, x0_passed⟩ : RepP) x1).1).again ∧ ((rgOut (⟨y0_phase, y0_holds, y0_again, y0_shown, x0_passed⟩ : RepP) x1).1).shown = ((rgOut (⟨y0_phase, y0_holds, y0_again, y0_shown, x0_passed⟩ : RepP) x1).1).shown ∧ ((rgOut (⟨y0_phase, y0_holds, y0_again, y0_shown, x0_passed⟩ : RepP) x1).1).passed = ((rgOut (⟨y0_phase, y0_holds, y0_again, y0_shown, x0_passed⟩ : RepP) x1).1).passed)))) (fun _ q => q) ?_
  refine s_pure (.bool (!(decide (((rgOut (⟨y0_phase, y0_holds, y0_again, y0_shown, x0_passed⟩ : RepP) x1).1).phase = ((rgOut (⟨y0_phase, y0_holds, y0_again, y0_shown, x0_passed⟩ : RepP) x1).1).phase ∧ ((rgOut (⟨y0_phase, y0_holds, y0_again, y0_shown, x0_passed⟩ : RepP) x1).1).holds = ((rgOut (⟨y0_phase, y0_holds, y0_again, y0_shown, x0_passed⟩ : RepP) x1).1).holds ∧ ((rgOut (⟨y0_phase, y0_holds, y0_again, y0_shown, x0_passed⟩ : RepP) x1).1).again = ((rgOut (⟨y0_phase, y0_holds, y0_again, y0_shown, x0_passed⟩ : RepP) x1).1).again ∧ ((rgOut (⟨y0_phase, y0_holds, y0_again, y0_shown, x0_passed⟩ : RepP) x1).1).shown = ((rgOut (⟨y0_phase, y0_holds, y0_again, y0_shown, x0_passed⟩ : RepP) x1).1).shown ∧ ((rgOut (⟨y0_phase, y0_holds, y0_again, y0_shown, x0_passed⟩ : RepP) x1).1).passed = ((rgOut (⟨y0_phase, y0_holds, y0_again, y0_shown, x0_passed⟩ : RepP) x1).1).passed)))) (fun _ q => q) ?_
  refine s_pure (.bool (!(decide (((rgOut (⟨y0_phase, y0_holds, y0_again, y0_shown, x0_passed⟩ : RepP) x1).1).phase = ((rgOut (⟨y0_phase, y0_holds, y0_again, y0_shown, x0_passed⟩ : RepP) x1).1).phase ∧ ((rgOut (⟨y0_phase, y0_holds, y0_again, y0_shown, x0_passed⟩ : RepP) x1).1).holds = ((rgOut (⟨y0_phase, y0_holds, y0_again, y0_shown, x0_passed⟩ : RepP) x1).1).holds ∧ ((rgOut (⟨y0_phase, y0_holds, y0_again, y0_shown, x0_passed⟩ : RepP) x1).1).again = ((rgOut (⟨y0_phase, y0_holds, y0_again, y0_shown, x0_passed⟩ : RepP) x1).1).again ∧ ((rgOut (⟨y0_phase, y0_holds, y0_again, y0_shown, x0_passed⟩ : RepP) x1).1).shown = ((rgOut (⟨y0_phase, y0_holds, y0_again, y0_shown, x0_passed⟩ : RepP) x1).1).shown ∧ ((rgOut (⟨y0_phase, y0_holds, y0_again, y0_shown, x0_passed⟩ : RepP) x1).1).passed = ((rgOut (⟨y0_phase, y0_holds, y0_again, y0_shown, x0_passed⟩ : RepP) x1).1).passed)))) (fun _ q => q) ?_
  refine s_splitN rfl (by first | assumption | omega | (simp; done) | (simp; omega) | simp_all) ?_
  refine s_run rfl ?_
  refine s_pure (.bool ((rgOut (⟨y0_phase, y0_holds, y0_again, y0_shown, x0_passed⟩ : RepP) x1).2)) (fun _ q => q) ?_
  refine s_run rfl ?_
  refine s_pure (.bool ((rgOut (⟨y0_phase, y0_holds, y0_again, y0_shown, x0_passed⟩ : RepP) x1).2)) (fun _ q => q) ?_
  refine s_run rfl ?_
  refine s_pure (.bool ((rgOut (⟨y0_phase, y0_holds, y0_again, y0_shown, x0_passed⟩ : RepP) x1).2 != (rgOut (⟨y0_phase, y0_holds, y0_again, y0_shown, x0_passed⟩ : RepP) x1).2)) (fun _ q => q) ?_
  refine s_pure (.bool ((rgOut (⟨y0_phase, y0_holds, y0_again, y0_shown, x0_passed⟩ : RepP) x1).2 != (rgOut (⟨y0_phase, y0_holds, y0_again, y0_shown, x0_passed⟩ : RepP) x1).2)) (fun _ q => q) ?_
  refine s_nil ?_
  refine p_seqN ?_
  refine v_condN rfl (by first | assumption | omega | (simp; done) | (simp; omega) | simp_all) ?_
  refine v_skip ?_
  refine p_seqN ?_
  refine v_seq ?_
  refine v_ops ?_
  refine s_pure (.int .i64 1) (fun _ q => q) ?_
  refine s_nil ?_
  refine p_seqN ?_
  refine v_seq ?_
  refine v_ops ?_
  have f117 := (f110.ext eh114)
  refine s_load (.agg #[.int .i64 (((rgOut (⟨y0_phase, y0_holds, y0_again, y0_shown, x0_passed⟩ : RepP) x1).1).phase), .int .i64 (((rgOut (⟨y0_phase, y0_holds, y0_again, y0_shown, x0_passed⟩ : RepP) x1).1).holds), .int .i64 (((rgOut (⟨y0_phase, y0_holds, y0_again, y0_shown, x0_passed⟩ : RepP) x1).1).again), .int .i64 (((rgOut (⟨y0_phase, y0_holds, y0_again, y0_shown, x0_passed⟩ : RepP) x1).1).shown), r62]) (fun _ q => f117.loadA rfl q) ?_
  refine s_pure (.int .i64 1) (fun _ q => q) ?_
  have f118 := (f112.ext eh114)
  refine s_call [.agg #[.int .i64 (((rgOut (⟨y0_phase, y0_holds, y0_again, y0_shown, x0_passed⟩ : RepP) x1).1).phase), .int .i64 (((rgOut (⟨y0_phase, y0_holds, y0_again, y0_shown, x0_passed⟩ : RepP) x1).1).holds), .int .i64 (((rgOut (⟨y0_phase, y0_holds, y0_again, y0_shown, x0_passed⟩ : RepP) x1).1).again), .int .i64 (((rgOut (⟨y0_phase, y0_holds, y0_again, y0_shown, x0_passed⟩ : RepP) x1).1).shown), r62], .int .i64 1] rfl (markRepeater_ok (((rgOut (⟨y0_phase, y0_holds, y0_again, y0_shown, x0_passed⟩ : RepP) x1).1).phase) (((rgOut (⟨y0_phase, y0_holds, y0_again, y0_shown, x0_passed⟩ : RepP) x1).1).holds) (((rgOut (⟨y0_phase, y0_holds, y0_again, y0_shown, x0_passed⟩ : RepP) x1).1).again) (((rgOut (⟨y0_phase, y0_holds, y0_again, y0_shown, x0_passed⟩ : RepP) x1).1).shown) r62 (((rgOut (⟨y0_phase, y0_holds, y0_again, y0_shown, x0_passed⟩ : RepP) x1).1).passed) (1) _ f118 (by omega) (by omega) (by omega)) ?_
  rintro _ h119 ⟨rfl, mk120, mh119, zh119⟩
  have E121 := E115.mod mh119 (fun b hb => by have := fr_r62 b hb; omega)
  refine s_pure (.int .i64 (1 + (((rgOut (⟨y0_phase, y0_holds, y0_again, y0_shown, x0_passed⟩ : RepP) x1).1).passed.length : Int))) (fun _ q => q) ?_
  refine s_nil ?_
  refine p_seqN ?_
  refine v_seq ?_
  refine v_ops ?_
  refine s_pure (.int .i64 1) (fun _ q => q) ?_
  refine s_nil ?_
  refine p_seqN ?_
  refine v_seq ?_
  refine v_ops ?_
  have f122 := (f117.mod mh119 (fun hc => by have := lt_r62 _ hc; omega))
  refine s_load (.agg #[.int .i64 (((rgOut (⟨y0_phase, y0_holds, y0_again, y0_shown, x0_passed⟩ : RepP) x1).1).phase), .int .i64 (((rgOut (⟨y0_phase, y0_holds, y0_again, y0_shown, x0_passed⟩ : RepP) x1).1).holds), .int .i64 (((rgOut (⟨y0_phase, y0_holds, y0_again, y0_shown, x0_passed⟩ : RepP) x1).1).again), .int .i64 (((rgOut (⟨y0_phase, y0_holds, y0_again, y0_shown, x0_passed⟩ : RepP) x1).1).shown), r62]) (fun _ q => f122.loadA rfl q) ?_
  refine s_pure (.int .i64 1) (fun _ q => q) ?_
  refine s_call [.agg #[.int .i64 (((rgOut (⟨y0_phase, y0_holds, y0_again, y0_shown, x0_passed⟩ : RepP) x1).1).phase), .int .i64 (((rgOut (⟨y0_phase, y0_holds, y0_again, y0_shown, x0_passed⟩ : RepP) x1).1).holds), .int .i64 (((rgOut (⟨y0_phase, y0_holds, y0_again, y0_shown, x0_passed⟩ : RepP) x1).1).again), .int .i64 (((rgOut (⟨y0_phase, y0_holds, y0_again, y0_shown, x0_passed⟩ : RepP) x1).1).shown), r62], .int .i64 1] rfl (heldRepeater_ok (((rgOut (⟨y0_phase, y0_holds, y0_again, y0_shown, x0_passed⟩ : RepP) x1).1).phase) (((rgOut (⟨y0_phase, y0_holds, y0_again, y0_shown, x0_passed⟩ : RepP) x1).1).holds) (((rgOut (⟨y0_phase, y0_holds, y0_again, y0_shown, x0_passed⟩ : RepP) x1).1).again) (((rgOut (⟨y0_phase, y0_holds, y0_again, y0_shown, x0_passed⟩ : RepP) x1).1).shown) _ _ (1) _ mk120.toSl (by omega) (by omega) (by omega)) ?_
  rintro _ h123 ⟨rfl, eh123⟩
  have E124 := E121.trans eh123
  have z125 := eh123.size
  refine s_pure (.int .i64 (1 + (((rgOut (⟨y0_phase, y0_holds, y0_again, y0_shown, x0_passed⟩ : RepP) x1).1).passed.length : Int))) (fun _ q => q) ?_
  refine s_nil ?_
  refine p_seqN ?_
  refine v_seq ?_
  refine v_seq ?_
  refine v_ops ?_
  refine s_pure (.int .i64 (1 + (((rgOut (⟨y0_phase, y0_holds, y0_again, y0_shown, x0_passed⟩ : RepP) x1).1).passed.length : Int))) (fun _ q => q) ?_
  refine s_pure (.bool (decide ((1 + (((rgOut (⟨y0_phase, y0_holds, y0_again, y0_shown, x0_passed⟩ : RepP) x1).1).passed.length : Int)) < 0))) (fun _ q => q) ?_
  refine s_nil ?_
  refine p_seqN ?_
  refine v_condN rfl (by first | assumption | omega | (simp; done) | (simp; omega) | simp_all) ?_
  refine v_skip ?_
  refine p_seqN ?_
  refine v_seq ?_
  refine v_seq ?_
  refine v_ops ?_
  refine s_pure (.int .i64 (1 + (((rgOut (⟨y0_phase, y0_holds, y0_again, y0_shown, x0_passed⟩ : RepP) x1).1).passed.length : Int))) (fun _ q => q) ?_
  refine s_pure (.int .i64 (1 + (((rgOut (⟨y0_phase, y0_holds, y0_again, y0_shown, x0_passed⟩ : RepP) x1).1).passed.length : Int))) (fun _ q => q) ?_
  refine s_pure (.bool ((1 + (((rgOut (⟨y0_phase, y0_holds, y0_again, y0_shown, x0_passed⟩ : RepP) x1).1).passed.length : Int)) != (1 + (((rgOut (⟨y0_phase, y0_holds, y0_again, y0_shown, x0_passed⟩ : RepP) x1).1).passed.length : Int)))) (fun _ q => q) ?_
  refine s_nil ?_
  refine p_seqN ?_
  refine v_condN rfl (by first | assumption | omega | (simp; done) | (simp; omega) | simp_all) ?_
  refine v_skip ?_
  refine p_seqN ?_
  refine v_seq ?_
  refine v_ops ?_
  have f126 := (((((((((f80.ext eh82).ext eh88).ext eh93).ext eh98).mod mh103 (fr_r45.out (by omega))).mod mh107 (fr_r57.out (by omega))).ext eh114).mod mh119 (fr_r62.out (by omega))).ext eh123)
  refine s_load (.agg #[.int .i64 y0_phase, .int .i64 y0_holds, .int .i64 y0_again, .int .i64 y0_shown, y0_passed.v]) (fun _ q => f126.loadA rfl q) ?_
  have f127 := (((((((((f81.ext eh82).ext eh88).ext eh93).ext eh98).mod mh103 (fr_r45.apart (fun b hb => by have := lt_v0_passed b hb; omega))).mod mh107 (fr_r57.apart (fun b hb => by have := lt_v0_passed b hb; omega))).ext eh114).mod mh119 (fr_r62.apart (fun b hb => by have := lt_v0_passed b hb; omega))).ext eh123)
  refine s_call [.agg #[.int .i64 y0_phase, .int .i64 y0_holds, .int .i64 y0_again, .int .i64 y0_shown, y0_passed.v]] rfl (toRepeater_ok y0_phase y0_holds y0_again y0_shown y0_passed.v x0_passed _ f127 bd11) ?_
  rintro _ h128 ⟨r129, rfl, s_r129, eh128, fr_r129⟩
  have E130 := E124.trans eh128
  have z131 := eh128.size
  have lt_r129 := s_r129.lt
  refine s_pure v1 (fun _ q => q) ?_
  have f132 := ((((((((f92.ext eh93).ext eh98).mod mh103 (fr_r45.apart (fun b hb => by have := lt_v1 b hb; omega))).mod mh107 (fr_r57.apart (fun b hb => by have := lt_v1 b hb; omega))).ext eh114).mod mh119 (fr_r62.apart (fun b hb => by have := lt_v1 b hb; omega))).ext eh123).ext eh128)
  refine s_call [v1] rfl (toGlanceS_ok v1 x1 _ f132 bd18) ?_
  rintro r134 h133 ⟨s_r134, eh133, fr_r134⟩
  have E135 := E130.trans eh133
  have z136 := eh133.size
  have lt_r134 := s_r134.lt
  have f137 := (s_r129.ext eh133)
  refine s_call [.agg #[.int .i64 y0_phase, .int .i64 y0_holds, .int .i64 y0_again, .int .i64 y0_shown, r129], r134] rfl (impl_RunGlances_ok (⟨y0_phase, y0_holds, y0_again, y0_shown, x0_passed⟩ : RepP) r129 r134 x1 _ f137.toSl s_r134.toSl) ?_
  rintro _ h139 ⟨r138, rfl, s_r138, fr_r138, eh139⟩
  have E140 := E135.trans eh139
  have z141 := eh139.size
  have lt_r138 := s_r138.lt
  refine s_pure (.tuple #[.agg #[.int .i64 (((rgOut (⟨y0_phase, y0_holds, y0_again, y0_shown, x0_passed⟩ : RepP) x1).1).phase), .int .i64 (((rgOut (⟨y0_phase, y0_holds, y0_again, y0_shown, x0_passed⟩ : RepP) x1).1).holds), .int .i64 (((rgOut (⟨y0_phase, y0_holds, y0_again, y0_shown, x0_passed⟩ : RepP) x1).1).again), .int .i64 (((rgOut (⟨y0_phase, y0_holds, y0_again, y0_shown, x0_passed⟩ : RepP) x1).1).shown), r138], .bool ((rgOut (⟨y0_phase, y0_holds, y0_again, y0_shown, x0_passed⟩ : RepP) x1).2)]) (fun _ q => q) ?_
  refine s_pure (.agg #[.int .i64 (((rgOut (⟨y0_phase, y0_holds, y0_again, y0_shown, x0_passed⟩ : RepP) x1).1).phase), .int .i64 (((rgOut (⟨y0_phase, y0_holds, y0_again, y0_shown, x0_passed⟩ : RepP) x1).1).holds), .int .i64 (((rgOut (⟨y0_phase, y0_holds, y0_again, y0_shown, x0_passed⟩ : RepP) x1).1).again), .int .i64 (((rgOut (⟨y0_phase, y0_holds, y0_again, y0_shown, x0_passed⟩ : RepP) x1).1).shown), r138]) (fun _ q => q) ?_
  refine s_pure (.bool ((rgOut (⟨y0_phase, y0_holds, y0_again, y0_shown, x0_passed⟩ : RepP) x1).2)) (fun _ q => q) ?_
  refine s_new (fun h143 b142 hbb142 hzb142 eh143 bxb142 => ?_)
  have E144 := E140.trans eh143
  have z145 := eh143.size
  have lbb142 := bxb142.lt
  refine s_stBx (.agg #[.int .i64 (((rgOut (⟨y0_phase, y0_holds, y0_again, y0_shown, x0_passed⟩ : RepP) x1).1).phase), .int .i64 (((rgOut (⟨y0_phase, y0_holds, y0_again, y0_shown, x0_passed⟩ : RepP) x1).1).holds), .int .i64 (((rgOut (⟨y0_phase, y0_holds, y0_again, y0_shown, x0_passed⟩ : RepP) x1).1).again), .int .i64 (((rgOut (⟨y0_phase, y0_holds, y0_again, y0_shown, x0_passed⟩ : RepP) x1).1).shown), r138]) [.int .i64 (((rgOut (⟨y0_phase, y0_holds, y0_again, y0_shown, x0_passed⟩ : RepP) x1).1).phase), .int .i64 (((rgOut (⟨y0_phase, y0_holds, y0_again, y0_shown, x0_passed⟩ : RepP) x1).1).holds), .int .i64 (((rgOut (⟨y0_phase, y0_holds, y0_again, y0_shown, x0_passed⟩ : RepP) x1).1).again), .int .i64 (((rgOut (⟨y0_phase, y0_holds, y0_again, y0_shown, x0_passed⟩ : RepP) x1).1).shown), r138] [.int .i64 (((rgOut (⟨y0_phase, y0_holds, y0_again, y0_shown, x0_passed⟩ : RepP) x1).1).phase), .int .i64 (((rgOut (⟨y0_phase, y0_holds, y0_again, y0_shown, x0_passed⟩ : RepP) x1).1).holds), .int .i64 (((rgOut (⟨y0_phase, y0_holds, y0_again, y0_shown, x0_passed⟩ : RepP) x1).1).again), .int .i64 (((rgOut (⟨y0_phase, y0_holds, y0_again, y0_shown, x0_passed⟩ : RepP) x1).1).shown), r138] bxb142 rfl rfl rfl rfl (by simp) (all_cons rfl (all_cons rfl (all_cons rfl (all_cons rfl (all_cons s_r138.one1 all_nil))))) rfl (fun h146 mh146 sh146 bxx147 => ?_)
  have E148 := E144.mod mh146 (fun b hb => by simp at hb; omega)
  refine s_pure (.bool ((rgOut (⟨y0_phase, y0_holds, y0_again, y0_shown, x0_passed⟩ : RepP) x1).2)) (fun _ q => q) ?_
  refine s_nil ?_
  refine p_seqN ?_
  refine v_seq ?_
  refine v_seq ?_
  refine v_ops ?_
  refine s_load (.agg #[.int .i64 (((rgOut (⟨y0_phase, y0_holds, y0_again, y0_shown, x0_passed⟩ : RepP) x1).1).phase), .int .i64 (((rgOut (⟨y0_phase, y0_holds, y0_again, y0_shown, x0_passed⟩ : RepP) x1).1).holds), .int .i64 (((rgOut (⟨y0_phase, y0_holds, y0_again, y0_shown, x0_passed⟩ : RepP) x1).1).again), .int .i64 (((rgOut (⟨y0_phase, y0_holds, y0_again, y0_shown, x0_passed⟩ : RepP) x1).1).shown), r138]) (fun _ q => bxx147.loadA rfl q) ?_
  have f149 := ((((((((f111.ext eh114).mod mh119 (fr_r62.out (by omega))).ext eh123).ext eh128).ext eh133).ext eh139).ext eh143).mod mh146 (by simp; omega))
  refine s_load (.agg #[.int .i64 (((rgOut (⟨y0_phase, y0_holds, y0_again, y0_shown, x0_passed⟩ : RepP) x1).1).phase), .int .i64 (((rgOut (⟨y0_phase, y0_holds, y0_again, y0_shown, x0_passed⟩ : RepP) x1).1).holds), .int .i64 (((rgOut (⟨y0_phase, y0_holds, y0_again, y0_shown, x0_passed⟩ : RepP) x1).1).again), .int .i64 (((rgOut (⟨y0_phase, y0_holds, y0_again, y0_shown, x0_passed⟩ : RepP) x1).1).shown), r31]) (fun _ q => f149.loadA rfl q) ?_
  have f150 := ((s_r138.ext eh143).mod mh146 (fun b hb hc => by simp at hc; have := lt_r138 b hb; omega))
  have f151 := ((((((((f113.ext eh114).mod mh119 (fr_r62.apart (fun b hb => by have := lt_r31 b hb; omega))).ext eh123).ext eh128).ext eh133).ext eh139).ext eh143).mod mh146 (fun b hb hc => by simp at hc; have := lt_r31 b hb; omega))
  refine s_call [.agg #[.int .i64 (((rgOut (⟨y0_phase, y0_holds, y0_again, y0_shown, x0_passed⟩ : RepP) x1).1).phase), .int .i64 (((rgOut (⟨y0_phase, y0_holds, y0_again, y0_shown, x0_passed⟩ : RepP) x1).1).holds), .int .i64 (((rgOut (⟨y0_phase, y0_holds, y0_again, y0_shown, x0_passed⟩ : RepP) x1).1).again), .int .i64 (((rgOut (⟨y0_phase, y0_holds, y0_again, y0_shown, x0_passed⟩ : RepP) x1).1).shown), r138], .agg #[.int .i64 (((rgOut (⟨y0_phase, y0_holds, y0_again, y0_shown, x0_passed⟩ : RepP) x1).1).phase), .int .i64 (((rgOut (⟨y0_phase, y0_holds, y0_again, y0_shown, x0_passed⟩ : RepP) x1).1).holds), .int .i64 (((rgOut (⟨y0_phase, y0_holds, y0_again, y0_shown, x0_passed⟩ : RepP) x1).1).again), .int .i64 (((rgOut (⟨y0_phase, y0_holds, y0_again, y0_shown, x0_passed⟩ : RepP) x1).1).shown), r31]] rfl (eqRepeater_ok (((rgOut (⟨y0_phase, y0_holds, y0_again, y0_shown, x0_passed⟩ : RepP) x1).1).phase) (((rgOut (⟨y0_phase, y0_holds, y0_again, y0_shown, x0_passed⟩ : RepP) x1).1).holds) (((rgOut (⟨y0_phase, y0_holds, y0_again, y0_shown, x0_passed⟩ : RepP) x1).1).again) (((rgOut (⟨y0_phase, y0_holds, y0_again, y0_shown, x0_passed⟩ : RepP) x1).1).shown) r138 (((rgOut (⟨y0_phase, y0_holds, y0_again, y0_shown, x0_passed⟩ : RepP) x1).1).passed) (((rgOut (⟨y0_phase, y0_holds, y0_again, y0_shown, x0_passed⟩ : RepP) x1).1).phase) (((rgOut (⟨y0_phase, y0_holds, y0_again, y0_shown, x0_passed⟩ : RepP) x1).1).holds) (((rgOut (⟨y0_phase, y0_holds, y0_again, y0_shown, x0_passed⟩ : RepP) x1).1).again) (((rgOut (⟨y0_phase, y0_holds, y0_again, y0_shown, x0_passed⟩ : RepP) x1).1).shown) r31 (((rgOut (⟨y0_phase, y0_holds, y0_again, y0_shown, x0_passed⟩ : RepP) x1).1).passed) _ f150.toSl f151.toSl) ?_
  rintro _ h152 ⟨rfl, eh152⟩
  have E153 := E148.trans eh152
  have z154 := eh152.size
  refine s_pure (.bool (!(decide (((rgOut (⟨y0_phase, y0_holds, y0_again, y0_shown, x0_passed⟩ : RepP) x1).1).phase = ((rgOut (⟨y0_phase, y0_holds, y0_again, y0_shown, x0_passed⟩ : RepP) x1).1).phase ∧ ((rgOut (⟨y0_phase, y0_holds, y0_again, y0_shown, x0_passed⟩ : RepP) x1).1).holds = ((rgOut (⟨y0_phase, y0_holds, y0_again, y0_shown, x0_passed⟩ : RepP) x1).1).holds ∧ ((rgOut (⟨y0_phase, y0_holds, y0_again, y0_shown, x0_passed⟩ : RepP) x1).1).again = ((rgOut (⟨y0_phase, y0_holds, y0_again, y0_shown, x0_passed⟩ : RepP) x1).1).again ∧ ((rgOut (⟨y0_phase, y0_holds, y0_again, y0_shown, x0_passed⟩ : RepP) x1).1).shown = ((rgOut (⟨y0_phase, y0_holds, y0_again, y0_shown, x0_passed⟩ : RepP) x1).1).shown ∧ ((rgOut (⟨y0_phase, y0_holds, y0_again, y0_shown, x0_passed⟩ : RepP) x1).1).passed = ((rgOut (⟨y0_phase, y0_holds, y0_again, y0_shown, x0_passed⟩ : RepP) x1).1).passed)))) (fun _ q => q) ?_
  refine s_pure (.bool (!(decide (((rgOut (⟨y0_phase, y0_holds, y0_again, y0_shown, x0_passed⟩ : RepP) x1).1).phase = ((rgOut (⟨y0_phase, y0_holds, y0_again, y0_shown, x0_passed⟩ : RepP) x1).1).phase ∧ ((rgOut (⟨y0_phase, y0_holds, y0_again, y0_shown, x0_passed⟩ : RepP) x1).1).holds = ((rgOut (⟨y0_phase, y0_holds, y0_again, y0_shown, x0_passed⟩ : RepP) x1).1).holds ∧ ((rgOut (⟨y0_phase, y0_holds, y0_again, y0_shown, x0_passed⟩ : RepP) x1).1).again = ((rgOut (⟨y0_phase, y0_holds, y0_again, y0_shown, x0_passed⟩ : RepP) x1).1).again ∧ ((rgOut (⟨y0_phase, y0_holds, y0_again, y0_shown, x0_passed⟩ : RepP) x1).1).shown = ((rgOut (⟨y0_phase, y0_holds, y0_again, y0_shown, x0_passed⟩ : RepP) x1).1).shown ∧ ((rgOut (⟨y0_phase, y0_holds, y0_again, y0_shown, x0_passed⟩ : RepP) x1).1).passed = ((rgOut (⟨y0_phase, y0_holds, y0_again, y0_shown, x0_passed⟩ : RepP) x1).1).passed)))) (fun _ q => q) ?_
  refine s_splitN rfl (by first | assumption | omega | (simp; done) | (simp; omega) | simp_all) ?_
  refine s_run rfl ?_
  refine s_pure (.bool ((rgOut (⟨y0_phase, y0_holds, y0_again, y0_shown, x0_passed⟩ : RepP) x1).2)) (fun _ q => q) ?_
  refine s_run rfl ?_
  refine s_pure (.bool ((rgOut (⟨y0_phase, y0_holds, y0_again, y0_shown, x0_passed⟩ : RepP) x1).2)) (fun _ q => q) ?_
  refine s_run rfl ?_
  refine s_pure (.bool ((rgOut (⟨y0_phase, y0_holds, y0_again, y0_shown, x0_passed⟩ : RepP) x1).2 != (rgOut (⟨y0_phase, y0_holds, y0_again, y0_shown, x0_passed⟩ : RepP) x1).2)) (fun _ q => q) ?_
  refine s_pure (.bool ((rgOut (⟨y0_phase, y0_holds, y0_again, y0_shown, x0_passed⟩ : RepP) x1).2 != (rgOut (⟨y0_phase, y0_holds, y0_again, y0_shown, x0_passed⟩ : RepP) x1).2)) (fun _ q => q) ?_
  refine s_nil ?_
  refine p_seqN ?_
  refine v_condN rfl (by first | assumption | omega | (simp; done) | (simp; omega) | simp_all) ?_
  refine v_skip ?_
  refine p_seqN ?_
  refine v_seq ?_
  refine v_ops ?_
  refine s_pure (.int .i64 1) (fun _ q => q) ?_
  refine s_nil ?_
  refine p_seqN ?_
  refine v_seq ?_
  refine v_ops ?_
  have f155 := (((((((f122.ext eh123).ext eh128).ext eh133).ext eh139).ext eh143).mod mh146 (by simp; omega)).ext eh152)
  refine s_load (.agg #[.int .i64 (((rgOut (⟨y0_phase, y0_holds, y0_again, y0_shown, x0_passed⟩ : RepP) x1).1).phase), .int .i64 (((rgOut (⟨y0_phase, y0_holds, y0_again, y0_shown, x0_passed⟩ : RepP) x1).1).holds), .int .i64 (((rgOut (⟨y0_phase, y0_holds, y0_again, y0_shown, x0_passed⟩ : RepP) x1).1).again), .int .i64 (((rgOut (⟨y0_phase, y0_holds, y0_again, y0_shown, x0_passed⟩ : RepP) x1).1).shown), r62]) (fun _ q => f155.loadA rfl q) ?_
  refine s_pure (.int .i64 1) (fun _ q => q) ?_
  have f156 := (((((((mk120.ext eh123).ext eh128).ext eh133).ext eh139).ext eh143).mod mh146 (fun b hb hc => by simp at hc; have := lt_r62 b hb; omega)).ext eh152)
  refine s_call [.agg #[.int .i64 (((rgOut (⟨y0_phase, y0_holds, y0_again, y0_shown, x0_passed⟩ : RepP) x1).1).phase), .int .i64 (((rgOut (⟨y0_phase, y0_holds, y0_again, y0_shown, x0_passed⟩ : RepP) x1).1).holds), .int .i64 (((rgOut (⟨y0_phase, y0_holds, y0_again, y0_shown, x0_passed⟩ : RepP) x1).1).again), .int .i64 (((rgOut (⟨y0_phase, y0_holds, y0_again, y0_shown, x0_passed⟩ : RepP) x1).1).shown), r62], .int .i64 1] rfl (heldRepeater_ok (((rgOut (⟨y0_phase, y0_holds, y0_again, y0_shown, x0_passed⟩ : RepP) x1).1).phase) (((rgOut (⟨y0_phase, y0_holds, y0_again, y0_shown, x0_passed⟩ : RepP) x1).1).holds) (((rgOut (⟨y0_phase, y0_holds, y0_again, y0_shown, x0_passed⟩ : RepP) x1).1).again) (((rgOut (⟨y0_phase, y0_holds, y0_again, y0_shown, x0_passed⟩ : RepP) x1).1).shown) _ _ (1) _ f156.toSl (by omega) (by omega) (by omega)) ?_
  rintro _ h157 ⟨rfl, eh157⟩
  have E158 := E153.trans eh157
  have z159 := eh157.size
  refine s_pure (.int .i64 (1 + (((rgOut (⟨y0_phase, y0_holds, y0_again, y0_shown, x0_passed⟩ : RepP) x1).1).passed.length : Int))) (fun _ q => q) ?_
  refine s_nil ?_
  refine p_seqN ?_
  refine v_seq ?_
  refine v_seq ?_
  refine v_ops ?_
  refine s_pure (.int .i64 (1 + (((rgOut (⟨y0_phase, y0_holds, y0_again, y0_shown, x0_passed⟩ : RepP) x1).1).passed.length : Int))) (fun _ q => q) ?_
  refine s_pure (.bool (decide ((1 + (((rgOut (⟨y0_phase, y0_holds, y0_again, y0_shown, x0_passed⟩ : RepP) x1).1).passed.length : Int)) < 0))) (fun _ q => q) ?_
  refine s_nil ?_
  refine p_seqN ?_
  refine v_condN rfl (by first | assumption | omega | (simp; done) | (simp; omega) | simp_all) ?_
  refine v_skip ?_
  refine p_seqN ?_
  refine v_seq ?_
  refine v_seq ?_
  refine v_ops ?_
  refine s_pure (.int .i64 (1 + (((rgOut (⟨y0_phase, y0_holds, y0_again, y0_shown, x0_passed⟩ : RepP) x1).1).passed.length : Int))) (fun _ q => q) ?_
  refine s_pure (.int .i64 (1 + (((rgOut (⟨y0_phase, y0_holds, y0_again, y0_shown, x0_passed⟩ : RepP) x1).1).passed.length : Int))) (fun _ q => q) ?_
  refine s_pure (.bool ((1 + (((rgOut (⟨y0_phase, y0_holds, y0_again, y0_shown, x0_passed⟩ : RepP) x1).1).passed.length : Int)) != (1 + (((rgOut (⟨y0_phase, y0_holds, y0_again, y0_shown, x0_passed⟩ : RepP) x1).1).passed.length : Int)))) (fun _ q => q) ?_
  refine s_nil ?_
  refine p_seqN ?_
  refine v_condN rfl (by first | assumption | omega | (simp; done) | (simp; omega) | simp_all) ?_
  refine v_skip ?_
  refine p_seqN ?_
  refine v_seq ?_
  refine v_ops ?_
  refine s_pure (.bool true) (fun _ q => q) ?_
  refine s_nil ?_
  refine p_seqN ?_
  refine v_ret ?_
  refine p_ret [.bool true] (.bool true) (fun _ q => q) rfl ?_
  exact ⟨rfl, E158⟩
end Go.Proofs.Ytgfokmjnfaopaaa.finFnExactRunGlances
