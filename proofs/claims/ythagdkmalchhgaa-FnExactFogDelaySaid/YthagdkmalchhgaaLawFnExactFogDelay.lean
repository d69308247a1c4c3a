/- The law FnExactFogDelay: its text returns true. Condition: none. Printed by a program. -/
import Derived.Test.YthagdkmalchhgaaRo9
import Derived.Test.YthagdkmalchhgaaTypes
namespace Go.Proofs.Ythagdkmalchhgaa.finFnExactFogDelay
open Go.Vc
set_option linter.all false
set_option maxRecDepth 100000 in
set_option maxHeartbeats 2000000 in
theorem law_ok (h : Heap) (x0 : NetD) (w0 : NetD.good h x0) (v1 : Value) (x1 : List FogD) (s_v1 : Sl h v1 x1) (_ : ∀ y ∈ x1, FogD.good h y) (x2 : Int) (b_x2 : I64 x2) (x3 : Int) (b_x3 : I64 x3) (x4 : Int) (b_x4 : I64 x4) : Cn f_laws_FnExactFogDelay [x0.val, v1, .int .i64 x2, .int .i64 x3, .int .i64 x4] h fun v h' => v = .bool true ∧ Ext h h' := by
  obtain ⟨y0_towers, y0_links⟩ := x0
  obtain ⟨⟨x0_towers, s_v0_towers, _⟩, ⟨x0_links, s_v0_links, _⟩⟩ := w0
  change Sl h y0_towers.v x0_towers at s_v0_towers
  have lt_v0_towers := s_v0_towers.lt
  change Sl h y0_links.v x0_links at s_v0_links
  have lt_v0_links := s_v0_links.lt
  have lt_v1 := s_v1.lt
  unfold I64 at b_x2
  unfold I64 at b_x3
  unfold I64 at b_x4
  refine calls_of r_laws_FnExactFogDelay ?_
  refine v_seq ?_
  refine v_ops ?_
  refine s_box [y0_towers.v, y0_links.v] rfl (fun h2 b1 hbb1 hzb1 eh2 bxb1 => ?_)
  have E3 := (Ext.refl h).trans eh2
  have z4 := eh2.size
  have lbb1 := bxb1.lt
  refine s_pure (.bool false) (fun _ q => q) ?_
  refine s_nil ?_
  refine p_seqN ?_
  refine v_seq ?_
  refine v_ops ?_
  refine s_pure (.int .i64 1048576) (fun _ q => q) ?_
  refine s_nil ?_
  refine p_seqN ?_
  refine v_seq ?_
  refine v_ops ?_
  refine s_load (.agg #[y0_towers.v, y0_links.v]) (fun _ q => bxb1.loadA rfl q) ?_
  refine s_pure (.int .i64 1048576) (fun _ q => q) ?_
  have f5 := (s_v0_towers.ext eh2)
  have f6 := (s_v0_links.ext eh2)
  refine s_call [.agg #[y0_towers.v, y0_links.v], .int .i64 1048576] rfl (szNet_ok y0_towers.v x0_towers y0_links.v x0_links 1048576 _ f5 f6 (by omega) (by omega)) ?_
  rintro _ h7 ⟨n8, rfl, eh7, hmn8, hkn8⟩
  have E9 := E3.trans eh7
  have z10 := eh7.size
  refine s_pure (.int .i64 n8) (fun _ q => q) ?_
  refine s_nil ?_
  refine p_seqN ?_
  refine v_seq ?_
  refine v_seq ?_
  refine v_ops ?_
  refine s_pure (.int .i64 n8) (fun _ q => q) ?_
  refine s_pure (.bool (decide (n8 < 0))) (fun _ q => q) ?_
  refine s_nil ?_
  refine p_seqN ?_
  refine v_cond rfl (fun c11 => ?_) (fun c11 => ?_)
  ·
    refine v_seq ?_
    refine v_ops ?_
    refine s_pure (.bool true) (fun _ q => q) ?_
    refine s_nil ?_
    refine p_seqN ?_
    refine v_ret ?_
    refine p_seqR ?_
    refine p_ret [.bool true] (.bool true) (fun _ q => q) rfl ?_
    exact ⟨rfl, E9⟩
  obtain ⟨hmn8, hkn8⟩ := And.intro (hmn8 (by omega)) hkn8
  have bd12 : x0_towers.length ≤ 1048576 := by omega
  have bd13 : x0_links.length ≤ 1048576 := by omega
  refine v_skip ?_
  refine p_seqN ?_
  refine v_seq ?_
  refine v_ops ?_
  refine s_pure v1 (fun _ q => q) ?_
  refine s_pure (.int .i64 n8) (fun _ q => q) ?_
  have f14 := ((s_v1.ext eh2).ext eh7)
  refine s_call [v1, .int .i64 n8] rfl (szFogS_ok v1 x1 n8 _ f14 (by omega) (by omega)) ?_
  rintro _ h15 ⟨n16, rfl, eh15, hmn16, hkn16⟩
  have E17 := E9.trans eh15
  have z18 := eh15.size
  refine s_pure (.int .i64 n16) (fun _ q => q) ?_
  refine s_nil ?_
  refine p_seqN ?_
  refine v_seq ?_
  refine v_seq ?_
  refine v_ops ?_
  refine s_pure (.int .i64 n16) (fun _ q => q) ?_
  refine s_pure (.bool (decide (n16 < 0))) (fun _ q => q) ?_
  refine s_nil ?_
  refine p_seqN ?_
  refine v_cond rfl (fun c19 => ?_) (fun c19 => ?_)
  ·
    refine v_seq ?_
    refine v_ops ?_
    refine s_pure (.bool true) (fun _ q => q) ?_
    refine s_nil ?_
    refine p_seqN ?_
    refine v_ret ?_
    refine p_seqR ?_
    refine p_ret [.bool true] (.bool true) (fun _ q => q) rfl ?_
    exact ⟨rfl, E17⟩
  obtain ⟨hmn16, hkn16⟩ := And.intro (hmn16 (by omega)) hkn16
  have bd20 : x1.length ≤ 1048576 := by omega
  refine v_skip ?_
  refine p_seqN ?_
  refine v_seq ?_
  refine v_ops ?_
  have f21 := ((bxb1.ext eh7).ext eh15)
  refine s_load (.agg #[y0_towers.v, y0_links.v]) (fun _ q => f21.loadA rfl q) ?_
  have f22 := ((f5.ext eh7).ext eh15)
  have f23 := ((f6.ext eh7).ext eh15)
  refine s_call [.agg #[y0_towers.v, y0_links.v]] rfl (toNet_ok y0_towers.v x0_towers y0_links.v x0_links _ f22 f23 bd12 bd13) ?_
  rintro _ h24 ⟨r25, r26, rfl, s_r25, s_r26, eh24, fr_r25, fr_r26, ap_r25⟩
  have E27 := E17.trans eh24
  have z28 := eh24.size
  have lt_r25 := s_r25.lt
  have lt_r26 := s_r26.lt
  refine s_pure v1 (fun _ q => q) ?_
  have f29 := ((f14.ext eh15).ext eh24)
  refine s_call [v1] rfl (toFogS_ok v1 x1 _ f29 bd20) ?_
  rintro r31 h30 ⟨_, rfl, s_r31, fr_r31, eh30⟩
  have E32 := E27.trans eh30
  have z33 := eh30.size
  have lt_r31 := s_r31.lt
  refine s_pure (.int .i64 x2) (fun _ q => q) ?_
  refine s_pure (.int .i64 x3) (fun _ q => q) ?_
  refine s_pure (.int .i64 x4) (fun _ q => q) ?_
  have f34 := (s_r25.ext eh30)
  have f35 := (s_r26.ext eh30)
  refine s_call [.agg #[r25, r26], r31, .int .i64 x2, .int .i64 x3, .int .i64 x4] rfl (spec_FogDelay_ok (⟨x0_towers, x0_links⟩ : NetP) r25 r26 r31 x1 x2 x3 x4 _ f34.toSl f35.toSl s_r31.toSl) ?_
  rintro _ h36 ⟨rfl, eh36⟩
  have E37 := E32.trans eh36
  have z38 := eh36.size
  refine s_pure (.tuple #[.int .i64 ((fogDelay (⟨x0_towers, x0_links⟩ : NetP) x1 x2 x3 x4).1), .bool ((fogDelay (⟨x0_towers, x0_links⟩ : NetP) x1 x2 x3 x4).2)]) (fun _ q => q) ?_
  refine s_pure (.int .i64 ((fogDelay (⟨x0_towers, x0_links⟩ : NetP) x1 x2 x3 x4).1)) (fun _ q => q) ?_
  refine s_pure (.bool ((fogDelay (⟨x0_towers, x0_links⟩ : NetP) x1 x2 x3 x4).2)) (fun _ q => q) ?_
  refine s_pure (.int .i64 ((fogDelay (⟨x0_towers, x0_links⟩ : NetP) x1 x2 x3 x4).1)) (fun _ q => q) ?_
  refine s_pure (.bool ((fogDelay (⟨x0_towers, x0_links⟩ : NetP) x1 x2 x3 x4).2)) (fun _ q => q) ?_
  refine s_nil ?_
  refine p_seqN ?_
  refine v_seq ?_
  refine v_ops ?_
  have f39 := (((f21.ext eh24).ext eh30).ext eh36)
  refine s_load (.agg #[y0_towers.v, y0_links.v]) (fun _ q => f39.loadA rfl q) ?_
  have f40 := (((f22.ext eh24).ext eh30).ext eh36)
  have f41 := (((f23.ext eh24).ext eh30).ext eh36)
  refine s_call [.agg #[y0_towers.v, y0_links.v]] rfl (toNet_ok y0_towers.v x0_towers y0_links.v x0_links _ f40 f41 bd12 bd13) ?_
  rintro _ h42 ⟨r43, r44, rfl, s_r43, s_r44, eh42, fr_r43, fr_r44, ap_r43⟩
  have E45 := E37.trans eh42
  have z46 := eh42.size
  have lt_r43 := s_r43.lt
  have lt_r44 := s_r44.lt
  refine s_new (fun h48 b47 hbb47 hzb47 eh48 bxb47 => ?_)
  have E49 := E45.trans eh48
  have z50 := eh48.size
  have lbb47 := bxb47.lt
  refine s_stBx (.agg #[r43, r44]) [r43, r44] [r43, r44] bxb47 rfl rfl rfl rfl (by simp) (all_cons s_r43.one1 (all_cons s_r44.one1 all_nil)) rfl (fun h51 mh51 sh51 bxx52 => ?_)
  have E53 := E49.mod mh51 (fun b hb => by simp at hb; omega)
  refine s_nil ?_
  refine p_seqN ?_
  refine v_seq ?_
  refine v_ops ?_
  refine s_pure v1 (fun _ q => q) ?_
  have f54 := (((((f29.ext eh30).ext eh36).ext eh42).ext eh48).mod mh51 (fun b hb hc => by simp at hc; have := lt_v1 b hb; omega))
  refine s_call [v1] rfl (toFogS_ok v1 x1 _ f54 bd20) ?_
  rintro r56 h55 ⟨_, rfl, s_r56, fr_r56, eh55⟩
  have E57 := E53.trans eh55
  have z58 := eh55.size
  have lt_r56 := s_r56.lt
  refine s_pure r56 (fun _ q => q) ?_
  refine s_nil ?_
  refine p_seqN ?_
  refine v_seq ?_
  refine v_ops ?_
  have f59 := (bxx52.ext eh55)
  refine s_load (.agg #[r43, r44]) (fun _ q => f59.loadA rfl q) ?_
  refine s_pure r56 (fun _ q => q) ?_
  refine s_pure (.int .i64 x2) (fun _ q => q) ?_
  refine s_pure (.int .i64 x3) (fun _ q => q) ?_
  refine s_pure (.int .i64 x4) (fun _ q => q) ?_
  have f60 := (((s_r43.ext eh48).mod mh51 (fun b hb hc => by simp at hc; have := lt_r43 b hb; omega)).ext eh55)
  have f61 := (((s_r44.ext eh48).mod mh51 (fun b hb hc => by simp at hc; have := lt_r44 b hb; omega)).ext eh55)
  refine s_call [.agg #[r43, r44], r56, .int .i64 x2, .int .i64 x3, .int .i64 x4] rfl (impl_FogDelay_ok (⟨x0_towers, x0_links⟩ : NetP) r43 r44 r56 x1 x2 x3 x4 _ f60.toSl f61.toSl s_r56.toSl) ?_
  rintro _ h62 ⟨rfl, eh62⟩
  have E63 := E57.trans eh62
  have z64 := eh62.size
  refine s_pure (.tuple #[.int .i64 ((fogDelay (⟨x0_towers, x0_links⟩ : NetP) x1 x2 x3 x4).1), .bool ((fogDelay (⟨x0_towers, x0_links⟩ : NetP) x1 x2 x3 x4).2)]) (fun _ q => q) ?_
  refine s_pure (.int .i64 ((fogDelay (⟨x0_towers, x0_links⟩ : NetP) x1 x2 x3 x4).1)) (fun _ q => q) ?_
  refine s_pure (.bool ((fogDelay (⟨x0_towers, x0_links⟩ : NetP) x1 x2 x3 x4).2)) (fun _ q => q) ?_
  refine s_pure (.int .i64 ((fogDelay (⟨x0_towers, x0_links⟩ : NetP) x1 x2 x3 x4).1)) (fun _ q => q) ?_
  refine s_pure (.bool ((fogDelay (⟨x0_towers, x0_links⟩ : NetP) x1 x2 x3 x4).2)) (fun _ q => q) ?_
  refine s_nil ?_
  refine p_seqN ?_
  refine v_seq ?_
  refine v_seq ?_
  refine v_ops ?_
  refine s_pure (.int .i64 ((fogDelay (⟨x0_towers, x0_links⟩ : NetP) x1 x2 x3 x4).1)) (fun _ q => q) ?_
  refine s_pure (.int .i64 ((fogDelay (⟨x0_towers, x0_links⟩ : NetP) x1 x2 x3 x4).1)) (fun _ q => q) ?_
  refine s_pure (.bool ((fogDelay (⟨x0_towers, x0_links⟩ : NetP) x1 x2 x3 x4).1 != (fogDelay (⟨x0_towers, x0_links⟩ : NetP) x1 x2 x3 x4).1)) (fun _ q => q) ?_
  refine s_pure (.bool ((fogDelay (⟨x0_towers, x0_links⟩ : NetP) x1 x2 x3 x4).1 != (fogDelay (⟨x0_towers, x0_links⟩ : NetP) x1 x2 x3 x4).1)) (fun _ q => q) ?_
  refine s_splitN rfl (by first | assumption | omega | (simp; done) | (simp; omega) | simp_all) ?_
  refine s_run rfl ?_
  refine s_pure (.bool ((fogDelay (⟨x0_towers, x0_links⟩ : NetP) x1 x2 x3 x4).2)) (fun _ q => q) ?_
  refine s_run rfl ?_
  refine s_pure (.bool ((fogDelay (⟨x0_towers, x0_links⟩ : NetP) x1 x2 x3 x4).2)) (fun _ q => q) ?_
  refine s_run rfl ?_
  refine s_pure (.bool ((fogDelay (⟨x0_towers, x0_links⟩ : NetP) x1 x2 x3 x4).2 != (fogDelay (⟨x0_towers, x0_links⟩ : NetP) x1 x2 x3 x4).2)) (fun _ q => q) ?_
  refine s_pure (.bool ((fogDelay (⟨x0_towers, x0_links⟩ : NetP) x1 x2 x3 x4).2 != (fogDelay (⟨x0_towers, x0_links⟩ : NetP) x1 x2 x3 x4).2)) (fun _ q => q) ?_
  refine s_nil ?_
  refine p_seqN ?_
  refine v_condN rfl (by first | assumption | omega | (simp; done) | (simp; omega) | simp_all) ?_
  refine v_skip ?_
  refine p_seqN ?_
  refine v_seq ?_
  refine v_seq ?_
  have f65 := (f59.ext eh62)
  refine v_draw (DrawVC.hold ([b47]) ?_)
  refine d_loadT (.agg #[r43, r44]) (fun _ q => f65.takeA (by simp) rfl q) ?_
  have f66 := (((((f39.ext eh42).ext eh48).mod mh51 (by simp; omega)).ext eh55).ext eh62)
  refine d_loadO (.agg #[y0_towers.v, y0_links.v]) (fun _ q => f66.loadA rfl q) ?_
  refine d_eff ?_
  have f67 := (((((f40.ext eh42).ext eh48).mod mh51 (fun b hb hc => by simp at hc; have := lt_v0_towers b hb; omega)).ext eh55).ext eh62)
  have f68 := (((((f41.ext eh42).ext eh48).mod mh51 (fun b hb hc => by simp at hc; have := lt_v0_links b hb; omega)).ext eh55).ext eh62)
  refine s_call [.agg #[y0_towers.v, y0_links.v]] rfl (toNet_ok y0_towers.v x0_towers y0_links.v x0_links _ f67 f68 bd12 bd13) ?_
  rintro _ h69 ⟨r70, r71, rfl, s_r70, s_r71, eh69, fr_r70, fr_r71, ap_r70⟩
  have E72 := E63.trans eh69
  have z73 := eh69.size
  have G74 := eh69
  have lt_r70 := s_r70.lt
  have lt_r71 := s_r71.lt
  refine s_nil ⟨fun _ x hx => G74.blk x (by simp at hx; omega), ?_⟩
  refine d_eff ?_
  have f75 := ((f60.ext eh62).ext eh69)
  have f76 := ((f61.ext eh62).ext eh69)
  refine s_call [.agg #[r43, r44], .agg #[r70, r71]] rfl (eqNet_ok r43 x0_towers r44 x0_links r70 x0_towers r71 x0_links _ f75.toSl f76.toSl s_r70.toSl s_r71.toSl) ?_
  rintro _ h77 ⟨rfl, eh77⟩
  have E78 := E72.trans eh77
  have z79 := eh77.size
  have G80 := G74.trans eh77
  refine s_nil ⟨fun _ x hx => G80.blk x (by simp at hx; omega), ?_⟩
  refine d_pureT (.bool (!(decide (x0_towers = x0_towers ∧ x0_links = x0_links)))) (fun _ q => q) ?_
  refine d_done ?_
  refine p_seqN ?_
  refine v_condN rfl (by first | assumption | omega | (simp; done) | (simp; omega) | simp_all) ?_
  refine v_skip ?_
  refine p_seqN ?_
  refine v_seq ?_
  refine v_seq ?_
  refine v_ops ?_
  refine s_pure r56 (fun _ q => q) ?_
  refine s_pure v1 (fun _ q => q) ?_
  have f81 := ((((f54.ext eh55).ext eh62).ext eh69).ext eh77)
  refine s_call [v1] rfl (toFogS_ok v1 x1 _ f81 bd20) ?_
  rintro r83 h82 ⟨_, rfl, s_r83, fr_r83, eh82⟩
  have E84 := E78.trans eh82
  have z85 := eh82.size
  have lt_r83 := s_r83.lt
  have f86 := ((((s_r56.ext eh62).ext eh69).ext eh77).ext eh82)
  refine s_call [r56, r83] rfl (eqFogS_ok r56 x1 r83 x1 _ f86.toSl s_r83.toSl) ?_
  rintro _ h87 ⟨rfl, eh87⟩
  have E88 := E84.trans eh87
  have z89 := eh87.size
  refine s_pure (.bool (!(decide (x1 = x1)))) (fun _ q => q) ?_
  refine s_nil ?_
  refine p_seqN ?_
  refine v_condN rfl (by first | assumption | omega | (simp; done) | (simp; omega) | simp_all) ?_
  refine v_skip ?_
  refine p_seqN ?_
  refine v_seq ?_
  refine v_ops ?_
  refine s_pure (.bool true) (fun _ q => q) ?_
  refine s_nil ?_
  refine p_seqN ?_
  refine v_ret ?_
  refine p_ret [.bool true] (.bool true) (fun _ q => q) rfl ?_
  exact ⟨rfl, E88⟩
end Go.Proofs.Ythagdkmalchhgaa.finFnExactFogDelay
