/- The law FnExactClearWindows: its text returns true. Condition: none. Printed by a program. -/
import Derived.Test.YthagdkmalchhgaaRo5
import Derived.Test.YthagdkmalchhgaaTypes
namespace Go.Proofs.Ythagdkmalchhgaa.finFnExactClearWindows
open Go.Vc
set_option linter.all false
set_option maxRecDepth 100000 in
set_option maxHeartbeats 2000000 in
theorem law_ok (h : Heap) (x0 : NetD) (w0 : NetD.good h x0) (v1 : Value) (x1 : List FogD) (s_v1 : Sl h v1 x1) (_ : ∀ y ∈ x1, FogD.good h y) (x2 : Int) (b_x2 : I64 x2) (x3 : Int) (b_x3 : I64 x3) (x4 : Int) (b_x4 : I64 x4) : Cn f_laws_FnExactClearWindows [x0.val, v1, .int .i64 x2, .int .i64 x3, .int .i64 x4] h fun v h' => v = .bool true ∧ Ext h h' := by
  obtain ⟨y0_towers, y0_links⟩ := x0
  obtain ⟨⟨x0_towers, s_v0_towers, _⟩, ⟨x0_links, s_v0_links, _⟩⟩ := w0
  change Sl h y0_towers.v x0_towers at s_v0_towers
  have lt_v0_towers := s_v0_towers.lt
  change Sl h y0_links.v x0_links at s_v0_links
  have lt_v0_links := s_v0_links.lt
  have lt_v1 := s_v1.lt
  unfold I64 at b_x2
  unfold I64 at b_x3
  unfold I64 at b_x4
  have lens := cw_sz ⟨x0_towers, x0_links⟩ x1 x2 x3 x4
  refine calls_of r_laws_FnExactClearWindows ?_
  refine v_seq ?_
  refine v_ops ?_
  refine s_box [y0_towers.v, y0_links.v] rfl (fun h2 b1 hbb1 hzb1 eh2 bxb1 => ?_)
  have E3 := (Ext.refl h).trans eh2
  have z4 := eh2.size
  have lbb1 := bxb1.lt
  refine s_pure (.bool false) (fun _ q => q) ?_
  refine s_nil ?_
  refine p_seqN ?_
  refine v_seq ?_
  refine v_ops ?_
  refine s_pure (.int .i64 1048576) (fun _ q => q) ?_
  refine s_nil ?_
  refine p_seqN ?_
  refine v_seq ?_
  refine v_ops ?_
  refine s_load (.agg #[y0_towers.v, y0_links.v]) (fun _ q => bxb1.loadA rfl q) ?_
  refine s_pure (.int .i64 1048576) (fun _ q => q) ?_
  have f5 := (s_v0_towers.ext eh2)
  have f6 := (s_v0_links.ext eh2)
  refine s_call [.agg #[y0_towers.v, y0_links.v], .int .i64 1048576] rfl (szNet_ok y0_towers.v x0_towers y0_links.v x0_links 1048576 _ f5 f6 (by omega) (by omega)) ?_
  rintro _ h7 ⟨n8, rfl, eh7, hmn8, hkn8⟩
  have E9 := E3.trans eh7
  have z10 := eh7.size
  refine s_pure (.int .i64 n8) (fun _ q => q) ?_
  refine s_nil ?_
  refine p_seqN ?_
  refine v_seq ?_
  refine v_seq ?_
  refine v_ops ?_
  refine s_pure (.int .i64 n8) (fun _ q => q) ?_
  refine s_pure (.bool (decide (n8 < 0))) (fun _ q => q) ?_
  refine s_nil ?_
  refine p_seqN ?_
  refine v_cond rfl (fun c11 => ?_) (fun c11 => ?_)
  ·
    refine v_seq ?_
    refine v_ops ?_
    refine s_pure (.bool true) (fun _ q => q) ?_
    refine s_nil ?_
    refine p_seqN ?_
    refine v_ret ?_
    refine p_seqR ?_
    refine p_ret [.bool true] (.bool true) (fun _ q => q) rfl ?_
    exact ⟨rfl, E9⟩
  obtain ⟨hmn8, hkn8⟩ := And.intro (hmn8 (by omega)) hkn8
  have bd12 : x0_towers.length ≤ 1048576 := by omega
  have bd13 : x0_links.length ≤ 1048576 := by omega
  refine v_skip ?_
  refine p_seqN ?_
  refine v_seq ?_
  refine v_ops ?_
  refine s_pure v1 (fun _ q => q) ?_
  refine s_pure (.int .i64 n8) (fun _ q => q) ?_
  have f14 := ((s_v1.ext eh2).ext eh7)
  refine s_call [v1, .int .i64 n8] rfl (szFogS_ok v1 x1 n8 _ f14 (by omega) (by omega)) ?_
  rintro _ h15 ⟨n16, rfl, eh15, hmn16, hkn16⟩
  have E17 := E9.trans eh15
  have z18 := eh15.size
  refine s_pure (.int .i64 n16) (fun _ q => q) ?_
  refine s_nil ?_
  refine p_seqN ?_
  refine v_seq ?_
  refine v_seq ?_
  refine v_ops ?_
  refine s_pure (.int .i64 n16) (fun _ q => q) ?_
  refine s_pure (.bool (decide (n16 < 0))) (fun _ q => q) ?_
  refine s_nil ?_
  refine p_seqN ?_
  refine v_cond rfl (fun c19 => ?_) (fun c19 => ?_)
  ·
    refine v_seq ?_
    refine v_ops ?_
    refine s_pure (.bool true) (fun _ q => q) ?_
    refine s_nil ?_
    refine p_seqN ?_
    refine v_ret ?_
    refine p_seqR ?_
    refine p_ret [.bool true] (.bool true) (fun _ q => q) rfl ?_
    exact ⟨rfl, E17⟩
  obtain ⟨hmn16, hkn16⟩ := And.intro (hmn16 (by omega)) hkn16
  have bd20 : x1.length ≤ 1048576 := by omega
  refine v_skip ?_
  refine p_seqN ?_
  refine v_seq ?_
  refine v_ops ?_
  have f21 := ((bxb1.ext eh7).ext eh15)
  refine s_load (.agg #[y0_towers.v, y0_links.v]) (fun _ q => f21.loadA rfl q) ?_
  have f22 := ((f5.ext eh7).ext eh15)
  have f23 := ((f6.ext eh7).ext eh15)
  refine s_call [.agg #[y0_towers.v, y0_links.v]] rfl (toNet_ok y0_towers.v x0_towers y0_links.v x0_links _ f22 f23 bd12 bd13) ?_
  rintro _ h24 ⟨r25, r26, rfl, s_r25, s_r26, eh24, fr_r25, fr_r26, ap_r25⟩
  have E27 := E17.trans eh24
  have z28 := eh24.size
  have lt_r25 := s_r25.lt
  have lt_r26 := s_r26.lt
  refine s_pure v1 (fun _ q => q) ?_
  have f29 := ((f14.ext eh15).ext eh24)
  refine s_call [v1] rfl (toFogS_ok v1 x1 _ f29 bd20) ?_
  rintro r31 h30 ⟨_, rfl, s_r31, fr_r31, eh30⟩
  have E32 := E27.trans eh30
  have z33 := eh30.size
  have lt_r31 := s_r31.lt
  refine s_pure (.int .i64 x2) (fun _ q => q) ?_
  refine s_pure (.int .i64 x3) (fun _ q => q) ?_
  refine s_pure (.int .i64 x4) (fun _ q => q) ?_
  have f34 := (s_r25.ext eh30)
  have f35 := (s_r26.ext eh30)
  refine s_call [.agg #[r25, r26], r31, .int .i64 x2, .int .i64 x3, .int .i64 x4] rfl (spec_ClearWindows_ok (⟨x0_towers, x0_links⟩ : NetP) r25 r26 r31 x1 x2 x3 x4 _ f34.toSl f35.toSl s_r31.toSl) ?_
  rintro _ h37 ⟨r36, qr36, rfl, s_r36, dq_r36, eh37⟩
  have E38 := E32.trans eh37
  have z39 := eh37.size
  have lt_r36 := s_r36.lt
  have fr_r36 := s_r36.fr
  refine s_pure (.tuple #[r36, .bool ((cwOut (⟨x0_towers, x0_links⟩ : NetP) x1 x2 x3 x4).2)]) (fun _ q => q) ?_
  refine s_pure r36 (fun _ q => q) ?_
  refine s_pure (.bool ((cwOut (⟨x0_towers, x0_links⟩ : NetP) x1 x2 x3 x4).2)) (fun _ q => q) ?_
  refine s_pure r36 (fun _ q => q) ?_
  refine s_pure (.bool ((cwOut (⟨x0_towers, x0_links⟩ : NetP) x1 x2 x3 x4).2)) (fun _ q => q) ?_
  refine s_nil ?_
  refine p_seqN ?_
  refine v_seq ?_
  refine v_ops ?_
  have f40 := (((f21.ext eh24).ext eh30).ext eh37)
  refine s_load (.agg #[y0_towers.v, y0_links.v]) (fun _ q => f40.loadA rfl q) ?_
  have f41 := (((f22.ext eh24).ext eh30).ext eh37)
  have f42 := (((f23.ext eh24).ext eh30).ext eh37)
  refine s_call [.agg #[y0_towers.v, y0_links.v]] rfl (toNet_ok y0_towers.v x0_towers y0_links.v x0_links _ f41 f42 bd12 bd13) ?_
  rintro _ h43 ⟨r44, r45, rfl, s_r44, s_r45, eh43, fr_r44, fr_r45, ap_r44⟩
  have E46 := E38.trans eh43
  have z47 := eh43.size
  have lt_r44 := s_r44.lt
  have lt_r45 := s_r45.lt
  refine s_new (fun h49 b48 hbb48 hzb48 eh49 bxb48 => ?_)
  have E50 := E46.trans eh49
  have z51 := eh49.size
  have lbb48 := bxb48.lt
  refine s_stBx (.agg #[r44, r45]) [r44, r45] [r44, r45] bxb48 rfl rfl rfl rfl (by simp) (all_cons s_r44.one1 (all_cons s_r45.one1 all_nil)) rfl (fun h52 mh52 sh52 bxx53 => ?_)
  have E54 := E50.mod mh52 (fun b hb => by simp at hb; omega)
  refine s_nil ?_
  refine p_seqN ?_
  refine v_seq ?_
  refine v_ops ?_
  refine s_pure v1 (fun _ q => q) ?_
  have f55 := (((((f29.ext eh30).ext eh37).ext eh43).ext eh49).mod mh52 (fun b hb hc => by simp at hc; have := lt_v1 b hb; omega))
  refine s_call [v1] rfl (toFogS_ok v1 x1 _ f55 bd20) ?_
  rintro r57 h56 ⟨_, rfl, s_r57, fr_r57, eh56⟩
  have E58 := E54.trans eh56
  have z59 := eh56.size
  have lt_r57 := s_r57.lt
  refine s_pure r57 (fun _ q => q) ?_
  refine s_nil ?_
  refine p_seqN ?_
  refine v_seq ?_
  refine v_ops ?_
  have f60 := (bxx53.ext eh56)
  refine s_load (.agg #[r44, r45]) (fun _ q => f60.loadA rfl q) ?_
  refine s_pure r57 (fun _ q => q) ?_
  refine s_pure (.int .i64 x2) (fun _ q => q) ?_
  refine s_pure (.int .i64 x3) (fun _ q => q) ?_
  refine s_pure (.int .i64 x4) (fun _ q => q) ?_
  have f61 := (((s_r44.ext eh49).mod mh52 (fun b hb hc => by simp at hc; have := lt_r44 b hb; omega)).ext eh56)
  have f62 := (((s_r45.ext eh49).mod mh52 (fun b hb hc => by simp at hc; have := lt_r45 b hb; omega)).ext eh56)
  refine s_call [.agg #[r44, r45], r57, .int .i64 x2, .int .i64 x3, .int .i64 x4] rfl (impl_ClearWindows_ok (⟨x0_towers, x0_links⟩ : NetP) r44 r45 r57 x1 x2 x3 x4 _ f61.toSl f62.toSl s_r57.toSl) ?_
  rintro _ h64 ⟨r63, qr63, rfl, s_r63, dq_r63, eh64⟩
  have E65 := E58.trans eh64
  have z66 := eh64.size
  have lt_r63 := s_r63.lt
  have fr_r63 := s_r63.fr
  refine s_pure (.tuple #[r63, .bool ((cwOut (⟨x0_towers, x0_links⟩ : NetP) x1 x2 x3 x4).2)]) (fun _ q => q) ?_
  refine s_pure r63 (fun _ q => q) ?_
  refine s_pure (.bool ((cwOut (⟨x0_towers, x0_links⟩ : NetP) x1 x2 x3 x4).2)) (fun _ q => q) ?_
  refine s_pure r63 (fun _ q => q) ?_
  refine s_pure (.bool ((cwOut (⟨x0_towers, x0_links⟩ : NetP) x1 x2 x3 x4).2)) (fun _ q => q) ?_
  refine s_nil ?_
  refine p_seqN ?_
  refine v_seq ?_
  refine v_seq ?_
  refine v_ops ?_
  refine s_pure r63 (fun _ q => q) ?_
  refine s_pure r36 (fun _ q => q) ?_
  have f67 := (((((s_r36.ext eh43).ext eh49).mod mh52 (fun b hb hc => by simp at hc; have := lt_r36 b hb; omega)).ext eh56).ext eh64)
  have hqh68 : qr63.map RowI.sig = qr36.map RowI.sig := (dq_r63 : qr63.map RowI.sig = (cwOut (⟨x0_towers, x0_links⟩ : NetP) x1 x2 x3 x4).1).trans (dq_r36 : qr36.map RowI.sig = (cwOut (⟨x0_towers, x0_links⟩ : NetP) x1 x2 x3 x4).1).symm
  refine s_call [r63, r36] rfl (eqIntSS_ok r63 qr63 r36 qr36 _ s_r63.row.toSl s_r63.insL f67.row.toSl f67.insL) ?_
  rintro vh68 h68 ⟨hvh68, eh68⟩
  obtain rfl : vh68 = .bool true := hvh68.trans (by rw [decide_eq_true hqh68])
  have E69 := E65.trans eh68
  have z70 := eh68.size
  refine s_pure (.bool false) (fun _ q => q) ?_
  refine s_pure (.bool false) (fun _ q => q) ?_
  refine s_splitN rfl (by simp) ?_
  refine s_run rfl ?_
  refine s_pure (.bool ((cwOut (⟨x0_towers, x0_links⟩ : NetP) x1 x2 x3 x4).2)) (fun _ q => q) ?_
  refine s_run rfl ?_
  refine s_pure (.bool ((cwOut (⟨x0_towers, x0_links⟩ : NetP) x1 x2 x3 x4).2)) (fun _ q => q) ?_
  refine s_run rfl ?_
  refine s_pure (.bool ((cwOut (⟨x0_towers, x0_links⟩ : NetP) x1 x2 x3 x4).2 != (cwOut (⟨x0_towers, x0_links⟩ : NetP) x1 x2 x3 x4).2)) (fun _ q => q) ?_
  refine s_pure (.bool ((cwOut (⟨x0_towers, x0_links⟩ : NetP) x1 x2 x3 x4).2 != (cwOut (⟨x0_towers, x0_links⟩ : NetP) x1 x2 x3 x4).2)) (fun _ q => q) ?_
  refine s_nil ?_
  refine p_seqN ?_
  refine v_condN rfl (by first | assumption | omega | (simp; done) | (simp; omega) | simp_all) ?_
  refine v_skip ?_
  refine p_seqN ?_
  refine v_seq ?_
  refine v_seq ?_
  have f71 := ((f60.ext eh64).ext eh68)
  refine v_draw (DrawVC.hold ([b48]) ?_)
  refine d_loadT (.agg #[r44, r45]) (fun _ q => f71.takeA (by simp) rfl q) ?_
  have f72 := ((((((f40.ext eh43).ext eh49).mod mh52 (by simp; omega)).ext eh56).ext eh64).ext eh68)
  refine d_loadO (.agg #[y0_towers.v, y0_links.v]) (fun _ q => f72.loadA rfl q) ?_
  refine d_eff ?_
  have f73 := ((((((f41.ext eh43).ext eh49).mod mh52 (fun b hb hc => by simp at hc; have := lt_v0_towers b hb; omega)).ext eh56).ext eh64).ext eh68)
  have f74 := ((((((f42.ext eh43).ext eh49).mod mh52 (fun b hb hc => by simp at hc; have := lt_v0_links b hb; omega)).ext eh56).ext eh64).ext eh68)
  refine s_call [.agg #[y0_towers.v, y0_links.v]] rfl (toNet_ok y0_towers.v x0_towers y0_links.v x0_links _ f73 f74 bd12 bd13) ?_
  rintro _ h75 ⟨r76, r77, rfl, s_r76, s_r77, eh75, fr_r76, fr_r77, ap_r76⟩
  have E78 := E69.trans eh75
  have z79 := eh75.size
  have G80 := eh75
  have lt_r76 := s_r76.lt
  have lt_r77 := s_r77.lt
  refine s_nil ⟨fun _ x hx => G80.blk x (by simp at hx; omega), ?_⟩
  refine d_eff ?_
  have f81 := (((f61.ext eh64).ext eh68).ext eh75)
  have f82 := (((f62.ext eh64).ext eh68).ext eh75)
  refine s_call [.agg #[r44, r45], .agg #[r76, r77]] rfl (eqNet_ok r44 x0_towers r45 x0_links r76 x0_towers r77 x0_links _ f81.toSl f82.toSl s_r76.toSl s_r77.toSl) ?_
  rintro _ h83 ⟨rfl, eh83⟩
  have E84 := E78.trans eh83
  have z85 := eh83.size
  have G86 := G80.trans eh83
  refine s_nil ⟨fun _ x hx => G86.blk x (by simp at hx; omega), ?_⟩
  refine d_pureT (.bool (!(decide (x0_towers = x0_towers ∧ x0_links = x0_links)))) (fun _ q => q) ?_
  refine d_done ?_
  refine p_seqN ?_
  refine v_condN rfl (by first | assumption | omega | (simp; done) | (simp; omega) | simp_all) ?_
  refine v_skip ?_
  refine p_seqN ?_
  refine v_seq ?_
  refine v_seq ?_
  refine v_ops ?_
  refine s_pure r57 (fun _ q => q) ?_
  refine s_pure v1 (fun _ q => q) ?_
  have f87 := (((((f55.ext eh56).ext eh64).ext eh68).ext eh75).ext eh83)
  refine s_call [v1] rfl (toFogS_ok v1 x1 _ f87 bd20) ?_
  rintro r89 h88 ⟨_, rfl, s_r89, fr_r89, eh88⟩
  have E90 := E84.trans eh88
  have z91 := eh88.size
  have lt_r89 := s_r89.lt
  have f92 := (((((s_r57.ext eh64).ext eh68).ext eh75).ext eh83).ext eh88)
  refine s_call [r57, r89] rfl (eqFogS_ok r57 x1 r89 x1 _ f92.toSl s_r89.toSl) ?_
  rintro _ h93 ⟨rfl, eh93⟩
  have E94 := E90.trans eh93
  have z95 := eh93.size
  refine s_pure (.bool (!(decide (x1 = x1)))) (fun _ q => q) ?_
  refine s_nil ?_
  refine p_seqN ?_
  refine v_condN rfl (by first | assumption | omega | (simp; done) | (simp; omega) | simp_all) ?_
  refine v_skip ?_
  refine p_seqN ?_
  refine v_seq ?_
  refine v_ops ?_
  refine s_pure (.int .i64 1) (fun _ q => q) ?_
  refine s_nil ?_
  refine p_seqN ?_
  refine v_seq ?_
  refine v_ops ?_
  have f96 := ((((f71.ext eh75).ext eh83).ext eh88).ext eh93)
  refine s_load (.agg #[r44, r45]) (fun _ q => f96.loadA rfl q) ?_
  refine s_pure (.int .i64 1) (fun _ q => q) ?_
  have f97 := (((f81.ext eh83).ext eh88).ext eh93)
  have f98 := (((f82.ext eh83).ext eh88).ext eh93)
  refine s_call [.agg #[r44, r45], .int .i64 1] rfl (markNet_ok r44 x0_towers r45 x0_links (1) _ f97 f98 ap_r44 (by omega) (by omega) (by omega) (by omega)) ?_
  rintro _ h99 ⟨rfl, mk100, mk101, mh99, zh99⟩
  have E102 := E94.mod mh99 (all_app (fun b hb => by have := fr_r44 b hb; omega) (fun b hb => by have := fr_r45 b hb; omega))
  refine s_pure (.int .i64 (1 + 3 * (x0_towers.length : Int) + 3 * (x0_links.length : Int))) (fun _ q => q) ?_
  refine s_nil ?_
  refine p_seqN ?_
  refine v_seq ?_
  refine v_ops ?_
  refine s_pure r57 (fun _ q => q) ?_
  refine s_pure (.int .i64 (1 + 3 * (x0_towers.length : Int) + 3 * (x0_links.length : Int))) (fun _ q => q) ?_
  have f103 := ((f92.ext eh93).mod mh99 (fun b hb => not_app (((fun b hb hc => by have := fr_r57 b hb; have := lt_r44 b hc; omega) : ∀ b ∈ blks r57, b ∉ blks r44) b hb) (((fun b hb hc => by have := fr_r57 b hb; have := lt_r45 b hc; omega) : ∀ b ∈ blks r57, b ∉ blks r45) b hb)))
  refine s_call [r57, .int .i64 (1 + 3 * (x0_towers.length : Int) + 3 * (x0_links.length : Int))] rfl (markFogS_ok r57 x1 ((1 + 3 * (x0_towers.length : Int) + 3 * (x0_links.length : Int))) _ f103 (by omega) (by omega) (by omega)) ?_
  rintro _ h104 ⟨rfl, mk105, mh104, zh104⟩
  have E106 := E102.mod mh104 (fun b hb => by have := fr_r57 b hb; omega)
  refine s_pure (.int .i64 ((1 + 3 * (x0_towers.length : Int) + 3 * (x0_links.length : Int)) + 3 * (x1.length : Int))) (fun _ q => q) ?_
  refine s_nil ?_
  refine p_seqN ?_
  refine v_seq ?_
  refine v_seq ?_
  refine v_ops ?_
  refine s_pure (.int .i64 ((1 + 3 * (x0_towers.length : Int) + 3 * (x0_links.length : Int)) + 3 * (x1.length : Int))) (fun _ q => q) ?_
  refine s_pure (.bool (decide (((1 + 3 * (x0_towers.length : Int) + 3 * (x0_links.length : Int)) + 3 * (x1.length : Int)) < 0))) (fun _ q => q) ?_
  refine s_pure (.bool (decide (((1 + 3 * (x0_towers.length : Int) + 3 * (x0_links.length : Int)) + 3 * (x1.length : Int)) < 0))) (fun _ q => q) ?_
  refine s_splitN rfl (by first | assumption | omega | (simp; done) | (simp; omega) | simp_all) ?_
  refine s_run rfl ?_
  refine s_pure r63 (fun _ q => q) ?_
  refine s_run rfl ?_
  refine s_pure r36 (fun _ q => q) ?_
  refine s_run rfl ?_
  have f107 := (((((((s_r63.ext eh68).ext eh75).ext eh83).ext eh88).ext eh93).mod mh99 (fun b hb => not_app (((fun b hb hc => by have := fr_r63 b hb; have := lt_r44 b hc; omega) : ∀ b ∈ fpts r63 qr63, b ∉ blks r44) b hb) (((fun b hb hc => by have := fr_r63 b hb; have := lt_r45 b hc; omega) : ∀ b ∈ fpts r63 qr63, b ∉ blks r45) b hb))).mod mh104 (fun b hb hc => by have := fr_r63 b hb; have := lt_r57 b hc; omega))
  have f108 := (((((((f67.ext eh68).ext eh75).ext eh83).ext eh88).ext eh93).mod mh99 (fun b hb => not_app (((fun b hb hc => by have := lt_r36 b hb; have := fr_r44 b hc; omega) : ∀ b ∈ fpts r36 qr36, b ∉ blks r44) b hb) (((fun b hb hc => by have := lt_r36 b hb; have := fr_r45 b hc; omega) : ∀ b ∈ fpts r36 qr36, b ∉ blks r45) b hb))).mod mh104 (fun b hb hc => by have := lt_r36 b hb; have := fr_r57 b hc; omega))
  have hqh109 : qr63.map RowI.sig = qr36.map RowI.sig := (dq_r63 : qr63.map RowI.sig = (cwOut (⟨x0_towers, x0_links⟩ : NetP) x1 x2 x3 x4).1).trans (dq_r36 : qr36.map RowI.sig = (cwOut (⟨x0_towers, x0_links⟩ : NetP) x1 x2 x3 x4).1).symm
  refine s_call [r63, r36] rfl (eqIntSS_ok r63 qr63 r36 qr36 _ f107.row.toSl f107.insL f108.row.toSl f108.insL) ?_
  rintro vh109 h109 ⟨hvh109, eh109⟩
  obtain rfl : vh109 = .bool true := hvh109.trans (by rw [decide_eq_true hqh109])
  have E110 := E106.trans eh109
  have z111 := eh109.size
  refine s_run rfl ?_
  refine s_pure (.bool false) (fun _ q => q) ?_
  refine s_pure (.bool false) (fun _ q => q) ?_
  refine s_pure (.bool false) (fun _ q => q) ?_
  refine s_splitN rfl (by simp) ?_
  refine s_run rfl ?_
  refine s_pure (.bool ((cwOut (⟨x0_towers, x0_links⟩ : NetP) x1 x2 x3 x4).2)) (fun _ q => q) ?_
  refine s_run rfl ?_
  refine s_pure (.bool ((cwOut (⟨x0_towers, x0_links⟩ : NetP) x1 x2 x3 x4).2)) (fun _ q => q) ?_
  refine s_run rfl ?_
  refine s_pure (.bool ((cwOut (⟨x0_towers, x0_links⟩ : NetP) x1 x2 x3 x4).2 != (cwOut (⟨x0_towers, x0_links⟩ : NetP) x1 x2 x3 x4).2)) (fun _ q => q) ?_
  refine s_pure (.bool ((cwOut (⟨x0_towers, x0_links⟩ : NetP) x1 x2 x3 x4).2 != (cwOut (⟨x0_towers, x0_links⟩ : NetP) x1 x2 x3 x4).2)) (fun _ q => q) ?_
  refine s_nil ?_
  refine p_seqN ?_
  refine v_condN rfl (by first | assumption | omega | (simp; done) | (simp; omega) | simp_all) ?_
  refine v_skip ?_
  refine p_seqN ?_
  refine v_seq ?_
  refine v_ops ?_
  refine s_pure (.int .i64 1) (fun _ q => q) ?_
  refine s_nil ?_
  refine p_seqN ?_
  refine v_seq ?_
  refine v_ops ?_
  refine s_pure r63 (fun _ q => q) ?_
  refine s_pure (.int .i64 1) (fun _ q => q) ?_
  have f113 := (f107.ext eh109)
  have hzh112 := szR_eq qr63
  rw [dq_r63] at hzh112
  refine s_call [r63, .int .i64 1] rfl (markIntSS_ok r63 qr63 _ (1) _ f113 (by omega) (by omega) (by omega)) ?_
  rintro _ h112 ⟨rfl, mk114, mh112, zh112⟩
  have E115 := E110.mod mh112 (fun b hb => by have := fr_r63 b hb; omega)
  have lt_r63m116 := mk114.lt
  have fr_r63m116 := mk114.fr
  refine s_pure (.int .i64 (1 + (szR qr63 : Int))) (fun _ q => q) ?_
  refine s_nil ?_
  refine p_seqN ?_
  refine v_seq ?_
  refine v_ops ?_
  refine s_pure (.int .i64 1) (fun _ q => q) ?_
  refine s_nil ?_
  refine p_seqN ?_
  refine v_seq ?_
  refine v_ops ?_
  refine s_pure r63 (fun _ q => q) ?_
  refine s_pure (.int .i64 1) (fun _ q => q) ?_
  refine s_call [r63, .int .i64 1] rfl (heldIntSS_ok r63 (mkR (1) qr63) (1) _ mk114.row.toSl mk114.insL qr63 (1) rfl (by omega) (by omega) (by omega) (by omega)) ?_
  rintro _ h117 ⟨rfl, eh117⟩
  have E118 := E115.trans eh117
  have z119 := eh117.size
  refine s_pure (.int .i64 (1 + (szR qr63 : Int))) (fun _ q => q) ?_
  refine s_nil ?_
  refine p_seqN ?_
  refine v_seq ?_
  refine v_seq ?_
  refine v_ops ?_
  refine s_pure (.int .i64 (1 + (szR qr63 : Int))) (fun _ q => q) ?_
  refine s_pure (.bool (decide ((1 + (szR qr63 : Int)) < 0))) (fun _ q => q) ?_
  refine s_nil ?_
  refine p_seqN ?_
  refine v_condN rfl (by first | assumption | omega | (simp; done) | (simp; omega) | simp_all) ?_
  refine v_skip ?_
  refine p_seqN ?_
  refine v_seq ?_
  refine v_seq ?_
  refine v_ops ?_
  refine s_pure (.int .i64 (1 + (szR qr63 : Int))) (fun _ q => q) ?_
  refine s_pure (.int .i64 (1 + (szR qr63 : Int))) (fun _ q => q) ?_
  refine s_pure (.bool ((1 + (szR qr63 : Int)) != (1 + (szR qr63 : Int)))) (fun _ q => q) ?_
  refine s_nil ?_
  refine p_seqN ?_
  refine v_condN rfl (by first | assumption | omega | (simp; done) | (simp; omega) | simp_all) ?_
  refine v_skip ?_
  refine p_seqN ?_
  refine v_seq ?_
  refine v_ops ?_
  have f120 := (((((((((f72.ext eh75).ext eh83).ext eh88).ext eh93).mod mh99 (not_app (fun hc => by have := fr_r44 _ hc; omega) (fun hc => by have := fr_r45 _ hc; omega))).mod mh104 (fun hc => by have := fr_r57 _ hc; omega)).ext eh109).mod mh112 (fun hc => by have := fr_r63 _ hc; omega)).ext eh117)
  refine s_load (.agg #[y0_towers.v, y0_links.v]) (fun _ q => f120.loadA rfl q) ?_
  have f121 := (((((((((f73.ext eh75).ext eh83).ext eh88).ext eh93).mod mh99 (fun b hb => not_app (((fun b hb hc => by have := lt_v0_towers b hb; have := fr_r44 b hc; omega) : ∀ b ∈ blks y0_towers.v, b ∉ blks r44) b hb) (((fun b hb hc => by have := lt_v0_towers b hb; have := fr_r45 b hc; omega) : ∀ b ∈ blks y0_towers.v, b ∉ blks r45) b hb))).mod mh104 (fun b hb hc => by have := lt_v0_towers b hb; have := fr_r57 b hc; omega)).ext eh109).mod mh112 (fun b hb hc => by have := lt_v0_towers b hb; have := fr_r63 b hc; omega)).ext eh117)
  have f122 := (((((((((f74.ext eh75).ext eh83).ext eh88).ext eh93).mod mh99 (fun b hb => not_app (((fun b hb hc => by have := lt_v0_links b hb; have := fr_r44 b hc; omega) : ∀ b ∈ blks y0_links.v, b ∉ blks r44) b hb) (((fun b hb hc => by have := lt_v0_links b hb; have := fr_r45 b hc; omega) : ∀ b ∈ blks y0_links.v, b ∉ blks r45) b hb))).mod mh104 (fun b hb hc => by have := lt_v0_links b hb; have := fr_r57 b hc; omega)).ext eh109).mod mh112 (fun b hb hc => by have := lt_v0_links b hb; have := fr_r63 b hc; omega)).ext eh117)
  refine s_call [.agg #[y0_towers.v, y0_links.v]] rfl (toNet_ok y0_towers.v x0_towers y0_links.v x0_links _ f121 f122 bd12 bd13) ?_
  rintro _ h123 ⟨r124, r125, rfl, s_r124, s_r125, eh123, fr_r124, fr_r125, ap_r124⟩
  have E126 := E118.trans eh123
  have z127 := eh123.size
  have lt_r124 := s_r124.lt
  have lt_r125 := s_r125.lt
  refine s_pure v1 (fun _ q => q) ?_
  have f128 := ((((((((f87.ext eh88).ext eh93).mod mh99 (fun b hb => not_app (((fun b hb hc => by have := lt_v1 b hb; have := fr_r44 b hc; omega) : ∀ b ∈ blks v1, b ∉ blks r44) b hb) (((fun b hb hc => by have := lt_v1 b hb; have := fr_r45 b hc; omega) : ∀ b ∈ blks v1, b ∉ blks r45) b hb))).mod mh104 (fun b hb hc => by have := lt_v1 b hb; have := fr_r57 b hc; omega)).ext eh109).mod mh112 (fun b hb hc => by have := lt_v1 b hb; have := fr_r63 b hc; omega)).ext eh117).ext eh123)
  refine s_call [v1] rfl (toFogS_ok v1 x1 _ f128 bd20) ?_
  rintro r130 h129 ⟨_, rfl, s_r130, fr_r130, eh129⟩
  have E131 := E126.trans eh129
  have z132 := eh129.size
  have lt_r130 := s_r130.lt
  refine s_pure (.int .i64 x2) (fun _ q => q) ?_
  refine s_pure (.int .i64 x3) (fun _ q => q) ?_
  refine s_pure (.int .i64 x4) (fun _ q => q) ?_
  have f133 := (s_r124.ext eh129)
  have f134 := (s_r125.ext eh129)
  refine s_call [.agg #[r124, r125], r130, .int .i64 x2, .int .i64 x3, .int .i64 x4] rfl (impl_ClearWindows_ok (⟨x0_towers, x0_links⟩ : NetP) r124 r125 r130 x1 x2 x3 x4 _ f133.toSl f134.toSl s_r130.toSl) ?_
  rintro _ h136 ⟨r135, qr135, rfl, s_r135, dq_r135, eh136⟩
  have E137 := E131.trans eh136
  have z138 := eh136.size
  have lt_r135 := s_r135.lt
  have fr_r135 := s_r135.fr
  refine s_pure (.tuple #[r135, .bool ((cwOut (⟨x0_towers, x0_links⟩ : NetP) x1 x2 x3 x4).2)]) (fun _ q => q) ?_
  refine s_pure r135 (fun _ q => q) ?_
  refine s_pure (.bool ((cwOut (⟨x0_towers, x0_links⟩ : NetP) x1 x2 x3 x4).2)) (fun _ q => q) ?_
  refine s_pure r135 (fun _ q => q) ?_
  refine s_pure (.bool ((cwOut (⟨x0_towers, x0_links⟩ : NetP) x1 x2 x3 x4).2)) (fun _ q => q) ?_
  refine s_nil ?_
  refine p_seqN ?_
  refine v_seq ?_
  refine v_seq ?_
  refine v_ops ?_
  refine s_pure r135 (fun _ q => q) ?_
  refine s_pure r36 (fun _ q => q) ?_
  have f139 := ((((((f108.ext eh109).mod mh112 (fun b hb hc => by have := lt_r36 b hb; have := fr_r63 b hc; omega)).ext eh117).ext eh123).ext eh129).ext eh136)
  have hqh140 : qr135.map RowI.sig = qr36.map RowI.sig := (dq_r135 : qr135.map RowI.sig = (cwOut (⟨x0_towers, x0_links⟩ : NetP) x1 x2 x3 x4).1).trans (dq_r36 : qr36.map RowI.sig = (cwOut (⟨x0_towers, x0_links⟩ : NetP) x1 x2 x3 x4).1).symm
  refine s_call [r135, r36] rfl (eqIntSS_ok r135 qr135 r36 qr36 _ s_r135.row.toSl s_r135.insL f139.row.toSl f139.insL) ?_
  rintro vh140 h140 ⟨hvh140, eh140⟩
  obtain rfl : vh140 = .bool true := hvh140.trans (by rw [decide_eq_true hqh140])
  have E141 := E137.trans eh140
  have z142 := eh140.size
  refine s_pure (.bool false) (fun _ q => q) ?_
  refine s_pure (.bool false) (fun _ q => q) ?_
  refine s_splitN rfl (by simp) ?_
  refine s_run rfl ?_
  refine s_pure (.bool ((cwOut (⟨x0_towers, x0_links⟩ : NetP) x1 x2 x3 x4).2)) (fun _ q => q) ?_
  refine s_run rfl ?_
  refine s_pure (.bool ((cwOut (⟨x0_towers, x0_links⟩ : NetP) x1 x2 x3 x4).2)) (fun _ q => q) ?_
  refine s_run rfl ?_
  refine s_pure (.bool ((cwOut (⟨x0_towers, x0_links⟩ : NetP) x1 x2 x3 x4).2 != (cwOut (⟨x0_towers, x0_links⟩ : NetP) x1 x2 x3 x4).2)) (fun _ q => q) ?_
  refine s_pure (.bool ((cwOut (⟨x0_towers, x0_links⟩ : NetP) x1 x2 x3 x4).2 != (cwOut (⟨x0_towers, x0_links⟩ : NetP) x1 x2 x3 x4).2)) (fun _ q => q) ?_
  refine s_nil ?_
  refine p_seqN ?_
  refine v_condN rfl (by first | assumption | omega | (simp; done) | (simp; omega) | simp_all) ?_
  refine v_skip ?_
  refine p_seqN ?_
  refine v_seq ?_
  refine v_ops ?_
  refine s_pure (.int .i64 1) (fun _ q => q) ?_
  refine s_nil ?_
  refine p_seqN ?_
  refine v_seq ?_
  refine v_ops ?_
  refine s_pure r63 (fun _ q => q) ?_
  refine s_pure (.int .i64 1) (fun _ q => q) ?_
  have f143 := (((((mk114.ext eh117).ext eh123).ext eh129).ext eh136).ext eh140)
  refine s_call [r63, .int .i64 1] rfl (heldIntSS_ok r63 (mkR (1) qr63) (1) _ f143.row.toSl f143.insL qr63 (1) rfl (by omega) (by omega) (by omega) (by omega)) ?_
  rintro _ h144 ⟨rfl, eh144⟩
  have E145 := E141.trans eh144
  have z146 := eh144.size
  refine s_pure (.int .i64 (1 + (szR qr63 : Int))) (fun _ q => q) ?_
  refine s_nil ?_
  refine p_seqN ?_
  refine v_seq ?_
  refine v_seq ?_
  refine v_ops ?_
  refine s_pure (.int .i64 (1 + (szR qr63 : Int))) (fun _ q => q) ?_
  refine s_pure (.bool (decide ((1 + (szR qr63 : Int)) < 0))) (fun _ q => q) ?_
  refine s_nil ?_
  refine p_seqN ?_
  refine v_condN rfl (by first | assumption | omega | (simp; done) | (simp; omega) | simp_all) ?_
  refine v_skip ?_
  refine p_seqN ?_
  refine v_seq ?_
  refine v_seq ?_
  refine v_ops ?_
  refine s_pure (.int .i64 (1 + (szR qr63 : Int))) (fun _ q => q) ?_
  refine s_pure (.int .i64 (1 + (szR qr63 : Int))) (fun _ q => q) ?_
  refine s_pure (.bool ((1 + (szR qr63 : Int)) != (1 + (szR qr63 : Int)))) (fun _ q => q) ?_
  refine s_nil ?_
  refine p_seqN ?_
  refine v_condN rfl (by first | assumption | omega | (simp; done) | (simp; omega) | simp_all) ?_
  refine v_skip ?_
  refine p_seqN ?_
  refine v_seq ?_
  refine v_ops ?_
  refine s_pure (.bool true) (fun _ q => q) ?_
  refine s_nil ?_
  refine p_seqN ?_
  refine v_ret ?_
  refine p_ret [.bool true] (.bool true) (fun _ q => q) rfl ?_
  exact ⟨rfl, E145⟩
end Go.Proofs.Ythagdkmalchhgaa.finFnExactClearWindows
