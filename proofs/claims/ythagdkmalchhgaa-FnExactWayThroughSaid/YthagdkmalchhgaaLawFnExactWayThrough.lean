/- The law FnExactWayThrough: its text returns true. Condition: none. Printed by a program. -/
import Derived.Test.YthagdkmalchhgaaRo12
import Derived.Test.YthagdkmalchhgaaTypes
namespace Go.Proofs.Ythagdkmalchhgaa.finFnExactWayThrough
open Go.Vc
set_option linter.all false
set_option maxRecDepth 100000 in
set_option maxHeartbeats 2000000 in
theorem law_ok (h : Heap) (x0 : NetD) (w0 : NetD.good h x0) (v1 : Value) (x1 : List FogD) (s_v1 : Sl h v1 x1) (_ : ∀ y ∈ x1, FogD.good h y) (x2 : Int) (b_x2 : I64 x2) (x3 : Int) (b_x3 : I64 x3) (x4 : Int) (b_x4 : I64 x4) : Cn f_laws_FnExactWayThrough [x0.val, v1, .int .i64 x2, .int .i64 x3, .int .i64 x4] h fun v h' => v = .bool true ∧ Ext h h' := by
  obtain ⟨y0_towers, y0_links⟩ := x0
  obtain ⟨⟨x0_towers, s_v0_towers, _⟩, ⟨x0_links, s_v0_links, _⟩⟩ := w0
  change Sl h y0_towers.v x0_towers at s_v0_towers
  have lt_v0_towers := s_v0_towers.lt
  change Sl h y0_links.v x0_links at s_v0_links
  have lt_v0_links := s_v0_links.lt
  have lt_v1 := s_v1.lt
  unfold I64 at b_x2
  unfold I64 at b_x3
  unfold I64 at b_x4
  have lens := wayOf_len ⟨x0_towers, x0_links⟩ x1 x2 x3 x4
  refine calls_of r_laws_FnExactWayThrough ?_
  refine v_seq ?_
  refine v_ops ?_
  refine s_box [y0_towers.v, y0_links.v] rfl (fun h2 b1 hbb1 hzb1 eh2 bxb1 => ?_)
  have E3 := (Ext.refl h).trans eh2
  have z4 := eh2.size
  have lbb1 := bxb1.lt
  refine s_pure (.bool false) (fun _ q => q) ?_
  refine s_nil ?_
  refine p_seqN ?_
  refine v_seq ?_
  refine v_ops ?_
  refine s_pure (.int .i64 1048576) (fun _ q => q) ?_
  refine s_nil ?_
  refine p_seqN ?_
  refine v_seq ?_
  refine v_ops ?_
  refine s_load (.agg #[y0_towers.v, y0_links.v]) (fun _ q => bxb1.loadA rfl q) ?_
  refine s_pure (.int .i64 1048576) (fun _ q => q) ?_
  have f5 := (s_v0_towers.ext eh2)
  have f6 := (s_v0_links.ext eh2)
  refine s_call [.agg #[y0_towers.v, y0_links.v], .int .i64 1048576] rfl (szNet_ok y0_towers.v x0_towers y0_links.v x0_links 1048576 _ f5 f6 (by omega) (by omega)) ?_
  rintro _ h7 ⟨n8, rfl, eh7, hmn8, hkn8⟩
  have E9 := E3.trans eh7
  have z10 := eh7.size
  refine s_pure (.int .i64 n8) (fun _ q => q) ?_
  refine s_nil ?_
  refine p_seqN ?_
  refine v_seq ?_
  refine v_seq ?_
  refine v_ops ?_
  refine s_pure (.int .i64 n8) (fun _ q => q) ?_
  refine s_pure (.bool (decide (n8 < 0))) (fun _ q => q) ?_
  refine s_nil ?_
  refine p_seqN ?_
  refine v_cond rfl (fun c11 => ?_) (fun c11 => ?_)
  ·
    refine v_seq ?_
    refine v_ops ?_
    refine s_pure (.bool true) (fun _ q => q) ?_
    refine s_nil ?_
    refine p_seqN ?_
    refine v_ret ?_
    refine p_seqR ?_
    refine p_ret [.bool true] (.bool true) (fun _ q => q) rfl ?_
    exact ⟨rfl, E9⟩
  obtain ⟨hmn8, hkn8⟩ := And.intro (hmn8 (by omega)) hkn8
  have bd12 : x0_towers.length ≤ 1048576 := by omega
  have bd13 : x0_links.length ≤ 1048576 := by omega
  refine v_skip ?_
  refine p_seqN ?_
  refine v_seq ?_
  refine v_ops ?_
  refine s_pure v1 (fun _ q => q) ?_
  refine s_pure (.int .i64 n8) (fun _ q => q) ?_
  have f14 := ((s_v1.ext eh2).ext eh7)
  refine s_call [v1, .int .i64 n8] rfl (szFogS_ok v1 x1 n8 _ f14 (by omega) (by omega)) ?_
  rintro _ h15 ⟨n16, rfl, eh15, hmn16, hkn16⟩
  have E17 := E9.trans eh15
  have z18 := eh15.size
  refine s_pure (.int .i64 n16) (fun _ q => q) ?_
  refine s_nil ?_
  refine p_seqN ?_
  refine v_seq ?_
  refine v_seq ?_
  refine v_ops ?_
  refine s_pure (.int .i64 n16) (fun _ q => q) ?_
  refine s_pure (.bool (decide (n16 < 0))) (fun _ q => q) ?_
  refine s_nil ?_
  refine p_seqN ?_
  refine v_cond rfl (fun c19 => ?_) (fun c19 => ?_)
  ·
    refine v_seq ?_
    refine v_ops ?_
    refine s_pure (.bool true) (fun _ q => q) ?_
    refine s_nil ?_
    refine p_seqN ?_
    refine v_ret ?_
    refine p_seqR ?_
    refine p_ret [.bool true] (.bool true) (fun _ q => q) rfl ?_
    exact ⟨rfl, E17⟩
  obtain ⟨hmn16, hkn16⟩ := And.intro (hmn16 (by omega)) hkn16
  have bd20 : x1.length ≤ 1048576 := by omega
  refine v_skip ?_
  refine p_seqN ?_
  refine v_seq ?_
  refine v_ops ?_
  have f21 := ((bxb1.ext eh7).ext eh15)
  refine s_load (.agg #[y0_towers.v, y0_links.v]) (fun _ q => f21.loadA rfl q) ?_
  have f22 := ((f5.ext eh7).ext eh15)
  have f23 := ((f6.ext eh7).ext eh15)
  refine s_call [.agg #[y0_towers.v, y0_links.v]] rfl (toNet_ok y0_towers.v x0_towers y0_links.v x0_links _ f22 f23 bd12 bd13) ?_
  rintro _ h24 ⟨r25, r26, rfl, s_r25, s_r26, eh24, fr_r25, fr_r26, ap_r25⟩
  have E27 := E17.trans eh24
  have z28 := eh24.size
  have lt_r25 := s_r25.lt
  have lt_r26 := s_r26.lt
  refine s_pure v1 (fun _ q => q) ?_
  have f29 := ((f14.ext eh15).ext eh24)
  refine s_call [v1] rfl (toFogS_ok v1 x1 _ f29 bd20) ?_
  rintro r31 h30 ⟨_, rfl, s_r31, fr_r31, eh30⟩
  have E32 := E27.trans eh30
  have z33 := eh30.size
  have lt_r31 := s_r31.lt
  refine s_pure (.int .i64 x2) (fun _ q => q) ?_
  refine s_pure (.int .i64 x3) (fun _ q => q) ?_
  refine s_pure (.int .i64 x4) (fun _ q => q) ?_
  have f34 := (s_r25.ext eh30)
  have f35 := (s_r26.ext eh30)
  refine s_call [.agg #[r25, r26], r31, .int .i64 x2, .int .i64 x3, .int .i64 x4] rfl (spec_WayThrough_ok (⟨x0_towers, x0_links⟩ : NetP) r25 r26 r31 x1 x2 x3 x4 _ f34.toSl f35.toSl s_r31.toSl) ?_
  rintro _ h37 ⟨r36, rfl, s_r36, fr_r36, eh37⟩
  have E38 := E32.trans eh37
  have z39 := eh37.size
  have lt_r36 := s_r36.lt
  refine s_pure (.tuple #[r36, .bool ((wayOf (⟨x0_towers, x0_links⟩ : NetP) x1 x2 x3 x4).2)]) (fun _ q => q) ?_
  refine s_pure r36 (fun _ q => q) ?_
  refine s_pure (.bool ((wayOf (⟨x0_towers, x0_links⟩ : NetP) x1 x2 x3 x4).2)) (fun _ q => q) ?_
  refine s_pure r36 (fun _ q => q) ?_
  refine s_pure (.bool ((wayOf (⟨x0_towers, x0_links⟩ : NetP) x1 x2 x3 x4).2)) (fun _ q => q) ?_
  refine s_nil ?_
  refine p_seqN ?_
  refine v_seq ?_
  refine v_ops ?_
  have f40 := (((f21.ext eh24).ext eh30).ext eh37)
  refine s_load (.agg #[y0_towers.v, y0_links.v]) (fun _ q => f40.loadA rfl q) ?_
  have f41 := (((f22.ext eh24).ext eh30).ext eh37)
  have f42 := (((f23.ext eh24).ext eh30).ext eh37)
  refine s_call [.agg #[y0_towers.v, y0_links.v]] rfl (toNet_ok y0_towers.v x0_towers y0_links.v x0_links _ f41 f42 bd12 bd13) ?_
  rintro _ h43 ⟨r44, r45, rfl, s_r44, s_r45, eh43, fr_r44, fr_r45, ap_r44⟩
  have E46 := E38.trans eh43
  have z47 := eh43.size
  have lt_r44 := s_r44.lt
  have lt_r45 := s_r45.lt
  refine s_new (fun h49 b48 hbb48 hzb48 eh49 bxb48 => ?_)
  have E50 := E46.trans eh49
  have z51 := eh49.size
  have lbb48 := bxb48.lt
  refine s_stBx (.agg #[r44, r45]) [r44, r45] [r44, r45] bxb48 rfl rfl rfl rfl (by simp) (all_cons s_r44.one1 (all_cons s_r45.one1 all_nil)) rfl (fun h52 mh52 sh52 bxx53 => ?_)
  have E54 := E50.mod mh52 (fun b hb => by simp at hb; omega)
  refine s_nil ?_
  refine p_seqN ?_
  refine v_seq ?_
  refine v_ops ?_
  refine s_pure v1 (fun _ q => q) ?_
  have f55 := (((((f29.ext eh30).ext eh37).ext eh43).ext eh49).mod mh52 (fun b hb hc => by simp at hc; have := lt_v1 b hb; omega))
  refine s_call [v1] rfl (toFogS_ok v1 x1 _ f55 bd20) ?_
  rintro r57 h56 ⟨_, rfl, s_r57, fr_r57, eh56⟩
  have E58 := E54.trans eh56
  have z59 := eh56.size
  have lt_r57 := s_r57.lt
  refine s_pure r57 (fun _ q => q) ?_
  refine s_nil ?_
  refine p_seqN ?_
  refine v_seq ?_
  refine v_ops ?_
  have f60 := (bxx53.ext eh56)
  refine s_load (.agg #[r44, r45]) (fun _ q => f60.loadA rfl q) ?_
  refine s_pure r57 (fun _ q => q) ?_
  refine s_pure (.int .i64 x2) (fun _ q => q) ?_
  refine s_pure (.int .i64 x3) (fun _ q => q) ?_
  refine s_pure (.int .i64 x4) (fun _ q => q) ?_
  have f61 := (((s_r44.ext eh49).mod mh52 (fun b hb hc => by simp at hc; have := lt_r44 b hb; omega)).ext eh56)
  have f62 := (((s_r45.ext eh49).mod mh52 (fun b hb hc => by simp at hc; have := lt_r45 b hb; omega)).ext eh56)
  refine s_call [.agg #[r44, r45], r57, .int .i64 x2, .int .i64 x3, .int .i64 x4] rfl (impl_WayThrough_ok (⟨x0_towers, x0_links⟩ : NetP) r44 r45 r57 x1 x2 x3 x4 _ f61.toSl f62.toSl s_r57.toSl) ?_
  rintro _ h64 ⟨r63, rfl, s_r63, fr_r63, eh64⟩
  have E65 := E58.trans eh64
  have z66 := eh64.size
  have lt_r63 := s_r63.lt
  refine s_pure (.tuple #[r63, .bool ((wayOf (⟨x0_towers, x0_links⟩ : NetP) x1 x2 x3 x4).2)]) (fun _ q => q) ?_
  refine s_pure r63 (fun _ q => q) ?_
  refine s_pure (.bool ((wayOf (⟨x0_towers, x0_links⟩ : NetP) x1 x2 x3 x4).2)) (fun _ q => q) ?_
  refine s_pure r63 (fun _ q => q) ?_
  refine s_pure (.bool ((wayOf (⟨x0_towers, x0_links⟩ : NetP) x1 x2 x3 x4).2)) (fun _ q => q) ?_
  refine s_nil ?_
  refine p_seqN ?_
  refine v_seq ?_
  refine v_seq ?_
  refine v_ops ?_
  refine s_pure r63 (fun _ q => q) ?_
  refine s_pure r36 (fun _ q => q) ?_
  have f67 := (((((s_r36.ext eh43).ext eh49).mod mh52 (fun b hb hc => by simp at hc; have := lt_r36 b hb; omega)).ext eh56).ext eh64)
  refine s_call [r63, r36] rfl (eqIntS_ok r63 r36 ((wayOf (⟨x0_towers, x0_links⟩ : NetP) x1 x2 x3 x4).1) ((wayOf (⟨x0_towers, x0_links⟩ : NetP) x1 x2 x3 x4).1) _ s_r63.toSl f67.toSl) ?_
  rintro _ h68 ⟨rfl, hqh68⟩
  have eh68 := Ext.ofEq hqh68
  clear hqh68
  have E69 := E65.trans eh68
  have z70 := eh68.size
  refine s_pure (.bool (!(decide ((wayOf (⟨x0_towers, x0_links⟩ : NetP) x1 x2 x3 x4).1 = (wayOf (⟨x0_towers, x0_links⟩ : NetP) x1 x2 x3 x4).1)))) (fun _ q => q) ?_
  refine s_pure (.bool (!(decide ((wayOf (⟨x0_towers, x0_links⟩ : NetP) x1 x2 x3 x4).1 = (wayOf (⟨x0_towers, x0_links⟩ : NetP) x1 x2 x3 x4).1)))) (fun _ q => q) ?_
  refine s_splitN rfl (by first | assumption | omega | (simp; done) | (simp; omega) | simp_all) ?_
  refine s_run rfl ?_
  refine s_pure (.bool ((wayOf (⟨x0_towers, x0_links⟩ : NetP) x1 x2 x3 x4).2)) (fun _ q => q) ?_
  refine s_run rfl ?_
  refine s_pure (.bool ((wayOf (⟨x0_towers, x0_links⟩ : NetP) x1 x2 x3 x4).2)) (fun _ q => q) ?_
  refine s_run rfl ?_
  refine s_pure (.bool ((wayOf (⟨x0_towers, x0_links⟩ : NetP) x1 x2 x3 x4).2 != (wayOf (⟨x0_towers, x0_links⟩ : NetP) x1 x2 x3 x4).2)) (fun _ q => q) ?_
  refine s_pure (.bool ((wayOf (⟨x0_towers, x0_links⟩ : NetP) x1 x2 x3 x4).2 != (wayOf (⟨x0_towers, x0_links⟩ : NetP) x1 x2 x3 x4).2)) (fun _ q => q) ?_
  refine s_nil ?_
  refine p_seqN ?_
  refine v_condN rfl (by first | assumption | omega | (simp; done) | (simp; omega) | simp_all) ?_
  refine v_skip ?_
  refine p_seqN ?_
  refine v_seq ?_
  refine v_seq ?_
  have f71 := ((f60.ext eh64).ext eh68)
  refine v_draw (DrawVC.hold ([b48]) ?_)
  refine d_loadT (.agg #[r44, r45]) (fun _ q => f71.takeA (by simp) rfl q) ?_
  have f72 := ((((((f40.ext eh43).ext eh49).mod mh52 (by simp; omega)).ext eh56).ext eh64).ext eh68)
  refine d_loadO (.agg #[y0_towers.v, y0_links.v]) (fun _ q => f72.loadA rfl q) ?_
  refine d_eff ?_
  have f73 := ((((((f41.ext eh43).ext eh49).mod mh52 (fun b hb hc => by simp at hc; have := lt_v0_towers b hb; omega)).ext eh56).ext eh64).ext eh68)
  have f74 := ((((((f42.ext eh43).ext eh49).mod mh52 (fun b hb hc => by simp at hc; have := lt_v0_links b hb; omega)).ext eh56).ext eh64).ext eh68)
  refine s_call [.agg #[y0_towers.v, y0_links.v]] rfl (toNet_ok y0_towers.v x0_towers y0_links.v x0_links _ f73 f74 bd12 bd13) ?_
  rintro _ h75 ⟨r76, r77, rfl, s_r76, s_r77, eh75, fr_r76, fr_r77, ap_r76⟩
  have E78 := E69.trans eh75
  have z79 := eh75.size
  have G80 := eh75
  have lt_r76 := s_r76.lt
  have lt_r77 := s_r77.lt
  refine s_nil ⟨fun _ x hx => G80.blk x (by simp at hx; omega), ?_⟩
  refine d_eff ?_
  have f81 := (((f61.ext eh64).ext eh68).ext eh75)
  have f82 := (((f62.ext eh64).ext eh68).ext eh75)
  refine s_call [.agg #[r44, r45], .agg #[r76, r77]] rfl (eqNet_ok r44 x0_towers r45 x0_links r76 x0_towers r77 x0_links _ f81.toSl f82.toSl s_r76.toSl s_r77.toSl) ?_
  rintro _ h83 ⟨rfl, eh83⟩
  have E84 := E78.trans eh83
  have z85 := eh83.size
  have G86 := G80.trans eh83
  refine s_nil ⟨fun _ x hx => G86.blk x (by simp at hx; omega), ?_⟩
  refine d_pureT (.bool (!(decide (x0_towers = x0_towers ∧ x0_links = x0_links)))) (fun _ q => q) ?_
  refine d_done ?_
  refine p_seqN ?_
  refine v_condN rfl (by first | assumption | omega | (simp; done) | (simp; omega) | simp_all) ?_
  refine v_skip ?_
  refine p_seqN ?_
  refine v_seq ?_
  refine v_seq ?_
  refine v_ops ?_
  refine s_pure r57 (fun _ q => q) ?_
  refine s_pure v1 (fun _ q => q) ?_
  have f87 := (((((f55.ext eh56).ext eh64).ext eh68).ext eh75).ext eh83)
  refine s_call [v1] rfl (toFogS_ok v1 x1 _ f87 bd20) ?_
  rintro r89 h88 ⟨_, rfl, s_r89, fr_r89, eh88⟩
  have E90 := E84.trans eh88
  have z91 := eh88.size
  have lt_r89 := s_r89.lt
  have f92 := (((((s_r57.ext eh64).ext eh68).ext eh75).ext eh83).ext eh88)
  refine s_call [r57, r89] rfl (eqFogS_ok r57 x1 r89 x1 _ f92.toSl s_r89.toSl) ?_
  rintro _ h93 ⟨rfl, eh93⟩
  have E94 := E90.trans eh93
  have z95 := eh93.size
  refine s_pure (.bool (!(decide (x1 = x1)))) (fun _ q => q) ?_
  refine s_nil ?_
  refine p_seqN ?_
  refine v_condN rfl (by first | assumption | omega | (simp; done) | (simp; omega) | simp_all) ?_
  refine v_skip ?_
  refine p_seqN ?_
  refine v_seq ?_
  refine v_ops ?_
  refine s_pure (.int .i64 1) (fun _ q => q) ?_
  refine s_nil ?_
  refine p_seqN ?_
  refine v_seq ?_
  refine v_ops ?_
  have f96 := ((((f71.ext eh75).ext eh83).ext eh88).ext eh93)
  refine s_load (.agg #[r44, r45]) (fun _ q => f96.loadA rfl q) ?_
  refine s_pure (.int .i64 1) (fun _ q => q) ?_
  have f97 := (((f81.ext eh83).ext eh88).ext eh93)
  have f98 := (((f82.ext eh83).ext eh88).ext eh93)
  refine s_call [.agg #[r44, r45], .int .i64 1] rfl (markNet_ok r44 x0_towers r45 x0_links (1) _ f97 f98 ap_r44 (by omega) (by omega) (by omega) (by omega)) ?_
  rintro _ h99 ⟨rfl, mk100, mk101, mh99, zh99⟩
  have E102 := E94.mod mh99 (all_app (fun b hb => by have := fr_r44 b hb; omega) (fun b hb => by have := fr_r45 b hb; omega))
  refine s_pure (.int .i64 (1 + 3 * (x0_towers.length : Int) + 3 * (x0_links.length : Int))) (fun _ q => q) ?_
  refine s_nil ?_
  refine p_seqN ?_
  refine v_seq ?_
  refine v_ops ?_
  refine s_pure r57 (fun _ q => q) ?_
  refine s_pure (.int .i64 (1 + 3 * (x0_towers.length : Int) + 3 * (x0_links.length : Int))) (fun _ q => q) ?_
  have f103 := ((f92.ext eh93).mod mh99 (fun b hb => not_app (((fun b hb hc => by have := fr_r57 b hb; have := lt_r44 b hc; omega) : ∀ b ∈ blks r57, b ∉ blks r44) b hb) (((fun b hb hc => by have := fr_r57 b hb; have := lt_r45 b hc; omega) : ∀ b ∈ blks r57, b ∉ blks r45) b hb)))
  refine s_call [r57, .int .i64 (1 + 3 * (x0_towers.length : Int) + 3 * (x0_links.length : Int))] rfl (markFogS_ok r57 x1 ((1 + 3 * (x0_towers.length : Int) + 3 * (x0_links.length : Int))) _ f103 (by omega) (by omega) (by omega)) ?_
  rintro _ h104 ⟨rfl, mk105, mh104, zh104⟩
  have E106 := E102.mod mh104 (fun b hb => by have := fr_r57 b hb; omega)
  refine s_pure (.int .i64 ((1 + 3 * (x0_towers.length : Int) + 3 * (x0_links.length : Int)) + 3 * (x1.length : Int))) (fun _ q => q) ?_
  refine s_nil ?_
  refine p_seqN ?_
  refine v_seq ?_
  refine v_seq ?_
  refine v_ops ?_
  refine s_pure (.int .i64 ((1 + 3 * (x0_towers.length : Int) + 3 * (x0_links.length : Int)) + 3 * (x1.length : Int))) (fun _ q => q) ?_
  refine s_pure (.bool (decide (((1 + 3 * (x0_towers.length : Int) + 3 * (x0_links.length : Int)) + 3 * (x1.length : Int)) < 0))) (fun _ q => q) ?_
  refine s_pure (.bool (decide (((1 + 3 * (x0_towers.length : Int) + 3 * (x0_links.length : Int)) + 3 * (x1.length : Int)) < 0))) (fun _ q => q) ?_
  refine s_splitN rfl (by first | assumption | omega | (simp; done) | (simp; omega) | simp_all) ?_
  refine s_run rfl ?_
  refine s_pure r63 (fun _ q => q) ?_
  refine s_run rfl ?_
  refine s_pure r36 (fun _ q => q) ?_
  refine s_run rfl ?_
  have f107 := (((((((s_r63.ext eh68).ext eh75).ext eh83).ext eh88).ext eh93).mod mh99 (fun b hb => not_app (((fun b hb hc => by have := fr_r63 b hb; have := lt_r44 b hc; omega) : ∀ b ∈ blks r63, b ∉ blks r44) b hb) (((fun b hb hc => by have := fr_r63 b hb; have := lt_r45 b hc; omega) : ∀ b ∈ blks r63, b ∉ blks r45) b hb))).mod mh104 (fun b hb hc => by have := fr_r63 b hb; have := lt_r57 b hc; omega))
  have f108 := (((((((f67.ext eh68).ext eh75).ext eh83).ext eh88).ext eh93).mod mh99 (fun b hb => not_app (((fun b hb hc => by have := lt_r36 b hb; have := fr_r44 b hc; omega) : ∀ b ∈ blks r36, b ∉ blks r44) b hb) (((fun b hb hc => by have := lt_r36 b hb; have := fr_r45 b hc; omega) : ∀ b ∈ blks r36, b ∉ blks r45) b hb))).mod mh104 (fun b hb hc => by have := lt_r36 b hb; have := fr_r57 b hc; omega))
  refine s_call [r63, r36] rfl (eqIntS_ok r63 r36 ((wayOf (⟨x0_towers, x0_links⟩ : NetP) x1 x2 x3 x4).1) ((wayOf (⟨x0_towers, x0_links⟩ : NetP) x1 x2 x3 x4).1) _ f107.toSl f108.toSl) ?_
  rintro _ h109 ⟨rfl, hqh109⟩
  have eh109 := Ext.ofEq hqh109
  clear hqh109
  have E110 := E106.trans eh109
  have z111 := eh109.size
  refine s_run rfl ?_
  refine s_pure (.bool (!(decide ((wayOf (⟨x0_towers, x0_links⟩ : NetP) x1 x2 x3 x4).1 = (wayOf (⟨x0_towers, x0_links⟩ : NetP) x1 x2 x3 x4).1)))) (fun _ q => q) ?_
  refine s_pure (.bool (!(decide ((wayOf (⟨x0_towers, x0_links⟩ : NetP) x1 x2 x3 x4).1 = (wayOf (⟨x0_towers, x0_links⟩ : NetP) x1 x2 x3 x4).1)))) (fun _ q => q) ?_
  refine s_pure (.bool (!(decide ((wayOf (⟨x0_towers, x0_links⟩ : NetP) x1 x2 x3 x4).1 = (wayOf (⟨x0_towers, x0_links⟩ : NetP) x1 x2 x3 x4).1)))) (fun _ q => q) ?_
  refine s_splitN rfl (by first | assumption | omega | (simp; done) | (simp; omega) | simp_all) ?_
  refine s_run rfl ?_
  refine s_pure (.bool ((wayOf (⟨x0_towers, x0_links⟩ : NetP) x1 x2 x3 x4).2)) (fun _ q => q) ?_
  refine s_run rfl ?_
  refine s_pure (.bool ((wayOf (⟨x0_towers, x0_links⟩ : NetP) x1 x2 x3 x4).2)) (fun _ q => q) ?_
  refine s_run rfl ?_
  refine s_pure (.bool ((wayOf (⟨x0_towers, x0_links⟩ : NetP) x1 x2 x3 x4).2 != (wayOf (⟨x0_towers, x0_links⟩ : NetP) x1 x2 x3 x4).2)) (fun _ q => q) ?_
  refine s_pure (.bool ((wayOf (⟨x0_towers, x0_links⟩ : NetP) x1 x2 x3 x4).2 != (wayOf (⟨x0_towers, x0_links⟩ : NetP) x1 x2 x3 x4).2)) (fun _ q => q) ?_
  refine s_nil ?_
  refine p_seqN ?_
  refine v_condN rfl (by first | assumption | omega | (simp; done) | (simp; omega) | simp_all) ?_
  refine v_skip ?_
  refine p_seqN ?_
  refine v_seq ?_
  refine v_ops ?_
  refine s_pure (.int .i64 1) (fun _ q => q) ?_
  refine s_nil ?_
  refine p_seqN ?_
  refine v_seq ?_
  refine v_ops ?_
  refine s_pure r63 (fun _ q => q) ?_
  refine s_pure (.int .i64 1) (fun _ q => q) ?_
  have f112 := (f107.ext eh109)
  refine s_call [r63, .int .i64 1] rfl (markIntS_ok r63 ((wayOf (⟨x0_towers, x0_links⟩ : NetP) x1 x2 x3 x4).1) (1) _ f112 (by omega) (by omega) (by omega)) ?_
  rintro _ h113 ⟨rfl, mk114, mh113, zh113⟩
  have E115 := E110.mod mh113 (fun b hb => by have := fr_r63 b hb; omega)
  refine s_pure (.int .i64 (1 + ((wayOf (⟨x0_towers, x0_links⟩ : NetP) x1 x2 x3 x4).1.length : Int))) (fun _ q => q) ?_
  refine s_nil ?_
  refine p_seqN ?_
  refine v_seq ?_
  refine v_ops ?_
  refine s_pure (.int .i64 1) (fun _ q => q) ?_
  refine s_nil ?_
  refine p_seqN ?_
  refine v_seq ?_
  refine v_ops ?_
  refine s_pure r63 (fun _ q => q) ?_
  refine s_pure (.int .i64 1) (fun _ q => q) ?_
  refine s_call [r63, .int .i64 1] rfl (heldIntS_ok _ _ (1) _ mk114.toSl (by omega) (by omega) (by omega)) ?_
  rintro _ h116 ⟨rfl, hqh116⟩
  have eh116 := Ext.ofEq hqh116
  clear hqh116
  have E117 := E115.trans eh116
  have z118 := eh116.size
  refine s_pure (.int .i64 (1 + ((wayOf (⟨x0_towers, x0_links⟩ : NetP) x1 x2 x3 x4).1.length : Int))) (fun _ q => q) ?_
  refine s_nil ?_
  refine p_seqN ?_
  refine v_seq ?_
  refine v_seq ?_
  refine v_ops ?_
  refine s_pure (.int .i64 (1 + ((wayOf (⟨x0_towers, x0_links⟩ : NetP) x1 x2 x3 x4).1.length : Int))) (fun _ q => q) ?_
  refine s_pure (.bool (decide ((1 + ((wayOf (⟨x0_towers, x0_links⟩ : NetP) x1 x2 x3 x4).1.length : Int)) < 0))) (fun _ q => q) ?_
  refine s_nil ?_
  refine p_seqN ?_
  refine v_condN rfl (by first | assumption | omega | (simp; done) | (simp; omega) | simp_all) ?_
  refine v_skip ?_
  refine p_seqN ?_
  refine v_seq ?_
  refine v_seq ?_
  refine v_ops ?_
  refine s_pure (.int .i64 (1 + ((wayOf (⟨x0_towers, x0_links⟩ : NetP) x1 x2 x3 x4).1.length : Int))) (fun _ q => q) ?_
  refine s_pure (.int .i64 (1 + ((wayOf (⟨x0_towers, x0_links⟩ : NetP) x1 x2 x3 x4).1.length : Int))) (fun _ q => q) ?_
  refine s_pure (.bool ((1 + ((wayOf (⟨x0_towers, x0_links⟩ : NetP) x1 x2 x3 x4).1.length : Int)) != (1 + ((wayOf (⟨x0_towers, x0_links⟩ : NetP) x1 x2 x3 x4).1.length : Int)))) (fun _ q => q) ?_
  refine s_nil ?_
  refine p_seqN ?_
  refine v_condN rfl (by first | assumption | omega | (simp; done) | (simp; omega) | simp_all) ?_
  refine v_skip ?_
  refine p_seqN ?_
  refine v_seq ?_
  refine v_ops ?_
  have f119 := (((((((((f72.ext eh75).ext eh83).ext eh88).ext eh93).mod mh99 (not_app (fun hc => by have := fr_r44 _ hc; omega) (fun hc => by have := fr_r45 _ hc; omega))).mod mh104 (fun hc => by have := fr_r57 _ hc; omega)).ext eh109).mod mh113 (fun hc => by have := fr_r63 _ hc; omega)).ext eh116)
  refine s_load (.agg #[y0_towers.v, y0_links.v]) (fun _ q => f119.loadA rfl q) ?_
  have f120 := (((((((((f73.ext eh75).ext eh83).ext eh88).ext eh93).mod mh99 (fun b hb => not_app (((fun b hb hc => by have := lt_v0_towers b hb; have := fr_r44 b hc; omega) : ∀ b ∈ blks y0_towers.v, b ∉ blks r44) b hb) (((fun b hb hc => by have := lt_v0_towers b hb; have := fr_r45 b hc; omega) : ∀ b ∈ blks y0_towers.v, b ∉ blks r45) b hb))).mod mh104 (fun b hb hc => by have := lt_v0_towers b hb; have := fr_r57 b hc; omega)).ext eh109).mod mh113 (fun b hb hc => by have := lt_v0_towers b hb; have := fr_r63 b hc; omega)).ext eh116)
  have f121 := (((((((((f74.ext eh75).ext eh83).ext eh88).ext eh93).mod mh99 (fun b hb => not_app (((fun b hb hc => by have := lt_v0_links b hb; have := fr_r44 b hc; omega) : ∀ b ∈ blks y0_links.v, b ∉ blks r44) b hb) (((fun b hb hc => by have := lt_v0_links b hb; have := fr_r45 b hc; omega) : ∀ b ∈ blks y0_links.v, b ∉ blks r45) b hb))).mod mh104 (fun b hb hc => by have := lt_v0_links b hb; have := fr_r57 b hc; omega)).ext eh109).mod mh113 (fun b hb hc => by have := lt_v0_links b hb; have := fr_r63 b hc; omega)).ext eh116)
  refine s_call [.agg #[y0_towers.v, y0_links.v]] rfl (toNet_ok y0_towers.v x0_towers y0_links.v x0_links _ f120 f121 bd12 bd13) ?_
  rintro _ h122 ⟨r123, r124, rfl, s_r123, s_r124, eh122, fr_r123, fr_r124, ap_r123⟩
  have E125 := E117.trans eh122
  have z126 := eh122.size
  have lt_r123 := s_r123.lt
  have lt_r124 := s_r124.lt
  refine s_pure v1 (fun _ q => q) ?_
  have f127 := ((((((((f87.ext eh88).ext eh93).mod mh99 (fun b hb => not_app (((fun b hb hc => by have := lt_v1 b hb; have := fr_r44 b hc; omega) : ∀ b ∈ blks v1, b ∉ blks r44) b hb) (((fun b hb hc => by have := lt_v1 b hb; have := fr_r45 b hc; omega) : ∀ b ∈ blks v1, b ∉ blks r45) b hb))).mod mh104 (fun b hb hc => by have := lt_v1 b hb; have := fr_r57 b hc; omega)).ext eh109).mod mh113 (fun b hb hc => by have := lt_v1 b hb; have := fr_r63 b hc; omega)).ext eh116).ext eh122)
  refine s_call [v1] rfl (toFogS_ok v1 x1 _ f127 bd20) ?_
  rintro r129 h128 ⟨_, rfl, s_r129, fr_r129, eh128⟩
  have E130 := E125.trans eh128
  have z131 := eh128.size
  have lt_r129 := s_r129.lt
  refine s_pure (.int .i64 x2) (fun _ q => q) ?_
  refine s_pure (.int .i64 x3) (fun _ q => q) ?_
  refine s_pure (.int .i64 x4) (fun _ q => q) ?_
  have f132 := (s_r123.ext eh128)
  have f133 := (s_r124.ext eh128)
  refine s_call [.agg #[r123, r124], r129, .int .i64 x2, .int .i64 x3, .int .i64 x4] rfl (impl_WayThrough_ok (⟨x0_towers, x0_links⟩ : NetP) r123 r124 r129 x1 x2 x3 x4 _ f132.toSl f133.toSl s_r129.toSl) ?_
  rintro _ h135 ⟨r134, rfl, s_r134, fr_r134, eh135⟩
  have E136 := E130.trans eh135
  have z137 := eh135.size
  have lt_r134 := s_r134.lt
  refine s_pure (.tuple #[r134, .bool ((wayOf (⟨x0_towers, x0_links⟩ : NetP) x1 x2 x3 x4).2)]) (fun _ q => q) ?_
  refine s_pure r134 (fun _ q => q) ?_
  refine s_pure (.bool ((wayOf (⟨x0_towers, x0_links⟩ : NetP) x1 x2 x3 x4).2)) (fun _ q => q) ?_
  refine s_pure r134 (fun _ q => q) ?_
  refine s_pure (.bool ((wayOf (⟨x0_towers, x0_links⟩ : NetP) x1 x2 x3 x4).2)) (fun _ q => q) ?_
  refine s_nil ?_
  refine p_seqN ?_
  refine v_seq ?_
  refine v_seq ?_
  refine v_ops ?_
  refine s_pure r134 (fun _ q => q) ?_
  refine s_pure r36 (fun _ q => q) ?_
  have f138 := ((((((f108.ext eh109).mod mh113 (fun b hb hc => by have := lt_r36 b hb; have := fr_r63 b hc; omega)).ext eh116).ext eh122).ext eh128).ext eh135)
  refine s_call [r134, r36] rfl (eqIntS_ok r134 r36 ((wayOf (⟨x0_towers, x0_links⟩ : NetP) x1 x2 x3 x4).1) ((wayOf (⟨x0_towers, x0_links⟩ : NetP) x1 x2 x3 x4).1) _ s_r134.toSl f138.toSl) ?_
  rintro _ h139 ⟨rfl, hqh139⟩
  have eh139 := Ext.ofEq hqh139
  clear hqh139
  have E140 := E136.trans eh139
  have z141 := eh139.size
  refine s_pure (.bool (!(decide ((wayOf (⟨x0_towers, x0_links⟩ : NetP) x1 x2 x3 x4).1 = (wayOf (⟨x0_towers, x0_links⟩ : NetP) x1 x2 x3 x4).1)))) (fun _ q => q) ?_
  refine s_pure (.bool (!(decide ((wayOf (⟨x0_towers, x0_links⟩ : NetP) x1 x2 x3 x4).1 = (wayOf (⟨x0_towers, x0_links⟩ : NetP) x1 x2 x3 x4).1)))) (fun _ q => q) ?_
  refine s_splitN rfl (by first | assumption | omega | (simp; done) | (simp; omega) | simp_all) ?_
  refine s_run rfl ?_
  refine s_pure (.bool ((wayOf (⟨x0_towers, x0_links⟩ : NetP) x1 x2 x3 x4).2)) (fun _ q => q) ?_
  refine s_run rfl ?_
  refine s_pure (.bool ((wayOf (⟨x0_towers, x0_links⟩ : NetP) x1 x2 x3 x4).2)) (fun _ q => q) ?_
  refine s_run rfl ?_
  refine s_pure (.bool ((wayOf (⟨x0_towers, x0_links⟩ : NetP) x1 x2 x3 x4).2 != (wayOf (⟨x0_towers, x0_links⟩ : NetP) x1 x2 x3 x4).2)) (fun _ q => q) ?_
  refine s_pure (.bool ((wayOf (⟨x0_towers, x0_links⟩ : NetP) x1 x2 x3 x4).2 != (wayOf (⟨x0_towers, x0_links⟩ : NetP) x1 x2 x3 x4).2)) (fun _ q => q) ?_
  refine s_nil ?_
  refine p_seqN ?_
  refine v_condN rfl (by first | assumption | omega | (simp; done) | (simp; omega) | simp_all) ?_
  refine v_skip ?_
  refine p_seqN ?_
  refine v_seq ?_
  refine v_ops ?_
  refine s_pure (.int .i64 1) (fun _ q => q) ?_
  refine s_nil ?_
  refine p_seqN ?_
  refine v_seq ?_
  refine v_ops ?_
  refine s_pure r63 (fun _ q => q) ?_
  refine s_pure (.int .i64 1) (fun _ q => q) ?_
  have f142 := (((((mk114.ext eh116).ext eh122).ext eh128).ext eh135).ext eh139)
  refine s_call [r63, .int .i64 1] rfl (heldIntS_ok _ _ (1) _ f142.toSl (by omega) (by omega) (by omega)) ?_
  rintro _ h143 ⟨rfl, hqh143⟩
  have eh143 := Ext.ofEq hqh143
  clear hqh143
  have E144 := E140.trans eh143
  have z145 := eh143.size
  refine s_pure (.int .i64 (1 + ((wayOf (⟨x0_towers, x0_links⟩ : NetP) x1 x2 x3 x4).1.length : Int))) (fun _ q => q) ?_
  refine s_nil ?_
  refine p_seqN ?_
  refine v_seq ?_
  refine v_seq ?_
  refine v_ops ?_
  refine s_pure (.int .i64 (1 + ((wayOf (⟨x0_towers, x0_links⟩ : NetP) x1 x2 x3 x4).1.length : Int))) (fun _ q => q) ?_
  refine s_pure (.bool (decide ((1 + ((wayOf (⟨x0_towers, x0_links⟩ : NetP) x1 x2 x3 x4).1.length : Int)) < 0))) (fun _ q => q) ?_
  refine s_nil ?_
  refine p_seqN ?_
  refine v_condN rfl (by first | assumption | omega | (simp; done) | (simp; omega) | simp_all) ?_
  refine v_skip ?_
  refine p_seqN ?_
  refine v_seq ?_
  refine v_seq ?_
  refine v_ops ?_
  refine s_pure (.int .i64 (1 + ((wayOf (⟨x0_towers, x0_links⟩ : NetP) x1 x2 x3 x4).1.length : Int))) (fun _ q => q) ?_
  refine s_pure (.int .i64 (1 + ((wayOf (⟨x0_towers, x0_links⟩ : NetP) x1 x2 x3 x4).1.length : Int))) (fun _ q => q) ?_
  refine s_pure (.bool ((1 + ((wayOf (⟨x0_towers, x0_links⟩ : NetP) x1 x2 x3 x4).1.length : Int)) != (1 + ((wayOf (⟨x0_towers, x0_links⟩ : NetP) x1 x2 x3 x4).1.length : Int)))) (fun _ q => q) ?_
  refine s_nil ?_
  refine p_seqN ?_
  refine v_condN rfl (by first | assumption | omega | (simp; done) | (simp; omega) | simp_all) ?_
  refine v_skip ?_
  refine p_seqN ?_
  refine v_seq ?_
  refine v_ops ?_
  refine s_pure (.bool true) (fun _ q => q) ?_
  refine s_nil ?_
  refine p_seqN ?_
  refine v_ret ?_
  refine p_ret [.bool true] (.bool true) (fun _ q => q) rfl ?_
  exact ⟨rfl, E144⟩
end Go.Proofs.Ythagdkmalchhgaa.finFnExactWayThrough
