/- The law FnExactAddFog: its text returns true. Condition: none. Printed by a program. -/
import Derived.Test.YthagdkmalchhgaaRo14
import Derived.Test.YthagdkmalchhgaaTypes
namespace Go.Proofs.Ythagdkmalchhgaa.finFnExactAddFog
open Go.Vc
set_option linter.all false
set_option maxRecDepth 100000 in
set_option maxHeartbeats 2000000 in
theorem law_ok (h : Heap) (x0 : NetD) (w0 : NetD.good h x0) (v1 : Value) (x1 : List FogD) (s_v1 : Sl h v1 x1) (_ : ∀ y ∈ x1, FogD.good h y) (x2 : FogD) (w2 : FogD.good h x2) : Cn f_laws_FnExactAddFog [x0.val, v1, x2.val] h fun v h' => v = .bool true ∧ Ext h h' := by
  obtain ⟨y0_towers, y0_links⟩ := x0
  obtain ⟨⟨x0_towers, s_v0_towers, _⟩, ⟨x0_links, s_v0_links, _⟩⟩ := w0
  change Sl h y0_towers.v x0_towers at s_v0_towers
  have lt_v0_towers := s_v0_towers.lt
  change Sl h y0_links.v x0_links at s_v0_links
  have lt_v0_links := s_v0_links.lt
  have lt_v1 := s_v1.lt
  obtain ⟨y2_link, y2_fr, y2_til⟩ := x2
  obtain ⟨b_y2_link, b_y2_fr, b_y2_til⟩ := w2
  change I64 y2_link at b_y2_link
  unfold I64 at b_y2_link
  change I64 y2_fr at b_y2_fr
  unfold I64 at b_y2_fr
  change I64 y2_til at b_y2_til
  unfold I64 at b_y2_til
  have lens := add_len ⟨x0_towers, x0_links⟩ x1 ⟨y2_link, y2_fr, y2_til⟩
  refine calls_of r_laws_FnExactAddFog ?_
  refine v_seq ?_
  refine v_ops ?_
  refine s_box [y0_towers.v, y0_links.v] rfl (fun h2 b1 hbb1 hzb1 eh2 bxb1 => ?_)
  have E3 := (Ext.refl h).trans eh2
  have z4 := eh2.size
  have lbb1 := bxb1.lt
  refine s_box [.int .i64 y2_link, .int .i64 y2_fr, .int .i64 y2_til] rfl (fun h6 b5 hbb5 hzb5 eh6 bxb5 => ?_)
  have E7 := E3.trans eh6
  have z8 := eh6.size
  have lbb5 := bxb5.lt
  refine s_pure (.bool false) (fun _ q => q) ?_
  refine s_nil ?_
  refine p_seqN ?_
  refine v_seq ?_
  refine v_ops ?_
  refine s_pure (.int .i64 1048576) (fun _ q => q) ?_
  refine s_nil ?_
  refine p_seqN ?_
  refine v_seq ?_
  refine v_ops ?_
  have f9 := (bxb1.ext eh6)
  refine s_load (.agg #[y0_towers.v, y0_links.v]) (fun _ q => f9.loadA rfl q) ?_
  refine s_pure (.int .i64 1048576) (fun _ q => q) ?_
  have f10 := ((s_v0_towers.ext eh2).ext eh6)
  have f11 := ((s_v0_links.ext eh2).ext eh6)
  refine s_call [.agg #[y0_towers.v, y0_links.v], .int .i64 1048576] rfl (szNet_ok y0_towers.v x0_towers y0_links.v x0_links 1048576 _ f10 f11 (by omega) (by omega)) ?_
  rintro _ h12 ⟨n13, rfl, eh12, hmn13, hkn13⟩
  have E14 := E7.trans eh12
  have z15 := eh12.size
  refine s_pure (.int .i64 n13) (fun _ q => q) ?_
  refine s_nil ?_
  refine p_seqN ?_
  refine v_seq ?_
  refine v_seq ?_
  refine v_ops ?_
  refine s_pure (.int .i64 n13) (fun _ q => q) ?_
  refine s_pure (.bool (decide (n13 < 0))) (fun _ q => q) ?_
  refine s_nil ?_
  refine p_seqN ?_
  refine v_cond rfl (fun c16 => ?_) (fun c16 => ?_)
  ·
    refine v_seq ?_
    refine v_ops ?_
    refine s_pure (.bool true) (fun _ q => q) ?_
    refine s_nil ?_
    refine p_seqN ?_
    refine v_ret ?_
    refine p_seqR ?_
    refine p_ret [.bool true] (.bool true) (fun _ q => q) rfl ?_
    exact ⟨rfl, E14⟩
  obtain ⟨hmn13, hkn13⟩ := And.intro (hmn13 (by omega)) hkn13
  have bd17 : x0_towers.length ≤ 1048576 := by omega
  have bd18 : x0_links.length ≤ 1048576 := by omega
  refine v_skip ?_
  refine p_seqN ?_
  refine v_seq ?_
  refine v_ops ?_
  refine s_pure v1 (fun _ q => q) ?_
  refine s_pure (.int .i64 n13) (fun _ q => q) ?_
  have f19 := (((s_v1.ext eh2).ext eh6).ext eh12)
  refine s_call [v1, .int .i64 n13] rfl (szFogS_ok v1 x1 n13 _ f19 (by omega) (by omega)) ?_
  rintro _ h20 ⟨n21, rfl, eh20, hmn21, hkn21⟩
  have E22 := E14.trans eh20
  have z23 := eh20.size
  refine s_pure (.int .i64 n21) (fun _ q => q) ?_
  refine s_nil ?_
  refine p_seqN ?_
  refine v_seq ?_
  refine v_seq ?_
  refine v_ops ?_
  refine s_pure (.int .i64 n21) (fun _ q => q) ?_
  refine s_pure (.bool (decide (n21 < 0))) (fun _ q => q) ?_
  refine s_nil ?_
  refine p_seqN ?_
  refine v_cond rfl (fun c24 => ?_) (fun c24 => ?_)
  ·
    refine v_seq ?_
    refine v_ops ?_
    refine s_pure (.bool true) (fun _ q => q) ?_
    refine s_nil ?_
    refine p_seqN ?_
    refine v_ret ?_
    refine p_seqR ?_
    refine p_ret [.bool true] (.bool true) (fun _ q => q) rfl ?_
    exact ⟨rfl, E22⟩
  obtain ⟨hmn21, hkn21⟩ := And.intro (hmn21 (by omega)) hkn21
  have bd25 : x1.length ≤ 1048576 := by omega
  refine v_skip ?_
  refine p_seqN ?_
  refine v_seq ?_
  have f26 := ((bxb5.ext eh12).ext eh20)
  refine v_draw (DrawVC.hold ([b5]) ?_)
  refine d_pureT v1 (fun _ q => q) ?_
  have f27 := ((f9.ext eh12).ext eh20)
  refine d_loadO (.agg #[y0_towers.v, y0_links.v]) (fun _ q => f27.loadA rfl q) ?_
  refine d_loadT (.agg #[.int .i64 y2_link, .int .i64 y2_fr, .int .i64 y2_til]) (fun _ q => f26.takeA (by simp) rfl q) ?_
  refine d_eff ?_
  have f28 := ((f10.ext eh12).ext eh20)
  have f29 := ((f11.ext eh12).ext eh20)
  refine s_call [.agg #[y0_towers.v, y0_links.v]] rfl (toNet_ok y0_towers.v x0_towers y0_links.v x0_links _ f28 f29 bd17 bd18) ?_
  rintro _ h30 ⟨r31, r32, rfl, s_r31, s_r32, eh30, fr_r31, fr_r32, ap_r31⟩
  have E33 := E22.trans eh30
  have z34 := eh30.size
  have G35 := eh30
  have lt_r31 := s_r31.lt
  have lt_r32 := s_r32.lt
  refine s_nil ⟨fun _ x hx => G35.blk x (by simp at hx; omega), ?_⟩
  refine d_eff ?_
  have f36 := ((f19.ext eh20).ext eh30)
  refine s_call [v1] rfl (toFogS_ok v1 x1 _ f36 bd25) ?_
  rintro r38 h37 ⟨_, rfl, s_r38, fr_r38, eh37⟩
  have E39 := E33.trans eh37
  have z40 := eh37.size
  have G41 := G35.trans eh37
  have lt_r38 := s_r38.lt
  refine s_nil ⟨fun _ x hx => G41.blk x (by simp at hx; omega), ?_⟩
  refine d_eff ?_
  refine s_call [.agg #[.int .i64 y2_link, .int .i64 y2_fr, .int .i64 y2_til]] rfl (laws_toFog_ok (⟨y2_link, y2_fr, y2_til⟩ : FogD) _ ) ?_
  rintro _ h42 ⟨rfl, eh42⟩
  have E43 := E39.trans eh42
  have z44 := eh42.size
  have G45 := G41.trans eh42
  refine s_nil ⟨fun hl => (by cases hl), ?_⟩
  refine d_eff ?_
  have f46 := ((s_r31.ext eh37).ext eh42)
  have f47 := ((s_r32.ext eh37).ext eh42)
  have f48 := (s_r38.ext eh42)
  refine s_call [.agg #[r31, r32], r38, .agg #[.int .i64 ((⟨y2_link, y2_fr, y2_til⟩ : FogD).link), .int .i64 ((⟨y2_link, y2_fr, y2_til⟩ : FogD).fr), .int .i64 ((⟨y2_link, y2_fr, y2_til⟩ : FogD).til)]] rfl (spec_AddFog_ok (⟨x0_towers, x0_links⟩ : NetP) r31 r32 r38 x1 (⟨y2_link, y2_fr, y2_til⟩ : FogD) _ f46.toSl f47.toSl f48.toSl) ?_
  rintro _ h50 ⟨r49, rfl, s_r49, fr_r49, eh50⟩
  have E51 := E43.trans eh50
  have z52 := eh50.size
  have G53 := G45.trans eh50
  have lt_r49 := s_r49.lt
  refine s_nil ⟨fun hl => (by cases hl), ?_⟩
  refine d_pureT (.tuple #[r49, .bool ((addOut (⟨x0_towers, x0_links⟩ : NetP) x1 (⟨y2_link, y2_fr, y2_til⟩ : FogD)).2)]) (fun _ q => q) ?_
  refine d_pureT r49 (fun _ q => q) ?_
  refine d_pureT (.bool ((addOut (⟨x0_towers, x0_links⟩ : NetP) x1 (⟨y2_link, y2_fr, y2_til⟩ : FogD)).2)) (fun _ q => q) ?_
  refine d_pureT r49 (fun _ q => q) ?_
  refine d_pureT (.bool ((addOut (⟨x0_towers, x0_links⟩ : NetP) x1 (⟨y2_link, y2_fr, y2_til⟩ : FogD)).2)) (fun _ q => q) ?_
  refine d_done ?_
  refine p_seqN ?_
  refine v_seq ?_
  refine v_ops ?_
  have f54 := ((((f27.ext eh30).ext eh37).ext eh42).ext eh50)
  refine s_load (.agg #[y0_towers.v, y0_links.v]) (fun _ q => f54.loadA rfl q) ?_
  have f55 := ((((f28.ext eh30).ext eh37).ext eh42).ext eh50)
  have f56 := ((((f29.ext eh30).ext eh37).ext eh42).ext eh50)
  refine s_call [.agg #[y0_towers.v, y0_links.v]] rfl (toNet_ok y0_towers.v x0_towers y0_links.v x0_links _ f55 f56 bd17 bd18) ?_
  rintro _ h57 ⟨r58, r59, rfl, s_r58, s_r59, eh57, fr_r58, fr_r59, ap_r58⟩
  have E60 := E51.trans eh57
  have z61 := eh57.size
  have lt_r58 := s_r58.lt
  have lt_r59 := s_r59.lt
  refine s_new (fun h63 b62 hbb62 hzb62 eh63 bxb62 => ?_)
  have E64 := E60.trans eh63
  have z65 := eh63.size
  have lbb62 := bxb62.lt
  refine s_stBx (.agg #[r58, r59]) [r58, r59] [r58, r59] bxb62 rfl rfl rfl rfl (by simp) (all_cons s_r58.one1 (all_cons s_r59.one1 all_nil)) rfl (fun h66 mh66 sh66 bxx67 => ?_)
  have E68 := E64.mod mh66 (fun b hb => by simp at hb; omega)
  refine s_nil ?_
  refine p_seqN ?_
  refine v_seq ?_
  refine v_ops ?_
  refine s_pure v1 (fun _ q => q) ?_
  have f69 := ((((((f36.ext eh37).ext eh42).ext eh50).ext eh57).ext eh63).mod mh66 (fun b hb hc => by simp at hc; have := lt_v1 b hb; omega))
  refine s_call [v1] rfl (toFogS_ok v1 x1 _ f69 bd25) ?_
  rintro r71 h70 ⟨_, rfl, s_r71, fr_r71, eh70⟩
  have E72 := E68.trans eh70
  have z73 := eh70.size
  have lt_r71 := s_r71.lt
  refine s_pure r71 (fun _ q => q) ?_
  refine s_nil ?_
  refine p_seqN ?_
  refine v_seq ?_
  have f74 := (bxx67.ext eh70)
  refine v_draw (DrawVC.hold ([b62]) ?_)
  refine d_pureT r71 (fun _ q => q) ?_
  have f75 := ((((((((f26.ext eh30).ext eh37).ext eh42).ext eh50).ext eh57).ext eh63).mod mh66 (by simp; omega)).ext eh70)
  refine d_loadO (.agg #[.int .i64 y2_link, .int .i64 y2_fr, .int .i64 y2_til]) (fun _ q => f75.loadA rfl q) ?_
  refine d_loadT (.agg #[r58, r59]) (fun _ q => f74.takeA (by simp) rfl q) ?_
  refine d_eff ?_
  refine s_call [.agg #[.int .i64 y2_link, .int .i64 y2_fr, .int .i64 y2_til]] rfl (laws_toFog_ok (⟨y2_link, y2_fr, y2_til⟩ : FogD) _ ) ?_
  rintro _ h76 ⟨rfl, eh76⟩
  have E77 := E72.trans eh76
  have z78 := eh76.size
  have G79 := eh76
  refine s_nil ⟨fun _ x hx => G79.blk x (by simp at hx; omega), ?_⟩
  refine d_eff ?_
  have f80 := ((((s_r58.ext eh63).mod mh66 (fun b hb hc => by simp at hc; have := lt_r58 b hb; omega)).ext eh70).ext eh76)
  have f81 := ((((s_r59.ext eh63).mod mh66 (fun b hb hc => by simp at hc; have := lt_r59 b hb; omega)).ext eh70).ext eh76)
  have f82 := (s_r71.ext eh76)
  refine s_call [.agg #[r58, r59], r71, .agg #[.int .i64 ((⟨y2_link, y2_fr, y2_til⟩ : FogD).link), .int .i64 ((⟨y2_link, y2_fr, y2_til⟩ : FogD).fr), .int .i64 ((⟨y2_link, y2_fr, y2_til⟩ : FogD).til)]] rfl (impl_AddFog_ok (⟨x0_towers, x0_links⟩ : NetP) r58 r59 r71 x1 (⟨y2_link, y2_fr, y2_til⟩ : FogD) _ f80.toSl f81.toSl f82.toSl) ?_
  rintro _ h84 ⟨r83, rfl, s_r83, fr_r83, eh84⟩
  have E85 := E77.trans eh84
  have z86 := eh84.size
  have G87 := G79.trans eh84
  have lt_r83 := s_r83.lt
  refine s_nil ⟨fun hl => (by cases hl), ?_⟩
  refine d_pureT (.tuple #[r83, .bool ((addOut (⟨x0_towers, x0_links⟩ : NetP) x1 (⟨y2_link, y2_fr, y2_til⟩ : FogD)).2)]) (fun _ q => q) ?_
  refine d_pureT r83 (fun _ q => q) ?_
  refine d_pureT (.bool ((addOut (⟨x0_towers, x0_links⟩ : NetP) x1 (⟨y2_link, y2_fr, y2_til⟩ : FogD)).2)) (fun _ q => q) ?_
  refine d_pureT r83 (fun _ q => q) ?_
  refine d_pureT (.bool ((addOut (⟨x0_towers, x0_links⟩ : NetP) x1 (⟨y2_link, y2_fr, y2_til⟩ : FogD)).2)) (fun _ q => q) ?_
  refine d_done ?_
  refine p_seqN ?_
  refine v_seq ?_
  refine v_seq ?_
  refine v_ops ?_
  refine s_pure r83 (fun _ q => q) ?_
  refine s_pure r49 (fun _ q => q) ?_
  have f88 := ((((((s_r49.ext eh57).ext eh63).mod mh66 (fun b hb hc => by simp at hc; have := lt_r49 b hb; omega)).ext eh70).ext eh76).ext eh84)
  refine s_call [r83, r49] rfl (eqFogS_ok r83 ((addOut (⟨x0_towers, x0_links⟩ : NetP) x1 (⟨y2_link, y2_fr, y2_til⟩ : FogD)).1) r49 ((addOut (⟨x0_towers, x0_links⟩ : NetP) x1 (⟨y2_link, y2_fr, y2_til⟩ : FogD)).1) _ s_r83.toSl f88.toSl) ?_
  rintro _ h89 ⟨rfl, eh89⟩
  have E90 := E85.trans eh89
  have z91 := eh89.size
  refine s_pure (.bool (!(decide ((addOut (⟨x0_towers, x0_links⟩ : NetP) x1 (⟨y2_link, y2_fr, y2_til⟩ : FogD)).1 = (addOut (⟨x0_towers, x0_links⟩ : NetP) x1 (⟨y2_link, y2_fr, y2_til⟩ : FogD)).1)))) (fun _ q => q) ?_
  refine s_pure (.bool (!(decide ((addOut (⟨x0_towers, x0_links⟩ : NetP) x1 (⟨y2_link, y2_fr, y2_til⟩ : FogD)).1 = (addOut (⟨x0_towers, x0_links⟩ : NetP) x1 (⟨y2_link, y2_fr, y2_til⟩ : FogD)).1)))) (fun _ q => q) ?_
  refine s_splitN rfl (by first | assumption | omega | (simp; done) | (simp; omega) | simp_all) ?_
  refine s_run rfl ?_
  refine s_pure (.bool ((addOut (⟨x0_towers, x0_links⟩ : NetP) x1 (⟨y2_link, y2_fr, y2_til⟩ : FogD)).2)) (fun _ q => q) ?_
  refine s_run rfl ?_
  refine s_pure (.bool ((addOut (⟨x0_towers, x0_links⟩ : NetP) x1 (⟨y2_link, y2_fr, y2_til⟩ : FogD)).2)) (fun _ q => q) ?_
  refine s_run rfl ?_
  refine s_pure (.bool ((addOut (⟨x0_towers, x0_links⟩ : NetP) x1 (⟨y2_link, y2_fr, y2_til⟩ : FogD)).2 != (addOut (⟨x0_towers, x0_links⟩ : NetP) x1 (⟨y2_link, y2_fr, y2_til⟩ : FogD)).2)) (fun _ q => q) ?_
  refine s_pure (.bool ((addOut (⟨x0_towers, x0_links⟩ : NetP) x1 (⟨y2_link, y2_fr, y2_til⟩ : FogD)).2 != (addOut (⟨x0_towers, x0_links⟩ : NetP) x1 (⟨y2_link, y2_fr, y2_til⟩ : FogD)).2)) (fun _ q => q) ?_
  refine s_nil ?_
  refine p_seqN ?_
  refine v_condN rfl (by first | assumption | omega | (simp; done) | (simp; omega) | simp_all) ?_
  refine v_skip ?_
  refine p_seqN ?_
  refine v_seq ?_
  refine v_seq ?_
  have f92 := (((f74.ext eh76).ext eh84).ext eh89)
  refine v_draw (DrawVC.hold ([b62]) ?_)
  have f93 := (((((((f54.ext eh57).ext eh63).mod mh66 (by simp; omega)).ext eh70).ext eh76).ext eh84).ext eh89)
  refine d_loadO (.agg #[y0_towers.v, y0_links.v]) (fun _ q => f93.loadA rfl q) ?_
  refine d_loadT (.agg #[r58, r59]) (fun _ q => f92.takeA (by simp) rfl q) ?_
  refine d_eff ?_
  have f94 := (((((((f55.ext eh57).ext eh63).mod mh66 (fun b hb hc => by simp at hc; have := lt_v0_towers b hb; omega)).ext eh70).ext eh76).ext eh84).ext eh89)
  have f95 := (((((((f56.ext eh57).ext eh63).mod mh66 (fun b hb hc => by simp at hc; have := lt_v0_links b hb; omega)).ext eh70).ext eh76).ext eh84).ext eh89)
  refine s_call [.agg #[y0_towers.v, y0_links.v]] rfl (toNet_ok y0_towers.v x0_towers y0_links.v x0_links _ f94 f95 bd17 bd18) ?_
  rintro _ h96 ⟨r97, r98, rfl, s_r97, s_r98, eh96, fr_r97, fr_r98, ap_r97⟩
  have E99 := E90.trans eh96
  have z100 := eh96.size
  have G101 := eh96
  have lt_r97 := s_r97.lt
  have lt_r98 := s_r98.lt
  refine s_nil ⟨fun _ x hx => G101.blk x (by simp at hx; omega), ?_⟩
  refine d_eff ?_
  have f102 := (((f80.ext eh84).ext eh89).ext eh96)
  have f103 := (((f81.ext eh84).ext eh89).ext eh96)
  refine s_call [.agg #[r58, r59], .agg #[r97, r98]] rfl (eqNet_ok r58 x0_towers r59 x0_links r97 x0_towers r98 x0_links _ f102.toSl f103.toSl s_r97.toSl s_r98.toSl) ?_
  rintro _ h104 ⟨rfl, eh104⟩
  have E105 := E99.trans eh104
  have z106 := eh104.size
  have G107 := G101.trans eh104
  refine s_nil ⟨fun hl => (by cases hl), ?_⟩
  refine d_pureT (.bool (!(decide (x0_towers = x0_towers ∧ x0_links = x0_links)))) (fun _ q => q) ?_
  refine d_done ?_
  refine p_seqN ?_
  refine v_condN rfl (by first | assumption | omega | (simp; done) | (simp; omega) | simp_all) ?_
  refine v_skip ?_
  refine p_seqN ?_
  refine v_seq ?_
  refine v_seq ?_
  refine v_ops ?_
  refine s_pure r71 (fun _ q => q) ?_
  refine s_pure v1 (fun _ q => q) ?_
  have f108 := ((((((f69.ext eh70).ext eh76).ext eh84).ext eh89).ext eh96).ext eh104)
  refine s_call [v1] rfl (toFogS_ok v1 x1 _ f108 bd25) ?_
  rintro r110 h109 ⟨_, rfl, s_r110, fr_r110, eh109⟩
  have E111 := E105.trans eh109
  have z112 := eh109.size
  have lt_r110 := s_r110.lt
  have f113 := (((((f82.ext eh84).ext eh89).ext eh96).ext eh104).ext eh109)
  refine s_call [r71, r110] rfl (eqFogS_ok r71 x1 r110 x1 _ f113.toSl s_r110.toSl) ?_
  rintro _ h114 ⟨rfl, eh114⟩
  have E115 := E111.trans eh114
  have z116 := eh114.size
  refine s_pure (.bool (!(decide (x1 = x1)))) (fun _ q => q) ?_
  refine s_nil ?_
  refine p_seqN ?_
  refine v_condN rfl (by first | assumption | omega | (simp; done) | (simp; omega) | simp_all) ?_
  refine v_skip ?_
  refine p_seqN ?_
  refine v_seq ?_
  refine v_ops ?_
  refine s_pure (.int .i64 1) (fun _ q => q) ?_
  refine s_nil ?_
  refine p_seqN ?_
  refine v_seq ?_
  refine v_ops ?_
  have f117 := ((((f92.ext eh96).ext eh104).ext eh109).ext eh114)
  refine s_load (.agg #[r58, r59]) (fun _ q => f117.loadA rfl q) ?_
  refine s_pure (.int .i64 1) (fun _ q => q) ?_
  have f118 := (((f102.ext eh104).ext eh109).ext eh114)
  have f119 := (((f103.ext eh104).ext eh109).ext eh114)
  refine s_call [.agg #[r58, r59], .int .i64 1] rfl (markNet_ok r58 x0_towers r59 x0_links (1) _ f118 f119 ap_r58 (by omega) (by omega) (by omega) (by omega)) ?_
  rintro _ h120 ⟨rfl, mk121, mk122, mh120, zh120⟩
  have E123 := E115.mod mh120 (all_app (fun b hb => by have := fr_r58 b hb; omega) (fun b hb => by have := fr_r59 b hb; omega))
  refine s_pure (.int .i64 (1 + 3 * (x0_towers.length : Int) + 3 * (x0_links.length : Int))) (fun _ q => q) ?_
  refine s_nil ?_
  refine p_seqN ?_
  refine v_seq ?_
  refine v_ops ?_
  refine s_pure r71 (fun _ q => q) ?_
  refine s_pure (.int .i64 (1 + 3 * (x0_towers.length : Int) + 3 * (x0_links.length : Int))) (fun _ q => q) ?_
  have f124 := ((f113.ext eh114).mod mh120 (fun b hb => not_app (((fun b hb hc => by have := fr_r71 b hb; have := lt_r58 b hc; omega) : ∀ b ∈ blks r71, b ∉ blks r58) b hb) (((fun b hb hc => by have := fr_r71 b hb; have := lt_r59 b hc; omega) : ∀ b ∈ blks r71, b ∉ blks r59) b hb)))
  refine s_call [r71, .int .i64 (1 + 3 * (x0_towers.length : Int) + 3 * (x0_links.length : Int))] rfl (markFogS_ok r71 x1 ((1 + 3 * (x0_towers.length : Int) + 3 * (x0_links.length : Int))) _ f124 (by omega) (by omega) (by omega)) ?_
  rintro _ h125 ⟨rfl, mk126, mh125, zh125⟩
  have E127 := E123.mod mh125 (fun b hb => by have := fr_r71 b hb; omega)
  refine s_pure (.int .i64 ((1 + 3 * (x0_towers.length : Int) + 3 * (x0_links.length : Int)) + 3 * (x1.length : Int))) (fun _ q => q) ?_
  refine s_nil ?_
  refine p_seqN ?_
  refine v_seq ?_
  refine v_seq ?_
  refine v_ops ?_
  refine s_pure (.int .i64 ((1 + 3 * (x0_towers.length : Int) + 3 * (x0_links.length : Int)) + 3 * (x1.length : Int))) (fun _ q => q) ?_
  refine s_pure (.bool (decide (((1 + 3 * (x0_towers.length : Int) + 3 * (x0_links.length : Int)) + 3 * (x1.length : Int)) < 0))) (fun _ q => q) ?_
  refine s_pure (.bool (decide (((1 + 3 * (x0_towers.length : Int) + 3 * (x0_links.length : Int)) + 3 * (x1.length : Int)) < 0))) (fun _ q => q) ?_
  refine s_splitN rfl (by first | assumption | omega | (simp; done) | (simp; omega) | simp_all) ?_
  refine s_run rfl ?_
  refine s_pure r83 (fun _ q => q) ?_
  refine s_run rfl ?_
  refine s_pure r49 (fun _ q => q) ?_
  refine s_run rfl ?_
  have f128 := (((((((s_r83.ext eh89).ext eh96).ext eh104).ext eh109).ext eh114).mod mh120 (fun b hb => not_app (((fun b hb hc => by have := fr_r83 b hb; have := lt_r58 b hc; omega) : ∀ b ∈ blks r83, b ∉ blks r58) b hb) (((fun b hb hc => by have := fr_r83 b hb; have := lt_r59 b hc; omega) : ∀ b ∈ blks r83, b ∉ blks r59) b hb))).mod mh125 (fun b hb hc => by have := fr_r83 b hb; have := lt_r71 b hc; omega))
  have f129 := (((((((f88.ext eh89).ext eh96).ext eh104).ext eh109).ext eh114).mod mh120 (fun b hb => not_app (((fun b hb hc => by have := lt_r49 b hb; have := fr_r58 b hc; omega) : ∀ b ∈ blks r49, b ∉ blks r58) b hb) (((fun b hb hc => by have := lt_r49 b hb; have := fr_r59 b hc; omega) : ∀ b ∈ blks r49, b ∉ blks r59) b hb))).mod mh125 (fun b hb hc => by have := lt_r49 b hb; have := fr_r71 b hc; omega))
  refine s_call [r83, r49] rfl (eqFogS_ok r83 ((addOut (⟨x0_towers, x0_links⟩ : NetP) x1 (⟨y2_link, y2_fr, y2_til⟩ : FogD)).1) r49 ((addOut (⟨x0_towers, x0_links⟩ : NetP) x1 (⟨y2_link, y2_fr, y2_til⟩ : FogD)).1) _ f128.toSl f129.toSl) ?_
  rintro _ h130 ⟨rfl, eh130⟩
  have E131 := E127.trans eh130
  have z132 := eh130.size
  refine s_run rfl ?_
  refine s_pure (.bool (!(decide ((addOut (⟨x0_towers, x0_links⟩ : NetP) x1 (⟨y2_link, y2_fr, y2_til⟩ : FogD)).1 = (addOut (⟨x0_towers, x0_links⟩ : NetP) x1 (⟨y2_link, y2_fr, y2_til⟩ : FogD)).1)))) (fun _ q => q) ?_
  refine s_pure (.bool (!(decide ((addOut (⟨x0_towers, x0_links⟩ : NetP) x1 (⟨y2_link, y2_fr, y2_til⟩ : FogD)).1 = (addOut (⟨x0_towers, x0_links⟩ : NetP) x1 (⟨y2_link, y2_fr, y2_til⟩ : FogD)).1)))) (fun _ q => q) ?_
  refine s_pure (.bool (!(decide ((addOut (⟨x0_towers, x0_links⟩ : NetP) x1 (⟨y2_link, y2_fr, y2_til⟩ : FogD)).1 = (addOut (⟨x0_towers, x0_links⟩ : NetP) x1 (⟨y2_link, y2_fr, y2_til⟩ : FogD)).1)))) (fun _ q => q) ?_
  refine s_splitN rfl (by first | assumption | omega | (simp; done) | (simp; omega) | simp_all) ?_
  refine s_run rfl ?_
  refine s_pure (.bool ((addOut (⟨x0_towers, x0_links⟩ : NetP) x1 (⟨y2_link, y2_fr, y2_til⟩ : FogD)).2)) (fun _ q => q) ?_
  refine s_run rfl ?_
  refine s_pure (.bool ((addOut (⟨x0_towers, x0_links⟩ : NetP) x1 (⟨y2_link, y2_fr, y2_til⟩ : FogD)).2)) (fun _ q => q) ?_
  refine s_run rfl ?_
  refine s_pure (.bool ((addOut (⟨x0_towers, x0_links⟩ : NetP) x1 (⟨y2_link, y2_fr, y2_til⟩ : FogD)).2 != (addOut (⟨x0_towers, x0_links⟩ : NetP) x1 (⟨y2_link, y2_fr, y2_til⟩ : FogD)).2)) (fun _ q => q) ?_
  refine s_pure (.bool ((addOut (⟨x0_towers, x0_links⟩ : NetP) x1 (⟨y2_link, y2_fr, y2_til⟩ : FogD)).2 != (addOut (⟨x0_towers, x0_links⟩ : NetP) x1 (⟨y2_link, y2_fr, y2_til⟩ : FogD)).2)) (fun _ q => q) ?_
  refine s_nil ?_
  refine p_seqN ?_
  refine v_condN rfl (by first | assumption | omega | (simp; done) | (simp; omega) | simp_all) ?_
  refine v_skip ?_
  refine p_seqN ?_
  refine v_seq ?_
  refine v_ops ?_
  refine s_pure (.int .i64 1) (fun _ q => q) ?_
  refine s_nil ?_
  refine p_seqN ?_
  refine v_seq ?_
  refine v_ops ?_
  refine s_pure r83 (fun _ q => q) ?_
  refine s_pure (.int .i64 1) (fun _ q => q) ?_
  have f133 := (f128.ext eh130)
  refine s_call [r83, .int .i64 1] rfl (markFogS_ok r83 ((addOut (⟨x0_towers, x0_links⟩ : NetP) x1 (⟨y2_link, y2_fr, y2_til⟩ : FogD)).1) (1) _ f133 (by omega) (by omega) (by omega)) ?_
  rintro _ h134 ⟨rfl, mk135, mh134, zh134⟩
  have E136 := E131.mod mh134 (fun b hb => by have := fr_r83 b hb; omega)
  refine s_pure (.int .i64 (1 + 3 * ((addOut (⟨x0_towers, x0_links⟩ : NetP) x1 (⟨y2_link, y2_fr, y2_til⟩ : FogD)).1.length : Int))) (fun _ q => q) ?_
  refine s_nil ?_
  refine p_seqN ?_
  refine v_seq ?_
  refine v_ops ?_
  refine s_pure (.int .i64 1) (fun _ q => q) ?_
  refine s_nil ?_
  refine p_seqN ?_
  refine v_seq ?_
  refine v_ops ?_
  refine s_pure r83 (fun _ q => q) ?_
  refine s_pure (.int .i64 1) (fun _ q => q) ?_
  refine s_call [r83, .int .i64 1] rfl (heldFogS_ok r83 (fogMk (1) (addOut (⟨x0_towers, x0_links⟩ : NetP) x1 (⟨y2_link, y2_fr, y2_til⟩ : FogD)).1.length) (1) _ mk135.toSl (addOut (⟨x0_towers, x0_links⟩ : NetP) x1 (⟨y2_link, y2_fr, y2_til⟩ : FogD)).1.length (1) rfl (by omega) (by omega) (by omega) (by omega)) ?_
  rintro _ h137 ⟨rfl, eh137⟩
  have E138 := E136.trans eh137
  have z139 := eh137.size
  refine s_pure (.int .i64 (1 + 3 * ((addOut (⟨x0_towers, x0_links⟩ : NetP) x1 (⟨y2_link, y2_fr, y2_til⟩ : FogD)).1.length : Int))) (fun _ q => q) ?_
  refine s_nil ?_
  refine p_seqN ?_
  refine v_seq ?_
  refine v_seq ?_
  refine v_ops ?_
  refine s_pure (.int .i64 (1 + 3 * ((addOut (⟨x0_towers, x0_links⟩ : NetP) x1 (⟨y2_link, y2_fr, y2_til⟩ : FogD)).1.length : Int))) (fun _ q => q) ?_
  refine s_pure (.bool (decide ((1 + 3 * ((addOut (⟨x0_towers, x0_links⟩ : NetP) x1 (⟨y2_link, y2_fr, y2_til⟩ : FogD)).1.length : Int)) < 0))) (fun _ q => q) ?_
  refine s_nil ?_
  refine p_seqN ?_
  refine v_condN rfl (by first | assumption | omega | (simp; done) | (simp; omega) | simp_all) ?_
  refine v_skip ?_
  refine p_seqN ?_
  refine v_seq ?_
  refine v_seq ?_
  refine v_ops ?_
  refine s_pure (.int .i64 (1 + 3 * ((addOut (⟨x0_towers, x0_links⟩ : NetP) x1 (⟨y2_link, y2_fr, y2_til⟩ : FogD)).1.length : Int))) (fun _ q => q) ?_
  refine s_pure (.int .i64 (1 + 3 * ((addOut (⟨x0_towers, x0_links⟩ : NetP) x1 (⟨y2_link, y2_fr, y2_til⟩ : FogD)).1.length : Int))) (fun _ q => q) ?_
  refine s_pure (.bool ((1 + 3 * ((addOut (⟨x0_towers, x0_links⟩ : NetP) x1 (⟨y2_link, y2_fr, y2_til⟩ : FogD)).1.length : Int)) != (1 + 3 * ((addOut (⟨x0_towers, x0_links⟩ : NetP) x1 (⟨y2_link, y2_fr, y2_til⟩ : FogD)).1.length : Int)))) (fun _ q => q) ?_
  refine s_nil ?_
  refine p_seqN ?_
  refine v_condN rfl (by first | assumption | omega | (simp; done) | (simp; omega) | simp_all) ?_
  refine v_skip ?_
  refine p_seqN ?_
  refine v_seq ?_
  have f140 := ((((((((((((f75.ext eh76).ext eh84).ext eh89).ext eh96).ext eh104).ext eh109).ext eh114).mod mh120 (not_app (fun hc => by have := fr_r58 _ hc; omega) (fun hc => by have := fr_r59 _ hc; omega))).mod mh125 (fun hc => by have := fr_r71 _ hc; omega)).ext eh130).mod mh134 (fun hc => by have := fr_r83 _ hc; omega)).ext eh137)
  refine v_draw (DrawVC.hold ([b5]) ?_)
  refine d_pureT v1 (fun _ q => q) ?_
  have f141 := (((((((((f93.ext eh96).ext eh104).ext eh109).ext eh114).mod mh120 (not_app (fun hc => by have := fr_r58 _ hc; omega) (fun hc => by have := fr_r59 _ hc; omega))).mod mh125 (fun hc => by have := fr_r71 _ hc; omega)).ext eh130).mod mh134 (fun hc => by have := fr_r83 _ hc; omega)).ext eh137)
  refine d_loadO (.agg #[y0_towers.v, y0_links.v]) (fun _ q => f141.loadA rfl q) ?_
  refine d_loadT (.agg #[.int .i64 y2_link, .int .i64 y2_fr, .int .i64 y2_til]) (fun _ q => f140.takeA (by simp) rfl q) ?_
  refine d_eff ?_
  have f142 := (((((((((f94.ext eh96).ext eh104).ext eh109).ext eh114).mod mh120 (fun b hb => not_app (((fun b hb hc => by have := lt_v0_towers b hb; have := fr_r58 b hc; omega) : ∀ b ∈ blks y0_towers.v, b ∉ blks r58) b hb) (((fun b hb hc => by have := lt_v0_towers b hb; have := fr_r59 b hc; omega) : ∀ b ∈ blks y0_towers.v, b ∉ blks r59) b hb))).mod mh125 (fun b hb hc => by have := lt_v0_towers b hb; have := fr_r71 b hc; omega)).ext eh130).mod mh134 (fun b hb hc => by have := lt_v0_towers b hb; have := fr_r83 b hc; omega)).ext eh137)
  have f143 := (((((((((f95.ext eh96).ext eh104).ext eh109).ext eh114).mod mh120 (fun b hb => not_app (((fun b hb hc => by have := lt_v0_links b hb; have := fr_r58 b hc; omega) : ∀ b ∈ blks y0_links.v, b ∉ blks r58) b hb) (((fun b hb hc => by have := lt_v0_links b hb; have := fr_r59 b hc; omega) : ∀ b ∈ blks y0_links.v, b ∉ blks r59) b hb))).mod mh125 (fun b hb hc => by have := lt_v0_links b hb; have := fr_r71 b hc; omega)).ext eh130).mod mh134 (fun b hb hc => by have := lt_v0_links b hb; have := fr_r83 b hc; omega)).ext eh137)
  refine s_call [.agg #[y0_towers.v, y0_links.v]] rfl (toNet_ok y0_towers.v x0_towers y0_links.v x0_links _ f142 f143 bd17 bd18) ?_
  rintro _ h144 ⟨r145, r146, rfl, s_r145, s_r146, eh144, fr_r145, fr_r146, ap_r145⟩
  have E147 := E138.trans eh144
  have z148 := eh144.size
  have G149 := eh144
  have lt_r145 := s_r145.lt
  have lt_r146 := s_r146.lt
  refine s_nil ⟨fun _ x hx => G149.blk x (by simp at hx; omega), ?_⟩
  refine d_eff ?_
  have f150 := ((((((((f108.ext eh109).ext eh114).mod mh120 (fun b hb => not_app (((fun b hb hc => by have := lt_v1 b hb; have := fr_r58 b hc; omega) : ∀ b ∈ blks v1, b ∉ blks r58) b hb) (((fun b hb hc => by have := lt_v1 b hb; have := fr_r59 b hc; omega) : ∀ b ∈ blks v1, b ∉ blks r59) b hb))).mod mh125 (fun b hb hc => by have := lt_v1 b hb; have := fr_r71 b hc; omega)).ext eh130).mod mh134 (fun b hb hc => by have := lt_v1 b hb; have := fr_r83 b hc; omega)).ext eh137).ext eh144)
  refine s_call [v1] rfl (toFogS_ok v1 x1 _ f150 bd25) ?_
  rintro r152 h151 ⟨_, rfl, s_r152, fr_r152, eh151⟩
  have E153 := E147.trans eh151
  have z154 := eh151.size
  have G155 := G149.trans eh151
  have lt_r152 := s_r152.lt
  refine s_nil ⟨fun _ x hx => G155.blk x (by simp at hx; omega), ?_⟩
  refine d_eff ?_
  refine s_call [.agg #[.int .i64 y2_link, .int .i64 y2_fr, .int .i64 y2_til]] rfl (laws_toFog_ok (⟨y2_link, y2_fr, y2_til⟩ : FogD) _ ) ?_
  rintro _ h156 ⟨rfl, eh156⟩
  have E157 := E153.trans eh156
  have z158 := eh156.size
  have G159 := G155.trans eh156
  refine s_nil ⟨fun hl => (by cases hl), ?_⟩
  refine d_eff ?_
  have f160 := ((s_r145.ext eh151).ext eh156)
  have f161 := ((s_r146.ext eh151).ext eh156)
  have f162 := (s_r152.ext eh156)
  refine s_call [.agg #[r145, r146], r152, .agg #[.int .i64 ((⟨y2_link, y2_fr, y2_til⟩ : FogD).link), .int .i64 ((⟨y2_link, y2_fr, y2_til⟩ : FogD).fr), .int .i64 ((⟨y2_link, y2_fr, y2_til⟩ : FogD).til)]] rfl (impl_AddFog_ok (⟨x0_towers, x0_links⟩ : NetP) r145 r146 r152 x1 (⟨y2_link, y2_fr, y2_til⟩ : FogD) _ f160.toSl f161.toSl f162.toSl) ?_
  rintro _ h164 ⟨r163, rfl, s_r163, fr_r163, eh164⟩
  have E165 := E157.trans eh164
  have z166 := eh164.size
  have G167 := G159.trans eh164
  have lt_r163 := s_r163.lt
  refine s_nil ⟨fun hl => (by cases hl), ?_⟩
  refine d_pureT (.tuple #[r163, .bool ((addOut (⟨x0_towers, x0_links⟩ : NetP) x1 (⟨y2_link, y2_fr, y2_til⟩ : FogD)).2)]) (fun _ q => q) ?_
  refine d_pureT r163 (fun _ q => q) ?_
  refine d_pureT (.bool ((addOut (⟨x0_towers, x0_links⟩ : NetP) x1 (⟨y2_link, y2_fr, y2_til⟩ : FogD)).2)) (fun _ q => q) ?_
  refine d_pureT r163 (fun _ q => q) ?_
  refine d_pureT (.bool ((addOut (⟨x0_towers, x0_links⟩ : NetP) x1 (⟨y2_link, y2_fr, y2_til⟩ : FogD)).2)) (fun _ q => q) ?_
  refine d_done ?_
  refine p_seqN ?_
  refine v_seq ?_
  refine v_seq ?_
  refine v_ops ?_
  refine s_pure r163 (fun _ q => q) ?_
  refine s_pure r49 (fun _ q => q) ?_
  have f168 := (((((((f129.ext eh130).mod mh134 (fun b hb hc => by have := lt_r49 b hb; have := fr_r83 b hc; omega)).ext eh137).ext eh144).ext eh151).ext eh156).ext eh164)
  refine s_call [r163, r49] rfl (eqFogS_ok r163 ((addOut (⟨x0_towers, x0_links⟩ : NetP) x1 (⟨y2_link, y2_fr, y2_til⟩ : FogD)).1) r49 ((addOut (⟨x0_towers, x0_links⟩ : NetP) x1 (⟨y2_link, y2_fr, y2_til⟩ : FogD)).1) _ s_r163.toSl f168.toSl) ?_
  rintro _ h169 ⟨rfl, eh169⟩
  have E170 := E165.trans eh169
  have z171 := eh169.size
  refine s_pure (.bool (!(decide ((addOut (⟨x0_towers, x0_links⟩ : NetP) x1 (⟨y2_link, y2_fr, y2_til⟩ : FogD)).1 = (addOut (⟨x0_towers, x0_links⟩ : NetP) x1 (⟨y2_link, y2_fr, y2_til⟩ : FogD)).1)))) (fun _ q => q) ?_
  refine s_pure (.bool (!(decide ((addOut (⟨x0_towers, x0_links⟩ : NetP) x1 (⟨y2_link, y2_fr, y2_til⟩ : FogD)).1 = (addOut (⟨x0_towers, x0_links⟩ : NetP) x1 (⟨y2_link, y2_fr, y2_til⟩ : FogD)).1)))) (fun _ q => q) ?_
  refine s_splitN rfl (by first | assumption | omega | (simp; done) | (simp; omega) | simp_all) ?_
  refine s_run rfl ?_
  refine s_pure (.bool ((addOut (⟨x0_towers, x0_links⟩ : NetP) x1 (⟨y2_link, y2_fr, y2_til⟩ : FogD)).2)) (fun _ q => q) ?_
  refine s_run rfl ?_
  refine s_pure (.bool ((addOut (⟨x0_towers, x0_links⟩ : NetP) x1 (⟨y2_link, y2_fr, y2_til⟩ : FogD)).2)) (fun _ q => q) ?_
  refine s_run rfl ?_
  refine s_pure (.bool ((addOut (⟨x0_towers, x0_links⟩ : NetP) x1 (⟨y2_link, y2_fr, y2_til⟩ : FogD)).2 != (addOut (⟨x0_towers, x0_links⟩ : NetP) x1 (⟨y2_link, y2_fr, y2_til⟩ : FogD)).2)) (fun _ q => q) ?_
  refine s_pure (.bool ((addOut (⟨x0_towers, x0_links⟩ : NetP) x1 (⟨y2_link, y2_fr, y2_til⟩ : FogD)).2 != (addOut (⟨x0_towers, x0_links⟩ : NetP) x1 (⟨y2_link, y2_fr, y2_til⟩ : FogD)).2)) (fun _ q => q) ?_
  refine s_nil ?_
  refine p_seqN ?_
  refine v_condN rfl (by first | assumption | omega | (simp; done) | (simp; omega) | simp_all) ?_
  refine v_skip ?_
  refine p_seqN ?_
  refine v_seq ?_
  refine v_ops ?_
  refine s_pure (.int .i64 1) (fun _ q => q) ?_
  refine s_nil ?_
  refine p_seqN ?_
  refine v_seq ?_
  refine v_ops ?_
  refine s_pure r83 (fun _ q => q) ?_
  refine s_pure (.int .i64 1) (fun _ q => q) ?_
  have f172 := ((((((mk135.ext eh137).ext eh144).ext eh151).ext eh156).ext eh164).ext eh169)
  refine s_call [r83, .int .i64 1] rfl (heldFogS_ok r83 (fogMk (1) (addOut (⟨x0_towers, x0_links⟩ : NetP) x1 (⟨y2_link, y2_fr, y2_til⟩ : FogD)).1.length) (1) _ f172.toSl (addOut (⟨x0_towers, x0_links⟩ : NetP) x1 (⟨y2_link, y2_fr, y2_til⟩ : FogD)).1.length (1) rfl (by omega) (by omega) (by omega) (by omega)) ?_
  rintro _ h173 ⟨rfl, eh173⟩
  have E174 := E170.trans eh173
  have z175 := eh173.size
  refine s_pure (.int .i64 (1 + 3 * ((addOut (⟨x0_towers, x0_links⟩ : NetP) x1 (⟨y2_link, y2_fr, y2_til⟩ : FogD)).1.length : Int))) (fun _ q => q) ?_
  refine s_nil ?_
  refine p_seqN ?_
  refine v_seq ?_
  refine v_seq ?_
  refine v_ops ?_
  refine s_pure (.int .i64 (1 + 3 * ((addOut (⟨x0_towers, x0_links⟩ : NetP) x1 (⟨y2_link, y2_fr, y2_til⟩ : FogD)).1.length : Int))) (fun _ q => q) ?_
  refine s_pure (.bool (decide ((1 + 3 * ((addOut (⟨x0_towers, x0_links⟩ : NetP) x1 (⟨y2_link, y2_fr, y2_til⟩ : FogD)).1.length : Int)) < 0))) (fun _ q => q) ?_
  refine s_nil ?_
  refine p_seqN ?_
  refine v_condN rfl (by first | assumption | omega | (simp; done) | (simp; omega) | simp_all) ?_
  refine v_skip ?_
  refine p_seqN ?_
  refine v_seq ?_
  refine v_seq ?_
  refine v_ops ?_
  refine s_pure (.int .i64 (1 + 3 * ((addOut (⟨x0_towers, x0_links⟩ : NetP) x1 (⟨y2_link, y2_fr, y2_til⟩ : FogD)).1.length : Int))) (fun _ q => q) ?_
  refine s_pure (.int .i64 (1 + 3 * ((addOut (⟨x0_towers, x0_links⟩ : NetP) x1 (⟨y2_link, y2_fr, y2_til⟩ : FogD)).1.length : Int))) (fun _ q => q) ?_
  refine s_pure (.bool ((1 + 3 * ((addOut (⟨x0_towers, x0_links⟩ : NetP) x1 (⟨y2_link, y2_fr, y2_til⟩ : FogD)).1.length : Int)) != (1 + 3 * ((addOut (⟨x0_towers, x0_links⟩ : NetP) x1 (⟨y2_link, y2_fr, y2_til⟩ : FogD)).1.length : Int)))) (fun _ q => q) ?_
  refine s_nil ?_
  refine p_seqN ?_
  refine v_condN rfl (by first | assumption | omega | (simp; done) | (simp; omega) | simp_all) ?_
  refine v_skip ?_
  refine p_seqN ?_
  refine v_seq ?_
  refine v_ops ?_
  refine s_pure (.bool true) (fun _ q => q) ?_
  refine s_nil ?_
  refine p_seqN ?_
  refine v_ret ?_
  refine p_ret [.bool true] (.bool true) (fun _ q => q) rfl ?_
  exact ⟨rfl, E174⟩
end Go.Proofs.Ythagdkmalchhgaa.finFnExactAddFog
