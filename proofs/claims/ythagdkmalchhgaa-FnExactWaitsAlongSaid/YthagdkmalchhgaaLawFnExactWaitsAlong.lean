/- The law FnExactWaitsAlong: its text returns true. Condition: none. Printed by a program. -/
import Derived.Test.YthagdkmalchhgaaRo11
import Derived.Test.YthagdkmalchhgaaTypes
namespace Go.Proofs.Ythagdkmalchhgaa.finFnExactWaitsAlong
open Go.Vc
set_option linter.all false
set_option maxRecDepth 100000 in
set_option maxHeartbeats 2000000 in
theorem law_ok (h : Heap) (x0 : NetD) (w0 : NetD.good h x0) (v1 : Value) (x1 : List FogD) (s_v1 : Sl h v1 x1) (_ : ∀ y ∈ x1, FogD.good h y) (v2 : Value) (x2 : List Int) (s_v2 : Sl h v2 x2) (_ : ∀ y ∈ x2, I64 y) (x3 : Int) (b_x3 : I64 x3) : Cn f_laws_FnExactWaitsAlong [x0.val, v1, v2, .int .i64 x3] h fun v h' => v = .bool true ∧ Ext h h' := by
  obtain ⟨y0_towers, y0_links⟩ := x0
  obtain ⟨⟨x0_towers, s_v0_towers, _⟩, ⟨x0_links, s_v0_links, _⟩⟩ := w0
  change Sl h y0_towers.v x0_towers at s_v0_towers
  have lt_v0_towers := s_v0_towers.lt
  change Sl h y0_links.v x0_links at s_v0_links
  have lt_v0_links := s_v0_links.lt
  have lt_v1 := s_v1.lt
  have lt_v2 := s_v2.lt
  unfold I64 at b_x3
  have lens : (waitsOf ⟨x0_towers, x0_links⟩ x1 x2 x3).1.length ≤ 15 := along_len ⟨x0_towers, x0_links⟩ x1 x2 x3
  refine calls_of r_laws_FnExactWaitsAlong ?_
  refine v_seq ?_
  refine v_ops ?_
  refine s_box [y0_towers.v, y0_links.v] rfl (fun h2 b1 hbb1 hzb1 eh2 bxb1 => ?_)
  have E3 := (Ext.refl h).trans eh2
  have z4 := eh2.size
  have lbb1 := bxb1.lt
  refine s_pure (.bool false) (fun _ q => q) ?_
  refine s_nil ?_
  refine p_seqN ?_
  refine v_seq ?_
  refine v_seq ?_
  refine v_ops ?_
  refine s_pure v2 (fun _ q => q) ?_
  refine s_pure (.int .i64 (x2.length : Int)) (fun _ q => s_v2.lenVC q) ?_
  refine s_pure (.bool (decide ((x2.length : Int) > 1048576))) (fun _ q => q) ?_
  refine s_nil ?_
  refine p_seqN ?_
  refine v_cond rfl (fun c5 => ?_) (fun c5 => ?_)
  ·
    refine v_seq ?_
    refine v_ops ?_
    refine s_pure (.bool true) (fun _ q => q) ?_
    refine s_nil ?_
    refine p_seqN ?_
    refine v_ret ?_
    refine p_seqR ?_
    refine p_ret [.bool true] (.bool true) (fun _ q => q) rfl ?_
    exact ⟨rfl, E3⟩
  have bd6 : x2.length ≤ 1048576 := by omega
  refine v_skip ?_
  refine p_seqN ?_
  refine v_seq ?_
  refine v_ops ?_
  refine s_pure (.int .i64 1048576) (fun _ q => q) ?_
  refine s_nil ?_
  refine p_seqN ?_
  refine v_seq ?_
  refine v_ops ?_
  refine s_load (.agg #[y0_towers.v, y0_links.v]) (fun _ q => bxb1.loadA rfl q) ?_
  refine s_pure (.int .i64 1048576) (fun _ q => q) ?_
  have f7 := (s_v0_towers.ext eh2)
  have f8 := (s_v0_links.ext eh2)
  refine s_call [.agg #[y0_towers.v, y0_links.v], .int .i64 1048576] rfl (szNet_ok y0_towers.v x0_towers y0_links.v x0_links 1048576 _ f7 f8 (by omega) (by omega)) ?_
  rintro _ h9 ⟨n10, rfl, eh9, hmn10, hkn10⟩
  have E11 := E3.trans eh9
  have z12 := eh9.size
  refine s_pure (.int .i64 n10) (fun _ q => q) ?_
  refine s_nil ?_
  refine p_seqN ?_
  refine v_seq ?_
  refine v_seq ?_
  refine v_ops ?_
  refine s_pure (.int .i64 n10) (fun _ q => q) ?_
  refine s_pure (.bool (decide (n10 < 0))) (fun _ q => q) ?_
  refine s_nil ?_
  refine p_seqN ?_
  refine v_cond rfl (fun c13 => ?_) (fun c13 => ?_)
  ·
    refine v_seq ?_
    refine v_ops ?_
    refine s_pure (.bool true) (fun _ q => q) ?_
    refine s_nil ?_
    refine p_seqN ?_
    refine v_ret ?_
    refine p_seqR ?_
    refine p_ret [.bool true] (.bool true) (fun _ q => q) rfl ?_
    exact ⟨rfl, E11⟩
  obtain ⟨hmn10, hkn10⟩ := And.intro (hmn10 (by omega)) hkn10
  have bd14 : x0_towers.length ≤ 1048576 := by omega
  have bd15 : x0_links.length ≤ 1048576 := by omega
  refine v_skip ?_
  refine p_seqN ?_
  refine v_seq ?_
  refine v_ops ?_
  refine s_pure v1 (fun _ q => q) ?_
  refine s_pure (.int .i64 n10) (fun _ q => q) ?_
  have f16 := ((s_v1.ext eh2).ext eh9)
  refine s_call [v1, .int .i64 n10] rfl (szFogS_ok v1 x1 n10 _ f16 (by omega) (by omega)) ?_
  rintro _ h17 ⟨n18, rfl, eh17, hmn18, hkn18⟩
  have E19 := E11.trans eh17
  have z20 := eh17.size
  refine s_pure (.int .i64 n18) (fun _ q => q) ?_
  refine s_nil ?_
  refine p_seqN ?_
  refine v_seq ?_
  refine v_seq ?_
  refine v_ops ?_
  refine s_pure (.int .i64 n18) (fun _ q => q) ?_
  refine s_pure (.bool (decide (n18 < 0))) (fun _ q => q) ?_
  refine s_nil ?_
  refine p_seqN ?_
  refine v_cond rfl (fun c21 => ?_) (fun c21 => ?_)
  ·
    refine v_seq ?_
    refine v_ops ?_
    refine s_pure (.bool true) (fun _ q => q) ?_
    refine s_nil ?_
    refine p_seqN ?_
    refine v_ret ?_
    refine p_seqR ?_
    refine p_ret [.bool true] (.bool true) (fun _ q => q) rfl ?_
    exact ⟨rfl, E19⟩
  obtain ⟨hmn18, hkn18⟩ := And.intro (hmn18 (by omega)) hkn18
  have bd22 : x1.length ≤ 1048576 := by omega
  refine v_skip ?_
  refine p_seqN ?_
  refine v_seq ?_
  refine v_ops ?_
  have f23 := ((bxb1.ext eh9).ext eh17)
  refine s_load (.agg #[y0_towers.v, y0_links.v]) (fun _ q => f23.loadA rfl q) ?_
  have f24 := ((f7.ext eh9).ext eh17)
  have f25 := ((f8.ext eh9).ext eh17)
  refine s_call [.agg #[y0_towers.v, y0_links.v]] rfl (toNet_ok y0_towers.v x0_towers y0_links.v x0_links _ f24 f25 bd14 bd15) ?_
  rintro _ h26 ⟨r27, r28, rfl, s_r27, s_r28, eh26, fr_r27, fr_r28, ap_r27⟩
  have E29 := E19.trans eh26
  have z30 := eh26.size
  have lt_r27 := s_r27.lt
  have lt_r28 := s_r28.lt
  refine s_pure v1 (fun _ q => q) ?_
  have f31 := ((f16.ext eh17).ext eh26)
  refine s_call [v1] rfl (toFogS_ok v1 x1 _ f31 bd22) ?_
  rintro r33 h32 ⟨_, rfl, s_r33, fr_r33, eh32⟩
  have E34 := E29.trans eh32
  have z35 := eh32.size
  have lt_r33 := s_r33.lt
  refine s_pure v2 (fun _ q => q) ?_
  have f36 := (((((s_v2.ext eh2).ext eh9).ext eh17).ext eh26).ext eh32)
  refine s_call [v2] rfl (toIntS_ok v2 x2 _ f36 bd6) ?_
  rintro r38 h37 ⟨s_r38, eh37, fr_r38⟩
  have E39 := E34.trans eh37
  have z40 := eh37.size
  have lt_r38 := s_r38.lt
  refine s_pure (.int .i64 x3) (fun _ q => q) ?_
  have f41 := ((s_r27.ext eh32).ext eh37)
  have f42 := ((s_r28.ext eh32).ext eh37)
  have f43 := (s_r33.ext eh37)
  refine s_call [.agg #[r27, r28], r33, r38, .int .i64 x3] rfl (spec_WaitsAlong_ok (⟨x0_towers, x0_links⟩ : NetP) r27 r28 r33 x1 r38 x2 x3 _ f41.toSl f42.toSl f43.toSl s_r38.toSl) ?_
  rintro _ h45 ⟨r44, rfl, s_r44, fr_r44, eh45⟩
  have E46 := E39.trans eh45
  have z47 := eh45.size
  have lt_r44 := s_r44.lt
  refine s_pure (.tuple #[r44, .bool ((waitsOf (⟨x0_towers, x0_links⟩ : NetP) x1 x2 x3).2)]) (fun _ q => q) ?_
  refine s_pure r44 (fun _ q => q) ?_
  refine s_pure (.bool ((waitsOf (⟨x0_towers, x0_links⟩ : NetP) x1 x2 x3).2)) (fun _ q => q) ?_
  refine s_pure r44 (fun _ q => q) ?_
  refine s_pure (.bool ((waitsOf (⟨x0_towers, x0_links⟩ : NetP) x1 x2 x3).2)) (fun _ q => q) ?_
  refine s_nil ?_
  refine p_seqN ?_
  refine v_seq ?_
  refine v_ops ?_
  have f48 := ((((f23.ext eh26).ext eh32).ext eh37).ext eh45)
  refine s_load (.agg #[y0_towers.v, y0_links.v]) (fun _ q => f48.loadA rfl q) ?_
  have f49 := ((((f24.ext eh26).ext eh32).ext eh37).ext eh45)
  have f50 := ((((f25.ext eh26).ext eh32).ext eh37).ext eh45)
  refine s_call [.agg #[y0_towers.v, y0_links.v]] rfl (toNet_ok y0_towers.v x0_towers y0_links.v x0_links _ f49 f50 bd14 bd15) ?_
  rintro _ h51 ⟨r52, r53, rfl, s_r52, s_r53, eh51, fr_r52, fr_r53, ap_r52⟩
  have E54 := E46.trans eh51
  have z55 := eh51.size
  have lt_r52 := s_r52.lt
  have lt_r53 := s_r53.lt
  refine s_new (fun h57 b56 hbb56 hzb56 eh57 bxb56 => ?_)
  have E58 := E54.trans eh57
  have z59 := eh57.size
  have lbb56 := bxb56.lt
  refine s_stBx (.agg #[r52, r53]) [r52, r53] [r52, r53] bxb56 rfl rfl rfl rfl (by simp) (all_cons s_r52.one1 (all_cons s_r53.one1 all_nil)) rfl (fun h60 mh60 sh60 bxx61 => ?_)
  have E62 := E58.mod mh60 (fun b hb => by simp at hb; omega)
  refine s_nil ?_
  refine p_seqN ?_
  refine v_seq ?_
  refine v_ops ?_
  refine s_pure v1 (fun _ q => q) ?_
  have f63 := ((((((f31.ext eh32).ext eh37).ext eh45).ext eh51).ext eh57).mod mh60 (fun b hb hc => by simp at hc; have := lt_v1 b hb; omega))
  refine s_call [v1] rfl (toFogS_ok v1 x1 _ f63 bd22) ?_
  rintro r65 h64 ⟨_, rfl, s_r65, fr_r65, eh64⟩
  have E66 := E62.trans eh64
  have z67 := eh64.size
  have lt_r65 := s_r65.lt
  refine s_pure r65 (fun _ q => q) ?_
  refine s_nil ?_
  refine p_seqN ?_
  refine v_seq ?_
  refine v_ops ?_
  refine s_pure v2 (fun _ q => q) ?_
  have f68 := ((((((f36.ext eh37).ext eh45).ext eh51).ext eh57).mod mh60 (fun b hb hc => by simp at hc; have := lt_v2 b hb; omega)).ext eh64)
  refine s_call [v2] rfl (toIntS_ok v2 x2 _ f68 bd6) ?_
  rintro r70 h69 ⟨s_r70, eh69, fr_r70⟩
  have E71 := E66.trans eh69
  have z72 := eh69.size
  have lt_r70 := s_r70.lt
  refine s_pure r70 (fun _ q => q) ?_
  refine s_nil ?_
  refine p_seqN ?_
  refine v_seq ?_
  refine v_ops ?_
  have f73 := ((bxx61.ext eh64).ext eh69)
  refine s_load (.agg #[r52, r53]) (fun _ q => f73.loadA rfl q) ?_
  refine s_pure r65 (fun _ q => q) ?_
  refine s_pure r70 (fun _ q => q) ?_
  refine s_pure (.int .i64 x3) (fun _ q => q) ?_
  have f74 := ((((s_r52.ext eh57).mod mh60 (fun b hb hc => by simp at hc; have := lt_r52 b hb; omega)).ext eh64).ext eh69)
  have f75 := ((((s_r53.ext eh57).mod mh60 (fun b hb hc => by simp at hc; have := lt_r53 b hb; omega)).ext eh64).ext eh69)
  have f76 := (s_r65.ext eh69)
  refine s_call [.agg #[r52, r53], r65, r70, .int .i64 x3] rfl (impl_WaitsAlong_ok (⟨x0_towers, x0_links⟩ : NetP) r52 r53 r65 x1 r70 x2 x3 _ f74.toSl f75.toSl f76.toSl s_r70.toSl) ?_
  rintro _ h78 ⟨r77, rfl, s_r77, fr_r77, eh78⟩
  have E79 := E71.trans eh78
  have z80 := eh78.size
  have lt_r77 := s_r77.lt
  refine s_pure (.tuple #[r77, .bool ((waitsOf (⟨x0_towers, x0_links⟩ : NetP) x1 x2 x3).2)]) (fun _ q => q) ?_
  refine s_pure r77 (fun _ q => q) ?_
  refine s_pure (.bool ((waitsOf (⟨x0_towers, x0_links⟩ : NetP) x1 x2 x3).2)) (fun _ q => q) ?_
  refine s_pure r77 (fun _ q => q) ?_
  refine s_pure (.bool ((waitsOf (⟨x0_towers, x0_links⟩ : NetP) x1 x2 x3).2)) (fun _ q => q) ?_
  refine s_nil ?_
  refine p_seqN ?_
  refine v_seq ?_
  refine v_seq ?_
  refine v_ops ?_
  refine s_pure r77 (fun _ q => q) ?_
  refine s_pure r44 (fun _ q => q) ?_
  have f81 := ((((((s_r44.ext eh51).ext eh57).mod mh60 (fun b hb hc => by simp at hc; have := lt_r44 b hb; omega)).ext eh64).ext eh69).ext eh78)
  refine s_call [r77, r44] rfl (eqIntS_ok r77 r44 ((waitsOf (⟨x0_towers, x0_links⟩ : NetP) x1 x2 x3).1) ((waitsOf (⟨x0_towers, x0_links⟩ : NetP) x1 x2 x3).1) _ s_r77.toSl f81.toSl) ?_
  rintro _ h82 ⟨rfl, hqh82⟩
  have eh82 := Ext.ofEq hqh82
  clear hqh82
  have E83 := E79.trans eh82
  have z84 := eh82.size
  refine s_pure (.bool (!(decide ((waitsOf (⟨x0_towers, x0_links⟩ : NetP) x1 x2 x3).1 = (waitsOf (⟨x0_towers, x0_links⟩ : NetP) x1 x2 x3).1)))) (fun _ q => q) ?_
  refine s_pure (.bool (!(decide ((waitsOf (⟨x0_towers, x0_links⟩ : NetP) x1 x2 x3).1 = (waitsOf (⟨x0_towers, x0_links⟩ : NetP) x1 x2 x3).1)))) (fun _ q => q) ?_
  refine s_splitN rfl (by first | assumption | omega | (simp; done) | (simp; omega) | simp_all) ?_
  refine s_run rfl ?_
  refine s_pure (.bool ((waitsOf (⟨x0_towers, x0_links⟩ : NetP) x1 x2 x3).2)) (fun _ q => q) ?_
  refine s_run rfl ?_
  refine s_pure (.bool ((waitsOf (⟨x0_towers, x0_links⟩ : NetP) x1 x2 x3).2)) (fun _ q => q) ?_
  refine s_run rfl ?_
  refine s_pure (.bool ((waitsOf (⟨x0_towers, x0_links⟩ : NetP) x1 x2 x3).2 != (waitsOf (⟨x0_towers, x0_links⟩ : NetP) x1 x2 x3).2)) (fun _ q => q) ?_
  refine s_pure (.bool ((waitsOf (⟨x0_towers, x0_links⟩ : NetP) x1 x2 x3).2 != (waitsOf (⟨x0_towers, x0_links⟩ : NetP) x1 x2 x3).2)) (fun _ q => q) ?_
  refine s_nil ?_
  refine p_seqN ?_
  refine v_condN rfl (by first | assumption | omega | (simp; done) | (simp; omega) | simp_all) ?_
  refine v_skip ?_
  refine p_seqN ?_
  refine v_seq ?_
  refine v_seq ?_
  have f85 := ((f73.ext eh78).ext eh82)
  refine v_draw (DrawVC.hold ([b56]) ?_)
  refine d_loadT (.agg #[r52, r53]) (fun _ q => f85.takeA (by simp) rfl q) ?_
  have f86 := (((((((f48.ext eh51).ext eh57).mod mh60 (by simp; omega)).ext eh64).ext eh69).ext eh78).ext eh82)
  refine d_loadO (.agg #[y0_towers.v, y0_links.v]) (fun _ q => f86.loadA rfl q) ?_
  refine d_eff ?_
  have f87 := (((((((f49.ext eh51).ext eh57).mod mh60 (fun b hb hc => by simp at hc; have := lt_v0_towers b hb; omega)).ext eh64).ext eh69).ext eh78).ext eh82)
  have f88 := (((((((f50.ext eh51).ext eh57).mod mh60 (fun b hb hc => by simp at hc; have := lt_v0_links b hb; omega)).ext eh64).ext eh69).ext eh78).ext eh82)
  refine s_call [.agg #[y0_towers.v, y0_links.v]] rfl (toNet_ok y0_towers.v x0_towers y0_links.v x0_links _ f87 f88 bd14 bd15) ?_
  rintro _ h89 ⟨r90, r91, rfl, s_r90, s_r91, eh89, fr_r90, fr_r91, ap_r90⟩
  have E92 := E83.trans eh89
  have z93 := eh89.size
  have G94 := eh89
  have lt_r90 := s_r90.lt
  have lt_r91 := s_r91.lt
  refine s_nil ⟨fun _ x hx => G94.blk x (by simp at hx; omega), ?_⟩
  refine d_eff ?_
  have f95 := (((f74.ext eh78).ext eh82).ext eh89)
  have f96 := (((f75.ext eh78).ext eh82).ext eh89)
  refine s_call [.agg #[r52, r53], .agg #[r90, r91]] rfl (eqNet_ok r52 x0_towers r53 x0_links r90 x0_towers r91 x0_links _ f95.toSl f96.toSl s_r90.toSl s_r91.toSl) ?_
  rintro _ h97 ⟨rfl, eh97⟩
  have E98 := E92.trans eh97
  have z99 := eh97.size
  have G100 := G94.trans eh97
  refine s_nil ⟨fun _ x hx => G100.blk x (by simp at hx; omega), ?_⟩
  refine d_pureT (.bool (!(decide (x0_towers = x0_towers ∧ x0_links = x0_links)))) (fun _ q => q) ?_
  refine d_done ?_
  refine p_seqN ?_
  refine v_condN rfl (by first | assumption | omega | (simp; done) | (simp; omega) | simp_all) ?_
  refine v_skip ?_
  refine p_seqN ?_
  refine v_seq ?_
  refine v_seq ?_
  refine v_ops ?_
  refine s_pure r65 (fun _ q => q) ?_
  refine s_pure v1 (fun _ q => q) ?_
  have f101 := ((((((f63.ext eh64).ext eh69).ext eh78).ext eh82).ext eh89).ext eh97)
  refine s_call [v1] rfl (toFogS_ok v1 x1 _ f101 bd22) ?_
  rintro r103 h102 ⟨_, rfl, s_r103, fr_r103, eh102⟩
  have E104 := E98.trans eh102
  have z105 := eh102.size
  have lt_r103 := s_r103.lt
  have f106 := (((((f76.ext eh78).ext eh82).ext eh89).ext eh97).ext eh102)
  refine s_call [r65, r103] rfl (eqFogS_ok r65 x1 r103 x1 _ f106.toSl s_r103.toSl) ?_
  rintro _ h107 ⟨rfl, eh107⟩
  have E108 := E104.trans eh107
  have z109 := eh107.size
  refine s_pure (.bool (!(decide (x1 = x1)))) (fun _ q => q) ?_
  refine s_nil ?_
  refine p_seqN ?_
  refine v_condN rfl (by first | assumption | omega | (simp; done) | (simp; omega) | simp_all) ?_
  refine v_skip ?_
  refine p_seqN ?_
  refine v_seq ?_
  refine v_seq ?_
  refine v_ops ?_
  refine s_pure r70 (fun _ q => q) ?_
  refine s_pure v2 (fun _ q => q) ?_
  have f110 := (((((((f68.ext eh69).ext eh78).ext eh82).ext eh89).ext eh97).ext eh102).ext eh107)
  refine s_call [v2] rfl (toIntS_ok v2 x2 _ f110 bd6) ?_
  rintro r112 h111 ⟨s_r112, eh111, fr_r112⟩
  have E113 := E108.trans eh111
  have z114 := eh111.size
  have lt_r112 := s_r112.lt
  have f115 := (((((((s_r70.ext eh78).ext eh82).ext eh89).ext eh97).ext eh102).ext eh107).ext eh111)
  refine s_call [r70, r112] rfl (eqIntS_ok r70 r112 x2 x2 _ f115.toSl s_r112.toSl) ?_
  rintro _ h116 ⟨rfl, hqh116⟩
  have eh116 := Ext.ofEq hqh116
  clear hqh116
  have E117 := E113.trans eh116
  have z118 := eh116.size
  refine s_pure (.bool (!(decide (x2 = x2)))) (fun _ q => q) ?_
  refine s_nil ?_
  refine p_seqN ?_
  refine v_condN rfl (by first | assumption | omega | (simp; done) | (simp; omega) | simp_all) ?_
  refine v_skip ?_
  refine p_seqN ?_
  refine v_seq ?_
  refine v_ops ?_
  refine s_pure (.int .i64 1) (fun _ q => q) ?_
  refine s_nil ?_
  refine p_seqN ?_
  refine v_seq ?_
  refine v_ops ?_
  have f119 := ((((((f85.ext eh89).ext eh97).ext eh102).ext eh107).ext eh111).ext eh116)
  refine s_load (.agg #[r52, r53]) (fun _ q => f119.loadA rfl q) ?_
  refine s_pure (.int .i64 1) (fun _ q => q) ?_
  have f120 := (((((f95.ext eh97).ext eh102).ext eh107).ext eh111).ext eh116)
  have f121 := (((((f96.ext eh97).ext eh102).ext eh107).ext eh111).ext eh116)
  refine s_call [.agg #[r52, r53], .int .i64 1] rfl (markNet_ok r52 x0_towers r53 x0_links (1) _ f120 f121 ap_r52 (by omega) (by omega) (by omega) (by omega)) ?_
  rintro _ h122 ⟨rfl, mk123, mk124, mh122, zh122⟩
  have E125 := E117.mod mh122 (all_app (fun b hb => by have := fr_r52 b hb; omega) (fun b hb => by have := fr_r53 b hb; omega))
  refine s_pure (.int .i64 (1 + 3 * (x0_towers.length : Int) + 3 * (x0_links.length : Int))) (fun _ q => q) ?_
  refine s_nil ?_
  refine p_seqN ?_
  refine v_seq ?_
  refine v_ops ?_
  refine s_pure r65 (fun _ q => q) ?_
  refine s_pure (.int .i64 (1 + 3 * (x0_towers.length : Int) + 3 * (x0_links.length : Int))) (fun _ q => q) ?_
  have f126 := ((((f106.ext eh107).ext eh111).ext eh116).mod mh122 (fun b hb => not_app (((fun b hb hc => by have := fr_r65 b hb; have := lt_r52 b hc; omega) : ∀ b ∈ blks r65, b ∉ blks r52) b hb) (((fun b hb hc => by have := fr_r65 b hb; have := lt_r53 b hc; omega) : ∀ b ∈ blks r65, b ∉ blks r53) b hb)))
  refine s_call [r65, .int .i64 (1 + 3 * (x0_towers.length : Int) + 3 * (x0_links.length : Int))] rfl (markFogS_ok r65 x1 ((1 + 3 * (x0_towers.length : Int) + 3 * (x0_links.length : Int))) _ f126 (by omega) (by omega) (by omega)) ?_
  rintro _ h127 ⟨rfl, mk128, mh127, zh127⟩
  have E129 := E125.mod mh127 (fun b hb => by have := fr_r65 b hb; omega)
  refine s_pure (.int .i64 ((1 + 3 * (x0_towers.length : Int) + 3 * (x0_links.length : Int)) + 3 * (x1.length : Int))) (fun _ q => q) ?_
  refine s_nil ?_
  refine p_seqN ?_
  refine v_seq ?_
  refine v_ops ?_
  refine s_pure r70 (fun _ q => q) ?_
  refine s_pure (.int .i64 ((1 + 3 * (x0_towers.length : Int) + 3 * (x0_links.length : Int)) + 3 * (x1.length : Int))) (fun _ q => q) ?_
  have f130 := (((f115.ext eh116).mod mh122 (fun b hb => not_app (((fun b hb hc => by have := fr_r70 b hb; have := lt_r52 b hc; omega) : ∀ b ∈ blks r70, b ∉ blks r52) b hb) (((fun b hb hc => by have := fr_r70 b hb; have := lt_r53 b hc; omega) : ∀ b ∈ blks r70, b ∉ blks r53) b hb))).mod mh127 (fun b hb hc => by have := fr_r70 b hb; have := lt_r65 b hc; omega))
  refine s_call [r70, .int .i64 ((1 + 3 * (x0_towers.length : Int) + 3 * (x0_links.length : Int)) + 3 * (x1.length : Int))] rfl (markIntS_ok r70 x2 (((1 + 3 * (x0_towers.length : Int) + 3 * (x0_links.length : Int)) + 3 * (x1.length : Int))) _ f130 (by omega) (by omega) (by omega)) ?_
  rintro _ h131 ⟨rfl, mk132, mh131, zh131⟩
  have E133 := E129.mod mh131 (fun b hb => by have := fr_r70 b hb; omega)
  refine s_pure (.int .i64 (((1 + 3 * (x0_towers.length : Int) + 3 * (x0_links.length : Int)) + 3 * (x1.length : Int)) + (x2.length : Int))) (fun _ q => q) ?_
  refine s_nil ?_
  refine p_seqN ?_
  refine v_seq ?_
  refine v_seq ?_
  refine v_ops ?_
  refine s_pure (.int .i64 (((1 + 3 * (x0_towers.length : Int) + 3 * (x0_links.length : Int)) + 3 * (x1.length : Int)) + (x2.length : Int))) (fun _ q => q) ?_
  refine s_pure (.bool (decide ((((1 + 3 * (x0_towers.length : Int) + 3 * (x0_links.length : Int)) + 3 * (x1.length : Int)) + (x2.length : Int)) < 0))) (fun _ q => q) ?_
  refine s_pure (.bool (decide ((((1 + 3 * (x0_towers.length : Int) + 3 * (x0_links.length : Int)) + 3 * (x1.length : Int)) + (x2.length : Int)) < 0))) (fun _ q => q) ?_
  refine s_splitN rfl (by first | assumption | omega | (simp; done) | (simp; omega) | simp_all) ?_
  refine s_run rfl ?_
  refine s_pure r77 (fun _ q => q) ?_
  refine s_run rfl ?_
  refine s_pure r44 (fun _ q => q) ?_
  refine s_run rfl ?_
  have f134 := ((((((((((s_r77.ext eh82).ext eh89).ext eh97).ext eh102).ext eh107).ext eh111).ext eh116).mod mh122 (fun b hb => not_app (((fun b hb hc => by have := fr_r77 b hb; have := lt_r52 b hc; omega) : ∀ b ∈ blks r77, b ∉ blks r52) b hb) (((fun b hb hc => by have := fr_r77 b hb; have := lt_r53 b hc; omega) : ∀ b ∈ blks r77, b ∉ blks r53) b hb))).mod mh127 (fun b hb hc => by have := fr_r77 b hb; have := lt_r65 b hc; omega)).mod mh131 (fun b hb hc => by have := fr_r77 b hb; have := lt_r70 b hc; omega))
  have f135 := ((((((((((f81.ext eh82).ext eh89).ext eh97).ext eh102).ext eh107).ext eh111).ext eh116).mod mh122 (fun b hb => not_app (((fun b hb hc => by have := lt_r44 b hb; have := fr_r52 b hc; omega) : ∀ b ∈ blks r44, b ∉ blks r52) b hb) (((fun b hb hc => by have := lt_r44 b hb; have := fr_r53 b hc; omega) : ∀ b ∈ blks r44, b ∉ blks r53) b hb))).mod mh127 (fun b hb hc => by have := lt_r44 b hb; have := fr_r65 b hc; omega)).mod mh131 (fun b hb hc => by have := lt_r44 b hb; have := fr_r70 b hc; omega))
  refine s_call [r77, r44] rfl (eqIntS_ok r77 r44 ((waitsOf (⟨x0_towers, x0_links⟩ : NetP) x1 x2 x3).1) ((waitsOf (⟨x0_towers, x0_links⟩ : NetP) x1 x2 x3).1) _ f134.toSl f135.toSl) ?_
  rintro _ h136 ⟨rfl, hqh136⟩
  have eh136 := Ext.ofEq hqh136
  clear hqh136
  have E137 := E133.trans eh136
  have z138 := eh136.size
  refine s_run rfl ?_
  refine s_pure (.bool (!(decide ((waitsOf (⟨x0_towers, x0_links⟩ : NetP) x1 x2 x3).1 = (waitsOf (⟨x0_towers, x0_links⟩ : NetP) x1 x2 x3).1)))) (fun _ q => q) ?_
  refine s_pure (.bool (!(decide ((waitsOf (⟨x0_towers, x0_links⟩ : NetP) x1 x2 x3).1 = (waitsOf (⟨x0_towers, x0_links⟩ : NetP) x1 x2 x3).1)))) (fun _ q => q) ?_
  refine s_pure (.bool (!(decide ((waitsOf (⟨x0_towers, x0_links⟩ : NetP) x1 x2 x3).1 = (waitsOf (⟨x0_towers, x0_links⟩ : NetP) x1 x2 x3).1)))) (fun _ q => q) ?_
  refine s_splitN rfl (by first | assumption | omega | (simp; done) | (simp; omega) | simp_all) ?_
  refine s_run rfl ?_
  refine s_pure (.bool ((waitsOf (⟨x0_towers, x0_links⟩ : NetP) x1 x2 x3).2)) (fun _ q => q) ?_
  refine s_run rfl ?_
  refine s_pure (.bool ((waitsOf (⟨x0_towers, x0_links⟩ : NetP) x1 x2 x3).2)) (fun _ q => q) ?_
  refine s_run rfl ?_
  refine s_pure (.bool ((waitsOf (⟨x0_towers, x0_links⟩ : NetP) x1 x2 x3).2 != (waitsOf (⟨x0_towers, x0_links⟩ : NetP) x1 x2 x3).2)) (fun _ q => q) ?_
  refine s_pure (.bool ((waitsOf (⟨x0_towers, x0_links⟩ : NetP) x1 x2 x3).2 != (waitsOf (⟨x0_towers, x0_links⟩ : NetP) x1 x2 x3).2)) (fun _ q => q) ?_
  refine s_nil ?_
  refine p_seqN ?_
  refine v_condN rfl (by first | assumption | omega | (simp; done) | (simp; omega) | simp_all) ?_
  refine v_skip ?_
  refine p_seqN ?_
  refine v_seq ?_
  refine v_ops ?_
  refine s_pure (.int .i64 1) (fun _ q => q) ?_
  refine s_nil ?_
  refine p_seqN ?_
  refine v_seq ?_
  refine v_ops ?_
  refine s_pure r77 (fun _ q => q) ?_
  refine s_pure (.int .i64 1) (fun _ q => q) ?_
  have f139 := (f134.ext eh136)
  refine s_call [r77, .int .i64 1] rfl (markIntS_ok r77 ((waitsOf (⟨x0_towers, x0_links⟩ : NetP) x1 x2 x3).1) (1) _ f139 (by omega) (by omega) (by omega)) ?_
  rintro _ h140 ⟨rfl, mk141, mh140, zh140⟩
  have E142 := E137.mod mh140 (fun b hb => by have := fr_r77 b hb; omega)
  refine s_pure (.int .i64 (1 + ((waitsOf (⟨x0_towers, x0_links⟩ : NetP) x1 x2 x3).1.length : Int))) (fun _ q => q) ?_
  refine s_nil ?_
  refine p_seqN ?_
  refine v_seq ?_
  refine v_ops ?_
  refine s_pure (.int .i64 1) (fun _ q => q) ?_
  refine s_nil ?_
  refine p_seqN ?_
  refine v_seq ?_
  refine v_ops ?_
  refine s_pure r77 (fun _ q => q) ?_
  refine s_pure (.int .i64 1) (fun _ q => q) ?_
  refine s_call [r77, .int .i64 1] rfl (heldIntS_ok _ _ (1) _ mk141.toSl (by omega) (by omega) (by omega)) ?_
  rintro _ h143 ⟨rfl, hqh143⟩
  have eh143 := Ext.ofEq hqh143
  clear hqh143
  have E144 := E142.trans eh143
  have z145 := eh143.size
  refine s_pure (.int .i64 (1 + ((waitsOf (⟨x0_towers, x0_links⟩ : NetP) x1 x2 x3).1.length : Int))) (fun _ q => q) ?_
  refine s_nil ?_
  refine p_seqN ?_
  refine v_seq ?_
  refine v_seq ?_
  refine v_ops ?_
  refine s_pure (.int .i64 (1 + ((waitsOf (⟨x0_towers, x0_links⟩ : NetP) x1 x2 x3).1.length : Int))) (fun _ q => q) ?_
  refine s_pure (.bool (decide ((1 + ((waitsOf (⟨x0_towers, x0_links⟩ : NetP) x1 x2 x3).1.length : Int)) < 0))) (fun _ q => q) ?_
  refine s_nil ?_
  refine p_seqN ?_
  refine v_condN rfl (by first | assumption | omega | (simp; done) | (simp; omega) | simp_all) ?_
  refine v_skip ?_
  refine p_seqN ?_
  refine v_seq ?_
  refine v_seq ?_
  refine v_ops ?_
  refine s_pure (.int .i64 (1 + ((waitsOf (⟨x0_towers, x0_links⟩ : NetP) x1 x2 x3).1.length : Int))) (fun _ q => q) ?_
  refine s_pure (.int .i64 (1 + ((waitsOf (⟨x0_towers, x0_links⟩ : NetP) x1 x2 x3).1.length : Int))) (fun _ q => q) ?_
  refine s_pure (.bool ((1 + ((waitsOf (⟨x0_towers, x0_links⟩ : NetP) x1 x2 x3).1.length : Int)) != (1 + ((waitsOf (⟨x0_towers, x0_links⟩ : NetP) x1 x2 x3).1.length : Int)))) (fun _ q => q) ?_
  refine s_nil ?_
  refine p_seqN ?_
  refine v_condN rfl (by first | assumption | omega | (simp; done) | (simp; omega) | simp_all) ?_
  refine v_skip ?_
  refine p_seqN ?_
  refine v_seq ?_
  refine v_ops ?_
  have f146 := ((((((((((((f86.ext eh89).ext eh97).ext eh102).ext eh107).ext eh111).ext eh116).mod mh122 (not_app (fun hc => by have := fr_r52 _ hc; omega) (fun hc => by have := fr_r53 _ hc; omega))).mod mh127 (fun hc => by have := fr_r65 _ hc; omega)).mod mh131 (fun hc => by have := fr_r70 _ hc; omega)).ext eh136).mod mh140 (fun hc => by have := fr_r77 _ hc; omega)).ext eh143)
  refine s_load (.agg #[y0_towers.v, y0_links.v]) (fun _ q => f146.loadA rfl q) ?_
  have f147 := ((((((((((((f87.ext eh89).ext eh97).ext eh102).ext eh107).ext eh111).ext eh116).mod mh122 (fun b hb => not_app (((fun b hb hc => by have := lt_v0_towers b hb; have := fr_r52 b hc; omega) : ∀ b ∈ blks y0_towers.v, b ∉ blks r52) b hb) (((fun b hb hc => by have := lt_v0_towers b hb; have := fr_r53 b hc; omega) : ∀ b ∈ blks y0_towers.v, b ∉ blks r53) b hb))).mod mh127 (fun b hb hc => by have := lt_v0_towers b hb; have := fr_r65 b hc; omega)).mod mh131 (fun b hb hc => by have := lt_v0_towers b hb; have := fr_r70 b hc; omega)).ext eh136).mod mh140 (fun b hb hc => by have := lt_v0_towers b hb; have := fr_r77 b hc; omega)).ext eh143)
  have f148 := ((((((((((((f88.ext eh89).ext eh97).ext eh102).ext eh107).ext eh111).ext eh116).mod mh122 (fun b hb => not_app (((fun b hb hc => by have := lt_v0_links b hb; have := fr_r52 b hc; omega) : ∀ b ∈ blks y0_links.v, b ∉ blks r52) b hb) (((fun b hb hc => by have := lt_v0_links b hb; have := fr_r53 b hc; omega) : ∀ b ∈ blks y0_links.v, b ∉ blks r53) b hb))).mod mh127 (fun b hb hc => by have := lt_v0_links b hb; have := fr_r65 b hc; omega)).mod mh131 (fun b hb hc => by have := lt_v0_links b hb; have := fr_r70 b hc; omega)).ext eh136).mod mh140 (fun b hb hc => by have := lt_v0_links b hb; have := fr_r77 b hc; omega)).ext eh143)
  refine s_call [.agg #[y0_towers.v, y0_links.v]] rfl (toNet_ok y0_towers.v x0_towers y0_links.v x0_links _ f147 f148 bd14 bd15) ?_
  rintro _ h149 ⟨r150, r151, rfl, s_r150, s_r151, eh149, fr_r150, fr_r151, ap_r150⟩
  have E152 := E144.trans eh149
  have z153 := eh149.size
  have lt_r150 := s_r150.lt
  have lt_r151 := s_r151.lt
  refine s_pure v1 (fun _ q => q) ?_
  have f154 := (((((((((((f101.ext eh102).ext eh107).ext eh111).ext eh116).mod mh122 (fun b hb => not_app (((fun b hb hc => by have := lt_v1 b hb; have := fr_r52 b hc; omega) : ∀ b ∈ blks v1, b ∉ blks r52) b hb) (((fun b hb hc => by have := lt_v1 b hb; have := fr_r53 b hc; omega) : ∀ b ∈ blks v1, b ∉ blks r53) b hb))).mod mh127 (fun b hb hc => by have := lt_v1 b hb; have := fr_r65 b hc; omega)).mod mh131 (fun b hb hc => by have := lt_v1 b hb; have := fr_r70 b hc; omega)).ext eh136).mod mh140 (fun b hb hc => by have := lt_v1 b hb; have := fr_r77 b hc; omega)).ext eh143).ext eh149)
  refine s_call [v1] rfl (toFogS_ok v1 x1 _ f154 bd22) ?_
  rintro r156 h155 ⟨_, rfl, s_r156, fr_r156, eh155⟩
  have E157 := E152.trans eh155
  have z158 := eh155.size
  have lt_r156 := s_r156.lt
  refine s_pure v2 (fun _ q => q) ?_
  have f159 := ((((((((((f110.ext eh111).ext eh116).mod mh122 (fun b hb => not_app (((fun b hb hc => by have := lt_v2 b hb; have := fr_r52 b hc; omega) : ∀ b ∈ blks v2, b ∉ blks r52) b hb) (((fun b hb hc => by have := lt_v2 b hb; have := fr_r53 b hc; omega) : ∀ b ∈ blks v2, b ∉ blks r53) b hb))).mod mh127 (fun b hb hc => by have := lt_v2 b hb; have := fr_r65 b hc; omega)).mod mh131 (fun b hb hc => by have := lt_v2 b hb; have := fr_r70 b hc; omega)).ext eh136).mod mh140 (fun b hb hc => by have := lt_v2 b hb; have := fr_r77 b hc; omega)).ext eh143).ext eh149).ext eh155)
  refine s_call [v2] rfl (toIntS_ok v2 x2 _ f159 bd6) ?_
  rintro r161 h160 ⟨s_r161, eh160, fr_r161⟩
  have E162 := E157.trans eh160
  have z163 := eh160.size
  have lt_r161 := s_r161.lt
  refine s_pure (.int .i64 x3) (fun _ q => q) ?_
  have f164 := ((s_r150.ext eh155).ext eh160)
  have f165 := ((s_r151.ext eh155).ext eh160)
  have f166 := (s_r156.ext eh160)
  refine s_call [.agg #[r150, r151], r156, r161, .int .i64 x3] rfl (impl_WaitsAlong_ok (⟨x0_towers, x0_links⟩ : NetP) r150 r151 r156 x1 r161 x2 x3 _ f164.toSl f165.toSl f166.toSl s_r161.toSl) ?_
  rintro _ h168 ⟨r167, rfl, s_r167, fr_r167, eh168⟩
  have E169 := E162.trans eh168
  have z170 := eh168.size
  have lt_r167 := s_r167.lt
  refine s_pure (.tuple #[r167, .bool ((waitsOf (⟨x0_towers, x0_links⟩ : NetP) x1 x2 x3).2)]) (fun _ q => q) ?_
  refine s_pure r167 (fun _ q => q) ?_
  refine s_pure (.bool ((waitsOf (⟨x0_towers, x0_links⟩ : NetP) x1 x2 x3).2)) (fun _ q => q) ?_
  refine s_pure r167 (fun _ q => q) ?_
  refine s_pure (.bool ((waitsOf (⟨x0_towers, x0_links⟩ : NetP) x1 x2 x3).2)) (fun _ q => q) ?_
  refine s_nil ?_
  refine p_seqN ?_
  refine v_seq ?_
  refine v_seq ?_
  refine v_ops ?_
  refine s_pure r167 (fun _ q => q) ?_
  refine s_pure r44 (fun _ q => q) ?_
  have f171 := (((((((f135.ext eh136).mod mh140 (fun b hb hc => by have := lt_r44 b hb; have := fr_r77 b hc; omega)).ext eh143).ext eh149).ext eh155).ext eh160).ext eh168)
  refine s_call [r167, r44] rfl (eqIntS_ok r167 r44 ((waitsOf (⟨x0_towers, x0_links⟩ : NetP) x1 x2 x3).1) ((waitsOf (⟨x0_towers, x0_links⟩ : NetP) x1 x2 x3).1) _ s_r167.toSl f171.toSl) ?_
  rintro _ h172 ⟨rfl, hqh172⟩
  have eh172 := Ext.ofEq hqh172
  clear hqh172
  have E173 := E169.trans eh172
  have z174 := eh172.size
  refine s_pure (.bool (!(decide ((waitsOf (⟨x0_towers, x0_links⟩ : NetP) x1 x2 x3).1 = (waitsOf (⟨x0_towers, x0_links⟩ : NetP) x1 x2 x3).1)))) (fun _ q => q) ?_
  refine s_pure (.bool (!(decide ((waitsOf (⟨x0_towers, x0_links⟩ : NetP) x1 x2 x3).1 = (waitsOf (⟨x0_towers, x0_links⟩ : NetP) x1 x2 x3).1)))) (fun _ q => q) ?_
  refine s_splitN rfl (by first | assumption | omega | (simp; done) | (simp; omega) | simp_all) ?_
  refine s_run rfl ?_
  refine s_pure (.bool ((waitsOf (⟨x0_towers, x0_links⟩ : NetP) x1 x2 x3).2)) (fun _ q => q) ?_
  refine s_run rfl ?_
  refine s_pure (.bool ((waitsOf (⟨x0_towers, x0_links⟩ : NetP) x1 x2 x3).2)) (fun _ q => q) ?_
  refine s_run rfl ?_
  refine s_pure (.bool ((waitsOf (⟨x0_towers, x0_links⟩ : NetP) x1 x2 x3).2 != (waitsOf (⟨x0_towers, x0_links⟩ : NetP) x1 x2 x3).2)) (fun _ q => q) ?_
  refine s_pure (.bool ((waitsOf (⟨x0_towers, x0_links⟩ : NetP) x1 x2 x3).2 != (waitsOf (⟨x0_towers, x0_links⟩ : NetP) x1 x2 x3).2)) (fun _ q => q) ?_
  refine s_nil ?_
  refine p_seqN ?_
  refine v_condN rfl (by first | assumption | omega | (simp; done) | (simp; omega) | simp_all) ?_
  refine v_skip ?_
  refine p_seqN ?_
  refine v_seq ?_
  refine v_ops ?_
  refine s_pure (.int .i64 1) (fun _ q => q) ?_
  refine s_nil ?_
  refine p_seqN ?_
  refine v_seq ?_
  refine v_ops ?_
  refine s_pure r77 (fun _ q => q) ?_
  refine s_pure (.int .i64 1) (fun _ q => q) ?_
  have f175 := ((((((mk141.ext eh143).ext eh149).ext eh155).ext eh160).ext eh168).ext eh172)
  refine s_call [r77, .int .i64 1] rfl (heldIntS_ok _ _ (1) _ f175.toSl (by omega) (by omega) (by omega)) ?_
  rintro _ h176 ⟨rfl, hqh176⟩
  have eh176 := Ext.ofEq hqh176
  clear hqh176
  have E177 := E173.trans eh176
  have z178 := eh176.size
  refine s_pure (.int .i64 (1 + ((waitsOf (⟨x0_towers, x0_links⟩ : NetP) x1 x2 x3).1.length : Int))) (fun _ q => q) ?_
  refine s_nil ?_
  refine p_seqN ?_
  refine v_seq ?_
  refine v_seq ?_
  refine v_ops ?_
  refine s_pure (.int .i64 (1 + ((waitsOf (⟨x0_towers, x0_links⟩ : NetP) x1 x2 x3).1.length : Int))) (fun _ q => q) ?_
  refine s_pure (.bool (decide ((1 + ((waitsOf (⟨x0_towers, x0_links⟩ : NetP) x1 x2 x3).1.length : Int)) < 0))) (fun _ q => q) ?_
  refine s_nil ?_
  refine p_seqN ?_
  refine v_condN rfl (by first | assumption | omega | (simp; done) | (simp; omega) | simp_all) ?_
  refine v_skip ?_
  refine p_seqN ?_
  refine v_seq ?_
  refine v_seq ?_
  refine v_ops ?_
  refine s_pure (.int .i64 (1 + ((waitsOf (⟨x0_towers, x0_links⟩ : NetP) x1 x2 x3).1.length : Int))) (fun _ q => q) ?_
  refine s_pure (.int .i64 (1 + ((waitsOf (⟨x0_towers, x0_links⟩ : NetP) x1 x2 x3).1.length : Int))) (fun _ q => q) ?_
  refine s_pure (.bool ((1 + ((waitsOf (⟨x0_towers, x0_links⟩ : NetP) x1 x2 x3).1.length : Int)) != (1 + ((waitsOf (⟨x0_towers, x0_links⟩ : NetP) x1 x2 x3).1.length : Int)))) (fun _ q => q) ?_
  refine s_nil ?_
  refine p_seqN ?_
  refine v_condN rfl (by first | assumption | omega | (simp; done) | (simp; omega) | simp_all) ?_
  refine v_skip ?_
  refine p_seqN ?_
  refine v_seq ?_
  refine v_ops ?_
  refine s_pure (.bool true) (fun _ q => q) ?_
  refine s_nil ?_
  refine p_seqN ?_
  refine v_ret ?_
  refine p_ret [.bool true] (.bool true) (fun _ q => q) rfl ?_
  exact ⟨rfl, E177⟩
end Go.Proofs.Ythagdkmalchhgaa.finFnExactWaitsAlong
