/- The law FnExactArrivalAlong: its text returns true. Condition: none. Printed by a program. -/
import Derived.Test.YthagdkmalchhgaaRo11
import Derived.Test.YthagdkmalchhgaaTypes
namespace Go.Proofs.Ythagdkmalchhgaa.finFnExactArrivalAlong
open Go.Vc
set_option linter.all false
set_option maxRecDepth 100000 in
set_option maxHeartbeats 2000000 in
theorem law_ok (h : Heap) (x0 : NetD) (w0 : NetD.good h x0) (v1 : Value) (x1 : List FogD) (s_v1 : Sl h v1 x1) (_ : ∀ y ∈ x1, FogD.good h y) (v2 : Value) (x2 : List Int) (s_v2 : Sl h v2 x2) (_ : ∀ y ∈ x2, I64 y) (x3 : Int) (b_x3 : I64 x3) : Cn f_laws_FnExactArrivalAlong [x0.val, v1, v2, .int .i64 x3] h fun v h' => v = .bool true ∧ Ext h h' := by
  obtain ⟨y0_towers, y0_links⟩ := x0
  obtain ⟨⟨x0_towers, s_v0_towers, _⟩, ⟨x0_links, s_v0_links, _⟩⟩ := w0
  change Sl h y0_towers.v x0_towers at s_v0_towers
  have lt_v0_towers := s_v0_towers.lt
  change Sl h y0_links.v x0_links at s_v0_links
  have lt_v0_links := s_v0_links.lt
  have lt_v1 := s_v1.lt
  have lt_v2 := s_v2.lt
  unfold I64 at b_x3
  refine calls_of r_laws_FnExactArrivalAlong ?_
  refine v_seq ?_
  refine v_ops ?_
  refine s_box [y0_towers.v, y0_links.v] rfl (fun h2 b1 hbb1 hzb1 eh2 bxb1 => ?_)
  have E3 := (Ext.refl h).trans eh2
  have z4 := eh2.size
  have lbb1 := bxb1.lt
  refine s_pure (.bool false) (fun _ q => q) ?_
  refine s_nil ?_
  refine p_seqN ?_
  refine v_seq ?_
  refine v_seq ?_
  refine v_ops ?_
  refine s_pure v2 (fun _ q => q) ?_
  refine s_pure (.int .i64 (x2.length : Int)) (fun _ q => s_v2.lenVC q) ?_
  refine s_pure (.bool (decide ((x2.length : Int) > 1048576))) (fun _ q => q) ?_
  refine s_nil ?_
  refine p_seqN ?_
  refine v_cond rfl (fun c5 => ?_) (fun c5 => ?_)
  ·
    refine v_seq ?_
    refine v_ops ?_
    refine s_pure (.bool true) (fun _ q => q) ?_
    refine s_nil ?_
    refine p_seqN ?_
    refine v_ret ?_
    refine p_seqR ?_
    refine p_ret [.bool true] (.bool true) (fun _ q => q) rfl ?_
    exact ⟨rfl, E3⟩
  have bd6 : x2.length ≤ 1048576 := by omega
  refine v_skip ?_
  refine p_seqN ?_
  refine v_seq ?_
  refine v_ops ?_
  refine s_pure (.int .i64 1048576) (fun _ q => q) ?_
  refine s_nil ?_
  refine p_seqN ?_
  refine v_seq ?_
  refine v_ops ?_
  refine s_load (.agg #[y0_towers.v, y0_links.v]) (fun _ q => bxb1.loadA rfl q) ?_
  refine s_pure (.int .i64 1048576) (fun _ q => q) ?_
  have f7 := (s_v0_towers.ext eh2)
  have f8 := (s_v0_links.ext eh2)
  refine s_call [.agg #[y0_towers.v, y0_links.v], .int .i64 1048576] rfl (szNet_ok y0_towers.v x0_towers y0_links.v x0_links 1048576 _ f7 f8 (by omega) (by omega)) ?_
  rintro _ h9 ⟨n10, rfl, eh9, hmn10, hkn10⟩
  have E11 := E3.trans eh9
  have z12 := eh9.size
  refine s_pure (.int .i64 n10) (fun _ q => q) ?_
  refine s_nil ?_
  refine p_seqN ?_
  refine v_seq ?_
  refine v_seq ?_
  refine v_ops ?_
  refine s_pure (.int .i64 n10) (fun _ q => q) ?_
  refine s_pure (.bool (decide (n10 < 0))) (fun _ q => q) ?_
  refine s_nil ?_
  refine p_seqN ?_
  refine v_cond rfl (fun c13 => ?_) (fun c13 => ?_)
  ·
    refine v_seq ?_
    refine v_ops ?_
    refine s_pure (.bool true) (fun _ q => q) ?_
    refine s_nil ?_
    refine p_seqN ?_
    refine v_ret ?_
    refine p_seqR ?_
    refine p_ret [.bool true] (.bool true) (fun _ q => q) rfl ?_
    exact ⟨rfl, E11⟩
  obtain ⟨hmn10, hkn10⟩ := And.intro (hmn10 (by omega)) hkn10
  have bd14 : x0_towers.length ≤ 1048576 := by omega
  have bd15 : x0_links.length ≤ 1048576 := by omega
  refine v_skip ?_
  refine p_seqN ?_
  refine v_seq ?_
  refine v_ops ?_
  refine s_pure v1 (fun _ q => q) ?_
  refine s_pure (.int .i64 n10) (fun _ q => q) ?_
  have f16 := ((s_v1.ext eh2).ext eh9)
  refine s_call [v1, .int .i64 n10] rfl (szFogS_ok v1 x1 n10 _ f16 (by omega) (by omega)) ?_
  rintro _ h17 ⟨n18, rfl, eh17, hmn18, hkn18⟩
  have E19 := E11.trans eh17
  have z20 := eh17.size
  refine s_pure (.int .i64 n18) (fun _ q => q) ?_
  refine s_nil ?_
  refine p_seqN ?_
  refine v_seq ?_
  refine v_seq ?_
  refine v_ops ?_
  refine s_pure (.int .i64 n18) (fun _ q => q) ?_
  refine s_pure (.bool (decide (n18 < 0))) (fun _ q => q) ?_
  refine s_nil ?_
  refine p_seqN ?_
  refine v_cond rfl (fun c21 => ?_) (fun c21 => ?_)
  ·
    refine v_seq ?_
    refine v_ops ?_
    refine s_pure (.bool true) (fun _ q => q) ?_
    refine s_nil ?_
    refine p_seqN ?_
    refine v_ret ?_
    refine p_seqR ?_
    refine p_ret [.bool true] (.bool true) (fun _ q => q) rfl ?_
    exact ⟨rfl, E19⟩
  obtain ⟨hmn18, hkn18⟩ := And.intro (hmn18 (by omega)) hkn18
  have bd22 : x1.length ≤ 1048576 := by omega
  refine v_skip ?_
  refine p_seqN ?_
  refine v_seq ?_
  refine v_ops ?_
  have f23 := ((bxb1.ext eh9).ext eh17)
  refine s_load (.agg #[y0_towers.v, y0_links.v]) (fun _ q => f23.loadA rfl q) ?_
  have f24 := ((f7.ext eh9).ext eh17)
  have f25 := ((f8.ext eh9).ext eh17)
  refine s_call [.agg #[y0_towers.v, y0_links.v]] rfl (toNet_ok y0_towers.v x0_towers y0_links.v x0_links _ f24 f25 bd14 bd15) ?_
  rintro _ h26 ⟨r27, r28, rfl, s_r27, s_r28, eh26, fr_r27, fr_r28, ap_r27⟩
  have E29 := E19.trans eh26
  have z30 := eh26.size
  have lt_r27 := s_r27.lt
  have lt_r28 := s_r28.lt
  refine s_pure v1 (fun _ q => q) ?_
  have f31 := ((f16.ext eh17).ext eh26)
  refine s_call [v1] rfl (toFogS_ok v1 x1 _ f31 bd22) ?_
  rintro r33 h32 ⟨_, rfl, s_r33, fr_r33, eh32⟩
  have E34 := E29.trans eh32
  have z35 := eh32.size
  have lt_r33 := s_r33.lt
  refine s_pure v2 (fun _ q => q) ?_
  have f36 := (((((s_v2.ext eh2).ext eh9).ext eh17).ext eh26).ext eh32)
  refine s_call [v2] rfl (toIntS_ok v2 x2 _ f36 bd6) ?_
  rintro r38 h37 ⟨s_r38, eh37, fr_r38⟩
  have E39 := E34.trans eh37
  have z40 := eh37.size
  have lt_r38 := s_r38.lt
  refine s_pure (.int .i64 x3) (fun _ q => q) ?_
  have f41 := ((s_r27.ext eh32).ext eh37)
  have f42 := ((s_r28.ext eh32).ext eh37)
  have f43 := (s_r33.ext eh37)
  refine s_call [.agg #[r27, r28], r33, r38, .int .i64 x3] rfl (spec_ArrivalAlong_ok (⟨x0_towers, x0_links⟩ : NetP) r27 r28 r33 x1 r38 x2 x3 _ f41.toSl f42.toSl f43.toSl s_r38.toSl) ?_
  rintro _ h44 ⟨rfl, eh44⟩
  have E45 := E39.trans eh44
  have z46 := eh44.size
  refine s_pure (.tuple #[.int .i64 ((arrivOf (⟨x0_towers, x0_links⟩ : NetP) x1 x2 x3).1), .bool ((arrivOf (⟨x0_towers, x0_links⟩ : NetP) x1 x2 x3).2)]) (fun _ q => q) ?_
  refine s_pure (.int .i64 ((arrivOf (⟨x0_towers, x0_links⟩ : NetP) x1 x2 x3).1)) (fun _ q => q) ?_
  refine s_pure (.bool ((arrivOf (⟨x0_towers, x0_links⟩ : NetP) x1 x2 x3).2)) (fun _ q => q) ?_
  refine s_pure (.int .i64 ((arrivOf (⟨x0_towers, x0_links⟩ : NetP) x1 x2 x3).1)) (fun _ q => q) ?_
  refine s_pure (.bool ((arrivOf (⟨x0_towers, x0_links⟩ : NetP) x1 x2 x3).2)) (fun _ q => q) ?_
  refine s_nil ?_
  refine p_seqN ?_
  refine v_seq ?_
  refine v_ops ?_
  have f47 := ((((f23.ext eh26).ext eh32).ext eh37).ext eh44)
  refine s_load (.agg #[y0_towers.v, y0_links.v]) (fun _ q => f47.loadA rfl q) ?_
  have f48 := ((((f24.ext eh26).ext eh32).ext eh37).ext eh44)
  have f49 := ((((f25.ext eh26).ext eh32).ext eh37).ext eh44)
  refine s_call [.agg #[y0_towers.v, y0_links.v]] rfl (toNet_ok y0_towers.v x0_towers y0_links.v x0_links _ f48 f49 bd14 bd15) ?_
  rintro _ h50 ⟨r51, r52, rfl, s_r51, s_r52, eh50, fr_r51, fr_r52, ap_r51⟩
  have E53 := E45.trans eh50
  have z54 := eh50.size
  have lt_r51 := s_r51.lt
  have lt_r52 := s_r52.lt
  refine s_new (fun h56 b55 hbb55 hzb55 eh56 bxb55 => ?_)
  have E57 := E53.trans eh56
  have z58 := eh56.size
  have lbb55 := bxb55.lt
  refine s_stBx (.agg #[r51, r52]) [r51, r52] [r51, r52] bxb55 rfl rfl rfl rfl (by simp) (all_cons s_r51.one1 (all_cons s_r52.one1 all_nil)) rfl (fun h59 mh59 sh59 bxx60 => ?_)
  have E61 := E57.mod mh59 (fun b hb => by simp at hb; omega)
  refine s_nil ?_
  refine p_seqN ?_
  refine v_seq ?_
  refine v_ops ?_
  refine s_pure v1 (fun _ q => q) ?_
  have f62 := ((((((f31.ext eh32).ext eh37).ext eh44).ext eh50).ext eh56).mod mh59 (fun b hb hc => by simp at hc; have := lt_v1 b hb; omega))
  refine s_call [v1] rfl (toFogS_ok v1 x1 _ f62 bd22) ?_
  rintro r64 h63 ⟨_, rfl, s_r64, fr_r64, eh63⟩
  have E65 := E61.trans eh63
  have z66 := eh63.size
  have lt_r64 := s_r64.lt
  refine s_pure r64 (fun _ q => q) ?_
  refine s_nil ?_
  refine p_seqN ?_
  refine v_seq ?_
  refine v_ops ?_
  refine s_pure v2 (fun _ q => q) ?_
  have f67 := ((((((f36.ext eh37).ext eh44).ext eh50).ext eh56).mod mh59 (fun b hb hc => by simp at hc; have := lt_v2 b hb; omega)).ext eh63)
  refine s_call [v2] rfl (toIntS_ok v2 x2 _ f67 bd6) ?_
  rintro r69 h68 ⟨s_r69, eh68, fr_r69⟩
  have E70 := E65.trans eh68
  have z71 := eh68.size
  have lt_r69 := s_r69.lt
  refine s_pure r69 (fun _ q => q) ?_
  refine s_nil ?_
  refine p_seqN ?_
  refine v_seq ?_
  refine v_ops ?_
  have f72 := ((bxx60.ext eh63).ext eh68)
  refine s_load (.agg #[r51, r52]) (fun _ q => f72.loadA rfl q) ?_
  refine s_pure r64 (fun _ q => q) ?_
  refine s_pure r69 (fun _ q => q) ?_
  refine s_pure (.int .i64 x3) (fun _ q => q) ?_
  have f73 := ((((s_r51.ext eh56).mod mh59 (fun b hb hc => by simp at hc; have := lt_r51 b hb; omega)).ext eh63).ext eh68)
  have f74 := ((((s_r52.ext eh56).mod mh59 (fun b hb hc => by simp at hc; have := lt_r52 b hb; omega)).ext eh63).ext eh68)
  have f75 := (s_r64.ext eh68)
  refine s_call [.agg #[r51, r52], r64, r69, .int .i64 x3] rfl (impl_ArrivalAlong_ok (⟨x0_towers, x0_links⟩ : NetP) r51 r52 r64 x1 r69 x2 x3 _ f73.toSl f74.toSl f75.toSl s_r69.toSl) ?_
  rintro _ h76 ⟨rfl, eh76⟩
  have E77 := E70.trans eh76
  have z78 := eh76.size
  refine s_pure (.tuple #[.int .i64 ((arrivOf (⟨x0_towers, x0_links⟩ : NetP) x1 x2 x3).1), .bool ((arrivOf (⟨x0_towers, x0_links⟩ : NetP) x1 x2 x3).2)]) (fun _ q => q) ?_
  refine s_pure (.int .i64 ((arrivOf (⟨x0_towers, x0_links⟩ : NetP) x1 x2 x3).1)) (fun _ q => q) ?_
  refine s_pure (.bool ((arrivOf (⟨x0_towers, x0_links⟩ : NetP) x1 x2 x3).2)) (fun _ q => q) ?_
  refine s_pure (.int .i64 ((arrivOf (⟨x0_towers, x0_links⟩ : NetP) x1 x2 x3).1)) (fun _ q => q) ?_
  refine s_pure (.bool ((arrivOf (⟨x0_towers, x0_links⟩ : NetP) x1 x2 x3).2)) (fun _ q => q) ?_
  refine s_nil ?_
  refine p_seqN ?_
  refine v_seq ?_
  refine v_seq ?_
  refine v_ops ?_
  refine s_pure (.int .i64 ((arrivOf (⟨x0_towers, x0_links⟩ : NetP) x1 x2 x3).1)) (fun _ q => q) ?_
  refine s_pure (.int .i64 ((arrivOf (⟨x0_towers, x0_links⟩ : NetP) x1 x2 x3).1)) (fun _ q => q) ?_
  refine s_pure (.bool ((arrivOf (⟨x0_towers, x0_links⟩ : NetP) x1 x2 x3).1 != (arrivOf (⟨x0_towers, x0_links⟩ : NetP) x1 x2 x3).1)) (fun _ q => q) ?_
  refine s_pure (.bool ((arrivOf (⟨x0_towers, x0_links⟩ : NetP) x1 x2 x3).1 != (arrivOf (⟨x0_towers, x0_links⟩ : NetP) x1 x2 x3).1)) (fun _ q => q) ?_
  refine s_splitN rfl (by first | assumption | omega | (simp; done) | (simp; omega) | simp_all) ?_
  refine s_run rfl ?_
  refine s_pure (.bool ((arrivOf (⟨x0_towers, x0_links⟩ : NetP) x1 x2 x3).2)) (fun _ q => q) ?_
  refine s_run rfl ?_
  refine s_pure (.bool ((arrivOf (⟨x0_towers, x0_links⟩ : NetP) x1 x2 x3).2)) (fun _ q => q) ?_
  refine s_run rfl ?_
  refine s_pure (.bool ((arrivOf (⟨x0_towers, x0_links⟩ : NetP) x1 x2 x3).2 != (arrivOf (⟨x0_towers, x0_links⟩ : NetP) x1 x2 x3).2)) (fun _ q => q) ?_
  refine s_pure (.bool ((arrivOf (⟨x0_towers, x0_links⟩ : NetP) x1 x2 x3).2 != (arrivOf (⟨x0_towers, x0_links⟩ : NetP) x1 x2 x3).2)) (fun _ q => q) ?_
  refine s_nil ?_
  refine p_seqN ?_
  refine v_condN rfl (by first | assumption | omega | (simp; done) | (simp; omega) | simp_all) ?_
  refine v_skip ?_
  refine p_seqN ?_
  refine v_seq ?_
  refine v_seq ?_
  have f79 := (f72.ext eh76)
  refine v_draw (DrawVC.hold ([b55]) ?_)
  refine d_loadT (.agg #[r51, r52]) (fun _ q => f79.takeA (by simp) rfl q) ?_
  have f80 := ((((((f47.ext eh50).ext eh56).mod mh59 (by simp; omega)).ext eh63).ext eh68).ext eh76)
  refine d_loadO (.agg #[y0_towers.v, y0_links.v]) (fun _ q => f80.loadA rfl q) ?_
  refine d_eff ?_
  have f81 := ((((((f48.ext eh50).ext eh56).mod mh59 (fun b hb hc => by simp at hc; have := lt_v0_towers b hb; omega)).ext eh63).ext eh68).ext eh76)
  have f82 := ((((((f49.ext eh50).ext eh56).mod mh59 (fun b hb hc => by simp at hc; have := lt_v0_links b hb; omega)).ext eh63).ext eh68).ext eh76)
  refine s_call [.agg #[y0_towers.v, y0_links.v]] rfl (toNet_ok y0_towers.v x0_towers y0_links.v x0_links _ f81 f82 bd14 bd15) ?_
  rintro _ h83 ⟨r84, r85, rfl, s_r84, s_r85, eh83, fr_r84, fr_r85, ap_r84⟩
  have E86 := E77.trans eh83
  have z87 := eh83.size
  have G88 := eh83
  have lt_r84 := s_r84.lt
  have lt_r85 := s_r85.lt
  refine s_nil ⟨fun _ x hx => G88.blk x (by simp at hx; omega), ?_⟩
  refine d_eff ?_
  have f89 := ((f73.ext eh76).ext eh83)
  have f90 := ((f74.ext eh76).ext eh83)
  refine s_call [.agg #[r51, r52], .agg #[r84, r85]] rfl (eqNet_ok r51 x0_towers r52 x0_links r84 x0_towers r85 x0_links _ f89.toSl f90.toSl s_r84.toSl s_r85.toSl) ?_
  rintro _ h91 ⟨rfl, eh91⟩
  have E92 := E86.trans eh91
  have z93 := eh91.size
  have G94 := G88.trans eh91
  refine s_nil ⟨fun _ x hx => G94.blk x (by simp at hx; omega), ?_⟩
  refine d_pureT (.bool (!(decide (x0_towers = x0_towers ∧ x0_links = x0_links)))) (fun _ q => q) ?_
  refine d_done ?_
  refine p_seqN ?_
  refine v_condN rfl (by first | assumption | omega | (simp; done) | (simp; omega) | simp_all) ?_
  refine v_skip ?_
  refine p_seqN ?_
  refine v_seq ?_
  refine v_seq ?_
  refine v_ops ?_
  refine s_pure r64 (fun _ q => q) ?_
  refine s_pure v1 (fun _ q => q) ?_
  have f95 := (((((f62.ext eh63).ext eh68).ext eh76).ext eh83).ext eh91)
  refine s_call [v1] rfl (toFogS_ok v1 x1 _ f95 bd22) ?_
  rintro r97 h96 ⟨_, rfl, s_r97, fr_r97, eh96⟩
  have E98 := E92.trans eh96
  have z99 := eh96.size
  have lt_r97 := s_r97.lt
  have f100 := ((((f75.ext eh76).ext eh83).ext eh91).ext eh96)
  refine s_call [r64, r97] rfl (eqFogS_ok r64 x1 r97 x1 _ f100.toSl s_r97.toSl) ?_
  rintro _ h101 ⟨rfl, eh101⟩
  have E102 := E98.trans eh101
  have z103 := eh101.size
  refine s_pure (.bool (!(decide (x1 = x1)))) (fun _ q => q) ?_
  refine s_nil ?_
  refine p_seqN ?_
  refine v_condN rfl (by first | assumption | omega | (simp; done) | (simp; omega) | simp_all) ?_
  refine v_skip ?_
  refine p_seqN ?_
  refine v_seq ?_
  refine v_seq ?_
  refine v_ops ?_
  refine s_pure r69 (fun _ q => q) ?_
  refine s_pure v2 (fun _ q => q) ?_
  have f104 := ((((((f67.ext eh68).ext eh76).ext eh83).ext eh91).ext eh96).ext eh101)
  refine s_call [v2] rfl (toIntS_ok v2 x2 _ f104 bd6) ?_
  rintro r106 h105 ⟨s_r106, eh105, fr_r106⟩
  have E107 := E102.trans eh105
  have z108 := eh105.size
  have lt_r106 := s_r106.lt
  have f109 := ((((((s_r69.ext eh76).ext eh83).ext eh91).ext eh96).ext eh101).ext eh105)
  refine s_call [r69, r106] rfl (eqIntS_ok r69 r106 x2 x2 _ f109.toSl s_r106.toSl) ?_
  rintro _ h110 ⟨rfl, hqh110⟩
  have eh110 := Ext.ofEq hqh110
  clear hqh110
  have E111 := E107.trans eh110
  have z112 := eh110.size
  refine s_pure (.bool (!(decide (x2 = x2)))) (fun _ q => q) ?_
  refine s_nil ?_
  refine p_seqN ?_
  refine v_condN rfl (by first | assumption | omega | (simp; done) | (simp; omega) | simp_all) ?_
  refine v_skip ?_
  refine p_seqN ?_
  refine v_seq ?_
  refine v_ops ?_
  refine s_pure (.bool true) (fun _ q => q) ?_
  refine s_nil ?_
  refine p_seqN ?_
  refine v_ret ?_
  refine p_ret [.bool true] (.bool true) (fun _ q => q) rfl ?_
  exact ⟨rfl, E111⟩
end Go.Proofs.Ythagdkmalchhgaa.finFnExactArrivalAlong
