/- The law FnExactLinksThatMatter: its text returns true. Condition: none. Printed by a program. -/
import Derived.Test.YthagdkmalchhgaaRo9
import Derived.Test.YthagdkmalchhgaaTypes
namespace Go.Proofs.Ythagdkmalchhgaa.finFnExactLinksThatMatter
open Go.Vc
set_option linter.all false
set_option maxRecDepth 100000 in
set_option maxHeartbeats 2000000 in
theorem law_ok (h : Heap) (x0 : NetD) (w0 : NetD.good h x0) (x1 : Int) (b_x1 : I64 x1) (x2 : Int) (b_x2 : I64 x2) : Cn f_laws_FnExactLinksThatMatter [x0.val, .int .i64 x1, .int .i64 x2] h fun v h' => v = .bool true ∧ Ext h h' := by
  obtain ⟨y0_towers, y0_links⟩ := x0
  obtain ⟨⟨x0_towers, s_v0_towers, _⟩, ⟨x0_links, s_v0_links, _⟩⟩ := w0
  change Sl h y0_towers.v x0_towers at s_v0_towers
  have lt_v0_towers := s_v0_towers.lt
  change Sl h y0_links.v x0_links at s_v0_links
  have lt_v0_links := s_v0_links.lt
  unfold I64 at b_x1
  unfold I64 at b_x2
  have lens := wo_len2 ⟨x0_towers, x0_links⟩ x1 x2
  refine calls_of r_laws_FnExactLinksThatMatter ?_
  refine v_seq ?_
  refine v_ops ?_
  refine s_box [y0_towers.v, y0_links.v] rfl (fun h2 b1 hbb1 hzb1 eh2 bxb1 => ?_)
  have E3 := (Ext.refl h).trans eh2
  have z4 := eh2.size
  have lbb1 := bxb1.lt
  refine s_pure (.bool false) (fun _ q => q) ?_
  refine s_nil ?_
  refine p_seqN ?_
  refine v_seq ?_
  refine v_ops ?_
  refine s_pure (.int .i64 1048576) (fun _ q => q) ?_
  refine s_nil ?_
  refine p_seqN ?_
  refine v_seq ?_
  refine v_ops ?_
  refine s_load (.agg #[y0_towers.v, y0_links.v]) (fun _ q => bxb1.loadA rfl q) ?_
  refine s_pure (.int .i64 1048576) (fun _ q => q) ?_
  have f5 := (s_v0_towers.ext eh2)
  have f6 := (s_v0_links.ext eh2)
  refine s_call [.agg #[y0_towers.v, y0_links.v], .int .i64 1048576] rfl (szNet_ok y0_towers.v x0_towers y0_links.v x0_links 1048576 _ f5 f6 (by omega) (by omega)) ?_
  rintro _ h7 ⟨n8, rfl, eh7, hmn8, hkn8⟩
  have E9 := E3.trans eh7
  have z10 := eh7.size
  refine s_pure (.int .i64 n8) (fun _ q => q) ?_
  refine s_nil ?_
  refine p_seqN ?_
  refine v_seq ?_
  refine v_seq ?_
  refine v_ops ?_
  refine s_pure (.int .i64 n8) (fun _ q => q) ?_
  refine s_pure (.bool (decide (n8 < 0))) (fun _ q => q) ?_
  refine s_nil ?_
  refine p_seqN ?_
  refine v_cond rfl (fun c11 => ?_) (fun c11 => ?_)
  ·
    refine v_seq ?_
    refine v_ops ?_
    refine s_pure (.bool true) (fun _ q => q) ?_
    refine s_nil ?_
    refine p_seqN ?_
    refine v_ret ?_
    refine p_seqR ?_
    refine p_ret [.bool true] (.bool true) (fun _ q => q) rfl ?_
    exact ⟨rfl, E9⟩
  obtain ⟨hmn8, hkn8⟩ := And.intro (hmn8 (by omega)) hkn8
  have bd12 : x0_towers.length ≤ 1048576 := by omega
  have bd13 : x0_links.length ≤ 1048576 := by omega
  refine v_skip ?_
  refine p_seqN ?_
  refine v_seq ?_
  refine v_ops ?_
  have f14 := (bxb1.ext eh7)
  refine s_load (.agg #[y0_towers.v, y0_links.v]) (fun _ q => f14.loadA rfl q) ?_
  have f15 := (f5.ext eh7)
  have f16 := (f6.ext eh7)
  refine s_call [.agg #[y0_towers.v, y0_links.v]] rfl (toNet_ok y0_towers.v x0_towers y0_links.v x0_links _ f15 f16 bd12 bd13) ?_
  rintro _ h17 ⟨r18, r19, rfl, s_r18, s_r19, eh17, fr_r18, fr_r19, ap_r18⟩
  have E20 := E9.trans eh17
  have z21 := eh17.size
  have lt_r18 := s_r18.lt
  have lt_r19 := s_r19.lt
  refine s_pure (.int .i64 x1) (fun _ q => q) ?_
  refine s_pure (.int .i64 x2) (fun _ q => q) ?_
  refine s_call [.agg #[r18, r19], .int .i64 x1, .int .i64 x2] rfl (spec_LinksThatMatter_ok (⟨x0_towers, x0_links⟩ : NetP) r18 r19 x1 x2 _ s_r18.toSl s_r19.toSl) ?_
  rintro _ h23 ⟨r22, rfl, s_r22, fr_r22, eh23⟩
  have E24 := E20.trans eh23
  have z25 := eh23.size
  have lt_r22 := s_r22.lt
  refine s_pure (.tuple #[r22, .bool ((matterOf (⟨x0_towers, x0_links⟩ : NetP) x1 x2).2)]) (fun _ q => q) ?_
  refine s_pure r22 (fun _ q => q) ?_
  refine s_pure (.bool ((matterOf (⟨x0_towers, x0_links⟩ : NetP) x1 x2).2)) (fun _ q => q) ?_
  refine s_pure r22 (fun _ q => q) ?_
  refine s_pure (.bool ((matterOf (⟨x0_towers, x0_links⟩ : NetP) x1 x2).2)) (fun _ q => q) ?_
  refine s_nil ?_
  refine p_seqN ?_
  refine v_seq ?_
  refine v_ops ?_
  have f26 := ((f14.ext eh17).ext eh23)
  refine s_load (.agg #[y0_towers.v, y0_links.v]) (fun _ q => f26.loadA rfl q) ?_
  have f27 := ((f15.ext eh17).ext eh23)
  have f28 := ((f16.ext eh17).ext eh23)
  refine s_call [.agg #[y0_towers.v, y0_links.v]] rfl (toNet_ok y0_towers.v x0_towers y0_links.v x0_links _ f27 f28 bd12 bd13) ?_
  rintro _ h29 ⟨r30, r31, rfl, s_r30, s_r31, eh29, fr_r30, fr_r31, ap_r30⟩
  have E32 := E24.trans eh29
  have z33 := eh29.size
  have lt_r30 := s_r30.lt
  have lt_r31 := s_r31.lt
  refine s_new (fun h35 b34 hbb34 hzb34 eh35 bxb34 => ?_)
  have E36 := E32.trans eh35
  have z37 := eh35.size
  have lbb34 := bxb34.lt
  refine s_stBx (.agg #[r30, r31]) [r30, r31] [r30, r31] bxb34 rfl rfl rfl rfl (by simp) (all_cons s_r30.one1 (all_cons s_r31.one1 all_nil)) rfl (fun h38 mh38 sh38 bxx39 => ?_)
  have E40 := E36.mod mh38 (fun b hb => by simp at hb; omega)
  refine s_nil ?_
  refine p_seqN ?_
  refine v_seq ?_
  refine v_ops ?_
  refine s_load (.agg #[r30, r31]) (fun _ q => bxx39.loadA rfl q) ?_
  refine s_pure (.int .i64 x1) (fun _ q => q) ?_
  refine s_pure (.int .i64 x2) (fun _ q => q) ?_
  have f41 := ((s_r30.ext eh35).mod mh38 (fun b hb hc => by simp at hc; have := lt_r30 b hb; omega))
  have f42 := ((s_r31.ext eh35).mod mh38 (fun b hb hc => by simp at hc; have := lt_r31 b hb; omega))
  refine s_call [.agg #[r30, r31], .int .i64 x1, .int .i64 x2] rfl (impl_LinksThatMatter_ok (⟨x0_towers, x0_links⟩ : NetP) r30 r31 x1 x2 _ f41.toSl f42.toSl) ?_
  rintro _ h44 ⟨r43, rfl, s_r43, fr_r43, eh44⟩
  have E45 := E40.trans eh44
  have z46 := eh44.size
  have lt_r43 := s_r43.lt
  refine s_pure (.tuple #[r43, .bool ((matterOf (⟨x0_towers, x0_links⟩ : NetP) x1 x2).2)]) (fun _ q => q) ?_
  refine s_pure r43 (fun _ q => q) ?_
  refine s_pure (.bool ((matterOf (⟨x0_towers, x0_links⟩ : NetP) x1 x2).2)) (fun _ q => q) ?_
  refine s_pure r43 (fun _ q => q) ?_
  refine s_pure (.bool ((matterOf (⟨x0_towers, x0_links⟩ : NetP) x1 x2).2)) (fun _ q => q) ?_
  refine s_nil ?_
  refine p_seqN ?_
  refine v_seq ?_
  refine v_seq ?_
  refine v_ops ?_
  refine s_pure r43 (fun _ q => q) ?_
  refine s_pure r22 (fun _ q => q) ?_
  have f47 := ((((s_r22.ext eh29).ext eh35).mod mh38 (fun b hb hc => by simp at hc; have := lt_r22 b hb; omega)).ext eh44)
  refine s_call [r43, r22] rfl (eqIntS_ok r43 r22 ((matterOf (⟨x0_towers, x0_links⟩ : NetP) x1 x2).1) ((matterOf (⟨x0_towers, x0_links⟩ : NetP) x1 x2).1) _ s_r43.toSl f47.toSl) ?_
  rintro _ h48 ⟨rfl, hqh48⟩
  have eh48 := Ext.ofEq hqh48
  clear hqh48
  have E49 := E45.trans eh48
  have z50 := eh48.size
  refine s_pure (.bool (!(decide ((matterOf (⟨x0_towers, x0_links⟩ : NetP) x1 x2).1 = (matterOf (⟨x0_towers, x0_links⟩ : NetP) x1 x2).1)))) (fun _ q => q) ?_
  refine s_pure (.bool (!(decide ((matterOf (⟨x0_towers, x0_links⟩ : NetP) x1 x2).1 = (matterOf (⟨x0_towers, x0_links⟩ : NetP) x1 x2).1)))) (fun _ q => q) ?_
  refine s_splitN rfl (by first | assumption | omega | (simp; done) | (simp; omega) | simp_all) ?_
  refine s_run rfl ?_
  refine s_pure (.bool ((matterOf (⟨x0_towers, x0_links⟩ : NetP) x1 x2).2)) (fun _ q => q) ?_
  refine s_run rfl ?_
  refine s_pure (.bool ((matterOf (⟨x0_towers, x0_links⟩ : NetP) x1 x2).2)) (fun _ q => q) ?_
  refine s_run rfl ?_
  refine s_pure (.bool ((matterOf (⟨x0_towers, x0_links⟩ : NetP) x1 x2).2 != (matterOf (⟨x0_towers, x0_links⟩ : NetP) x1 x2).2)) (fun _ q => q) ?_
  refine s_pure (.bool ((matterOf (⟨x0_towers, x0_links⟩ : NetP) x1 x2).2 != (matterOf (⟨x0_towers, x0_links⟩ : NetP) x1 x2).2)) (fun _ q => q) ?_
  refine s_nil ?_
  refine p_seqN ?_
  refine v_condN rfl (by first | assumption | omega | (simp; done) | (simp; omega) | simp_all) ?_
  refine v_skip ?_
  refine p_seqN ?_
  refine v_seq ?_
  refine v_seq ?_
  have f51 := ((bxx39.ext eh44).ext eh48)
  refine v_draw (DrawVC.hold ([b34]) ?_)
  refine d_loadT (.agg #[r30, r31]) (fun _ q => f51.takeA (by simp) rfl q) ?_
  have f52 := (((((f26.ext eh29).ext eh35).mod mh38 (by simp; omega)).ext eh44).ext eh48)
  refine d_loadO (.agg #[y0_towers.v, y0_links.v]) (fun _ q => f52.loadA rfl q) ?_
  refine d_eff ?_
  have f53 := (((((f27.ext eh29).ext eh35).mod mh38 (fun b hb hc => by simp at hc; have := lt_v0_towers b hb; omega)).ext eh44).ext eh48)
  have f54 := (((((f28.ext eh29).ext eh35).mod mh38 (fun b hb hc => by simp at hc; have := lt_v0_links b hb; omega)).ext eh44).ext eh48)
  refine s_call [.agg #[y0_towers.v, y0_links.v]] rfl (toNet_ok y0_towers.v x0_towers y0_links.v x0_links _ f53 f54 bd12 bd13) ?_
  rintro _ h55 ⟨r56, r57, rfl, s_r56, s_r57, eh55, fr_r56, fr_r57, ap_r56⟩
  have E58 := E49.trans eh55
  have z59 := eh55.size
  have G60 := eh55
  have lt_r56 := s_r56.lt
  have lt_r57 := s_r57.lt
  refine s_nil ⟨fun _ x hx => G60.blk x (by simp at hx; omega), ?_⟩
  refine d_eff ?_
  have f61 := (((f41.ext eh44).ext eh48).ext eh55)
  have f62 := (((f42.ext eh44).ext eh48).ext eh55)
  refine s_call [.agg #[r30, r31], .agg #[r56, r57]] rfl (eqNet_ok r30 x0_towers r31 x0_links r56 x0_towers r57 x0_links _ f61.toSl f62.toSl s_r56.toSl s_r57.toSl) ?_
  rintro _ h63 ⟨rfl, eh63⟩
  have E64 := E58.trans eh63
  have z65 := eh63.size
  have G66 := G60.trans eh63
  refine s_nil ⟨fun _ x hx => G66.blk x (by simp at hx; omega), ?_⟩
  refine d_pureT (.bool (!(decide (x0_towers = x0_towers ∧ x0_links = x0_links)))) (fun _ q => q) ?_
  refine d_done ?_
  refine p_seqN ?_
  refine v_condN rfl (by first | assumption | omega | (simp; done) | (simp; omega) | simp_all) ?_
  refine v_skip ?_
  refine p_seqN ?_
  refine v_seq ?_
  refine v_ops ?_
  refine s_pure (.int .i64 1) (fun _ q => q) ?_
  refine s_nil ?_
  refine p_seqN ?_
  refine v_seq ?_
  refine v_ops ?_
  have f67 := ((f51.ext eh55).ext eh63)
  refine s_load (.agg #[r30, r31]) (fun _ q => f67.loadA rfl q) ?_
  refine s_pure (.int .i64 1) (fun _ q => q) ?_
  have f68 := (f61.ext eh63)
  have f69 := (f62.ext eh63)
  refine s_call [.agg #[r30, r31], .int .i64 1] rfl (markNet_ok r30 x0_towers r31 x0_links (1) _ f68 f69 ap_r30 (by omega) (by omega) (by omega) (by omega)) ?_
  rintro _ h70 ⟨rfl, mk71, mk72, mh70, zh70⟩
  have E73 := E64.mod mh70 (all_app (fun b hb => by have := fr_r30 b hb; omega) (fun b hb => by have := fr_r31 b hb; omega))
  refine s_pure (.int .i64 (1 + 3 * (x0_towers.length : Int) + 3 * (x0_links.length : Int))) (fun _ q => q) ?_
  refine s_nil ?_
  refine p_seqN ?_
  refine v_seq ?_
  refine v_seq ?_
  refine v_ops ?_
  refine s_pure (.int .i64 (1 + 3 * (x0_towers.length : Int) + 3 * (x0_links.length : Int))) (fun _ q => q) ?_
  refine s_pure (.bool (decide ((1 + 3 * (x0_towers.length : Int) + 3 * (x0_links.length : Int)) < 0))) (fun _ q => q) ?_
  refine s_pure (.bool (decide ((1 + 3 * (x0_towers.length : Int) + 3 * (x0_links.length : Int)) < 0))) (fun _ q => q) ?_
  refine s_splitN rfl (by first | assumption | omega | (simp; done) | (simp; omega) | simp_all) ?_
  refine s_run rfl ?_
  refine s_pure r43 (fun _ q => q) ?_
  refine s_run rfl ?_
  refine s_pure r22 (fun _ q => q) ?_
  refine s_run rfl ?_
  have f74 := ((((s_r43.ext eh48).ext eh55).ext eh63).mod mh70 (fun b hb => not_app (((fun b hb hc => by have := fr_r43 b hb; have := lt_r30 b hc; omega) : ∀ b ∈ blks r43, b ∉ blks r30) b hb) (((fun b hb hc => by have := fr_r43 b hb; have := lt_r31 b hc; omega) : ∀ b ∈ blks r43, b ∉ blks r31) b hb)))
  have f75 := ((((f47.ext eh48).ext eh55).ext eh63).mod mh70 (fun b hb => not_app (((fun b hb hc => by have := lt_r22 b hb; have := fr_r30 b hc; omega) : ∀ b ∈ blks r22, b ∉ blks r30) b hb) (((fun b hb hc => by have := lt_r22 b hb; have := fr_r31 b hc; omega) : ∀ b ∈ blks r22, b ∉ blks r31) b hb)))
  refine s_call [r43, r22] rfl (eqIntS_ok r43 r22 ((matterOf (⟨x0_towers, x0_links⟩ : NetP) x1 x2).1) ((matterOf (⟨x0_towers, x0_links⟩ : NetP) x1 x2).1) _ f74.toSl f75.toSl) ?_
  rintro _ h76 ⟨rfl, hqh76⟩
  have eh76 := Ext.ofEq hqh76
  clear hqh76
  have E77 := E73.trans eh76
  have z78 := eh76.size
  refine s_run rfl ?_
  refine s_pure (.bool (!(decide ((matterOf (⟨x0_towers, x0_links⟩ : NetP) x1 x2).1 = (matterOf (⟨x0_towers, x0_links⟩ : NetP) x1 x2).1)))) (fun _ q => q) ?_
  refine s_pure (.bool (!(decide ((matterOf (⟨x0_towers, x0_links⟩ : NetP) x1 x2).1 = (matterOf (⟨x0_towers, x0_links⟩ : NetP) x1 x2).1)))) (fun _ q => q) ?_
  refine s_pure (.bool (!(decide ((matterOf (⟨x0_towers, x0_links⟩ : NetP) x1 x2).1 = (matterOf (⟨x0_towers, x0_links⟩ : NetP) x1 x2).1)))) (fun _ q => q) ?_
  refine s_splitN rfl (by first | assumption | omega | (simp; done) | (simp; omega) | simp_all) ?_
  refine s_run rfl ?_
  refine s_pure (.bool ((matterOf (⟨x0_towers, x0_links⟩ : NetP) x1 x2).2)) (fun _ q => q) ?_
  refine s_run rfl ?_
  refine s_pure (.bool ((matterOf (⟨x0_towers, x0_links⟩ : NetP) x1 x2).2)) (fun _ q => q) ?_
  refine s_run rfl ?_
  refine s_pure (.bool ((matterOf (⟨x0_towers, x0_links⟩ : NetP) x1 x2).2 != (matterOf (⟨x0_towers, x0_links⟩ : NetP) x1 x2).2)) (fun _ q => q) ?_
  refine s_pure (.bool ((matterOf (⟨x0_towers, x0_links⟩ : NetP) x1 x2).2 != (matterOf (⟨x0_towers, x0_links⟩ : NetP) x1 x2).2)) (fun _ q => q) ?_
  refine s_nil ?_
  refine p_seqN ?_
  refine v_condN rfl (by first | assumption | omega | (simp; done) | (simp; omega) | simp_all) ?_
  refine v_skip ?_
  refine p_seqN ?_
  refine v_seq ?_
  refine v_ops ?_
  refine s_pure (.int .i64 1) (fun _ q => q) ?_
  refine s_nil ?_
  refine p_seqN ?_
  refine v_seq ?_
  refine v_ops ?_
  refine s_pure r43 (fun _ q => q) ?_
  refine s_pure (.int .i64 1) (fun _ q => q) ?_
  have f79 := (f74.ext eh76)
  refine s_call [r43, .int .i64 1] rfl (markIntS_ok r43 ((matterOf (⟨x0_towers, x0_links⟩ : NetP) x1 x2).1) (1) _ f79 (by omega) (by omega) (by omega)) ?_
  rintro _ h80 ⟨rfl, mk81, mh80, zh80⟩
  have E82 := E77.mod mh80 (fun b hb => by have := fr_r43 b hb; omega)
  refine s_pure (.int .i64 (1 + ((matterOf (⟨x0_towers, x0_links⟩ : NetP) x1 x2).1.length : Int))) (fun _ q => q) ?_
  refine s_nil ?_
  refine p_seqN ?_
  refine v_seq ?_
  refine v_ops ?_
  refine s_pure (.int .i64 1) (fun _ q => q) ?_
  refine s_nil ?_
  refine p_seqN ?_
  refine v_seq ?_
  refine v_ops ?_
  refine s_pure r43 (fun _ q => q) ?_
  refine s_pure (.int .i64 1) (fun _ q => q) ?_
  refine s_call [r43, .int .i64 1] rfl (heldIntS_ok _ _ (1) _ mk81.toSl (by omega) (by omega) (by omega)) ?_
  rintro _ h83 ⟨rfl, hqh83⟩
  have eh83 := Ext.ofEq hqh83
  clear hqh83
  have E84 := E82.trans eh83
  have z85 := eh83.size
  refine s_pure (.int .i64 (1 + ((matterOf (⟨x0_towers, x0_links⟩ : NetP) x1 x2).1.length : Int))) (fun _ q => q) ?_
  refine s_nil ?_
  refine p_seqN ?_
  refine v_seq ?_
  refine v_seq ?_
  refine v_ops ?_
  refine s_pure (.int .i64 (1 + ((matterOf (⟨x0_towers, x0_links⟩ : NetP) x1 x2).1.length : Int))) (fun _ q => q) ?_
  refine s_pure (.bool (decide ((1 + ((matterOf (⟨x0_towers, x0_links⟩ : NetP) x1 x2).1.length : Int)) < 0))) (fun _ q => q) ?_
  refine s_nil ?_
  refine p_seqN ?_
  refine v_condN rfl (by first | assumption | omega | (simp; done) | (simp; omega) | simp_all) ?_
  refine v_skip ?_
  refine p_seqN ?_
  refine v_seq ?_
  refine v_seq ?_
  refine v_ops ?_
  refine s_pure (.int .i64 (1 + ((matterOf (⟨x0_towers, x0_links⟩ : NetP) x1 x2).1.length : Int))) (fun _ q => q) ?_
  refine s_pure (.int .i64 (1 + ((matterOf (⟨x0_towers, x0_links⟩ : NetP) x1 x2).1.length : Int))) (fun _ q => q) ?_
  refine s_pure (.bool ((1 + ((matterOf (⟨x0_towers, x0_links⟩ : NetP) x1 x2).1.length : Int)) != (1 + ((matterOf (⟨x0_towers, x0_links⟩ : NetP) x1 x2).1.length : Int)))) (fun _ q => q) ?_
  refine s_nil ?_
  refine p_seqN ?_
  refine v_condN rfl (by first | assumption | omega | (simp; done) | (simp; omega) | simp_all) ?_
  refine v_skip ?_
  refine p_seqN ?_
  refine v_seq ?_
  refine v_ops ?_
  have f86 := ((((((f52.ext eh55).ext eh63).mod mh70 (not_app (fun hc => by have := fr_r30 _ hc; omega) (fun hc => by have := fr_r31 _ hc; omega))).ext eh76).mod mh80 (fun hc => by have := fr_r43 _ hc; omega)).ext eh83)
  refine s_load (.agg #[y0_towers.v, y0_links.v]) (fun _ q => f86.loadA rfl q) ?_
  have f87 := ((((((f53.ext eh55).ext eh63).mod mh70 (fun b hb => not_app (((fun b hb hc => by have := lt_v0_towers b hb; have := fr_r30 b hc; omega) : ∀ b ∈ blks y0_towers.v, b ∉ blks r30) b hb) (((fun b hb hc => by have := lt_v0_towers b hb; have := fr_r31 b hc; omega) : ∀ b ∈ blks y0_towers.v, b ∉ blks r31) b hb))).ext eh76).mod mh80 (fun b hb hc => by have := lt_v0_towers b hb; have := fr_r43 b hc; omega)).ext eh83)
  have f88 := ((((((f54.ext eh55).ext eh63).mod mh70 (fun b hb => not_app (((fun b hb hc => by have := lt_v0_links b hb; have := fr_r30 b hc; omega) : ∀ b ∈ blks y0_links.v, b ∉ blks r30) b hb) (((fun b hb hc => by have := lt_v0_links b hb; have := fr_r31 b hc; omega) : ∀ b ∈ blks y0_links.v, b ∉ blks r31) b hb))).ext eh76).mod mh80 (fun b hb hc => by have := lt_v0_links b hb; have := fr_r43 b hc; omega)).ext eh83)
  refine s_call [.agg #[y0_towers.v, y0_links.v]] rfl (toNet_ok y0_towers.v x0_towers y0_links.v x0_links _ f87 f88 bd12 bd13) ?_
  rintro _ h89 ⟨r90, r91, rfl, s_r90, s_r91, eh89, fr_r90, fr_r91, ap_r90⟩
  have E92 := E84.trans eh89
  have z93 := eh89.size
  have lt_r90 := s_r90.lt
  have lt_r91 := s_r91.lt
  refine s_pure (.int .i64 x1) (fun _ q => q) ?_
  refine s_pure (.int .i64 x2) (fun _ q => q) ?_
  refine s_call [.agg #[r90, r91], .int .i64 x1, .int .i64 x2] rfl (impl_LinksThatMatter_ok (⟨x0_towers, x0_links⟩ : NetP) r90 r91 x1 x2 _ s_r90.toSl s_r91.toSl) ?_
  rintro _ h95 ⟨r94, rfl, s_r94, fr_r94, eh95⟩
  have E96 := E92.trans eh95
  have z97 := eh95.size
  have lt_r94 := s_r94.lt
  refine s_pure (.tuple #[r94, .bool ((matterOf (⟨x0_towers, x0_links⟩ : NetP) x1 x2).2)]) (fun _ q => q) ?_
  refine s_pure r94 (fun _ q => q) ?_
  refine s_pure (.bool ((matterOf (⟨x0_towers, x0_links⟩ : NetP) x1 x2).2)) (fun _ q => q) ?_
  refine s_pure r94 (fun _ q => q) ?_
  refine s_pure (.bool ((matterOf (⟨x0_towers, x0_links⟩ : NetP) x1 x2).2)) (fun _ q => q) ?_
  refine s_nil ?_
  refine p_seqN ?_
  refine v_seq ?_
  refine v_seq ?_
  refine v_ops ?_
  refine s_pure r94 (fun _ q => q) ?_
  refine s_pure r22 (fun _ q => q) ?_
  have f98 := (((((f75.ext eh76).mod mh80 (fun b hb hc => by have := lt_r22 b hb; have := fr_r43 b hc; omega)).ext eh83).ext eh89).ext eh95)
  refine s_call [r94, r22] rfl (eqIntS_ok r94 r22 ((matterOf (⟨x0_towers, x0_links⟩ : NetP) x1 x2).1) ((matterOf (⟨x0_towers, x0_links⟩ : NetP) x1 x2).1) _ s_r94.toSl f98.toSl) ?_
  rintro _ h99 ⟨rfl, hqh99⟩
  have eh99 := Ext.ofEq hqh99
  clear hqh99
  have E100 := E96.trans eh99
  have z101 := eh99.size
  refine s_pure (.bool (!(decide ((matterOf (⟨x0_towers, x0_links⟩ : NetP) x1 x2).1 = (matterOf (⟨x0_towers, x0_links⟩ : NetP) x1 x2).1)))) (fun _ q => q) ?_
  refine s_pure (.bool (!(decide ((matterOf (⟨x0_towers, x0_links⟩ : NetP) x1 x2).1 = (matterOf (⟨x0_towers, x0_links⟩ : NetP) x1 x2).1)))) (fun _ q => q) ?_
  refine s_splitN rfl (by first | assumption | omega | (simp; done) | (simp; omega) | simp_all) ?_
  refine s_run rfl ?_
  refine s_pure (.bool ((matterOf (⟨x0_towers, x0_links⟩ : NetP) x1 x2).2)) (fun _ q => q) ?_
  refine s_run rfl ?_
  refine s_pure (.bool ((matterOf (⟨x0_towers, x0_links⟩ : NetP) x1 x2).2)) (fun _ q => q) ?_
  refine s_run rfl ?_
  refine s_pure (.bool ((matterOf (⟨x0_towers, x0_links⟩ : NetP) x1 x2).2 != (matterOf (⟨x0_towers, x0_links⟩ : NetP) x1 x2).2)) (fun _ q => q) ?_
  refine s_pure (.bool ((matterOf (⟨x0_towers, x0_links⟩ : NetP) x1 x2).2 != (matterOf (⟨x0_towers, x0_links⟩ : NetP) x1 x2).2)) (fun _ q => q) ?_
  refine s_nil ?_
  refine p_seqN ?_
  refine v_condN rfl (by first | assumption | omega | (simp; done) | (simp; omega) | simp_all) ?_
  refine v_skip ?_
  refine p_seqN ?_
  refine v_seq ?_
  refine v_ops ?_
  refine s_pure (.int .i64 1) (fun _ q => q) ?_
  refine s_nil ?_
  refine p_seqN ?_
  refine v_seq ?_
  refine v_ops ?_
  refine s_pure r43 (fun _ q => q) ?_
  refine s_pure (.int .i64 1) (fun _ q => q) ?_
  have f102 := ((((mk81.ext eh83).ext eh89).ext eh95).ext eh99)
  refine s_call [r43, .int .i64 1] rfl (heldIntS_ok _ _ (1) _ f102.toSl (by omega) (by omega) (by omega)) ?_
  rintro _ h103 ⟨rfl, hqh103⟩
  have eh103 := Ext.ofEq hqh103
  clear hqh103
  have E104 := E100.trans eh103
  have z105 := eh103.size
  refine s_pure (.int .i64 (1 + ((matterOf (⟨x0_towers, x0_links⟩ : NetP) x1 x2).1.length : Int))) (fun _ q => q) ?_
  refine s_nil ?_
  refine p_seqN ?_
  refine v_seq ?_
  refine v_seq ?_
  refine v_ops ?_
  refine s_pure (.int .i64 (1 + ((matterOf (⟨x0_towers, x0_links⟩ : NetP) x1 x2).1.length : Int))) (fun _ q => q) ?_
  refine s_pure (.bool (decide ((1 + ((matterOf (⟨x0_towers, x0_links⟩ : NetP) x1 x2).1.length : Int)) < 0))) (fun _ q => q) ?_
  refine s_nil ?_
  refine p_seqN ?_
  refine v_condN rfl (by first | assumption | omega | (simp; done) | (simp; omega) | simp_all) ?_
  refine v_skip ?_
  refine p_seqN ?_
  refine v_seq ?_
  refine v_seq ?_
  refine v_ops ?_
  refine s_pure (.int .i64 (1 + ((matterOf (⟨x0_towers, x0_links⟩ : NetP) x1 x2).1.length : Int))) (fun _ q => q) ?_
  refine s_pure (.int .i64 (1 + ((matterOf (⟨x0_towers, x0_links⟩ : NetP) x1 x2).1.length : Int))) (fun _ q => q) ?_
  refine s_pure (.bool ((1 + ((matterOf (⟨x0_towers, x0_links⟩ : NetP) x1 x2).1.length : Int)) != (1 + ((matterOf (⟨x0_towers, x0_links⟩ : NetP) x1 x2).1.length : Int)))) (fun _ q => q) ?_
  refine s_nil ?_
  refine p_seqN ?_
  refine v_condN rfl (by first | assumption | omega | (simp; done) | (simp; omega) | simp_all) ?_
  refine v_skip ?_
  refine p_seqN ?_
  refine v_seq ?_
  refine v_ops ?_
  refine s_pure (.bool true) (fun _ q => q) ?_
  refine s_nil ?_
  refine p_seqN ?_
  refine v_ret ?_
  refine p_ret [.bool true] (.bool true) (fun _ q => q) rfl ?_
  exact ⟨rfl, E104⟩
end Go.Proofs.Ythagdkmalchhgaa.finFnExactLinksThatMatter
