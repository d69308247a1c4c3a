/- The law FnExactDelayWithout: its text returns true. Condition: none. Printed by a program. -/
import Derived.Test.YthagdkmalchhgaaRo9
import Derived.Test.YthagdkmalchhgaaTypes
namespace Go.Proofs.Ythagdkmalchhgaa.finFnExactDelayWithout
open Go.Vc
set_option linter.all false
set_option maxRecDepth 100000 in
set_option maxHeartbeats 2000000 in
theorem law_ok (h : Heap) (x0 : NetD) (w0 : NetD.good h x0) (x1 : Int) (b_x1 : I64 x1) (x2 : Int) (b_x2 : I64 x2) (x3 : Int) (b_x3 : I64 x3) : Cn f_laws_FnExactDelayWithout [x0.val, .int .i64 x1, .int .i64 x2, .int .i64 x3] h fun v h' => v = .bool true ∧ Ext h h' := by
  obtain ⟨y0_towers, y0_links⟩ := x0
  obtain ⟨⟨x0_towers, s_v0_towers, _⟩, ⟨x0_links, s_v0_links, _⟩⟩ := w0
  change Sl h y0_towers.v x0_towers at s_v0_towers
  have lt_v0_towers := s_v0_towers.lt
  change Sl h y0_links.v x0_links at s_v0_links
  have lt_v0_links := s_v0_links.lt
  unfold I64 at b_x1
  unfold I64 at b_x2
  unfold I64 at b_x3
  refine calls_of r_laws_FnExactDelayWithout ?_
  refine v_seq ?_
  refine v_ops ?_
  refine s_box [y0_towers.v, y0_links.v] rfl (fun h2 b1 hbb1 hzb1 eh2 bxb1 => ?_)
  have E3 := (Ext.refl h).trans eh2
  have z4 := eh2.size
  have lbb1 := bxb1.lt
  refine s_pure (.bool false) (fun _ q => q) ?_
  refine s_nil ?_
  refine p_seqN ?_
  refine v_seq ?_
  refine v_ops ?_
  refine s_pure (.int .i64 1048576) (fun _ q => q) ?_
  refine s_nil ?_
  refine p_seqN ?_
  refine v_seq ?_
  refine v_ops ?_
  refine s_load (.agg #[y0_towers.v, y0_links.v]) (fun _ q => bxb1.loadA rfl q) ?_
  refine s_pure (.int .i64 1048576) (fun _ q => q) ?_
  have f5 := (s_v0_towers.ext eh2)
  have f6 := (s_v0_links.ext eh2)
  refine s_call [.agg #[y0_towers.v, y0_links.v], .int .i64 1048576] rfl (szNet_ok y0_towers.v x0_towers y0_links.v x0_links 1048576 _ f5 f6 (by omega) (by omega)) ?_
  rintro _ h7 ⟨n8, rfl, eh7, hmn8, hkn8⟩
  have E9 := E3.trans eh7
  have z10 := eh7.size
  refine s_pure (.int .i64 n8) (fun _ q => q) ?_
  refine s_nil ?_
  refine p_seqN ?_
  refine v_seq ?_
  refine v_seq ?_
  refine v_ops ?_
  refine s_pure (.int .i64 n8) (fun _ q => q) ?_
  refine s_pure (.bool (decide (n8 < 0))) (fun _ q => q) ?_
  refine s_nil ?_
  refine p_seqN ?_
  refine v_cond rfl (fun c11 => ?_) (fun c11 => ?_)
  ·
    refine v_seq ?_
    refine v_ops ?_
    refine s_pure (.bool true) (fun _ q => q) ?_
    refine s_nil ?_
    refine p_seqN ?_
    refine v_ret ?_
    refine p_seqR ?_
    refine p_ret [.bool true] (.bool true) (fun _ q => q) rfl ?_
    exact ⟨rfl, E9⟩
  obtain ⟨hmn8, hkn8⟩ := And.intro (hmn8 (by omega)) hkn8
  have bd12 : x0_towers.length ≤ 1048576 := by omega
  have bd13 : x0_links.length ≤ 1048576 := by omega
  refine v_skip ?_
  refine p_seqN ?_
  refine v_seq ?_
  refine v_ops ?_
  have f14 := (bxb1.ext eh7)
  refine s_load (.agg #[y0_towers.v, y0_links.v]) (fun _ q => f14.loadA rfl q) ?_
  have f15 := (f5.ext eh7)
  have f16 := (f6.ext eh7)
  refine s_call [.agg #[y0_towers.v, y0_links.v]] rfl (toNet_ok y0_towers.v x0_towers y0_links.v x0_links _ f15 f16 bd12 bd13) ?_
  rintro _ h17 ⟨r18, r19, rfl, s_r18, s_r19, eh17, fr_r18, fr_r19, ap_r18⟩
  have E20 := E9.trans eh17
  have z21 := eh17.size
  have lt_r18 := s_r18.lt
  have lt_r19 := s_r19.lt
  refine s_pure (.int .i64 x1) (fun _ q => q) ?_
  refine s_pure (.int .i64 x2) (fun _ q => q) ?_
  refine s_pure (.int .i64 x3) (fun _ q => q) ?_
  refine s_call [.agg #[r18, r19], .int .i64 x1, .int .i64 x2, .int .i64 x3] rfl (spec_DelayWithout_ok (⟨x0_towers, x0_links⟩ : NetP) r18 r19 x1 x2 x3 _ s_r18.toSl s_r19.toSl) ?_
  rintro _ h22 ⟨rfl, eh22⟩
  have E23 := E20.trans eh22
  have z24 := eh22.size
  refine s_pure (.tuple #[.int .i64 ((delayWo (⟨x0_towers, x0_links⟩ : NetP) x1 x2 x3).1), .bool ((delayWo (⟨x0_towers, x0_links⟩ : NetP) x1 x2 x3).2)]) (fun _ q => q) ?_
  refine s_pure (.int .i64 ((delayWo (⟨x0_towers, x0_links⟩ : NetP) x1 x2 x3).1)) (fun _ q => q) ?_
  refine s_pure (.bool ((delayWo (⟨x0_towers, x0_links⟩ : NetP) x1 x2 x3).2)) (fun _ q => q) ?_
  refine s_pure (.int .i64 ((delayWo (⟨x0_towers, x0_links⟩ : NetP) x1 x2 x3).1)) (fun _ q => q) ?_
  refine s_pure (.bool ((delayWo (⟨x0_towers, x0_links⟩ : NetP) x1 x2 x3).2)) (fun _ q => q) ?_
  refine s_nil ?_
  refine p_seqN ?_
  refine v_seq ?_
  refine v_ops ?_
  have f25 := ((f14.ext eh17).ext eh22)
  refine s_load (.agg #[y0_towers.v, y0_links.v]) (fun _ q => f25.loadA rfl q) ?_
  have f26 := ((f15.ext eh17).ext eh22)
  have f27 := ((f16.ext eh17).ext eh22)
  refine s_call [.agg #[y0_towers.v, y0_links.v]] rfl (toNet_ok y0_towers.v x0_towers y0_links.v x0_links _ f26 f27 bd12 bd13) ?_
  rintro _ h28 ⟨r29, r30, rfl, s_r29, s_r30, eh28, fr_r29, fr_r30, ap_r29⟩
  have E31 := E23.trans eh28
  have z32 := eh28.size
  have lt_r29 := s_r29.lt
  have lt_r30 := s_r30.lt
  refine s_new (fun h34 b33 hbb33 hzb33 eh34 bxb33 => ?_)
  have E35 := E31.trans eh34
  have z36 := eh34.size
  have lbb33 := bxb33.lt
  refine s_stBx (.agg #[r29, r30]) [r29, r30] [r29, r30] bxb33 rfl rfl rfl rfl (by simp) (all_cons s_r29.one1 (all_cons s_r30.one1 all_nil)) rfl (fun h37 mh37 sh37 bxx38 => ?_)
  have E39 := E35.mod mh37 (fun b hb => by simp at hb; omega)
  refine s_nil ?_
  refine p_seqN ?_
  refine v_seq ?_
  refine v_ops ?_
  refine s_load (.agg #[r29, r30]) (fun _ q => bxx38.loadA rfl q) ?_
  refine s_pure (.int .i64 x1) (fun _ q => q) ?_
  refine s_pure (.int .i64 x2) (fun _ q => q) ?_
  refine s_pure (.int .i64 x3) (fun _ q => q) ?_
  have f40 := ((s_r29.ext eh34).mod mh37 (fun b hb hc => by simp at hc; have := lt_r29 b hb; omega))
  have f41 := ((s_r30.ext eh34).mod mh37 (fun b hb hc => by simp at hc; have := lt_r30 b hb; omega))
  refine s_call [.agg #[r29, r30], .int .i64 x1, .int .i64 x2, .int .i64 x3] rfl (impl_DelayWithout_ok (⟨x0_towers, x0_links⟩ : NetP) r29 r30 x1 x2 x3 _ f40.toSl f41.toSl) ?_
  rintro _ h42 ⟨rfl, eh42⟩
  have E43 := E39.trans eh42
  have z44 := eh42.size
  refine s_pure (.tuple #[.int .i64 ((delayWo (⟨x0_towers, x0_links⟩ : NetP) x1 x2 x3).1), .bool ((delayWo (⟨x0_towers, x0_links⟩ : NetP) x1 x2 x3).2)]) (fun _ q => q) ?_
  refine s_pure (.int .i64 ((delayWo (⟨x0_towers, x0_links⟩ : NetP) x1 x2 x3).1)) (fun _ q => q) ?_
  refine s_pure (.bool ((delayWo (⟨x0_towers, x0_links⟩ : NetP) x1 x2 x3).2)) (fun _ q => q) ?_
  refine s_pure (.int .i64 ((delayWo (⟨x0_towers, x0_links⟩ : NetP) x1 x2 x3).1)) (fun _ q => q) ?_
  refine s_pure (.bool ((delayWo (⟨x0_towers, x0_links⟩ : NetP) x1 x2 x3).2)) (fun _ q => q) ?_
  refine s_nil ?_
  refine p_seqN ?_
  refine v_seq ?_
  refine v_seq ?_
  refine v_ops ?_
  refine s_pure (.int .i64 ((delayWo (⟨x0_towers, x0_links⟩ : NetP) x1 x2 x3).1)) (fun _ q => q) ?_
  refine s_pure (.int .i64 ((delayWo (⟨x0_towers, x0_links⟩ : NetP) x1 x2 x3).1)) (fun _ q => q) ?_
  refine s_pure (.bool ((delayWo (⟨x0_towers, x0_links⟩ : NetP) x1 x2 x3).1 != (delayWo (⟨x0_towers, x0_links⟩ : NetP) x1 x2 x3).1)) (fun _ q => q) ?_
  refine s_pure (.bool ((delayWo (⟨x0_towers, x0_links⟩ : NetP) x1 x2 x3).1 != (delayWo (⟨x0_towers, x0_links⟩ : NetP) x1 x2 x3).1)) (fun _ q => q) ?_
  refine s_splitN rfl (by first | assumption | omega | (simp; done) | (simp; omega) | simp_all) ?_
  refine s_run rfl ?_
  refine s_pure (.bool ((delayWo (⟨x0_towers, x0_links⟩ : NetP) x1 x2 x3).2)) (fun _ q => q) ?_
  refine s_run rfl ?_
  refine s_pure (.bool ((delayWo (⟨x0_towers, x0_links⟩ : NetP) x1 x2 x3).2)) (fun _ q => q) ?_
  refine s_run rfl ?_
  refine s_pure (.bool ((delayWo (⟨x0_towers, x0_links⟩ : NetP) x1 x2 x3).2 != (delayWo (⟨x0_towers, x0_links⟩ : NetP) x1 x2 x3).2)) (fun _ q => q) ?_
  refine s_pure (.bool ((delayWo (⟨x0_towers, x0_links⟩ : NetP) x1 x2 x3).2 != (delayWo (⟨x0_towers, x0_links⟩ : NetP) x1 x2 x3).2)) (fun _ q => q) ?_
  refine s_nil ?_
  refine p_seqN ?_
  refine v_condN rfl (by first | assumption | omega | (simp; done) | (simp; omega) | simp_all) ?_
  refine v_skip ?_
  refine p_seqN ?_
  refine v_seq ?_
  refine v_seq ?_
  have f45 := (bxx38.ext eh42)
  refine v_draw (DrawVC.hold ([b33]) ?_)
  refine d_loadT (.agg #[r29, r30]) (fun _ q => f45.takeA (by simp) rfl q) ?_
  have f46 := ((((f25.ext eh28).ext eh34).mod mh37 (by simp; omega)).ext eh42)
  refine d_loadO (.agg #[y0_towers.v, y0_links.v]) (fun _ q => f46.loadA rfl q) ?_
  refine d_eff ?_
  have f47 := ((((f26.ext eh28).ext eh34).mod mh37 (fun b hb hc => by simp at hc; have := lt_v0_towers b hb; omega)).ext eh42)
  have f48 := ((((f27.ext eh28).ext eh34).mod mh37 (fun b hb hc => by simp at hc; have := lt_v0_links b hb; omega)).ext eh42)
  refine s_call [.agg #[y0_towers.v, y0_links.v]] rfl (toNet_ok y0_towers.v x0_towers y0_links.v x0_links _ f47 f48 bd12 bd13) ?_
  rintro _ h49 ⟨r50, r51, rfl, s_r50, s_r51, eh49, fr_r50, fr_r51, ap_r50⟩
  have E52 := E43.trans eh49
  have z53 := eh49.size
  have G54 := eh49
  have lt_r50 := s_r50.lt
  have lt_r51 := s_r51.lt
  refine s_nil ⟨fun _ x hx => G54.blk x (by simp at hx; omega), ?_⟩
  refine d_eff ?_
  have f55 := ((f40.ext eh42).ext eh49)
  have f56 := ((f41.ext eh42).ext eh49)
  refine s_call [.agg #[r29, r30], .agg #[r50, r51]] rfl (eqNet_ok r29 x0_towers r30 x0_links r50 x0_towers r51 x0_links _ f55.toSl f56.toSl s_r50.toSl s_r51.toSl) ?_
  rintro _ h57 ⟨rfl, eh57⟩
  have E58 := E52.trans eh57
  have z59 := eh57.size
  have G60 := G54.trans eh57
  refine s_nil ⟨fun _ x hx => G60.blk x (by simp at hx; omega), ?_⟩
  refine d_pureT (.bool (!(decide (x0_towers = x0_towers ∧ x0_links = x0_links)))) (fun _ q => q) ?_
  refine d_done ?_
  refine p_seqN ?_
  refine v_condN rfl (by first | assumption | omega | (simp; done) | (simp; omega) | simp_all) ?_
  refine v_skip ?_
  refine p_seqN ?_
  refine v_seq ?_
  refine v_ops ?_
  refine s_pure (.bool true) (fun _ q => q) ?_
  refine s_nil ?_
  refine p_seqN ?_
  refine v_ret ?_
  refine p_ret [.bool true] (.bool true) (fun _ q => q) rfl ?_
  exact ⟨rfl, E58⟩
end Go.Proofs.Ythagdkmalchhgaa.finFnExactDelayWithout
