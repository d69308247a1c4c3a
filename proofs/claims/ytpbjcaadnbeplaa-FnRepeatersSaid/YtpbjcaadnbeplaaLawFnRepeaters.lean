/- The law FnRepeaters: its text returns true. Condition: none. Printed by a program. -/
import Derived.Test.YtpbjcaadnbeplaaRq2
namespace Go.Proofs.Ytpbjcaadnbeplaa.finFnRepeaters
open Go.Vc
set_option linter.all false
set_option maxRecDepth 100000
set_option maxHeartbeats 4000000
set_option maxRecDepth 10000 in
set_option maxHeartbeats 4000000 in
theorem laws_FnRepeaters_ok (v_code : Value) (code : List By) (v_more : Value) (more : List By) (h : Heap) (s_code : Sl h v_code code) (s_more : Sl h v_more more) (hb0 : ∀ y ∈ code, 0 ≤ y.n ∧ y.n ≤ 255) (hb1 : ∀ y ∈ more, 0 ≤ y.n ∧ y.n ≤ 255) (hl0 : code.length ≤ 140737488351232) (hl1 : more.length ≤ 140737488351232) : Cn f_laws_FnRepeaters [v_code, v_more] h fun v h' => v = .bool true ∧ Ext h h' := by
  have lt_code := s_code.lt
  have l63_code := s_code.len63
  have lt_more := s_more.lt
  have l63_more := s_more.len63
  refine calls_of r_laws_FnRepeaters ?_
  refine v_seq ?_
  refine v_ops ?_
  refine s_pure (.bool false) (fun _ q => q) ?_
  refine s_nil ?_
  refine p_seqN ?_
  refine v_seq ?_
  refine v_seq ?_
  refine v_ops ?_
  refine s_pure v_code (fun _ q => q) ?_
  refine s_pure (.int .i64 (code.length : Int)) (fun _ q => s_code.lenVC q) ?_
  refine s_pure v_more (fun _ q => q) ?_
  refine s_pure (.int .i64 (more.length : Int)) (fun _ q => s_more.lenVC q) ?_
  refine s_pure (.int .i64 ((code.length : Int) + (more.length : Int))) (fun _ q => ArithVC.mk (by omega) q) ?_
  refine s_pure (.bool (decide (((code.length : Int) + (more.length : Int)) > 1048576))) (fun _ q => q) ?_
  refine s_nil ?_
  refine p_seqN ?_
  refine v_cond rfl (fun c1 => ?_) (fun c1 => ?_)
  ·
    refine v_seq ?_
    refine v_ops ?_
    refine s_pure (.bool true) (fun _ q => q) ?_
    refine s_nil ?_
    refine p_seqN ?_
    refine v_ret ?_
    refine p_seqR ?_
    refine p_ret [.bool true] (.bool true) (fun _ q => q) rfl ?_
    have ho : true = true := by first | rfl | exact (decide_eq_true (rg_rep (by assumption))).symm | (exfalso; first | omega | exact absurd hk1 (by assumption) | exact absurd hk4 (by assumption) | (have q_ := hk5 (by omega); simp_all; done) | exact absurd (hE.1 (by omega)).1 (by assumption) | exact absurd hEa (by assumption) | (have q_ := hE.1 (by omega); simp_all; done) | (rw [hp3] at *; simp_all; done) | (have q_ := now_ok hr1 hr2 hr3 (by assumption) hq; simp_all; done) | exact absurd (same_of hr4 hq (by assumption)) (by assumption) | (simp_all; done))
    exact ⟨by first | (rw [ho]; done) | rfl, (Ext.refl h)⟩
  ·
    have hbig : code.length ≤ 1048576 ∧ more.length ≤ 1048576 := by omega
    refine v_skip ?_
    refine p_seqN ?_
    refine v_seq ?_
    refine v_ops ?_
    refine s_pure v_code (fun _ q => q) ?_
    refine s_call [v_code] rfl (spec_DrawRunGlances_ok v_code code _ s_code (by first | omega | assumption | (simp; done) | (simp; omega)) (by first | omega | assumption | (simp; done) | (simp; omega))) ?_
    rintro _ h6 ⟨g2, g4, r3, r5, rfl, s_r3, fr_r3, s_r5, fr_r5, ap_r3_r5, qh6, eh6⟩
    have E7 := (Ext.refl h).trans eh6
    have z8 := eh6.size
    have lt_r3 := s_r3.lt
    have lt_r5 := s_r5.lt
    refine s_pure (.tuple #[.agg #[.int .i64 g2.phase, .int .i64 g2.holds, .int .i64 g2.again, .int .i64 g2.shown, r3], r5]) (fun _ q => q) ?_
    refine s_pure (.agg #[.int .i64 g2.phase, .int .i64 g2.holds, .int .i64 g2.again, .int .i64 g2.shown, r3]) (fun _ q => q) ?_
    refine s_pure r5 (fun _ q => q) ?_
    refine s_new (fun h10 b9 hbb9 hzb9 eh10 bxb9 => ?_)
    have E11 := E7.trans eh10
    have z12 := eh10.size
    have lbb9 := bxb9.lt
    refine s_stBx (.agg #[.int .i64 g2.phase, .int .i64 g2.holds, .int .i64 g2.again, .int .i64 g2.shown, r3]) [.int .i64 g2.phase, .int .i64 g2.holds, .int .i64 g2.again, .int .i64 g2.shown, r3] [.int .i64 g2.phase, .int .i64 g2.holds, .int .i64 g2.again, .int .i64 g2.shown, r3] bxb9 rfl rfl rfl rfl (by simp) (all_cons rfl (all_cons rfl (all_cons rfl (all_cons rfl (all_cons s_r3.one1 all_nil))))) rfl (fun h13 mh13 sh13 bxx14 => ?_)
    have E15 := E11.mod mh13 (fun b hb => by simp at hb; omega)
    refine s_pure r5 (fun _ q => q) ?_
    refine s_nil ?_
    refine p_seqN ?_
    refine v_seq ?_
    refine v_ops ?_
    refine s_load (.agg #[.int .i64 g2.phase, .int .i64 g2.holds, .int .i64 g2.again, .int .i64 g2.shown, r3]) (fun _ q => bxx14.loadA rfl q) ?_
    refine s_pure r5 (fun _ q => q) ?_
    have f16 := ((s_r3.ext eh10).mod mh13 (fun b hb hc => by simp at hc; have := lt_r3 b hb; omega))
    have f17 := ((s_r5.ext eh10).mod mh13 (fun b hb hc => by simp at hc; have := lt_r5 b hb; omega))
    refine s_call [.agg #[.int .i64 g2.phase, .int .i64 g2.holds, .int .i64 g2.again, .int .i64 g2.shown, r3], r5] rfl (impl_RunGlances_ok g2 r3 r5 g4 _ f16.toSl f17.toSl) ?_
    rintro _ h19 ⟨r18, rfl, s_r18, fr_r18, eh19⟩
    have E20 := E15.trans eh19
    have z21 := eh19.size
    have lt_r18 := s_r18.lt
    refine s_pure (.tuple #[.agg #[.int .i64 (((rgOut g2 g4).1).phase), .int .i64 (((rgOut g2 g4).1).holds), .int .i64 (((rgOut g2 g4).1).again), .int .i64 (((rgOut g2 g4).1).shown), r18], .bool ((rgOut g2 g4).2)]) (fun _ q => q) ?_
    refine s_pure (.agg #[.int .i64 (((rgOut g2 g4).1).phase), .int .i64 (((rgOut g2 g4).1).holds), .int .i64 (((rgOut g2 g4).1).again), .int .i64 (((rgOut g2 g4).1).shown), r18]) (fun _ q => q) ?_
    refine s_pure (.bool ((rgOut g2 g4).2)) (fun _ q => q) ?_
    refine s_new (fun h23 b22 hbb22 hzb22 eh23 bxb22 => ?_)
    have E24 := E20.trans eh23
    have z25 := eh23.size
    have lbb22 := bxb22.lt
    refine s_stBx (.agg #[.int .i64 (((rgOut g2 g4).1).phase), .int .i64 (((rgOut g2 g4).1).holds), .int .i64 (((rgOut g2 g4).1).again), .int .i64 (((rgOut g2 g4).1).shown), r18]) [.int .i64 (((rgOut g2 g4).1).phase), .int .i64 (((rgOut g2 g4).1).holds), .int .i64 (((rgOut g2 g4).1).again), .int .i64 (((rgOut g2 g4).1).shown), r18] [.int .i64 (((rgOut g2 g4).1).phase), .int .i64 (((rgOut g2 g4).1).holds), .int .i64 (((rgOut g2 g4).1).again), .int .i64 (((rgOut g2 g4).1).shown), r18] bxb22 rfl rfl rfl rfl (by simp) (all_cons rfl (all_cons rfl (all_cons rfl (all_cons rfl (all_cons s_r18.one1 all_nil))))) rfl (fun h26 mh26 sh26 bxx27 => ?_)
    have E28 := E24.mod mh26 (fun b hb => by simp at hb; omega)
    refine s_pure (.bool ((rgOut g2 g4).2)) (fun _ q => q) ?_
    refine s_nil ?_
    refine p_seqN ?_
    refine v_seq ?_
    refine v_ops ?_
    have f29 := (((bxx14.ext eh19).ext eh23).mod mh26 (by simp; omega))
    refine s_load (.agg #[.int .i64 g2.phase, .int .i64 g2.holds, .int .i64 g2.again, .int .i64 g2.shown, r3]) (fun _ q => f29.loadA rfl q) ?_
    refine s_pure r5 (fun _ q => q) ?_
    have f30 := (((f16.ext eh19).ext eh23).mod mh26 (fun b hb hc => by simp at hc; have := lt_r3 b hb; omega))
    have f31 := (((f17.ext eh19).ext eh23).mod mh26 (fun b hb hc => by simp at hc; have := lt_r5 b hb; omega))
    refine s_call [.agg #[.int .i64 g2.phase, .int .i64 g2.holds, .int .i64 g2.again, .int .i64 g2.shown, r3], r5] rfl (spec_RunGlances_ok g2 r3 r5 g4 _ f30.toSl f31.toSl) ?_
    rintro _ h33 ⟨r32, rfl, s_r32, fr_r32, eh33⟩
    have E34 := E28.trans eh33
    have z35 := eh33.size
    have lt_r32 := s_r32.lt
    refine s_pure (.tuple #[.agg #[.int .i64 (((rgOut g2 g4).1).phase), .int .i64 (((rgOut g2 g4).1).holds), .int .i64 (((rgOut g2 g4).1).again), .int .i64 (((rgOut g2 g4).1).shown), r32], .bool ((rgOut g2 g4).2)]) (fun _ q => q) ?_
    refine s_pure (.agg #[.int .i64 (((rgOut g2 g4).1).phase), .int .i64 (((rgOut g2 g4).1).holds), .int .i64 (((rgOut g2 g4).1).again), .int .i64 (((rgOut g2 g4).1).shown), r32]) (fun _ q => q) ?_
    refine s_pure (.bool ((rgOut g2 g4).2)) (fun _ q => q) ?_
    refine s_new (fun h37 b36 hbb36 hzb36 eh37 bxb36 => ?_)
    have E38 := E34.trans eh37
    have z39 := eh37.size
    have lbb36 := bxb36.lt
    refine s_stBx (.agg #[.int .i64 (((rgOut g2 g4).1).phase), .int .i64 (((rgOut g2 g4).1).holds), .int .i64 (((rgOut g2 g4).1).again), .int .i64 (((rgOut g2 g4).1).shown), r32]) [.int .i64 (((rgOut g2 g4).1).phase), .int .i64 (((rgOut g2 g4).1).holds), .int .i64 (((rgOut g2 g4).1).again), .int .i64 (((rgOut g2 g4).1).shown), r32] [.int .i64 (((rgOut g2 g4).1).phase), .int .i64 (((rgOut g2 g4).1).holds), .int .i64 (((rgOut g2 g4).1).again), .int .i64 (((rgOut g2 g4).1).shown), r32] bxb36 rfl rfl rfl rfl (by simp) (all_cons rfl (all_cons rfl (all_cons rfl (all_cons rfl (all_cons s_r32.one1 all_nil))))) rfl (fun h40 mh40 sh40 bxx41 => ?_)
    have E42 := E38.mod mh40 (fun b hb => by simp at hb; omega)
    refine s_pure (.bool ((rgOut g2 g4).2)) (fun _ q => q) ?_
    refine s_nil ?_
    refine p_seqN ?_
    refine v_seq ?_
    refine v_ops ?_
    refine s_pure v_more (fun _ q => q) ?_
    have f43 := (((((((((s_more.ext eh6).ext eh10).mod mh13 (fun b hb hc => by simp at hc; have := lt_more b hb; omega)).ext eh19).ext eh23).mod mh26 (fun b hb hc => by simp at hc; have := lt_more b hb; omega)).ext eh33).ext eh37).mod mh40 (fun b hb hc => by simp at hc; have := lt_more b hb; omega))
    refine s_call [v_more] rfl (spec_DrawGlanceAt_ok v_more more _ f43 (by first | omega | assumption | (simp; done) | (simp; omega)) (by first | omega | assumption | (simp; done) | (simp; omega))) ?_
    rintro _ h47 ⟨g44, g46, r45, rfl, s_r45, fr_r45, qh47, eh47⟩
    have E48 := E42.trans eh47
    have z49 := eh47.size
    have lt_r45 := s_r45.lt
    refine s_pure (.tuple #[.agg #[.int .i64 g44.phase, .int .i64 g44.holds, .int .i64 g44.again, .int .i64 g44.shown, r45], .agg #[.bool g46.next, .int .i64 g46.signal]]) (fun _ q => q) ?_
    refine s_pure (.agg #[.int .i64 g44.phase, .int .i64 g44.holds, .int .i64 g44.again, .int .i64 g44.shown, r45]) (fun _ q => q) ?_
    refine s_pure (.agg #[.bool g46.next, .int .i64 g46.signal]) (fun _ q => q) ?_
    refine s_new (fun h51 b50 hbb50 hzb50 eh51 bxb50 => ?_)
    have E52 := E48.trans eh51
    have z53 := eh51.size
    have lbb50 := bxb50.lt
    refine s_new (fun h55 b54 hbb54 hzb54 eh55 bxb54 => ?_)
    have E56 := E52.trans eh55
    have z57 := eh55.size
    have lbb54 := bxb54.lt
    have f58 := (bxb50.ext eh55)
    refine s_stBx (.agg #[.int .i64 g44.phase, .int .i64 g44.holds, .int .i64 g44.again, .int .i64 g44.shown, r45]) [.int .i64 g44.phase, .int .i64 g44.holds, .int .i64 g44.again, .int .i64 g44.shown, r45] [.int .i64 g44.phase, .int .i64 g44.holds, .int .i64 g44.again, .int .i64 g44.shown, r45] f58 rfl rfl rfl rfl (by simp) (all_cons rfl (all_cons rfl (all_cons rfl (all_cons rfl (all_cons s_r45.one1 all_nil))))) rfl (fun h59 mh59 sh59 bxx60 => ?_)
    have E61 := E56.mod mh59 (fun b hb => by simp at hb; omega)
    have f62 := (bxb54.mod mh59 (by simp; omega))
    refine s_stBx (.agg #[.bool g46.next, .int .i64 g46.signal]) [.bool g46.next, .int .i64 g46.signal] [.bool g46.next, .int .i64 g46.signal] f62 rfl rfl rfl rfl (by simp) (all_cons rfl (all_cons rfl all_nil)) rfl (fun h63 mh63 sh63 bxx64 => ?_)
    have E65 := E61.mod mh63 (fun b hb => by simp at hb; omega)
    refine s_nil ?_
    refine p_seqN ?_
    refine v_seq ?_
    refine v_ops ?_
    have f66 := (bxx60.mod mh63 (by simp; omega))
    refine s_load (.agg #[.int .i64 g44.phase, .int .i64 g44.holds, .int .i64 g44.again, .int .i64 g44.shown, r45]) (fun _ q => f66.loadA rfl q) ?_
    refine s_load (.agg #[.bool g46.next, .int .i64 g46.signal]) (fun _ q => bxx64.loadA rfl q) ?_
    have f67 := ((((s_r45.ext eh51).ext eh55).mod mh59 (fun b hb hc => by simp at hc; have := lt_r45 b hb; omega)).mod mh63 (fun b hb hc => by simp at hc; have := lt_r45 b hb; omega))
    refine s_call [.agg #[.int .i64 g44.phase, .int .i64 g44.holds, .int .i64 g44.again, .int .i64 g44.shown, r45], .agg #[.bool g46.next, .int .i64 g46.signal]] rfl (impl_GlanceAt_ok g44 r45 g46 _ f67.toSl) ?_
    rintro _ h69 ⟨r68, rfl, s_r68, fr_r68, eh69⟩
    have E70 := E65.trans eh69
    have z71 := eh69.size
    have lt_r68 := s_r68.lt
    refine s_pure (.tuple #[.agg #[.int .i64 (((rgOut g44 [g46]).1).phase), .int .i64 (((rgOut g44 [g46]).1).holds), .int .i64 (((rgOut g44 [g46]).1).again), .int .i64 (((rgOut g44 [g46]).1).shown), r68], .bool ((rgOut g44 [g46]).2)]) (fun _ q => q) ?_
    refine s_pure (.agg #[.int .i64 (((rgOut g44 [g46]).1).phase), .int .i64 (((rgOut g44 [g46]).1).holds), .int .i64 (((rgOut g44 [g46]).1).again), .int .i64 (((rgOut g44 [g46]).1).shown), r68]) (fun _ q => q) ?_
    refine s_pure (.bool ((rgOut g44 [g46]).2)) (fun _ q => q) ?_
    refine s_new (fun h73 b72 hbb72 hzb72 eh73 bxb72 => ?_)
    have E74 := E70.trans eh73
    have z75 := eh73.size
    have lbb72 := bxb72.lt
    refine s_stBx (.agg #[.int .i64 (((rgOut g44 [g46]).1).phase), .int .i64 (((rgOut g44 [g46]).1).holds), .int .i64 (((rgOut g44 [g46]).1).again), .int .i64 (((rgOut g44 [g46]).1).shown), r68]) [.int .i64 (((rgOut g44 [g46]).1).phase), .int .i64 (((rgOut g44 [g46]).1).holds), .int .i64 (((rgOut g44 [g46]).1).again), .int .i64 (((rgOut g44 [g46]).1).shown), r68] [.int .i64 (((rgOut g44 [g46]).1).phase), .int .i64 (((rgOut g44 [g46]).1).holds), .int .i64 (((rgOut g44 [g46]).1).again), .int .i64 (((rgOut g44 [g46]).1).shown), r68] bxb72 rfl rfl rfl rfl (by simp) (all_cons rfl (all_cons rfl (all_cons rfl (all_cons rfl (all_cons s_r68.one1 all_nil))))) rfl (fun h76 mh76 sh76 bxx77 => ?_)
    have E78 := E74.mod mh76 (fun b hb => by simp at hb; omega)
    refine s_pure (.bool ((rgOut g44 [g46]).2)) (fun _ q => q) ?_
    refine s_nil ?_
    refine p_seqN ?_
    refine v_seq ?_
    refine v_ops ?_
    have f79 := (((f66.ext eh69).ext eh73).mod mh76 (by simp; omega))
    refine s_load (.agg #[.int .i64 g44.phase, .int .i64 g44.holds, .int .i64 g44.again, .int .i64 g44.shown, r45]) (fun _ q => f79.loadA rfl q) ?_
    have f80 := (((bxx64.ext eh69).ext eh73).mod mh76 (by simp; omega))
    refine s_load (.agg #[.bool g46.next, .int .i64 g46.signal]) (fun _ q => f80.loadA rfl q) ?_
    have f81 := (((f67.ext eh69).ext eh73).mod mh76 (fun b hb hc => by simp at hc; have := lt_r45 b hb; omega))
    refine s_call [.agg #[.int .i64 g44.phase, .int .i64 g44.holds, .int .i64 g44.again, .int .i64 g44.shown, r45], .agg #[.bool g46.next, .int .i64 g46.signal]] rfl (spec_GlanceAt_ok g44 r45 g46 _ f81.toSl) ?_
    rintro _ h83 ⟨r82, rfl, s_r82, fr_r82, eh83⟩
    have E84 := E78.trans eh83
    have z85 := eh83.size
    have lt_r82 := s_r82.lt
    refine s_pure (.tuple #[.agg #[.int .i64 (((rgOut g44 [g46]).1).phase), .int .i64 (((rgOut g44 [g46]).1).holds), .int .i64 (((rgOut g44 [g46]).1).again), .int .i64 (((rgOut g44 [g46]).1).shown), r82], .bool ((rgOut g44 [g46]).2)]) (fun _ q => q) ?_
    refine s_pure (.agg #[.int .i64 (((rgOut g44 [g46]).1).phase), .int .i64 (((rgOut g44 [g46]).1).holds), .int .i64 (((rgOut g44 [g46]).1).again), .int .i64 (((rgOut g44 [g46]).1).shown), r82]) (fun _ q => q) ?_
    refine s_pure (.bool ((rgOut g44 [g46]).2)) (fun _ q => q) ?_
    refine s_new (fun h87 b86 hbb86 hzb86 eh87 bxb86 => ?_)
    have E88 := E84.trans eh87
    have z89 := eh87.size
    have lbb86 := bxb86.lt
    refine s_stBx (.agg #[.int .i64 (((rgOut g44 [g46]).1).phase), .int .i64 (((rgOut g44 [g46]).1).holds), .int .i64 (((rgOut g44 [g46]).1).again), .int .i64 (((rgOut g44 [g46]).1).shown), r82]) [.int .i64 (((rgOut g44 [g46]).1).phase), .int .i64 (((rgOut g44 [g46]).1).holds), .int .i64 (((rgOut g44 [g46]).1).again), .int .i64 (((rgOut g44 [g46]).1).shown), r82] [.int .i64 (((rgOut g44 [g46]).1).phase), .int .i64 (((rgOut g44 [g46]).1).holds), .int .i64 (((rgOut g44 [g46]).1).again), .int .i64 (((rgOut g44 [g46]).1).shown), r82] bxb86 rfl rfl rfl rfl (by simp) (all_cons rfl (all_cons rfl (all_cons rfl (all_cons rfl (all_cons s_r82.one1 all_nil))))) rfl (fun h90 mh90 sh90 bxx91 => ?_)
    have E92 := E88.mod mh90 (fun b hb => by simp at hb; omega)
    refine s_pure (.bool ((rgOut g44 [g46]).2)) (fun _ q => q) ?_
    refine s_nil ?_
    refine p_seqN ?_
    refine v_seq ?_
    refine v_ops ?_
    refine s_pure v_more (fun _ q => q) ?_
    have f93 := (((((((((((f43.ext eh47).ext eh51).ext eh55).mod mh59 (fun b hb hc => by simp at hc; have := lt_more b hb; omega)).mod mh63 (fun b hb hc => by simp at hc; have := lt_more b hb; omega)).ext eh69).ext eh73).mod mh76 (fun b hb hc => by simp at hc; have := lt_more b hb; omega)).ext eh83).ext eh87).mod mh90 (fun b hb hc => by simp at hc; have := lt_more b hb; omega))
    refine s_call [v_more] rfl (spec_DrawPlainGlances_ok v_more more _ f93 (by first | omega | assumption | (simp; done) | (simp; omega)) (by first | omega | assumption | (simp; done) | (simp; omega))) ?_
    rintro r95 h96 ⟨g94, _, rfl, s_r95, fr_r95, qh96, eh96⟩
    have E97 := E92.trans eh96
    have z98 := eh96.size
    have lt_r95 := s_r95.lt
    refine s_pure r95 (fun _ q => q) ?_
    refine s_nil ?_
    refine p_seqN ?_
    refine v_seq ?_
    refine v_ops ?_
    refine s_pure r95 (fun _ q => q) ?_
    refine s_call [r95] rfl (w_implPlainGlances r95 g94 _ s_r95.toSl) ?_
    rintro _ h100 ⟨r99, rfl, s_r99, fr_r99, eh100⟩
    have E101 := E97.trans eh100
    have z102 := eh100.size
    have lt_r99 := s_r99.lt
    refine s_pure (.tuple #[r99, .bool ((pgOut g94).2)]) (fun _ q => q) ?_
    refine s_pure r99 (fun _ q => q) ?_
    refine s_pure (.bool ((pgOut g94).2)) (fun _ q => q) ?_
    refine s_pure r99 (fun _ q => q) ?_
    refine s_pure (.bool ((pgOut g94).2)) (fun _ q => q) ?_
    refine s_nil ?_
    refine p_seqN ?_
    refine v_seq ?_
    refine v_ops ?_
    refine s_pure r95 (fun _ q => q) ?_
    have f103 := (s_r95.ext eh100)
    refine s_call [r95] rfl (w_specPlainGlances r95 g94 _ f103.toSl) ?_
    rintro _ h105 ⟨r104, rfl, s_r104, fr_r104, eh105⟩
    have E106 := E101.trans eh105
    have z107 := eh105.size
    have lt_r104 := s_r104.lt
    refine s_pure (.tuple #[r104, .bool ((pgOut g94).2)]) (fun _ q => q) ?_
    refine s_pure r104 (fun _ q => q) ?_
    refine s_pure (.bool ((pgOut g94).2)) (fun _ q => q) ?_
    refine s_pure r104 (fun _ q => q) ?_
    refine s_pure (.bool ((pgOut g94).2)) (fun _ q => q) ?_
    refine s_nil ?_
    refine p_seqN ?_
    refine v_seqM1 [(5, .pointer (some ⟨b9, 0, none⟩)), (6, r5), (7, .pointer (some ⟨b22, 0, none⟩)), (8, .bool ((rgOut g2 g4).2)), (9, .pointer (some ⟨b36, 0, none⟩)), (11, .pointer (some ⟨b50, 0, none⟩)), (12, .pointer (some ⟨b54, 0, none⟩)), (13, .pointer (some ⟨b72, 0, none⟩)), (14, .bool ((rgOut g44 [g46]).2)), (15, .pointer (some ⟨b86, 0, none⟩)), (17, r95), (18, r99), (19, .bool ((pgOut g94).2)), (20, r104)] (fun R109 h110 eh110 => ?_) (fun M108 => ?_)
    ·
      have E111 := E106.trans eh110
      have z112 := eh110.size
      refine v_seqM1 [(5, .pointer (some ⟨b9, 0, none⟩)), (6, r5), (7, .pointer (some ⟨b22, 0, none⟩)), (8, .bool ((rgOut g2 g4).2)), (9, .pointer (some ⟨b36, 0, none⟩)), (17, r95), (18, r99), (19, .bool ((pgOut g94).2)), (20, r104)] (fun R114 h115 eh115 => ?_) (fun M113 => ?_)
      ·
        have E116 := E111.trans eh115
        have z117 := eh115.size
        refine v_seq ?_
        refine v_seq ?_
        refine v_ops ?_
        refine s_pure (.bool ((pgOut g94).2)) (fun _ q => q) ?_
        refine s_nil ?_
        refine p_seqN ?_
        refine v_cond rfl (fun c118 => ?_) (fun c118 => ?_)
        ·
          obtain ⟨hp0, hp1, hp2, hp3, hp4⟩ := pg_facts c118
          refine v_seq ?_
          refine v_ops ?_
          refine s_pure r99 (fun _ q => q) ?_
          have f119 := (((s_r99.ext eh105).ext eh110).ext eh115)
          refine s_call [r99] rfl (impl_PassedBy_ok r99 ((pgOut g94).1) _ f119.toSl) ?_
          rintro _ h121 ⟨r120, rfl, s_r120, fr_r120, eh121⟩
          have E122 := E116.trans eh121
          have z123 := eh121.size
          have lt_r120 := s_r120.lt
          refine s_pure (.tuple #[r120, .int .i64 ((pbOut ((pgOut g94).1)).2.1), .bool ((pbOut ((pgOut g94).1)).2.2)]) (fun _ q => q) ?_
          refine s_pure r120 (fun _ q => q) ?_
          refine s_pure (.int .i64 ((pbOut ((pgOut g94).1)).2.1)) (fun _ q => q) ?_
          refine s_pure (.bool ((pbOut ((pgOut g94).1)).2.2)) (fun _ q => q) ?_
          refine s_pure r120 (fun _ q => q) ?_
          refine s_pure (.int .i64 ((pbOut ((pgOut g94).1)).2.1)) (fun _ q => q) ?_
          refine s_pure (.bool ((pbOut ((pgOut g94).1)).2.2)) (fun _ q => q) ?_
          refine s_nil ?_
          refine p_seqN ?_
          refine v_seq ?_
          refine v_ops ?_
          refine s_pure (.int .i64 (-1)) (fun _ q => q) ?_
          refine s_nil ?_
          refine p_seqN ?_
          refine v_seq ?_
          refine v_seq ?_
          refine v_ops ?_
          refine s_pure r95 (fun _ q => q) ?_
          refine s_pure (.int .i64 (g94.length : Int)) (fun _ q => f103.lenVC q) ?_
          refine s_pure (.int .i64 0) (fun _ q => q) ?_
          refine s_nil ?_
          refine p_seqN ?_
          refine v_block ?_
          have nk125 : b9 ∉ blks r3 := (fun hc => by have := lt_r3 _ hc; omega)
          have nk126 : b22 ∉ blks r3 := (fun hc => by have := lt_r3 _ hc; omega)
          have nk127 : b36 ∉ blks r3 := (fun hc => by have := lt_r3 _ hc; omega)
          have nk128 : b9 ∉ blks r5 := (fun hc => by have := lt_r5 _ hc; omega)
          have nk129 : b22 ∉ blks r5 := (fun hc => by have := lt_r5 _ hc; omega)
          have nk130 : b36 ∉ blks r5 := (fun hc => by have := lt_r5 _ hc; omega)
          have nk131 : b9 ∉ blks r18 := (fun hc => by have := fr_r18 _ hc; omega)
          have nk132 : b22 ∉ blks r18 := (fun hc => by have := lt_r18 _ hc; omega)
          have nk133 : b36 ∉ blks r18 := (fun hc => by have := lt_r18 _ hc; omega)
          have nk134 : b9 ∉ blks r32 := (fun hc => by have := fr_r32 _ hc; omega)
          have nk135 : b22 ∉ blks r32 := (fun hc => by have := fr_r32 _ hc; omega)
          have nk136 : b36 ∉ blks r32 := (fun hc => by have := lt_r32 _ hc; omega)
          have nk137 : b9 ∉ blks r95 := (fun hc => by have := fr_r95 _ hc; omega)
          have nk138 : b22 ∉ blks r95 := (fun hc => by have := fr_r95 _ hc; omega)
          have nk139 : b36 ∉ blks r95 := (fun hc => by have := fr_r95 _ hc; omega)
          have nk140 : b9 ∉ blks r104 := (fun hc => by have := fr_r104 _ hc; omega)
          have nk141 : b22 ∉ blks r104 := (fun hc => by have := fr_r104 _ hc; omega)
          have nk142 : b36 ∉ blks r104 := (fun hc => by have := fr_r104 _ hc; omega)
          have nk143 : b9 ∉ blks r120 := (fun hc => by have := fr_r120 _ hc; omega)
          have nk144 : b22 ∉ blks r120 := (fun hc => by have := fr_r120 _ hc; omega)
          have nk145 : b36 ∉ blks r120 := (fun hc => by have := fr_r120 _ hc; omega)
          have f146 := ((((((((((((((((((((f29.ext eh33).ext eh37).mod mh40 (by simp; omega)).ext eh47).ext eh51).ext eh55).mod mh59 (by simp; omega)).mod mh63 (by simp; omega)).ext eh69).ext eh73).mod mh76 (by simp; omega)).ext eh83).ext eh87).mod mh90 (by simp; omega)).ext eh96).ext eh100).ext eh105).ext eh110).ext eh115).ext eh121)
          have f147 := ((((((((((((((((((((bxx27.ext eh33).ext eh37).mod mh40 (by simp; omega)).ext eh47).ext eh51).ext eh55).mod mh59 (by simp; omega)).mod mh63 (by simp; omega)).ext eh69).ext eh73).mod mh76 (by simp; omega)).ext eh83).ext eh87).mod mh90 (by simp; omega)).ext eh96).ext eh100).ext eh105).ext eh110).ext eh115).ext eh121)
          have f148 := (((((((((((((((((bxx41.ext eh47).ext eh51).ext eh55).mod mh59 (by simp; omega)).mod mh63 (by simp; omega)).ext eh69).ext eh73).mod mh76 (by simp; omega)).ext eh83).ext eh87).mod mh90 (by simp; omega)).ext eh96).ext eh100).ext eh105).ext eh110).ext eh115).ext eh121)
          have f149 := ((((((((((((((((((((f30.ext eh33).ext eh37).mod mh40 (fun b hb hc => by simp at hc; have := lt_r3 b hb; omega)).ext eh47).ext eh51).ext eh55).mod mh59 (fun b hb hc => by simp at hc; have := lt_r3 b hb; omega)).mod mh63 (fun b hb hc => by simp at hc; have := lt_r3 b hb; omega)).ext eh69).ext eh73).mod mh76 (fun b hb hc => by simp at hc; have := lt_r3 b hb; omega)).ext eh83).ext eh87).mod mh90 (fun b hb hc => by simp at hc; have := lt_r3 b hb; omega)).ext eh96).ext eh100).ext eh105).ext eh110).ext eh115).ext eh121)
          have f150 := ((((((((((((((((((((f31.ext eh33).ext eh37).mod mh40 (fun b hb hc => by simp at hc; have := lt_r5 b hb; omega)).ext eh47).ext eh51).ext eh55).mod mh59 (fun b hb hc => by simp at hc; have := lt_r5 b hb; omega)).mod mh63 (fun b hb hc => by simp at hc; have := lt_r5 b hb; omega)).ext eh69).ext eh73).mod mh76 (fun b hb hc => by simp at hc; have := lt_r5 b hb; omega)).ext eh83).ext eh87).mod mh90 (fun b hb hc => by simp at hc; have := lt_r5 b hb; omega)).ext eh96).ext eh100).ext eh105).ext eh110).ext eh115).ext eh121)
          have f151 := ((((((((((((((((((((((s_r18.ext eh23).mod mh26 (fun b hb hc => by simp at hc; have := lt_r18 b hb; omega)).ext eh33).ext eh37).mod mh40 (fun b hb hc => by simp at hc; have := lt_r18 b hb; omega)).ext eh47).ext eh51).ext eh55).mod mh59 (fun b hb hc => by simp at hc; have := lt_r18 b hb; omega)).mod mh63 (fun b hb hc => by simp at hc; have := lt_r18 b hb; omega)).ext eh69).ext eh73).mod mh76 (fun b hb hc => by simp at hc; have := lt_r18 b hb; omega)).ext eh83).ext eh87).mod mh90 (fun b hb hc => by simp at hc; have := lt_r18 b hb; omega)).ext eh96).ext eh100).ext eh105).ext eh110).ext eh115).ext eh121)
          have f152 := (((((((((((((((((((s_r32.ext eh37).mod mh40 (fun b hb hc => by simp at hc; have := lt_r32 b hb; omega)).ext eh47).ext eh51).ext eh55).mod mh59 (fun b hb hc => by simp at hc; have := lt_r32 b hb; omega)).mod mh63 (fun b hb hc => by simp at hc; have := lt_r32 b hb; omega)).ext eh69).ext eh73).mod mh76 (fun b hb hc => by simp at hc; have := lt_r32 b hb; omega)).ext eh83).ext eh87).mod mh90 (fun b hb hc => by simp at hc; have := lt_r32 b hb; omega)).ext eh96).ext eh100).ext eh105).ext eh110).ext eh115).ext eh121)
          have f153 := ((((f103.ext eh105).ext eh110).ext eh115).ext eh121)
          have f154 := (((s_r104.ext eh110).ext eh115).ext eh121)
          refine v_loop2 (α := Nat) (β := Int) (fun k e_ => [(5, .pointer (some ⟨b9, 0, none⟩)), (6, r5), (7, .pointer (some ⟨b22, 0, none⟩)), (8, .bool ((rgOut g2 g4).2)), (9, .pointer (some ⟨b36, 0, none⟩)), (17, r95), (20, r104), (23, r120), (24, .int .i64 ((pbOut ((pgOut g94).1)).2.1)), (25, .bool ((pbOut ((pgOut g94).1)).2.2)), (26, .int .i64 e_), (192, r95), (193, .int .i64 (g94.length : Int)), (194, .int .i64 (k : Int))]) (fun k e_ hh => Ext h hh ∧ Bx hh b9 [.int .i64 g2.phase, .int .i64 g2.holds, .int .i64 g2.again, .int .i64 g2.shown, r3] 25 ∧ Bx hh b22 [.int .i64 (((rgOut g2 g4).1).phase), .int .i64 (((rgOut g2 g4).1).holds), .int .i64 (((rgOut g2 g4).1).again), .int .i64 (((rgOut g2 g4).1).shown), r18] 25 ∧ Bx hh b36 [.int .i64 (((rgOut g2 g4).1).phase), .int .i64 (((rgOut g2 g4).1).holds), .int .i64 (((rgOut g2 g4).1).again), .int .i64 (((rgOut g2 g4).1).shown), r32] 25 ∧ SlO hh r3 g2.passed ∧ SlO hh r5 g4 ∧ SlO hh r18 (((rgOut g2 g4).1).passed) ∧ SlO hh r32 (((rgOut g2 g4).1).passed) ∧ SlO hh r95 g94 ∧ SlO hh r104 ((pgOut g94).1) ∧ SlO hh r120 ((pbOut ((pgOut g94).1)).1) ∧ k ≤ g94.length ∧ EndAt g94 k e_) (fun k e_ => g94.length - k) 0 (-1) ⟨rfl, rfl, rfl, rfl, rfl, rfl, rfl, rfl, rfl, rfl, rfl, rfl, rfl, rfl⟩ ⟨E122, f146, f147, f148, f149, f150, f151, f152, f153, f154, s_r120, (by exact ⟨by omega, .inl ⟨rfl, by simp⟩⟩)⟩ ?_
          rintro k e_ R155 h124 ⟨Eh, bxb9, bxb22, bxb36, s_r3, s_r5, s_r18, s_r32, s_r95, s_r104, s_r120, ⟨hk, he⟩⟩
          have zEh := Eh.size
          have f157 := s_code.ext Eh
          have f158 := s_more.ext Eh
          have ltk_r3 := s_r3.lt
          have ltk_r5 := s_r5.lt
          have lbb9 := bxb9.lt
          have ltk_r18 := s_r18.lt
          have lbb22 := bxb22.lt
          have ltk_r32 := s_r32.lt
          have lbb36 := bxb36.lt
          have ltk_r95 := s_r95.lt
          have ltk_r104 := s_r104.lt
          have ltk_r120 := s_r120.lt
          refine v_seq ?_
          refine v_ops ?_
          refine s_pure (.bool (decide ((k : Int) < (g94.length : Int)))) (fun _ q => q) ?_
          refine s_nil ?_
          refine p_seqN ?_
          refine v_seq ?_
          refine v_cond rfl (fun c159 => ?_) (fun c159 => ?_)
          ·
            refine v_skip ?_
            refine p_seqN ?_
            refine v_seq ?_
            refine v_block ?_
            refine v_seq ?_
            refine v_ops ?_
            refine s_pure (.int .i64 (k : Int)) (fun _ q => q) ?_
            have hk160 : k < g94.length := (by first | omega | (simp; omega))
            obtain ⟨x161, hx161⟩ : ∃ x, g94[k]? = some x := ⟨_, List.getElem?_eq_getElem hk160⟩
            refine s_pure (.pointer (some ⟨sblk r95, soff r95 + k * 1, none⟩)) (fun _ q => s_r95.idx (k := k) rfl hk160 q) ?_
            refine s_load (.int .i64 x161) (fun _ q => s_r95.load1 hx161 rfl q) ?_
            refine s_pure (.int .i64 (k : Int)) (fun _ q => q) ?_
            refine s_pure (.int .i64 x161) (fun _ q => q) ?_
            refine s_nil ?_
            refine p_seqN ?_
            refine v_seq ?_
            refine v_ops ?_
            refine s_pure (.int .i64 x161) (fun _ q => q) ?_
            refine s_pure (.bool (x161 == 61)) (fun _ q => q) ?_
            refine s_pure (.bool (x161 == 61)) (fun _ q => q) ?_
            refine s_splitT rfl (fun c162 => ?_) (fun c162 => ?_)
            ·
              refine s_run rfl ?_
              refine s_pure (.int .i64 e_) (fun _ q => q) ?_
              refine s_run rfl ?_
              refine s_pure (.bool (decide (e_ < 0))) (fun _ q => q) ?_
              refine s_pure (.bool (decide (e_ < 0))) (fun _ q => q) ?_
              refine s_nil ?_
              refine p_seqN ?_
              refine v_cond rfl (fun c163 => ?_) (fun c163 => ?_)
              ·
                refine v_ops ?_
                refine s_pure (.int .i64 (k : Int)) (fun _ q => q) ?_
                refine s_pure (.int .i64 (k : Int)) (fun _ q => q) ?_
                refine s_nil ?_
                refine p_blkN ?_
                refine p_seqN ?_
                refine v_ops ?_
                refine s_pure (.int .i64 ((k : Int) + 1)) (fun _ q => ArithVC.mk (by omega) q) ?_
                refine s_pure (.int .i64 ((k : Int) + 1)) (fun _ q => q) ?_
                refine s_nil ?_
                exact p_lpN ⟨k + 1, (k : Int), ⟨rfl, rfl, rfl, rfl, rfl, rfl, rfl, rfl, rfl, rfl, rfl, rfl, rfl, rfl⟩, ⟨Eh, bxb9, bxb22, bxb36, s_r3, s_r5, s_r18, s_r32, s_r95, s_r104, s_r120, (by first | exact ⟨by omega, end_no he (by assumption) (.inl (by first | assumption | omega))⟩ | exact ⟨by omega, end_no he (by assumption) (.inr (by first | assumption | omega))⟩ | exact ⟨by omega, end_yes he (by assumption) (by assumption) (by omega)⟩)⟩, by omega⟩
              ·
                refine v_skip ?_
                refine p_blkN ?_
                refine p_seqN ?_
                refine v_ops ?_
                refine s_pure (.int .i64 ((k : Int) + 1)) (fun _ q => ArithVC.mk (by omega) q) ?_
                refine s_pure (.int .i64 ((k : Int) + 1)) (fun _ q => q) ?_
                refine s_nil ?_
                exact p_lpN ⟨k + 1, e_, ⟨rfl, rfl, rfl, rfl, rfl, rfl, rfl, rfl, rfl, rfl, rfl, rfl, rfl, rfl⟩, ⟨Eh, bxb9, bxb22, bxb36, s_r3, s_r5, s_r18, s_r32, s_r95, s_r104, s_r120, (by first | exact ⟨by omega, end_no he (by assumption) (.inl (by first | assumption | omega))⟩ | exact ⟨by omega, end_no he (by assumption) (.inr (by first | assumption | omega))⟩ | exact ⟨by omega, end_yes he (by assumption) (by assumption) (by omega)⟩)⟩, by omega⟩
            ·
              refine s_pass rfl ?_
              refine s_pass rfl ?_
              refine s_pure (.bool false) (fun _ q => q) ?_
              refine s_nil ?_
              refine p_seqN ?_
              refine v_condN rfl (by simp) ?_
              refine v_skip ?_
              refine p_blkN ?_
              refine p_seqN ?_
              refine v_ops ?_
              refine s_pure (.int .i64 ((k : Int) + 1)) (fun _ q => ArithVC.mk (by omega) q) ?_
              refine s_pure (.int .i64 ((k : Int) + 1)) (fun _ q => q) ?_
              refine s_nil ?_
              exact p_lpN ⟨k + 1, e_, ⟨rfl, rfl, rfl, rfl, rfl, rfl, rfl, rfl, rfl, rfl, rfl, rfl, rfl, rfl⟩, ⟨Eh, bxb9, bxb22, bxb36, s_r3, s_r5, s_r18, s_r32, s_r95, s_r104, s_r120, (by first | exact ⟨by omega, end_no he (by assumption) (.inl (by first | assumption | omega))⟩ | exact ⟨by omega, end_no he (by assumption) (.inr (by first | assumption | omega))⟩ | exact ⟨by omega, end_yes he (by assumption) (by assumption) (by omega)⟩)⟩, by omega⟩
          ·
            have hE := hp4 e_ (end_all he (by omega) (by omega))
            refine v_exit ?_
            refine p_seqX ?_
            refine p_lpX ?_
            refine p_blkX ?_
            refine p_seqN ?_
            refine v_seqM1 [(5, .pointer (some ⟨b9, 0, none⟩)), (6, r5), (7, .pointer (some ⟨b22, 0, none⟩)), (8, .bool ((rgOut g2 g4).2)), (9, .pointer (some ⟨b36, 0, none⟩)), (17, r95), (23, r120), (24, .int .i64 ((pbOut ((pgOut g94).1)).2.1)), (26, .int .i64 e_)] (fun R165 h166 eh166 => ?_) (fun M164 => ?_)
            ·
              have E167 := Eh.trans eh166
              have z168 := eh166.size
              refine v_seq ?_
              refine v_ops ?_
              refine s_pure (.int .i64 e_) (fun _ q => q) ?_
              refine s_pure (.bool (decide (e_ < 0))) (fun _ q => q) ?_
              refine s_pure (.bool (decide (e_ < 0))) (fun _ q => q) ?_
              refine s_splitT rfl (fun c169 => ?_) (fun c169 => ?_)
              ·
                obtain ⟨hEd, hEf⟩ := hE.1 (by omega)
                refine s_run rfl ?_
                refine s_pure r120 (fun _ q => q) ?_
                refine s_run rfl ?_
                refine s_pure r95 (fun _ q => q) ?_
                refine s_run rfl ?_
                have f171 := (s_r120.ext eh166)
                have f172 := (s_r95.ext eh166)
                refine s_call [r120, r95] rfl (laws_qInts_ok r120 ((pbOut ((pgOut g94).1)).1) r95 g94 _ f171.toSl f172.toSl) ?_
                rintro _ h170 ⟨rfl, eh170⟩
                have E173 := E167.trans eh170
                have z174 := eh170.size
                refine s_run rfl ?_
                refine s_pure (.bool (!(decide (((pbOut ((pgOut g94).1)).1) = g94)))) (fun _ q => q) ?_
                refine s_run rfl ?_
                refine s_pure (.bool (!(decide (((pbOut ((pgOut g94).1)).1) = g94)))) (fun _ q => q) ?_
                refine s_splitT rfl (fun c175 => ?_) (fun c175 => ?_)
                ·
                  refine s_pass rfl ?_
                  refine s_pass rfl ?_
                  refine s_run rfl ?_
                  refine s_pure (.bool true) (fun _ q => q) ?_
                  refine s_pure (.bool true) (fun _ q => q) ?_
                  refine s_pure (.bool true) (fun _ q => q) ?_
                  refine s_splitY rfl rfl ?_
                  refine s_pass rfl ?_
                  refine s_pass rfl ?_
                  refine s_pass rfl ?_
                  refine s_splitU rfl ?_
                  refine s_passU rfl ?_
                  refine s_passU rfl ?_
                  refine s_passU rfl ?_
                  refine s_passU rfl ?_
                  refine s_passU rfl ?_
                  refine s_passU rfl ?_
                  refine s_passU rfl ?_
                  refine s_passU rfl ?_
                  refine s_splitU rfl ?_
                  refine s_passU rfl ?_
                  refine s_passU rfl ?_
                  refine s_passU rfl ?_
                  refine s_pass rfl ?_
                  refine s_pure (.bool true) (fun _ q => q) ?_
                  refine s_nil ?_
                  refine p_seqN ?_
                  refine v_condY rfl rfl ?_
                  refine v_seq ?_
                  refine v_ops ?_
                  refine s_pure (.bool false) (fun _ q => q) ?_
                  refine s_nil ?_
                  refine p_seqN ?_
                  refine v_ret ?_
                  refine p_seqR ?_
                  refine p_ret [.bool false] (.bool false) (fun _ q => q) rfl ?_
                  have ho : true = false := by first | rfl | exact (decide_eq_true (rg_rep (by assumption))).symm | (exfalso; first | omega | exact absurd hk1 (by assumption) | exact absurd hk4 (by assumption) | (have q_ := hk5 (by omega); simp_all; done) | exact absurd (hE.1 (by omega)).1 (by assumption) | exact absurd hEa (by assumption) | (have q_ := hE.1 (by omega); simp_all; done) | (rw [hp3] at *; simp_all; done) | (have q_ := now_ok hr1 hr2 hr3 (by assumption) hq; simp_all; done) | exact absurd (same_of hr4 hq (by assumption)) (by assumption) | (simp_all; done))
                  exact ⟨by first | (rw [ho]; done) | rfl, E173⟩
                ·
                  have c175 := Classical.not_not.1 c175
                  refine s_run rfl ?_
                  refine s_pure (.int .i64 ((pbOut ((pgOut g94).1)).2.1)) (fun _ q => q) ?_
                  refine s_run rfl ?_
                  refine s_pure (.bool ((pbOut ((pgOut g94).1)).2.1 != 0)) (fun _ q => q) ?_
                  refine s_run rfl ?_
                  refine s_pure (.bool ((pbOut ((pgOut g94).1)).2.1 != 0)) (fun _ q => q) ?_
                  refine s_pure (.bool ((pbOut ((pgOut g94).1)).2.1 != 0)) (fun _ q => q) ?_
                  refine s_pure (.bool ((pbOut ((pgOut g94).1)).2.1 != 0)) (fun _ q => q) ?_
                  refine s_splitT rfl (fun c176 => ?_) (fun c176 => ?_)
                  ·
                    refine s_pass rfl ?_
                    refine s_pass rfl ?_
                    refine s_pass rfl ?_
                    refine s_splitU rfl ?_
                    refine s_passU rfl ?_
                    refine s_passU rfl ?_
                    refine s_passU rfl ?_
                    refine s_passU rfl ?_
                    refine s_passU rfl ?_
                    refine s_passU rfl ?_
                    refine s_passU rfl ?_
                    refine s_passU rfl ?_
                    refine s_splitU rfl ?_
                    refine s_passU rfl ?_
                    refine s_passU rfl ?_
                    refine s_passU rfl ?_
                    refine s_pass rfl ?_
                    refine s_pure (.bool true) (fun _ q => q) ?_
                    refine s_nil ?_
                    refine p_seqN ?_
                    refine v_condY rfl rfl ?_
                    refine v_seq ?_
                    refine v_ops ?_
                    refine s_pure (.bool false) (fun _ q => q) ?_
                    refine s_nil ?_
                    refine p_seqN ?_
                    refine v_ret ?_
                    refine p_seqR ?_
                    refine p_ret [.bool false] (.bool false) (fun _ q => q) rfl ?_
                    have ho : true = false := by first | rfl | exact (decide_eq_true (rg_rep (by assumption))).symm | (exfalso; first | omega | exact absurd hk1 (by assumption) | exact absurd hk4 (by assumption) | (have q_ := hk5 (by omega); simp_all; done) | exact absurd (hE.1 (by omega)).1 (by assumption) | exact absurd hEa (by assumption) | (have q_ := hE.1 (by omega); simp_all; done) | (rw [hp3] at *; simp_all; done) | (have q_ := now_ok hr1 hr2 hr3 (by assumption) hq; simp_all; done) | exact absurd (same_of hr4 hq (by assumption)) (by assumption) | (simp_all; done))
                    exact ⟨by first | (rw [ho]; done) | rfl, E173⟩
                  ·
                    have c176 := Classical.not_not.1 c176
                    refine s_run rfl ?_
                    refine s_pure (.int .i64 e_) (fun _ q => q) ?_
                    refine s_run rfl ?_
                    refine s_pure (.bool (decide (e_ ≥ 0))) (fun _ q => q) ?_
                    refine s_run rfl ?_
                    refine s_pure (.bool (decide (e_ ≥ 0))) (fun _ q => q) ?_
                    refine s_splitT rfl (fun c177 => ?_) (fun c177 => ?_)
                    ·
                      obtain ⟨hEa, hEb, hEc⟩ := hE.2 (by omega)
                      refine s_run rfl ?_
                      refine s_pure r120 (fun _ q => q) ?_
                      refine s_run rfl ?_
                      refine s_pure r95 (fun _ q => q) ?_
                      refine s_run rfl ?_
                      refine s_pure (.int .i64 e_) (fun _ q => q) ?_
                      refine s_run rfl ?_
                      refine s_pure (.int .i64 (e_ + 1)) (fun _ q => ArithVC.mk (by omega) q) ?_
                      refine s_run rfl ?_
                      have f178 := (f172.ext eh170)
                      obtain ⟨r179, hqr179, s_r179, bk_r179⟩ := f178.toSl.slc (l := 0) (m := ((e_ + 1)).toNat) (by first | omega | (simp; omega)) (by first | omega | (simp; omega))
                      simp only [List.drop_zero] at s_r179
                      have lt_r179 := s_r179.lt
                      refine s_pure r179 (fun K q => hqr179 _ rfl none (some (.int .i64 (e_ + 1))) rfl ⟨_, _, rfl, (by omega)⟩ K q) ?_
                      refine s_run rfl ?_
                      have f181 := (f171.ext eh170)
                      refine s_call [r120, r179] rfl (laws_qInts_ok r120 ((pbOut ((pgOut g94).1)).1) r179 (g94.take (((e_ + 1)).toNat)) _ f181.toSl s_r179) ?_
                      rintro _ h180 ⟨rfl, eh180⟩
                      have E182 := E173.trans eh180
                      have z183 := eh180.size
                      refine s_run rfl ?_
                      refine s_pure (.bool (!(decide (((pbOut ((pgOut g94).1)).1) = (g94.take (((e_ + 1)).toNat)))))) (fun _ q => q) ?_
                      refine s_run rfl ?_
                      refine s_pure (.bool (!(decide (((pbOut ((pgOut g94).1)).1) = (g94.take (((e_ + 1)).toNat)))))) (fun _ q => q) ?_
                      refine s_splitT rfl (fun c184 => ?_) (fun c184 => ?_)
                      ·
                        refine s_pass rfl ?_
                        refine s_pass rfl ?_
                        refine s_run rfl ?_
                        refine s_pure (.bool true) (fun _ q => q) ?_
                        refine s_run rfl ?_
                        refine s_pure (.bool true) (fun _ q => q) ?_
                        refine s_pure (.bool true) (fun _ q => q) ?_
                        refine s_nil ?_
                        refine p_seqN ?_
                        refine v_condY rfl rfl ?_
                        refine v_seq ?_
                        refine v_ops ?_
                        refine s_pure (.bool false) (fun _ q => q) ?_
                        refine s_nil ?_
                        refine p_seqN ?_
                        refine v_ret ?_
                        refine p_seqR ?_
                        refine p_ret [.bool false] (.bool false) (fun _ q => q) rfl ?_
                        have ho : true = false := by first | rfl | exact (decide_eq_true (rg_rep (by assumption))).symm | (exfalso; first | omega | exact absurd hk1 (by assumption) | exact absurd hk4 (by assumption) | (have q_ := hk5 (by omega); simp_all; done) | exact absurd (hE.1 (by omega)).1 (by assumption) | exact absurd hEa (by assumption) | (have q_ := hE.1 (by omega); simp_all; done) | (rw [hp3] at *; simp_all; done) | (have q_ := now_ok hr1 hr2 hr3 (by assumption) hq; simp_all; done) | exact absurd (same_of hr4 hq (by assumption)) (by assumption) | (simp_all; done))
                        exact ⟨by first | (rw [ho]; done) | rfl, E182⟩
                      ·
                        have c184 := Classical.not_not.1 c184
                        refine s_run rfl ?_
                        refine s_pure (.int .i64 ((pbOut ((pgOut g94).1)).2.1)) (fun _ q => q) ?_
                        refine s_run rfl ?_
                        refine s_pure (.bool ((pbOut ((pgOut g94).1)).2.1 != 3)) (fun _ q => q) ?_
                        refine s_run rfl ?_
                        refine s_pure (.bool ((pbOut ((pgOut g94).1)).2.1 != 3)) (fun _ q => q) ?_
                        refine s_run rfl ?_
                        refine s_pure (.bool ((pbOut ((pgOut g94).1)).2.1 != 3)) (fun _ q => q) ?_
                        refine s_pure (.bool ((pbOut ((pgOut g94).1)).2.1 != 3)) (fun _ q => q) ?_
                        refine s_nil ?_
                        refine p_seqN ?_
                        refine v_condY rfl (by first | assumption | omega | (simp; done) | (simp; omega) | simp_all) ?_
                        refine v_seq ?_
                        refine v_ops ?_
                        refine s_pure (.bool false) (fun _ q => q) ?_
                        refine s_nil ?_
                        refine p_seqN ?_
                        refine v_ret ?_
                        refine p_seqR ?_
                        refine p_ret [.bool false] (.bool false) (fun _ q => q) rfl ?_
                        have ho : true = false := by first | rfl | exact (decide_eq_true (rg_rep (by assumption))).symm | (exfalso; first | omega | exact absurd hk1 (by assumption) | exact absurd hk4 (by assumption) | (have q_ := hk5 (by omega); simp_all; done) | exact absurd (hE.1 (by omega)).1 (by assumption) | exact absurd hEa (by assumption) | (have q_ := hE.1 (by omega); simp_all; done) | (rw [hp3] at *; simp_all; done) | (have q_ := now_ok hr1 hr2 hr3 (by assumption) hq; simp_all; done) | exact absurd (same_of hr4 hq (by assumption)) (by assumption) | (simp_all; done))
                        exact ⟨by first | (rw [ho]; done) | rfl, E182⟩
                    ·
                      refine s_pass rfl ?_
                      refine s_pass rfl ?_
                      refine s_pass rfl ?_
                      refine s_pass rfl ?_
                      refine s_pass rfl ?_
                      refine s_pass rfl ?_
                      refine s_pass rfl ?_
                      refine s_pass rfl ?_
                      refine s_splitU rfl ?_
                      refine s_passU rfl ?_
                      refine s_passU rfl ?_
                      refine s_pass rfl ?_
                      refine s_run rfl ?_
                      refine s_pure (.bool false) (fun _ q => q) ?_
                      refine s_pure (.bool false) (fun _ q => q) ?_
                      refine s_nil ?_
                      refine p_seqN ?_
                      refine v_condN rfl (by simp) ?_
                      refine v_skip ?_
                      refine p_seqN ?_
                      refine v_seq ?_
                      refine v_seq ?_
                      refine v_ops ?_
                      refine s_pure (.bool ((rgOut g2 g4).2)) (fun _ q => q) ?_
                      refine s_pure (.bool (!(rgOut g2 g4).2)) (fun _ q => q) ?_
                      refine s_nil ?_
                      refine p_seqN ?_
                      refine v_cond rfl (fun c185 => ?_) (fun c185 => ?_)
                      ·
                        refine v_seq ?_
                        refine v_ops ?_
                        refine s_pure (.bool true) (fun _ q => q) ?_
                        refine s_nil ?_
                        refine p_seqN ?_
                        refine v_ret ?_
                        refine p_seqR ?_
                        refine p_ret [.bool true] (.bool true) (fun _ q => q) rfl ?_
                        have ho : true = true := by first | rfl | exact (decide_eq_true (rg_rep (by assumption))).symm | (exfalso; first | omega | exact absurd hk1 (by assumption) | exact absurd hk4 (by assumption) | (have q_ := hk5 (by omega); simp_all; done) | exact absurd (hE.1 (by omega)).1 (by assumption) | exact absurd hEa (by assumption) | (have q_ := hE.1 (by omega); simp_all; done) | (rw [hp3] at *; simp_all; done) | (have q_ := now_ok hr1 hr2 hr3 (by assumption) hq; simp_all; done) | exact absurd (same_of hr4 hq (by assumption)) (by assumption) | (simp_all; done))
                        exact ⟨by first | (rw [ho]; done) | rfl, E173⟩
                      ·
                        have c185 := Classical.not_not.1 c185
                        obtain ⟨hr1, hr2, hr3, hr4⟩ := rg_good c185
                        refine v_skip ?_
                        refine p_seqN ?_
                        refine v_seq ?_
                        refine v_ops ?_
                        have f186 := ((bxb9.ext eh166).ext eh170)
                        refine s_load (.agg #[.int .i64 g2.phase, .int .i64 g2.holds, .int .i64 g2.again, .int .i64 g2.shown, r3]) (fun _ q => f186.loadA rfl q) ?_
                        refine s_new (fun h188 b187 hbb187 hzb187 eh188 bxb187 => ?_)
                        have E189 := E173.trans eh188
                        have z190 := eh188.size
                        have lbb187 := bxb187.lt
                        refine s_stBx (.agg #[.int .i64 g2.phase, .int .i64 g2.holds, .int .i64 g2.again, .int .i64 g2.shown, r3]) [.int .i64 g2.phase, .int .i64 g2.holds, .int .i64 g2.again, .int .i64 g2.shown, r3] [.int .i64 g2.phase, .int .i64 g2.holds, .int .i64 g2.again, .int .i64 g2.shown, r3] bxb187 rfl rfl rfl rfl (by simp) (all_cons rfl (all_cons rfl (all_cons rfl (all_cons rfl (all_cons s_r3.one1 all_nil))))) rfl (fun h191 mh191 sh191 bxx192 => ?_)
                        have E193 := E189.mod mh191 (fun b hb => by simp at hb; omega)
                        refine s_nil ?_
                        refine p_seqN ?_
                        refine v_seq ?_
                        refine v_seq ?_
                        refine v_ops ?_
                        refine s_pure r5 (fun _ q => q) ?_
                        refine s_pure (.int .i64 (g4.length : Int)) (fun _ q => s_r5.lenVC q) ?_
                        refine s_pure (.int .i64 0) (fun _ q => q) ?_
                        refine s_nil ?_
                        refine p_seqN ?_
                        refine v_block ?_
                        have nk195 : b187 ∉ blks r18 := (fun hc => by have := ltk_r18 _ hc; have := lt_r18 _ hc; omega)
                        have nk196 : b187 ∉ blks r32 := (fun hc => by have := ltk_r32 _ hc; have := lt_r32 _ hc; omega)
                        have nk197 : b187 ∉ blks r5 := (fun hc => by have := ltk_r5 _ hc; have := lt_r5 _ hc; omega)
                        have f198 := ((((bxb22.ext eh166).ext eh170).ext eh188).mod mh191 (by simp; omega))
                        have f199 := ((((bxb36.ext eh166).ext eh170).ext eh188).mod mh191 (by simp; omega))
                        have f200 := ((((s_r18.ext eh166).ext eh170).ext eh188).mod mh191 (fun b hb hc => by simp at hc; have := ltk_r18 b hb; have := lt_r18 b hb; omega))
                        have f201 := ((((s_r32.ext eh166).ext eh170).ext eh188).mod mh191 (fun b hb hc => by simp at hc; have := ltk_r32 b hb; have := lt_r32 b hb; omega))
                        have f202 := ((((s_r3.ext eh166).ext eh170).ext eh188).mod mh191 (fun b hb hc => by simp at hc; have := ltk_r3 b hb; have := lt_r3 b hb; omega))
                        have f203 := ((((s_r5.ext eh166).ext eh170).ext eh188).mod mh191 (fun b hb hc => by simp at hc; have := ltk_r5 b hb; have := lt_r5 b hb; omega))
                        refine v_loop3 (α := Nat) (β := RepP) (γ := Value) (fun k q v => [(7, .pointer (some ⟨b22, 0, none⟩)), (9, .pointer (some ⟨b36, 0, none⟩)), (29, .pointer (some ⟨b187, 0, none⟩)), (249, r5), (250, .int .i64 (g4.length : Int)), (251, .int .i64 (k : Int))]) (fun k q v hh => Ext h hh ∧ Bx hh b22 [.int .i64 (((rgOut g2 g4).1).phase), .int .i64 (((rgOut g2 g4).1).holds), .int .i64 (((rgOut g2 g4).1).again), .int .i64 (((rgOut g2 g4).1).shown), r18] 25 ∧ Bx hh b36 [.int .i64 (((rgOut g2 g4).1).phase), .int .i64 (((rgOut g2 g4).1).holds), .int .i64 (((rgOut g2 g4).1).again), .int .i64 (((rgOut g2 g4).1).shown), r32] 25 ∧ Bx hh b187 [.int .i64 q.phase, .int .i64 q.holds, .int .i64 q.again, .int .i64 q.shown, v] 25 ∧ SlO hh r18 (((rgOut g2 g4).1).passed) ∧ SlO hh r32 (((rgOut g2 g4).1).passed) ∧ SlO hh v q.passed ∧ Fr h.size v ∧ SlO hh r5 g4 ∧ b22 ∉ blks v ∧ b36 ∉ blks v ∧ b187 ∉ blks v ∧ (∀ b ∈ blks r18, b ∉ blks v) ∧ (∀ b ∈ blks r32, b ∉ blks v) ∧ (∀ b ∈ blks r5, b ∉ blks v) ∧ k ≤ g4.length ∧ q = run g2 (g4.take k)) (fun k q v => g4.length - k) 0 g2 r3 ⟨rfl, rfl, rfl, rfl, rfl, rfl⟩ ⟨E193, f198, f199, bxx192, f200, f201, (sl_eq f202 (by simp)), (fr_r3.mono (by omega)), f203, nk126, nk127, (fun hc => by have := ltk_r3 _ hc; have := lt_r3 _ hc; omega), (fun b hb hc => by have := fr_r18 b hb; have := ltk_r3 b hc; have := lt_r3 b hc; omega), (fun b hb hc => by have := fr_r32 b hb; have := ltk_r3 b hc; have := lt_r3 b hc; omega), (fun b hb hc => ap_r3_r5 b hc hb), (by exact ⟨by omega, rfl⟩)⟩ ?_
                        rintro k q v R204 h194 ⟨Eh, bxb22, bxb36, bxb187, s_r18, s_r32, s_v, fr_v, s_r5, np_b22_v, np_b36_v, np_b187_v, np_r18_v, np_r32_v, np_r5_v, ⟨hk, hq⟩⟩
                        have zEh := Eh.size
                        have f206 := s_code.ext Eh
                        have f207 := s_more.ext Eh
                        have ltk_r5 := s_r5.lt
                        have ltk_r18 := s_r18.lt
                        have lbb22 := bxb22.lt
                        have ltk_r32 := s_r32.lt
                        have lbb36 := bxb36.lt
                        have lbb187 := bxb187.lt
                        have lt_v := s_v.lt
                        refine v_seq ?_
                        refine v_ops ?_
                        refine s_pure (.bool (decide ((k : Int) < (g4.length : Int)))) (fun _ q => q) ?_
                        refine s_nil ?_
                        refine p_seqN ?_
                        refine v_seq ?_
                        refine v_cond rfl (fun c208 => ?_) (fun c208 => ?_)
                        ·
                          refine v_skip ?_
                          refine p_seqN ?_
                          refine v_seq ?_
                          refine v_block ?_
                          refine v_seq ?_
                          refine v_ops ?_
                          have hk209 : k < g4.length := (by first | omega | (simp; omega))
                          obtain ⟨x210, hx210⟩ : ∃ x, g4[k]? = some x := ⟨_, List.getElem?_eq_getElem hk209⟩
                          refine s_pure (.pointer (some ⟨sblk r5, soff r5 + k * 2, none⟩)) (fun _ q => s_r5.idx (k := k) rfl hk209 q) ?_
                          refine s_load (.agg #[.bool x210.next, .int .i64 x210.signal]) (fun _ q => s_r5.loadN hx210 rfl q) ?_
                          refine s_new (fun h212 b211 hbb211 hzb211 eh212 bxb211 => ?_)
                          have E213 := Eh.trans eh212
                          have z214 := eh212.size
                          have lbb211 := bxb211.lt
                          refine s_stBx (.agg #[.bool x210.next, .int .i64 x210.signal]) [.bool x210.next, .int .i64 x210.signal] [.bool x210.next, .int .i64 x210.signal] bxb211 rfl rfl rfl rfl (by simp) (all_cons rfl (all_cons rfl all_nil)) rfl (fun h215 mh215 sh215 bxx216 => ?_)
                          have E217 := E213.mod mh215 (fun b hb => by simp at hb; omega)
                          refine s_nil ?_
                          refine p_seqN ?_
                          refine v_seq ?_
                          refine v_ops ?_
                          have f218 := ((bxb187.ext eh212).mod mh215 (by simp; omega))
                          refine s_load (.agg #[.int .i64 q.phase, .int .i64 q.holds, .int .i64 q.again, .int .i64 q.shown, v]) (fun _ q => f218.loadA rfl q) ?_
                          refine s_load (.agg #[.bool x210.next, .int .i64 x210.signal]) (fun _ q => bxx216.loadA rfl q) ?_
                          have f219 := ((s_v.ext eh212).mod mh215 (fun b hb hc => by simp at hc; have := lt_v b hb; omega))
                          refine s_call [.agg #[.int .i64 q.phase, .int .i64 q.holds, .int .i64 q.again, .int .i64 q.shown, v], .agg #[.bool x210.next, .int .i64 x210.signal]] rfl (impl_GlanceAt_ok q v x210 _ f219.toSl) ?_
                          rintro _ h221 ⟨r220, rfl, s_r220, fr_r220, eh221⟩
                          have E222 := E217.trans eh221
                          have z223 := eh221.size
                          have lt_r220 := s_r220.lt
                          refine s_pure (.tuple #[.agg #[.int .i64 (((rgOut q [x210]).1).phase), .int .i64 (((rgOut q [x210]).1).holds), .int .i64 (((rgOut q [x210]).1).again), .int .i64 (((rgOut q [x210]).1).shown), r220], .bool ((rgOut q [x210]).2)]) (fun _ q => q) ?_
                          refine s_pure (.agg #[.int .i64 (((rgOut q [x210]).1).phase), .int .i64 (((rgOut q [x210]).1).holds), .int .i64 (((rgOut q [x210]).1).again), .int .i64 (((rgOut q [x210]).1).shown), r220]) (fun _ q => q) ?_
                          refine s_pure (.bool ((rgOut q [x210]).2)) (fun _ q => q) ?_
                          refine s_new (fun h225 b224 hbb224 hzb224 eh225 bxb224 => ?_)
                          have E226 := E222.trans eh225
                          have z227 := eh225.size
                          have lbb224 := bxb224.lt
                          refine s_stBx (.agg #[.int .i64 (((rgOut q [x210]).1).phase), .int .i64 (((rgOut q [x210]).1).holds), .int .i64 (((rgOut q [x210]).1).again), .int .i64 (((rgOut q [x210]).1).shown), r220]) [.int .i64 (((rgOut q [x210]).1).phase), .int .i64 (((rgOut q [x210]).1).holds), .int .i64 (((rgOut q [x210]).1).again), .int .i64 (((rgOut q [x210]).1).shown), r220] [.int .i64 (((rgOut q [x210]).1).phase), .int .i64 (((rgOut q [x210]).1).holds), .int .i64 (((rgOut q [x210]).1).again), .int .i64 (((rgOut q [x210]).1).shown), r220] bxb224 rfl rfl rfl rfl (by simp) (all_cons rfl (all_cons rfl (all_cons rfl (all_cons rfl (all_cons s_r220.one1 all_nil))))) rfl (fun h228 mh228 sh228 bxx229 => ?_)
                          have E230 := E226.mod mh228 (fun b hb => by simp at hb; omega)
                          refine s_pure (.bool ((rgOut q [x210]).2)) (fun _ q => q) ?_
                          refine s_nil ?_
                          refine p_seqN ?_
                          refine v_seq ?_
                          refine v_ops ?_
                          have f231 := (((f218.ext eh221).ext eh225).mod mh228 (by simp; omega))
                          refine s_load (.agg #[.int .i64 q.phase, .int .i64 q.holds, .int .i64 q.again, .int .i64 q.shown, v]) (fun _ q => f231.loadA rfl q) ?_
                          have f232 := (((bxx216.ext eh221).ext eh225).mod mh228 (by simp; omega))
                          refine s_load (.agg #[.bool x210.next, .int .i64 x210.signal]) (fun _ q => f232.loadA rfl q) ?_
                          have f233 := (((f219.ext eh221).ext eh225).mod mh228 (fun b hb hc => by simp at hc; have := lt_v b hb; omega))
                          refine s_call [.agg #[.int .i64 q.phase, .int .i64 q.holds, .int .i64 q.again, .int .i64 q.shown, v], .agg #[.bool x210.next, .int .i64 x210.signal]] rfl (spec_GlanceAt_ok q v x210 _ f233.toSl) ?_
                          rintro _ h235 ⟨r234, rfl, s_r234, fr_r234, eh235⟩
                          have E236 := E230.trans eh235
                          have z237 := eh235.size
                          have lt_r234 := s_r234.lt
                          refine s_pure (.tuple #[.agg #[.int .i64 (((rgOut q [x210]).1).phase), .int .i64 (((rgOut q [x210]).1).holds), .int .i64 (((rgOut q [x210]).1).again), .int .i64 (((rgOut q [x210]).1).shown), r234], .bool ((rgOut q [x210]).2)]) (fun _ q => q) ?_
                          refine s_pure (.agg #[.int .i64 (((rgOut q [x210]).1).phase), .int .i64 (((rgOut q [x210]).1).holds), .int .i64 (((rgOut q [x210]).1).again), .int .i64 (((rgOut q [x210]).1).shown), r234]) (fun _ q => q) ?_
                          refine s_pure (.bool ((rgOut q [x210]).2)) (fun _ q => q) ?_
                          refine s_new (fun h239 b238 hbb238 hzb238 eh239 bxb238 => ?_)
                          have E240 := E236.trans eh239
                          have z241 := eh239.size
                          have lbb238 := bxb238.lt
                          refine s_stBx (.agg #[.int .i64 (((rgOut q [x210]).1).phase), .int .i64 (((rgOut q [x210]).1).holds), .int .i64 (((rgOut q [x210]).1).again), .int .i64 (((rgOut q [x210]).1).shown), r234]) [.int .i64 (((rgOut q [x210]).1).phase), .int .i64 (((rgOut q [x210]).1).holds), .int .i64 (((rgOut q [x210]).1).again), .int .i64 (((rgOut q [x210]).1).shown), r234] [.int .i64 (((rgOut q [x210]).1).phase), .int .i64 (((rgOut q [x210]).1).holds), .int .i64 (((rgOut q [x210]).1).again), .int .i64 (((rgOut q [x210]).1).shown), r234] bxb238 rfl rfl rfl rfl (by simp) (all_cons rfl (all_cons rfl (all_cons rfl (all_cons rfl (all_cons s_r234.one1 all_nil))))) rfl (fun h242 mh242 sh242 bxx243 => ?_)
                          have E244 := E240.mod mh242 (fun b hb => by simp at hb; omega)
                          refine s_pure (.bool ((rgOut q [x210]).2)) (fun _ q => q) ?_
                          refine s_nil ?_
                          refine p_seqN ?_
                          refine v_seqM1 [(7, .pointer (some ⟨b22, 0, none⟩)), (9, .pointer (some ⟨b36, 0, none⟩)), (29, .pointer (some ⟨b187, 0, none⟩)), (34, .pointer (some ⟨b238, 0, none⟩)), (249, r5), (250, .int .i64 (g4.length : Int)), (251, .int .i64 (k : Int))] (fun R246 h247 eh247 => ?_) (fun M245 => ?_)
                          ·
                            have E248 := E244.trans eh247
                            have z249 := eh247.size
                            refine v_ops ?_
                            have f250 := (bxx243.ext eh247)
                            refine s_load (.agg #[.int .i64 (((rgOut q [x210]).1).phase), .int .i64 (((rgOut q [x210]).1).holds), .int .i64 (((rgOut q [x210]).1).again), .int .i64 (((rgOut q [x210]).1).shown), r234]) (fun _ q => f250.loadA rfl q) ?_
                            have f251 := ((((f231.ext eh235).ext eh239).mod mh242 (by simp; omega)).ext eh247)
                            refine s_stBx (.agg #[.int .i64 (((rgOut q [x210]).1).phase), .int .i64 (((rgOut q [x210]).1).holds), .int .i64 (((rgOut q [x210]).1).again), .int .i64 (((rgOut q [x210]).1).shown), r234]) [.int .i64 (((rgOut q [x210]).1).phase), .int .i64 (((rgOut q [x210]).1).holds), .int .i64 (((rgOut q [x210]).1).again), .int .i64 (((rgOut q [x210]).1).shown), r234] [.int .i64 (((rgOut q [x210]).1).phase), .int .i64 (((rgOut q [x210]).1).holds), .int .i64 (((rgOut q [x210]).1).again), .int .i64 (((rgOut q [x210]).1).shown), r234] f251 rfl rfl rfl rfl (by simp) (all_cons rfl (all_cons rfl (all_cons rfl (all_cons rfl (all_cons s_r234.one1 all_nil))))) rfl (fun h252 mh252 sh252 bxx253 => ?_)
                            have E254 := E248.mod mh252 (fun b hb => by simp at hb; omega)
                            refine s_nil ?_
                            refine p_blkN ?_
                            refine p_seqN ?_
                            refine v_ops ?_
                            refine s_pure (.int .i64 ((k : Int) + 1)) (fun _ q => ArithVC.mk (by omega) q) ?_
                            refine s_pure (.int .i64 ((k : Int) + 1)) (fun _ q => q) ?_
                            refine s_nil ?_
                            have f255 := ((((((((((bxb22.ext eh212).mod mh215 (by simp; omega)).ext eh221).ext eh225).mod mh228 (by simp; omega)).ext eh235).ext eh239).mod mh242 (by simp; omega)).ext eh247).mod mh252 (by simp; omega))
                            have f256 := ((((((((((bxb36.ext eh212).mod mh215 (by simp; omega)).ext eh221).ext eh225).mod mh228 (by simp; omega)).ext eh235).ext eh239).mod mh242 (by simp; omega)).ext eh247).mod mh252 (by simp; omega))
                            have f257 := ((((((((((s_r18.ext eh212).mod mh215 (fun b hb hc => by simp at hc; have := ltk_r18 b hb; have := lt_r18 b hb; omega)).ext eh221).ext eh225).mod mh228 (fun b hb hc => by simp at hc; have := ltk_r18 b hb; have := lt_r18 b hb; omega)).ext eh235).ext eh239).mod mh242 (fun b hb hc => by simp at hc; have := ltk_r18 b hb; have := lt_r18 b hb; omega)).ext eh247).mod mh252 (fun b hb hc => nk195 (by simp at hc; rw [← hc]; exact hb)))
                            have f258 := ((((((((((s_r32.ext eh212).mod mh215 (fun b hb hc => by simp at hc; have := ltk_r32 b hb; have := lt_r32 b hb; omega)).ext eh221).ext eh225).mod mh228 (fun b hb hc => by simp at hc; have := ltk_r32 b hb; have := lt_r32 b hb; omega)).ext eh235).ext eh239).mod mh242 (fun b hb hc => by simp at hc; have := ltk_r32 b hb; have := lt_r32 b hb; omega)).ext eh247).mod mh252 (fun b hb hc => nk196 (by simp at hc; rw [← hc]; exact hb)))
                            have f259 := ((((s_r234.ext eh239).mod mh242 (fun b hb hc => by simp at hc; have := lt_r234 b hb; omega)).ext eh247).mod mh252 (fun b hb hc => by simp at hc; have := fr_r234 b hb; omega))
                            have f260 := ((((((((((s_r5.ext eh212).mod mh215 (fun b hb hc => by simp at hc; have := ltk_r5 b hb; have := lt_r5 b hb; omega)).ext eh221).ext eh225).mod mh228 (fun b hb hc => by simp at hc; have := ltk_r5 b hb; have := lt_r5 b hb; omega)).ext eh235).ext eh239).mod mh242 (fun b hb hc => by simp at hc; have := ltk_r5 b hb; have := lt_r5 b hb; omega)).ext eh247).mod mh252 (fun b hb hc => nk197 (by simp at hc; rw [← hc]; exact hb)))
                            exact p_lpN ⟨k + 1, ((rgOut q [x210]).1), r234, ⟨rfl, rfl, rfl, rfl, rfl, rfl⟩, ⟨E254, f255, f256, bxx253, f257, f258, (sl_eq f259 (by simp)), (fr_r234.mono (by omega)), f260, (fun hc => by have := fr_r234 _ hc; omega), (fun hc => by have := fr_r234 _ hc; omega), (fun hc => by have := fr_r234 _ hc; omega), (fun b hb hc => by have := ltk_r18 b hb; have := lt_r18 b hb; have := fr_r234 b hc; omega), (fun b hb hc => by have := ltk_r32 b hb; have := lt_r32 b hb; have := fr_r234 b hc; omega), (fun b hb hc => by have := ltk_r5 b hb; have := lt_r5 b hb; have := fr_r234 b hc; omega), (by exact ⟨by omega, by rw [now_ok hr1 hr2 hr3 (by assumption) hq]; exact run_step (by assumption) hq⟩)⟩, by omega⟩
                          ·
                            refine v_seq ?_
                            refine v_seq ?_
                            refine v_ops ?_
                            refine s_pure (.bool ((rgOut q [x210]).2)) (fun _ q => q) ?_
                            refine s_pure (.bool (!(rgOut q [x210]).2)) (fun _ q => q) ?_
                            refine s_pure (.bool (!(rgOut q [x210]).2)) (fun _ q => q) ?_
                            refine s_splitT rfl (fun c261 => ?_) (fun c261 => ?_)
                            ·
                              refine s_pass rfl ?_
                              refine s_pass rfl ?_
                              refine s_pure (.bool true) (fun _ q => q) ?_
                              refine s_pure (.bool true) (fun _ q => q) ?_
                              refine s_splitY rfl rfl ?_
                              refine s_pass rfl ?_
                              refine s_pass rfl ?_
                              refine s_pass rfl ?_
                              refine s_pass rfl ?_
                              refine s_pure (.bool true) (fun _ q => q) ?_
                              refine s_nil ?_
                              refine p_seqN ?_
                              refine v_condY rfl rfl ?_
                              refine v_seq ?_
                              refine v_ops ?_
                              refine s_pure (.bool false) (fun _ q => q) ?_
                              refine s_nil ?_
                              refine p_seqN ?_
                              refine v_ret ?_
                              refine p_seqR ?_
                              refine p_blkR ?_
                              refine p_seqR ?_
                              refine p_lpR ?_
                              refine p_blkR ?_
                              refine p_seqR ?_
                              refine p_ret [.bool false] (.bool false) (fun _ q => q) rfl ?_
                              have ho : true = false := by first | rfl | exact (decide_eq_true (rg_rep (by assumption))).symm | (exfalso; first | omega | exact absurd hk1 (by assumption) | exact absurd hk4 (by assumption) | (have q_ := hk5 (by omega); simp_all; done) | exact absurd (hE.1 (by omega)).1 (by assumption) | exact absurd hEa (by assumption) | (have q_ := hE.1 (by omega); simp_all; done) | (rw [hp3] at *; simp_all; done) | (have q_ := now_ok hr1 hr2 hr3 (by assumption) hq; simp_all; done) | exact absurd (same_of hr4 hq (by assumption)) (by assumption) | (simp_all; done))
                              exact ⟨by first | (rw [ho]; done) | rfl, E244⟩
                            ·
                              have c261 := Classical.not_not.1 c261
                              refine s_run rfl ?_
                              refine s_pure (.bool ((rgOut q [x210]).2)) (fun _ q => q) ?_
                              refine s_run rfl ?_
                              refine s_pure (.bool (!(rgOut q [x210]).2)) (fun _ q => q) ?_
                              refine s_pure (.bool (!(rgOut q [x210]).2)) (fun _ q => q) ?_
                              refine s_pure (.bool (!(rgOut q [x210]).2)) (fun _ q => q) ?_
                              refine s_splitN rfl (by first | assumption | omega | (simp; done) | (simp; omega) | simp_all) ?_
                              refine s_run rfl ?_
                              have f262 := (((bxx229.ext eh235).ext eh239).mod mh242 (by simp; omega))
                              refine s_load (.agg #[.int .i64 (((rgOut q [x210]).1).phase), .int .i64 (((rgOut q [x210]).1).holds), .int .i64 (((rgOut q [x210]).1).again), .int .i64 (((rgOut q [x210]).1).shown), r220]) (fun _ q => f262.loadA rfl q) ?_
                              refine s_run rfl ?_
                              refine s_load (.agg #[.int .i64 (((rgOut q [x210]).1).phase), .int .i64 (((rgOut q [x210]).1).holds), .int .i64 (((rgOut q [x210]).1).again), .int .i64 (((rgOut q [x210]).1).shown), r234]) (fun _ q => bxx243.loadA rfl q) ?_
                              refine s_run rfl ?_
                              have f264 := (((((s_r220.ext eh225).mod mh228 (fun b hb hc => by simp at hc; have := lt_r220 b hb; omega)).ext eh235).ext eh239).mod mh242 (fun b hb hc => by simp at hc; have := lt_r220 b hb; omega))
                              have f265 := ((s_r234.ext eh239).mod mh242 (fun b hb hc => by simp at hc; have := lt_r234 b hb; omega))
                              refine s_call [.agg #[.int .i64 (((rgOut q [x210]).1).phase), .int .i64 (((rgOut q [x210]).1).holds), .int .i64 (((rgOut q [x210]).1).again), .int .i64 (((rgOut q [x210]).1).shown), r220], .agg #[.int .i64 (((rgOut q [x210]).1).phase), .int .i64 (((rgOut q [x210]).1).holds), .int .i64 (((rgOut q [x210]).1).again), .int .i64 (((rgOut q [x210]).1).shown), r234]] rfl (laws_qRepeater_ok ((rgOut q [x210]).1) r220 ((rgOut q [x210]).1) r234 _ f264.toSl f265.toSl) ?_
                              rintro vh263 h263 ⟨hvh263, eh263⟩
                              obtain rfl : vh263 = .bool true := hvh263.trans (by rw [decide_eq_true (rep_refl _)])
                              have E266 := E244.trans eh263
                              have z267 := eh263.size
                              refine s_run rfl ?_
                              refine s_pure (.bool false) (fun _ q => q) ?_
                              refine s_pure (.bool false) (fun _ q => q) ?_
                              refine s_nil ?_
                              refine p_seqN ?_
                              refine v_condN rfl (by simp) ?_
                              refine v_skip ?_
                              refine p_seqN ?_
                              exact M245 _ _ ⟨rfl, rfl, rfl, rfl, rfl, rfl, rfl⟩ ((Ext.refl _).trans eh263)
                        ·
                          refine v_exit ?_
                          refine p_seqX ?_
                          refine p_lpX ?_
                          refine p_blkX ?_
                          refine p_seqN ?_
                          refine v_seq ?_
                          refine v_ops ?_
                          refine s_load (.agg #[.int .i64 q.phase, .int .i64 q.holds, .int .i64 q.again, .int .i64 q.shown, v]) (fun _ q => bxb187.loadA rfl q) ?_
                          refine s_load (.agg #[.int .i64 (((rgOut g2 g4).1).phase), .int .i64 (((rgOut g2 g4).1).holds), .int .i64 (((rgOut g2 g4).1).again), .int .i64 (((rgOut g2 g4).1).shown), r32]) (fun _ q => bxb36.loadA rfl q) ?_
                          refine s_call [.agg #[.int .i64 q.phase, .int .i64 q.holds, .int .i64 q.again, .int .i64 q.shown, v], .agg #[.int .i64 (((rgOut g2 g4).1).phase), .int .i64 (((rgOut g2 g4).1).holds), .int .i64 (((rgOut g2 g4).1).again), .int .i64 (((rgOut g2 g4).1).shown), r32]] rfl (laws_qRepeater_ok q v ((rgOut g2 g4).1) r32 _ s_v.toSl s_r32.toSl) ?_
                          rintro _ h268 ⟨rfl, eh268⟩
                          have E269 := Eh.trans eh268
                          have z270 := eh268.size
                          refine s_pure (.bool (decide (q.same ((rgOut g2 g4).1)))) (fun _ q => q) ?_
                          refine s_splitT rfl (fun c271 => ?_) (fun c271 => ?_)
                          ·
                            refine s_run rfl ?_
                            have f272 := (bxb22.ext eh268)
                            refine s_load (.agg #[.int .i64 (((rgOut g2 g4).1).phase), .int .i64 (((rgOut g2 g4).1).holds), .int .i64 (((rgOut g2 g4).1).again), .int .i64 (((rgOut g2 g4).1).shown), r18]) (fun _ q => f272.loadA rfl q) ?_
                            refine s_run rfl ?_
                            have f273 := (s_r18.ext eh268)
                            refine s_call [.agg #[.int .i64 (((rgOut g2 g4).1).phase), .int .i64 (((rgOut g2 g4).1).holds), .int .i64 (((rgOut g2 g4).1).again), .int .i64 (((rgOut g2 g4).1).shown), r18]] rfl (impl_IsRepeater_ok ((rgOut g2 g4).1) r18 _ f273.toSl) ?_
                            rintro _ h274 ⟨rfl, eh274⟩
                            have E275 := E269.trans eh274
                            have z276 := eh274.size
                            refine s_pure (.bool (decide (RepOk ((rgOut g2 g4).1)))) (fun _ q => q) ?_
                            refine s_pure (.bool (decide (RepOk ((rgOut g2 g4).1)))) (fun _ q => q) ?_
                            refine s_nil ?_
                            refine p_seqN ?_
                            refine v_ret ?_
                            refine p_ret [.bool (decide (RepOk ((rgOut g2 g4).1)))] (.bool (decide (RepOk ((rgOut g2 g4).1)))) (fun _ q => q) rfl ?_
                            have ho : true = decide (RepOk ((rgOut g2 g4).1)) := by first | rfl | exact (decide_eq_true (rg_rep (by assumption))).symm | (exfalso; first | omega | exact absurd hk1 (by assumption) | exact absurd hk4 (by assumption) | (have q_ := hk5 (by omega); simp_all; done) | exact absurd (hE.1 (by omega)).1 (by assumption) | exact absurd hEa (by assumption) | (have q_ := hE.1 (by omega); simp_all; done) | (rw [hp3] at *; simp_all; done) | (have q_ := now_ok hr1 hr2 hr3 (by assumption) hq; simp_all; done) | exact absurd (same_of hr4 hq (by assumption)) (by assumption) | (simp_all; done))
                            exact ⟨by first | (rw [ho]; done) | rfl, E275⟩
                          ·
                            refine s_pass rfl ?_
                            refine s_pass rfl ?_
                            refine s_pure (.bool false) (fun _ q => q) ?_
                            refine s_pure (.bool false) (fun _ q => q) ?_
                            refine s_nil ?_
                            refine p_seqN ?_
                            refine v_ret ?_
                            refine p_ret [.bool false] (.bool false) (fun _ q => q) rfl ?_
                            have ho : true = false := by first | rfl | exact (decide_eq_true (rg_rep (by assumption))).symm | (exfalso; first | omega | exact absurd hk1 (by assumption) | exact absurd hk4 (by assumption) | (have q_ := hk5 (by omega); simp_all; done) | exact absurd (hE.1 (by omega)).1 (by assumption) | exact absurd hEa (by assumption) | (have q_ := hE.1 (by omega); simp_all; done) | (rw [hp3] at *; simp_all; done) | (have q_ := now_ok hr1 hr2 hr3 (by assumption) hq; simp_all; done) | exact absurd (same_of hr4 hq (by assumption)) (by assumption) | (simp_all; done))
                            exact ⟨by first | (rw [ho]; done) | rfl, E269⟩
              ·
                refine s_pass rfl ?_
                refine s_pass rfl ?_
                refine s_pass rfl ?_
                refine s_pass rfl ?_
                refine s_pass rfl ?_
                refine s_splitU rfl ?_
                refine s_passU rfl ?_
                refine s_passU rfl ?_
                refine s_pass rfl ?_
                refine s_pure (.bool false) (fun _ q => q) ?_
                refine s_pure (.bool false) (fun _ q => q) ?_
                refine s_splitN rfl (by simp) ?_
                refine s_run rfl ?_
                refine s_pure (.int .i64 e_) (fun _ q => q) ?_
                refine s_run rfl ?_
                refine s_pure (.bool (decide (e_ ≥ 0))) (fun _ q => q) ?_
                refine s_run rfl ?_
                refine s_pure (.bool (decide (e_ ≥ 0))) (fun _ q => q) ?_
                refine s_splitT rfl (fun c277 => ?_) (fun c277 => ?_)
                ·
                  obtain ⟨hEa, hEb, hEc⟩ := hE.2 (by omega)
                  refine s_run rfl ?_
                  refine s_pure r120 (fun _ q => q) ?_
                  refine s_run rfl ?_
                  refine s_pure r95 (fun _ q => q) ?_
                  refine s_run rfl ?_
                  refine s_pure (.int .i64 e_) (fun _ q => q) ?_
                  refine s_run rfl ?_
                  refine s_pure (.int .i64 (e_ + 1)) (fun _ q => ArithVC.mk (by omega) q) ?_
                  refine s_run rfl ?_
                  have f278 := (s_r95.ext eh166)
                  obtain ⟨r279, hqr279, s_r279, bk_r279⟩ := f278.toSl.slc (l := 0) (m := ((e_ + 1)).toNat) (by first | omega | (simp; omega)) (by first | omega | (simp; omega))
                  simp only [List.drop_zero] at s_r279
                  have lt_r279 := s_r279.lt
                  refine s_pure r279 (fun K q => hqr279 _ rfl none (some (.int .i64 (e_ + 1))) rfl ⟨_, _, rfl, (by omega)⟩ K q) ?_
                  refine s_run rfl ?_
                  have f281 := (s_r120.ext eh166)
                  refine s_call [r120, r279] rfl (laws_qInts_ok r120 ((pbOut ((pgOut g94).1)).1) r279 (g94.take (((e_ + 1)).toNat)) _ f281.toSl s_r279) ?_
                  rintro _ h280 ⟨rfl, eh280⟩
                  have E282 := E167.trans eh280
                  have z283 := eh280.size
                  refine s_run rfl ?_
                  refine s_pure (.bool (!(decide (((pbOut ((pgOut g94).1)).1) = (g94.take (((e_ + 1)).toNat)))))) (fun _ q => q) ?_
                  refine s_run rfl ?_
                  refine s_pure (.bool (!(decide (((pbOut ((pgOut g94).1)).1) = (g94.take (((e_ + 1)).toNat)))))) (fun _ q => q) ?_
                  refine s_splitT rfl (fun c284 => ?_) (fun c284 => ?_)
                  ·
                    refine s_pass rfl ?_
                    refine s_pass rfl ?_
                    refine s_run rfl ?_
                    refine s_pure (.bool true) (fun _ q => q) ?_
                    refine s_run rfl ?_
                    refine s_pure (.bool true) (fun _ q => q) ?_
                    refine s_pure (.bool true) (fun _ q => q) ?_
                    refine s_nil ?_
                    refine p_seqN ?_
                    refine v_condY rfl rfl ?_
                    refine v_seq ?_
                    refine v_ops ?_
                    refine s_pure (.bool false) (fun _ q => q) ?_
                    refine s_nil ?_
                    refine p_seqN ?_
                    refine v_ret ?_
                    refine p_seqR ?_
                    refine p_ret [.bool false] (.bool false) (fun _ q => q) rfl ?_
                    have ho : true = false := by first | rfl | exact (decide_eq_true (rg_rep (by assumption))).symm | (exfalso; first | omega | exact absurd hk1 (by assumption) | exact absurd hk4 (by assumption) | (have q_ := hk5 (by omega); simp_all; done) | exact absurd (hE.1 (by omega)).1 (by assumption) | exact absurd hEa (by assumption) | (have q_ := hE.1 (by omega); simp_all; done) | (rw [hp3] at *; simp_all; done) | (have q_ := now_ok hr1 hr2 hr3 (by assumption) hq; simp_all; done) | exact absurd (same_of hr4 hq (by assumption)) (by assumption) | (simp_all; done))
                    exact ⟨by first | (rw [ho]; done) | rfl, E282⟩
                  ·
                    have c284 := Classical.not_not.1 c284
                    refine s_run rfl ?_
                    refine s_pure (.int .i64 ((pbOut ((pgOut g94).1)).2.1)) (fun _ q => q) ?_
                    refine s_run rfl ?_
                    refine s_pure (.bool ((pbOut ((pgOut g94).1)).2.1 != 3)) (fun _ q => q) ?_
                    refine s_run rfl ?_
                    refine s_pure (.bool ((pbOut ((pgOut g94).1)).2.1 != 3)) (fun _ q => q) ?_
                    refine s_run rfl ?_
                    refine s_pure (.bool ((pbOut ((pgOut g94).1)).2.1 != 3)) (fun _ q => q) ?_
                    refine s_pure (.bool ((pbOut ((pgOut g94).1)).2.1 != 3)) (fun _ q => q) ?_
                    refine s_nil ?_
                    refine p_seqN ?_
                    refine v_cond rfl (fun c285 => ?_) (fun c285 => ?_)
                    ·
                      refine v_seq ?_
                      refine v_ops ?_
                      refine s_pure (.bool false) (fun _ q => q) ?_
                      refine s_nil ?_
                      refine p_seqN ?_
                      refine v_ret ?_
                      refine p_seqR ?_
                      refine p_ret [.bool false] (.bool false) (fun _ q => q) rfl ?_
                      have ho : true = false := by first | rfl | exact (decide_eq_true (rg_rep (by assumption))).symm | (exfalso; first | omega | exact absurd hk1 (by assumption) | exact absurd hk4 (by assumption) | (have q_ := hk5 (by omega); simp_all; done) | exact absurd (hE.1 (by omega)).1 (by assumption) | exact absurd hEa (by assumption) | (have q_ := hE.1 (by omega); simp_all; done) | (rw [hp3] at *; simp_all; done) | (have q_ := now_ok hr1 hr2 hr3 (by assumption) hq; simp_all; done) | exact absurd (same_of hr4 hq (by assumption)) (by assumption) | (simp_all; done))
                      exact ⟨by first | (rw [ho]; done) | rfl, E282⟩
                    ·
                      have c285 := Classical.not_not.1 c285
                      refine v_skip ?_
                      refine p_seqN ?_
                      refine v_seq ?_
                      refine v_seq ?_
                      refine v_ops ?_
                      refine s_pure (.bool ((rgOut g2 g4).2)) (fun _ q => q) ?_
                      refine s_pure (.bool (!(rgOut g2 g4).2)) (fun _ q => q) ?_
                      refine s_nil ?_
                      refine p_seqN ?_
                      refine v_cond rfl (fun c286 => ?_) (fun c286 => ?_)
                      ·
                        refine v_seq ?_
                        refine v_ops ?_
                        refine s_pure (.bool true) (fun _ q => q) ?_
                        refine s_nil ?_
                        refine p_seqN ?_
                        refine v_ret ?_
                        refine p_seqR ?_
                        refine p_ret [.bool true] (.bool true) (fun _ q => q) rfl ?_
                        have ho : true = true := by first | rfl | exact (decide_eq_true (rg_rep (by assumption))).symm | (exfalso; first | omega | exact absurd hk1 (by assumption) | exact absurd hk4 (by assumption) | (have q_ := hk5 (by omega); simp_all; done) | exact absurd (hE.1 (by omega)).1 (by assumption) | exact absurd hEa (by assumption) | (have q_ := hE.1 (by omega); simp_all; done) | (rw [hp3] at *; simp_all; done) | (have q_ := now_ok hr1 hr2 hr3 (by assumption) hq; simp_all; done) | exact absurd (same_of hr4 hq (by assumption)) (by assumption) | (simp_all; done))
                        exact ⟨by first | (rw [ho]; done) | rfl, E282⟩
                      ·
                        have c286 := Classical.not_not.1 c286
                        obtain ⟨hr1, hr2, hr3, hr4⟩ := rg_good c286
                        refine v_skip ?_
                        refine p_seqN ?_
                        refine v_seq ?_
                        refine v_ops ?_
                        have f287 := ((bxb9.ext eh166).ext eh280)
                        refine s_load (.agg #[.int .i64 g2.phase, .int .i64 g2.holds, .int .i64 g2.again, .int .i64 g2.shown, r3]) (fun _ q => f287.loadA rfl q) ?_
                        refine s_new (fun h289 b288 hbb288 hzb288 eh289 bxb288 => ?_)
                        have E290 := E282.trans eh289
                        have z291 := eh289.size
                        have lbb288 := bxb288.lt
                        refine s_stBx (.agg #[.int .i64 g2.phase, .int .i64 g2.holds, .int .i64 g2.again, .int .i64 g2.shown, r3]) [.int .i64 g2.phase, .int .i64 g2.holds, .int .i64 g2.again, .int .i64 g2.shown, r3] [.int .i64 g2.phase, .int .i64 g2.holds, .int .i64 g2.again, .int .i64 g2.shown, r3] bxb288 rfl rfl rfl rfl (by simp) (all_cons rfl (all_cons rfl (all_cons rfl (all_cons rfl (all_cons s_r3.one1 all_nil))))) rfl (fun h292 mh292 sh292 bxx293 => ?_)
                        have E294 := E290.mod mh292 (fun b hb => by simp at hb; omega)
                        refine s_nil ?_
                        refine p_seqN ?_
                        refine v_seq ?_
                        refine v_seq ?_
                        refine v_ops ?_
                        refine s_pure r5 (fun _ q => q) ?_
                        refine s_pure (.int .i64 (g4.length : Int)) (fun _ q => s_r5.lenVC q) ?_
                        refine s_pure (.int .i64 0) (fun _ q => q) ?_
                        refine s_nil ?_
                        refine p_seqN ?_
                        refine v_block ?_
                        have nk296 : b288 ∉ blks r18 := (fun hc => by have := ltk_r18 _ hc; have := lt_r18 _ hc; omega)
                        have nk297 : b288 ∉ blks r32 := (fun hc => by have := ltk_r32 _ hc; have := lt_r32 _ hc; omega)
                        have nk298 : b288 ∉ blks r5 := (fun hc => by have := ltk_r5 _ hc; have := lt_r5 _ hc; omega)
                        have f299 := ((((bxb22.ext eh166).ext eh280).ext eh289).mod mh292 (by simp; omega))
                        have f300 := ((((bxb36.ext eh166).ext eh280).ext eh289).mod mh292 (by simp; omega))
                        have f301 := ((((s_r18.ext eh166).ext eh280).ext eh289).mod mh292 (fun b hb hc => by simp at hc; have := ltk_r18 b hb; have := lt_r18 b hb; omega))
                        have f302 := ((((s_r32.ext eh166).ext eh280).ext eh289).mod mh292 (fun b hb hc => by simp at hc; have := ltk_r32 b hb; have := lt_r32 b hb; omega))
                        have f303 := ((((s_r3.ext eh166).ext eh280).ext eh289).mod mh292 (fun b hb hc => by simp at hc; have := ltk_r3 b hb; have := lt_r3 b hb; omega))
                        have f304 := ((((s_r5.ext eh166).ext eh280).ext eh289).mod mh292 (fun b hb hc => by simp at hc; have := ltk_r5 b hb; have := lt_r5 b hb; omega))
                        refine v_loop3 (α := Nat) (β := RepP) (γ := Value) (fun k q v => [(7, .pointer (some ⟨b22, 0, none⟩)), (9, .pointer (some ⟨b36, 0, none⟩)), (29, .pointer (some ⟨b288, 0, none⟩)), (249, r5), (250, .int .i64 (g4.length : Int)), (251, .int .i64 (k : Int))]) (fun k q v hh => Ext h hh ∧ Bx hh b22 [.int .i64 (((rgOut g2 g4).1).phase), .int .i64 (((rgOut g2 g4).1).holds), .int .i64 (((rgOut g2 g4).1).again), .int .i64 (((rgOut g2 g4).1).shown), r18] 25 ∧ Bx hh b36 [.int .i64 (((rgOut g2 g4).1).phase), .int .i64 (((rgOut g2 g4).1).holds), .int .i64 (((rgOut g2 g4).1).again), .int .i64 (((rgOut g2 g4).1).shown), r32] 25 ∧ Bx hh b288 [.int .i64 q.phase, .int .i64 q.holds, .int .i64 q.again, .int .i64 q.shown, v] 25 ∧ SlO hh r18 (((rgOut g2 g4).1).passed) ∧ SlO hh r32 (((rgOut g2 g4).1).passed) ∧ SlO hh v q.passed ∧ Fr h.size v ∧ SlO hh r5 g4 ∧ b22 ∉ blks v ∧ b36 ∉ blks v ∧ b288 ∉ blks v ∧ (∀ b ∈ blks r18, b ∉ blks v) ∧ (∀ b ∈ blks r32, b ∉ blks v) ∧ (∀ b ∈ blks r5, b ∉ blks v) ∧ k ≤ g4.length ∧ q = run g2 (g4.take k)) (fun k q v => g4.length - k) 0 g2 r3 ⟨rfl, rfl, rfl, rfl, rfl, rfl⟩ ⟨E294, f299, f300, bxx293, f301, f302, (sl_eq f303 (by simp)), (fr_r3.mono (by omega)), f304, nk126, nk127, (fun hc => by have := ltk_r3 _ hc; have := lt_r3 _ hc; omega), (fun b hb hc => by have := fr_r18 b hb; have := ltk_r3 b hc; have := lt_r3 b hc; omega), (fun b hb hc => by have := fr_r32 b hb; have := ltk_r3 b hc; have := lt_r3 b hc; omega), (fun b hb hc => ap_r3_r5 b hc hb), (by exact ⟨by omega, rfl⟩)⟩ ?_
                        rintro k q v R305 h295 ⟨Eh, bxb22, bxb36, bxb288, s_r18, s_r32, s_v, fr_v, s_r5, np_b22_v, np_b36_v, np_b288_v, np_r18_v, np_r32_v, np_r5_v, ⟨hk, hq⟩⟩
                        have zEh := Eh.size
                        have f307 := s_code.ext Eh
                        have f308 := s_more.ext Eh
                        have ltk_r5 := s_r5.lt
                        have ltk_r18 := s_r18.lt
                        have lbb22 := bxb22.lt
                        have ltk_r32 := s_r32.lt
                        have lbb36 := bxb36.lt
                        have lbb288 := bxb288.lt
                        have lt_v := s_v.lt
                        refine v_seq ?_
                        refine v_ops ?_
                        refine s_pure (.bool (decide ((k : Int) < (g4.length : Int)))) (fun _ q => q) ?_
                        refine s_nil ?_
                        refine p_seqN ?_
                        refine v_seq ?_
                        refine v_cond rfl (fun c309 => ?_) (fun c309 => ?_)
                        ·
                          refine v_skip ?_
                          refine p_seqN ?_
                          refine v_seq ?_
                          refine v_block ?_
                          refine v_seq ?_
                          refine v_ops ?_
                          have hk310 : k < g4.length := (by first | omega | (simp; omega))
                          obtain ⟨x311, hx311⟩ : ∃ x, g4[k]? = some x := ⟨_, List.getElem?_eq_getElem hk310⟩
                          refine s_pure (.pointer (some ⟨sblk r5, soff r5 + k * 2, none⟩)) (fun _ q => s_r5.idx (k := k) rfl hk310 q) ?_
                          refine s_load (.agg #[.bool x311.next, .int .i64 x311.signal]) (fun _ q => s_r5.loadN hx311 rfl q) ?_
                          refine s_new (fun h313 b312 hbb312 hzb312 eh313 bxb312 => ?_)
                          have E314 := Eh.trans eh313
                          have z315 := eh313.size
                          have lbb312 := bxb312.lt
                          refine s_stBx (.agg #[.bool x311.next, .int .i64 x311.signal]) [.bool x311.next, .int .i64 x311.signal] [.bool x311.next, .int .i64 x311.signal] bxb312 rfl rfl rfl rfl (by simp) (all_cons rfl (all_cons rfl all_nil)) rfl (fun h316 mh316 sh316 bxx317 => ?_)
                          have E318 := E314.mod mh316 (fun b hb => by simp at hb; omega)
                          refine s_nil ?_
                          refine p_seqN ?_
                          refine v_seq ?_
                          refine v_ops ?_
                          have f319 := ((bxb288.ext eh313).mod mh316 (by simp; omega))
                          refine s_load (.agg #[.int .i64 q.phase, .int .i64 q.holds, .int .i64 q.again, .int .i64 q.shown, v]) (fun _ q => f319.loadA rfl q) ?_
                          refine s_load (.agg #[.bool x311.next, .int .i64 x311.signal]) (fun _ q => bxx317.loadA rfl q) ?_
                          have f320 := ((s_v.ext eh313).mod mh316 (fun b hb hc => by simp at hc; have := lt_v b hb; omega))
                          refine s_call [.agg #[.int .i64 q.phase, .int .i64 q.holds, .int .i64 q.again, .int .i64 q.shown, v], .agg #[.bool x311.next, .int .i64 x311.signal]] rfl (impl_GlanceAt_ok q v x311 _ f320.toSl) ?_
                          rintro _ h322 ⟨r321, rfl, s_r321, fr_r321, eh322⟩
                          have E323 := E318.trans eh322
                          have z324 := eh322.size
                          have lt_r321 := s_r321.lt
                          refine s_pure (.tuple #[.agg #[.int .i64 (((rgOut q [x311]).1).phase), .int .i64 (((rgOut q [x311]).1).holds), .int .i64 (((rgOut q [x311]).1).again), .int .i64 (((rgOut q [x311]).1).shown), r321], .bool ((rgOut q [x311]).2)]) (fun _ q => q) ?_
                          refine s_pure (.agg #[.int .i64 (((rgOut q [x311]).1).phase), .int .i64 (((rgOut q [x311]).1).holds), .int .i64 (((rgOut q [x311]).1).again), .int .i64 (((rgOut q [x311]).1).shown), r321]) (fun _ q => q) ?_
                          refine s_pure (.bool ((rgOut q [x311]).2)) (fun _ q => q) ?_
                          refine s_new (fun h326 b325 hbb325 hzb325 eh326 bxb325 => ?_)
                          have E327 := E323.trans eh326
                          have z328 := eh326.size
                          have lbb325 := bxb325.lt
                          refine s_stBx (.agg #[.int .i64 (((rgOut q [x311]).1).phase), .int .i64 (((rgOut q [x311]).1).holds), .int .i64 (((rgOut q [x311]).1).again), .int .i64 (((rgOut q [x311]).1).shown), r321]) [.int .i64 (((rgOut q [x311]).1).phase), .int .i64 (((rgOut q [x311]).1).holds), .int .i64 (((rgOut q [x311]).1).again), .int .i64 (((rgOut q [x311]).1).shown), r321] [.int .i64 (((rgOut q [x311]).1).phase), .int .i64 (((rgOut q [x311]).1).holds), .int .i64 (((rgOut q [x311]).1).again), .int .i64 (((rgOut q [x311]).1).shown), r321] bxb325 rfl rfl rfl rfl (by simp) (all_cons rfl (all_cons rfl (all_cons rfl (all_cons rfl (all_cons s_r321.one1 all_nil))))) rfl (fun h329 mh329 sh329 bxx330 => ?_)
                          have E331 := E327.mod mh329 (fun b hb => by simp at hb; omega)
                          refine s_pure (.bool ((rgOut q [x311]).2)) (fun _ q => q) ?_
                          refine s_nil ?_
                          refine p_seqN ?_
                          refine v_seq ?_
                          refine v_ops ?_
                          have f332 := (((f319.ext eh322).ext eh326).mod mh329 (by simp; omega))
                          refine s_load (.agg #[.int .i64 q.phase, .int .i64 q.holds, .int .i64 q.again, .int .i64 q.shown, v]) (fun _ q => f332.loadA rfl q) ?_
                          have f333 := (((bxx317.ext eh322).ext eh326).mod mh329 (by simp; omega))
                          refine s_load (.agg #[.bool x311.next, .int .i64 x311.signal]) (fun _ q => f333.loadA rfl q) ?_
                          have f334 := (((f320.ext eh322).ext eh326).mod mh329 (fun b hb hc => by simp at hc; have := lt_v b hb; omega))
                          refine s_call [.agg #[.int .i64 q.phase, .int .i64 q.holds, .int .i64 q.again, .int .i64 q.shown, v], .agg #[.bool x311.next, .int .i64 x311.signal]] rfl (spec_GlanceAt_ok q v x311 _ f334.toSl) ?_
                          rintro _ h336 ⟨r335, rfl, s_r335, fr_r335, eh336⟩
                          have E337 := E331.trans eh336
                          have z338 := eh336.size
                          have lt_r335 := s_r335.lt
                          refine s_pure (.tuple #[.agg #[.int .i64 (((rgOut q [x311]).1).phase), .int .i64 (((rgOut q [x311]).1).holds), .int .i64 (((rgOut q [x311]).1).again), .int .i64 (((rgOut q [x311]).1).shown), r335], .bool ((rgOut q [x311]).2)]) (fun _ q => q) ?_
                          refine s_pure (.agg #[.int .i64 (((rgOut q [x311]).1).phase), .int .i64 (((rgOut q [x311]).1).holds), .int .i64 (((rgOut q [x311]).1).again), .int .i64 (((rgOut q [x311]).1).shown), r335]) (fun _ q => q) ?_
                          refine s_pure (.bool ((rgOut q [x311]).2)) (fun _ q => q) ?_
                          refine s_new (fun h340 b339 hbb339 hzb339 eh340 bxb339 => ?_)
                          have E341 := E337.trans eh340
                          have z342 := eh340.size
                          have lbb339 := bxb339.lt
                          refine s_stBx (.agg #[.int .i64 (((rgOut q [x311]).1).phase), .int .i64 (((rgOut q [x311]).1).holds), .int .i64 (((rgOut q [x311]).1).again), .int .i64 (((rgOut q [x311]).1).shown), r335]) [.int .i64 (((rgOut q [x311]).1).phase), .int .i64 (((rgOut q [x311]).1).holds), .int .i64 (((rgOut q [x311]).1).again), .int .i64 (((rgOut q [x311]).1).shown), r335] [.int .i64 (((rgOut q [x311]).1).phase), .int .i64 (((rgOut q [x311]).1).holds), .int .i64 (((rgOut q [x311]).1).again), .int .i64 (((rgOut q [x311]).1).shown), r335] bxb339 rfl rfl rfl rfl (by simp) (all_cons rfl (all_cons rfl (all_cons rfl (all_cons rfl (all_cons s_r335.one1 all_nil))))) rfl (fun h343 mh343 sh343 bxx344 => ?_)
                          have E345 := E341.mod mh343 (fun b hb => by simp at hb; omega)
                          refine s_pure (.bool ((rgOut q [x311]).2)) (fun _ q => q) ?_
                          refine s_nil ?_
                          refine p_seqN ?_
                          refine v_seqM1 [(7, .pointer (some ⟨b22, 0, none⟩)), (9, .pointer (some ⟨b36, 0, none⟩)), (29, .pointer (some ⟨b288, 0, none⟩)), (34, .pointer (some ⟨b339, 0, none⟩)), (249, r5), (250, .int .i64 (g4.length : Int)), (251, .int .i64 (k : Int))] (fun R347 h348 eh348 => ?_) (fun M346 => ?_)
                          ·
                            have E349 := E345.trans eh348
                            have z350 := eh348.size
                            refine v_ops ?_
                            have f351 := (bxx344.ext eh348)
                            refine s_load (.agg #[.int .i64 (((rgOut q [x311]).1).phase), .int .i64 (((rgOut q [x311]).1).holds), .int .i64 (((rgOut q [x311]).1).again), .int .i64 (((rgOut q [x311]).1).shown), r335]) (fun _ q => f351.loadA rfl q) ?_
                            have f352 := ((((f332.ext eh336).ext eh340).mod mh343 (by simp; omega)).ext eh348)
                            refine s_stBx (.agg #[.int .i64 (((rgOut q [x311]).1).phase), .int .i64 (((rgOut q [x311]).1).holds), .int .i64 (((rgOut q [x311]).1).again), .int .i64 (((rgOut q [x311]).1).shown), r335]) [.int .i64 (((rgOut q [x311]).1).phase), .int .i64 (((rgOut q [x311]).1).holds), .int .i64 (((rgOut q [x311]).1).again), .int .i64 (((rgOut q [x311]).1).shown), r335] [.int .i64 (((rgOut q [x311]).1).phase), .int .i64 (((rgOut q [x311]).1).holds), .int .i64 (((rgOut q [x311]).1).again), .int .i64 (((rgOut q [x311]).1).shown), r335] f352 rfl rfl rfl rfl (by simp) (all_cons rfl (all_cons rfl (all_cons rfl (all_cons rfl (all_cons s_r335.one1 all_nil))))) rfl (fun h353 mh353 sh353 bxx354 => ?_)
                            have E355 := E349.mod mh353 (fun b hb => by simp at hb; omega)
                            refine s_nil ?_
                            refine p_blkN ?_
                            refine p_seqN ?_
                            refine v_ops ?_
                            refine s_pure (.int .i64 ((k : Int) + 1)) (fun _ q => ArithVC.mk (by omega) q) ?_
                            refine s_pure (.int .i64 ((k : Int) + 1)) (fun _ q => q) ?_
                            refine s_nil ?_
                            have f356 := ((((((((((bxb22.ext eh313).mod mh316 (by simp; omega)).ext eh322).ext eh326).mod mh329 (by simp; omega)).ext eh336).ext eh340).mod mh343 (by simp; omega)).ext eh348).mod mh353 (by simp; omega))
                            have f357 := ((((((((((bxb36.ext eh313).mod mh316 (by simp; omega)).ext eh322).ext eh326).mod mh329 (by simp; omega)).ext eh336).ext eh340).mod mh343 (by simp; omega)).ext eh348).mod mh353 (by simp; omega))
                            have f358 := ((((((((((s_r18.ext eh313).mod mh316 (fun b hb hc => by simp at hc; have := ltk_r18 b hb; have := lt_r18 b hb; omega)).ext eh322).ext eh326).mod mh329 (fun b hb hc => by simp at hc; have := ltk_r18 b hb; have := lt_r18 b hb; omega)).ext eh336).ext eh340).mod mh343 (fun b hb hc => by simp at hc; have := ltk_r18 b hb; have := lt_r18 b hb; omega)).ext eh348).mod mh353 (fun b hb hc => nk296 (by simp at hc; rw [← hc]; exact hb)))
                            have f359 := ((((((((((s_r32.ext eh313).mod mh316 (fun b hb hc => by simp at hc; have := ltk_r32 b hb; have := lt_r32 b hb; omega)).ext eh322).ext eh326).mod mh329 (fun b hb hc => by simp at hc; have := ltk_r32 b hb; have := lt_r32 b hb; omega)).ext eh336).ext eh340).mod mh343 (fun b hb hc => by simp at hc; have := ltk_r32 b hb; have := lt_r32 b hb; omega)).ext eh348).mod mh353 (fun b hb hc => nk297 (by simp at hc; rw [← hc]; exact hb)))
                            have f360 := ((((s_r335.ext eh340).mod mh343 (fun b hb hc => by simp at hc; have := lt_r335 b hb; omega)).ext eh348).mod mh353 (fun b hb hc => by simp at hc; have := fr_r335 b hb; omega))
                            have f361 := ((((((((((s_r5.ext eh313).mod mh316 (fun b hb hc => by simp at hc; have := ltk_r5 b hb; have := lt_r5 b hb; omega)).ext eh322).ext eh326).mod mh329 (fun b hb hc => by simp at hc; have := ltk_r5 b hb; have := lt_r5 b hb; omega)).ext eh336).ext eh340).mod mh343 (fun b hb hc => by simp at hc; have := ltk_r5 b hb; have := lt_r5 b hb; omega)).ext eh348).mod mh353 (fun b hb hc => nk298 (by simp at hc; rw [← hc]; exact hb)))
                            exact p_lpN ⟨k + 1, ((rgOut q [x311]).1), r335, ⟨rfl, rfl, rfl, rfl, rfl, rfl⟩, ⟨E355, f356, f357, bxx354, f358, f359, (sl_eq f360 (by simp)), (fr_r335.mono (by omega)), f361, (fun hc => by have := fr_r335 _ hc; omega), (fun hc => by have := fr_r335 _ hc; omega), (fun hc => by have := fr_r335 _ hc; omega), (fun b hb hc => by have := ltk_r18 b hb; have := lt_r18 b hb; have := fr_r335 b hc; omega), (fun b hb hc => by have := ltk_r32 b hb; have := lt_r32 b hb; have := fr_r335 b hc; omega), (fun b hb hc => by have := ltk_r5 b hb; have := lt_r5 b hb; have := fr_r335 b hc; omega), (by exact ⟨by omega, by rw [now_ok hr1 hr2 hr3 (by assumption) hq]; exact run_step (by assumption) hq⟩)⟩, by omega⟩
                          ·
                            refine v_seq ?_
                            refine v_seq ?_
                            refine v_ops ?_
                            refine s_pure (.bool ((rgOut q [x311]).2)) (fun _ q => q) ?_
                            refine s_pure (.bool (!(rgOut q [x311]).2)) (fun _ q => q) ?_
                            refine s_pure (.bool (!(rgOut q [x311]).2)) (fun _ q => q) ?_
                            refine s_splitT rfl (fun c362 => ?_) (fun c362 => ?_)
                            ·
                              refine s_pass rfl ?_
                              refine s_pass rfl ?_
                              refine s_pure (.bool true) (fun _ q => q) ?_
                              refine s_pure (.bool true) (fun _ q => q) ?_
                              refine s_splitY rfl rfl ?_
                              refine s_pass rfl ?_
                              refine s_pass rfl ?_
                              refine s_pass rfl ?_
                              refine s_pass rfl ?_
                              refine s_pure (.bool true) (fun _ q => q) ?_
                              refine s_nil ?_
                              refine p_seqN ?_
                              refine v_condY rfl rfl ?_
                              refine v_seq ?_
                              refine v_ops ?_
                              refine s_pure (.bool false) (fun _ q => q) ?_
                              refine s_nil ?_
                              refine p_seqN ?_
                              refine v_ret ?_
                              refine p_seqR ?_
                              refine p_blkR ?_
                              refine p_seqR ?_
                              refine p_lpR ?_
                              refine p_blkR ?_
                              refine p_seqR ?_
                              refine p_ret [.bool false] (.bool false) (fun _ q => q) rfl ?_
                              have ho : true = false := by first | rfl | exact (decide_eq_true (rg_rep (by assumption))).symm | (exfalso; first | omega | exact absurd hk1 (by assumption) | exact absurd hk4 (by assumption) | (have q_ := hk5 (by omega); simp_all; done) | exact absurd (hE.1 (by omega)).1 (by assumption) | exact absurd hEa (by assumption) | (have q_ := hE.1 (by omega); simp_all; done) | (rw [hp3] at *; simp_all; done) | (have q_ := now_ok hr1 hr2 hr3 (by assumption) hq; simp_all; done) | exact absurd (same_of hr4 hq (by assumption)) (by assumption) | (simp_all; done))
                              exact ⟨by first | (rw [ho]; done) | rfl, E345⟩
                            ·
                              have c362 := Classical.not_not.1 c362
                              refine s_run rfl ?_
                              refine s_pure (.bool ((rgOut q [x311]).2)) (fun _ q => q) ?_
                              refine s_run rfl ?_
                              refine s_pure (.bool (!(rgOut q [x311]).2)) (fun _ q => q) ?_
                              refine s_pure (.bool (!(rgOut q [x311]).2)) (fun _ q => q) ?_
                              refine s_pure (.bool (!(rgOut q [x311]).2)) (fun _ q => q) ?_
                              refine s_splitN rfl (by first | assumption | omega | (simp; done) | (simp; omega) | simp_all) ?_
                              refine s_run rfl ?_
                              have f363 := (((bxx330.ext eh336).ext eh340).mod mh343 (by simp; omega))
                              refine s_load (.agg #[.int .i64 (((rgOut q [x311]).1).phase), .int .i64 (((rgOut q [x311]).1).holds), .int .i64 (((rgOut q [x311]).1).again), .int .i64 (((rgOut q [x311]).1).shown), r321]) (fun _ q => f363.loadA rfl q) ?_
                              refine s_run rfl ?_
                              refine s_load (.agg #[.int .i64 (((rgOut q [x311]).1).phase), .int .i64 (((rgOut q [x311]).1).holds), .int .i64 (((rgOut q [x311]).1).again), .int .i64 (((rgOut q [x311]).1).shown), r335]) (fun _ q => bxx344.loadA rfl q) ?_
                              refine s_run rfl ?_
                              have f365 := (((((s_r321.ext eh326).mod mh329 (fun b hb hc => by simp at hc; have := lt_r321 b hb; omega)).ext eh336).ext eh340).mod mh343 (fun b hb hc => by simp at hc; have := lt_r321 b hb; omega))
                              have f366 := ((s_r335.ext eh340).mod mh343 (fun b hb hc => by simp at hc; have := lt_r335 b hb; omega))
                              refine s_call [.agg #[.int .i64 (((rgOut q [x311]).1).phase), .int .i64 (((rgOut q [x311]).1).holds), .int .i64 (((rgOut q [x311]).1).again), .int .i64 (((rgOut q [x311]).1).shown), r321], .agg #[.int .i64 (((rgOut q [x311]).1).phase), .int .i64 (((rgOut q [x311]).1).holds), .int .i64 (((rgOut q [x311]).1).again), .int .i64 (((rgOut q [x311]).1).shown), r335]] rfl (laws_qRepeater_ok ((rgOut q [x311]).1) r321 ((rgOut q [x311]).1) r335 _ f365.toSl f366.toSl) ?_
                              rintro vh364 h364 ⟨hvh364, eh364⟩
                              obtain rfl : vh364 = .bool true := hvh364.trans (by rw [decide_eq_true (rep_refl _)])
                              have E367 := E345.trans eh364
                              have z368 := eh364.size
                              refine s_run rfl ?_
                              refine s_pure (.bool false) (fun _ q => q) ?_
                              refine s_pure (.bool false) (fun _ q => q) ?_
                              refine s_nil ?_
                              refine p_seqN ?_
                              refine v_condN rfl (by simp) ?_
                              refine v_skip ?_
                              refine p_seqN ?_
                              exact M346 _ _ ⟨rfl, rfl, rfl, rfl, rfl, rfl, rfl⟩ ((Ext.refl _).trans eh364)
                        ·
                          refine v_exit ?_
                          refine p_seqX ?_
                          refine p_lpX ?_
                          refine p_blkX ?_
                          refine p_seqN ?_
                          refine v_seq ?_
                          refine v_ops ?_
                          refine s_load (.agg #[.int .i64 q.phase, .int .i64 q.holds, .int .i64 q.again, .int .i64 q.shown, v]) (fun _ q => bxb288.loadA rfl q) ?_
                          refine s_load (.agg #[.int .i64 (((rgOut g2 g4).1).phase), .int .i64 (((rgOut g2 g4).1).holds), .int .i64 (((rgOut g2 g4).1).again), .int .i64 (((rgOut g2 g4).1).shown), r32]) (fun _ q => bxb36.loadA rfl q) ?_
                          refine s_call [.agg #[.int .i64 q.phase, .int .i64 q.holds, .int .i64 q.again, .int .i64 q.shown, v], .agg #[.int .i64 (((rgOut g2 g4).1).phase), .int .i64 (((rgOut g2 g4).1).holds), .int .i64 (((rgOut g2 g4).1).again), .int .i64 (((rgOut g2 g4).1).shown), r32]] rfl (laws_qRepeater_ok q v ((rgOut g2 g4).1) r32 _ s_v.toSl s_r32.toSl) ?_
                          rintro _ h369 ⟨rfl, eh369⟩
                          have E370 := Eh.trans eh369
                          have z371 := eh369.size
                          refine s_pure (.bool (decide (q.same ((rgOut g2 g4).1)))) (fun _ q => q) ?_
                          refine s_splitT rfl (fun c372 => ?_) (fun c372 => ?_)
                          ·
                            refine s_run rfl ?_
                            have f373 := (bxb22.ext eh369)
                            refine s_load (.agg #[.int .i64 (((rgOut g2 g4).1).phase), .int .i64 (((rgOut g2 g4).1).holds), .int .i64 (((rgOut g2 g4).1).again), .int .i64 (((rgOut g2 g4).1).shown), r18]) (fun _ q => f373.loadA rfl q) ?_
                            refine s_run rfl ?_
                            have f374 := (s_r18.ext eh369)
                            refine s_call [.agg #[.int .i64 (((rgOut g2 g4).1).phase), .int .i64 (((rgOut g2 g4).1).holds), .int .i64 (((rgOut g2 g4).1).again), .int .i64 (((rgOut g2 g4).1).shown), r18]] rfl (impl_IsRepeater_ok ((rgOut g2 g4).1) r18 _ f374.toSl) ?_
                            rintro _ h375 ⟨rfl, eh375⟩
                            have E376 := E370.trans eh375
                            have z377 := eh375.size
                            refine s_pure (.bool (decide (RepOk ((rgOut g2 g4).1)))) (fun _ q => q) ?_
                            refine s_pure (.bool (decide (RepOk ((rgOut g2 g4).1)))) (fun _ q => q) ?_
                            refine s_nil ?_
                            refine p_seqN ?_
                            refine v_ret ?_
                            refine p_ret [.bool (decide (RepOk ((rgOut g2 g4).1)))] (.bool (decide (RepOk ((rgOut g2 g4).1)))) (fun _ q => q) rfl ?_
                            have ho : true = decide (RepOk ((rgOut g2 g4).1)) := by first | rfl | exact (decide_eq_true (rg_rep (by assumption))).symm | (exfalso; first | omega | exact absurd hk1 (by assumption) | exact absurd hk4 (by assumption) | (have q_ := hk5 (by omega); simp_all; done) | exact absurd (hE.1 (by omega)).1 (by assumption) | exact absurd hEa (by assumption) | (have q_ := hE.1 (by omega); simp_all; done) | (rw [hp3] at *; simp_all; done) | (have q_ := now_ok hr1 hr2 hr3 (by assumption) hq; simp_all; done) | exact absurd (same_of hr4 hq (by assumption)) (by assumption) | (simp_all; done))
                            exact ⟨by first | (rw [ho]; done) | rfl, E376⟩
                          ·
                            refine s_pass rfl ?_
                            refine s_pass rfl ?_
                            refine s_pure (.bool false) (fun _ q => q) ?_
                            refine s_pure (.bool false) (fun _ q => q) ?_
                            refine s_nil ?_
                            refine p_seqN ?_
                            refine v_ret ?_
                            refine p_ret [.bool false] (.bool false) (fun _ q => q) rfl ?_
                            have ho : true = false := by first | rfl | exact (decide_eq_true (rg_rep (by assumption))).symm | (exfalso; first | omega | exact absurd hk1 (by assumption) | exact absurd hk4 (by assumption) | (have q_ := hk5 (by omega); simp_all; done) | exact absurd (hE.1 (by omega)).1 (by assumption) | exact absurd hEa (by assumption) | (have q_ := hE.1 (by omega); simp_all; done) | (rw [hp3] at *; simp_all; done) | (have q_ := now_ok hr1 hr2 hr3 (by assumption) hq; simp_all; done) | exact absurd (same_of hr4 hq (by assumption)) (by assumption) | (simp_all; done))
                            exact ⟨by first | (rw [ho]; done) | rfl, E370⟩
                ·
                  refine s_pass rfl ?_
                  refine s_pass rfl ?_
                  refine s_pass rfl ?_
                  refine s_pass rfl ?_
                  refine s_pass rfl ?_
                  refine s_pass rfl ?_
                  refine s_pass rfl ?_
                  refine s_pass rfl ?_
                  refine s_splitU rfl ?_
                  refine s_passU rfl ?_
                  refine s_passU rfl ?_
                  refine s_pass rfl ?_
                  refine s_run rfl ?_
                  refine s_pure (.bool false) (fun _ q => q) ?_
                  refine s_pure (.bool false) (fun _ q => q) ?_
                  refine s_nil ?_
                  refine p_seqN ?_
                  refine v_condN rfl (by simp) ?_
                  refine v_skip ?_
                  refine p_seqN ?_
                  refine v_seq ?_
                  refine v_seq ?_
                  refine v_ops ?_
                  refine s_pure (.bool ((rgOut g2 g4).2)) (fun _ q => q) ?_
                  refine s_pure (.bool (!(rgOut g2 g4).2)) (fun _ q => q) ?_
                  refine s_nil ?_
                  refine p_seqN ?_
                  refine v_cond rfl (fun c378 => ?_) (fun c378 => ?_)
                  ·
                    refine v_seq ?_
                    refine v_ops ?_
                    refine s_pure (.bool true) (fun _ q => q) ?_
                    refine s_nil ?_
                    refine p_seqN ?_
                    refine v_ret ?_
                    refine p_seqR ?_
                    refine p_ret [.bool true] (.bool true) (fun _ q => q) rfl ?_
                    have ho : true = true := by first | rfl | exact (decide_eq_true (rg_rep (by assumption))).symm | (exfalso; first | omega | exact absurd hk1 (by assumption) | exact absurd hk4 (by assumption) | (have q_ := hk5 (by omega); simp_all; done) | exact absurd (hE.1 (by omega)).1 (by assumption) | exact absurd hEa (by assumption) | (have q_ := hE.1 (by omega); simp_all; done) | (rw [hp3] at *; simp_all; done) | (have q_ := now_ok hr1 hr2 hr3 (by assumption) hq; simp_all; done) | exact absurd (same_of hr4 hq (by assumption)) (by assumption) | (simp_all; done))
                    exact ⟨by first | (rw [ho]; done) | rfl, E167⟩
                  ·
                    have c378 := Classical.not_not.1 c378
                    obtain ⟨hr1, hr2, hr3, hr4⟩ := rg_good c378
                    refine v_skip ?_
                    refine p_seqN ?_
                    refine v_seq ?_
                    refine v_ops ?_
                    have f379 := (bxb9.ext eh166)
                    refine s_load (.agg #[.int .i64 g2.phase, .int .i64 g2.holds, .int .i64 g2.again, .int .i64 g2.shown, r3]) (fun _ q => f379.loadA rfl q) ?_
                    refine s_new (fun h381 b380 hbb380 hzb380 eh381 bxb380 => ?_)
                    have E382 := E167.trans eh381
                    have z383 := eh381.size
                    have lbb380 := bxb380.lt
                    refine s_stBx (.agg #[.int .i64 g2.phase, .int .i64 g2.holds, .int .i64 g2.again, .int .i64 g2.shown, r3]) [.int .i64 g2.phase, .int .i64 g2.holds, .int .i64 g2.again, .int .i64 g2.shown, r3] [.int .i64 g2.phase, .int .i64 g2.holds, .int .i64 g2.again, .int .i64 g2.shown, r3] bxb380 rfl rfl rfl rfl (by simp) (all_cons rfl (all_cons rfl (all_cons rfl (all_cons rfl (all_cons s_r3.one1 all_nil))))) rfl (fun h384 mh384 sh384 bxx385 => ?_)
                    have E386 := E382.mod mh384 (fun b hb => by simp at hb; omega)
                    refine s_nil ?_
                    refine p_seqN ?_
                    refine v_seq ?_
                    refine v_seq ?_
                    refine v_ops ?_
                    refine s_pure r5 (fun _ q => q) ?_
                    refine s_pure (.int .i64 (g4.length : Int)) (fun _ q => s_r5.lenVC q) ?_
                    refine s_pure (.int .i64 0) (fun _ q => q) ?_
                    refine s_nil ?_
                    refine p_seqN ?_
                    refine v_block ?_
                    have nk388 : b380 ∉ blks r18 := (fun hc => by have := ltk_r18 _ hc; have := lt_r18 _ hc; omega)
                    have nk389 : b380 ∉ blks r32 := (fun hc => by have := ltk_r32 _ hc; have := lt_r32 _ hc; omega)
                    have nk390 : b380 ∉ blks r5 := (fun hc => by have := ltk_r5 _ hc; have := lt_r5 _ hc; omega)
                    have f391 := (((bxb22.ext eh166).ext eh381).mod mh384 (by simp; omega))
                    have f392 := (((bxb36.ext eh166).ext eh381).mod mh384 (by simp; omega))
                    have f393 := (((s_r18.ext eh166).ext eh381).mod mh384 (fun b hb hc => by simp at hc; have := ltk_r18 b hb; have := lt_r18 b hb; omega))
                    have f394 := (((s_r32.ext eh166).ext eh381).mod mh384 (fun b hb hc => by simp at hc; have := ltk_r32 b hb; have := lt_r32 b hb; omega))
                    have f395 := (((s_r3.ext eh166).ext eh381).mod mh384 (fun b hb hc => by simp at hc; have := ltk_r3 b hb; have := lt_r3 b hb; omega))
                    have f396 := (((s_r5.ext eh166).ext eh381).mod mh384 (fun b hb hc => by simp at hc; have := ltk_r5 b hb; have := lt_r5 b hb; omega))
                    refine v_loop3 (α := Nat) (β := RepP) (γ := Value) (fun k q v => [(7, .pointer (some ⟨b22, 0, none⟩)), (9, .pointer (some ⟨b36, 0, none⟩)), (29, .pointer (some ⟨b380, 0, none⟩)), (249, r5), (250, .int .i64 (g4.length : Int)), (251, .int .i64 (k : Int))]) (fun k q v hh => Ext h hh ∧ Bx hh b22 [.int .i64 (((rgOut g2 g4).1).phase), .int .i64 (((rgOut g2 g4).1).holds), .int .i64 (((rgOut g2 g4).1).again), .int .i64 (((rgOut g2 g4).1).shown), r18] 25 ∧ Bx hh b36 [.int .i64 (((rgOut g2 g4).1).phase), .int .i64 (((rgOut g2 g4).1).holds), .int .i64 (((rgOut g2 g4).1).again), .int .i64 (((rgOut g2 g4).1).shown), r32] 25 ∧ Bx hh b380 [.int .i64 q.phase, .int .i64 q.holds, .int .i64 q.again, .int .i64 q.shown, v] 25 ∧ SlO hh r18 (((rgOut g2 g4).1).passed) ∧ SlO hh r32 (((rgOut g2 g4).1).passed) ∧ SlO hh v q.passed ∧ Fr h.size v ∧ SlO hh r5 g4 ∧ b22 ∉ blks v ∧ b36 ∉ blks v ∧ b380 ∉ blks v ∧ (∀ b ∈ blks r18, b ∉ blks v) ∧ (∀ b ∈ blks r32, b ∉ blks v) ∧ (∀ b ∈ blks r5, b ∉ blks v) ∧ k ≤ g4.length ∧ q = run g2 (g4.take k)) (fun k q v => g4.length - k) 0 g2 r3 ⟨rfl, rfl, rfl, rfl, rfl, rfl⟩ ⟨E386, f391, f392, bxx385, f393, f394, (sl_eq f395 (by simp)), (fr_r3.mono (by omega)), f396, nk126, nk127, (fun hc => by have := ltk_r3 _ hc; have := lt_r3 _ hc; omega), (fun b hb hc => by have := fr_r18 b hb; have := ltk_r3 b hc; have := lt_r3 b hc; omega), (fun b hb hc => by have := fr_r32 b hb; have := ltk_r3 b hc; have := lt_r3 b hc; omega), (fun b hb hc => ap_r3_r5 b hc hb), (by exact ⟨by omega, rfl⟩)⟩ ?_
                    rintro k q v R397 h387 ⟨Eh, bxb22, bxb36, bxb380, s_r18, s_r32, s_v, fr_v, s_r5, np_b22_v, np_b36_v, np_b380_v, np_r18_v, np_r32_v, np_r5_v, ⟨hk, hq⟩⟩
                    have zEh := Eh.size
                    have f399 := s_code.ext Eh
                    have f400 := s_more.ext Eh
                    have ltk_r5 := s_r5.lt
                    have ltk_r18 := s_r18.lt
                    have lbb22 := bxb22.lt
                    have ltk_r32 := s_r32.lt
                    have lbb36 := bxb36.lt
                    have lbb380 := bxb380.lt
                    have lt_v := s_v.lt
                    refine v_seq ?_
                    refine v_ops ?_
                    refine s_pure (.bool (decide ((k : Int) < (g4.length : Int)))) (fun _ q => q) ?_
                    refine s_nil ?_
                    refine p_seqN ?_
                    refine v_seq ?_
                    refine v_cond rfl (fun c401 => ?_) (fun c401 => ?_)
                    ·
                      refine v_skip ?_
                      refine p_seqN ?_
                      refine v_seq ?_
                      refine v_block ?_
                      refine v_seq ?_
                      refine v_ops ?_
                      have hk402 : k < g4.length := (by first | omega | (simp; omega))
                      obtain ⟨x403, hx403⟩ : ∃ x, g4[k]? = some x := ⟨_, List.getElem?_eq_getElem hk402⟩
                      refine s_pure (.pointer (some ⟨sblk r5, soff r5 + k * 2, none⟩)) (fun _ q => s_r5.idx (k := k) rfl hk402 q) ?_
                      refine s_load (.agg #[.bool x403.next, .int .i64 x403.signal]) (fun _ q => s_r5.loadN hx403 rfl q) ?_
                      refine s_new (fun h405 b404 hbb404 hzb404 eh405 bxb404 => ?_)
                      have E406 := Eh.trans eh405
                      have z407 := eh405.size
                      have lbb404 := bxb404.lt
                      refine s_stBx (.agg #[.bool x403.next, .int .i64 x403.signal]) [.bool x403.next, .int .i64 x403.signal] [.bool x403.next, .int .i64 x403.signal] bxb404 rfl rfl rfl rfl (by simp) (all_cons rfl (all_cons rfl all_nil)) rfl (fun h408 mh408 sh408 bxx409 => ?_)
                      have E410 := E406.mod mh408 (fun b hb => by simp at hb; omega)
                      refine s_nil ?_
                      refine p_seqN ?_
                      refine v_seq ?_
                      refine v_ops ?_
                      have f411 := ((bxb380.ext eh405).mod mh408 (by simp; omega))
                      refine s_load (.agg #[.int .i64 q.phase, .int .i64 q.holds, .int .i64 q.again, .int .i64 q.shown, v]) (fun _ q => f411.loadA rfl q) ?_
                      refine s_load (.agg #[.bool x403.next, .int .i64 x403.signal]) (fun _ q => bxx409.loadA rfl q) ?_
                      have f412 := ((s_v.ext eh405).mod mh408 (fun b hb hc => by simp at hc; have := lt_v b hb; omega))
                      refine s_call [.agg #[.int .i64 q.phase, .int .i64 q.holds, .int .i64 q.again, .int .i64 q.shown, v], .agg #[.bool x403.next, .int .i64 x403.signal]] rfl (impl_GlanceAt_ok q v x403 _ f412.toSl) ?_
                      rintro _ h414 ⟨r413, rfl, s_r413, fr_r413, eh414⟩
                      have E415 := E410.trans eh414
                      have z416 := eh414.size
                      have lt_r413 := s_r413.lt
                      refine s_pure (.tuple #[.agg #[.int .i64 (((rgOut q [x403]).1).phase), .int .i64 (((rgOut q [x403]).1).holds), .int .i64 (((rgOut q [x403]).1).again), .int .i64 (((rgOut q [x403]).1).shown), r413], .bool ((rgOut q [x403]).2)]) (fun _ q => q) ?_
                      refine s_pure (.agg #[.int .i64 (((rgOut q [x403]).1).phase), .int .i64 (((rgOut q [x403]).1).holds), .int .i64 (((rgOut q [x403]).1).again), .int .i64 (((rgOut q [x403]).1).shown), r413]) (fun _ q => q) ?_
                      refine s_pure (.bool ((rgOut q [x403]).2)) (fun _ q => q) ?_
                      refine s_new (fun h418 b417 hbb417 hzb417 eh418 bxb417 => ?_)
                      have E419 := E415.trans eh418
                      have z420 := eh418.size
                      have lbb417 := bxb417.lt
                      refine s_stBx (.agg #[.int .i64 (((rgOut q [x403]).1).phase), .int .i64 (((rgOut q [x403]).1).holds), .int .i64 (((rgOut q [x403]).1).again), .int .i64 (((rgOut q [x403]).1).shown), r413]) [.int .i64 (((rgOut q [x403]).1).phase), .int .i64 (((rgOut q [x403]).1).holds), .int .i64 (((rgOut q [x403]).1).again), .int .i64 (((rgOut q [x403]).1).shown), r413] [.int .i64 (((rgOut q [x403]).1).phase), .int .i64 (((rgOut q [x403]).1).holds), .int .i64 (((rgOut q [x403]).1).again), .int .i64 (((rgOut q [x403]).1).shown), r413] bxb417 rfl rfl rfl rfl (by simp) (all_cons rfl (all_cons rfl (all_cons rfl (all_cons rfl (all_cons s_r413.one1 all_nil))))) rfl (fun h421 mh421 sh421 bxx422 => ?_)
                      have E423 := E419.mod mh421 (fun b hb => by simp at hb; omega)
                      refine s_pure (.bool ((rgOut q [x403]).2)) (fun _ q => q) ?_
                      refine s_nil ?_
                      refine p_seqN ?_
                      refine v_seq ?_
                      refine v_ops ?_
                      have f424 := (((f411.ext eh414).ext eh418).mod mh421 (by simp; omega))
                      refine s_load (.agg #[.int .i64 q.phase, .int .i64 q.holds, .int .i64 q.again, .int .i64 q.shown, v]) (fun _ q => f424.loadA rfl q) ?_
                      have f425 := (((bxx409.ext eh414).ext eh418).mod mh421 (by simp; omega))
                      refine s_load (.agg #[.bool x403.next, .int .i64 x403.signal]) (fun _ q => f425.loadA rfl q) ?_
                      have f426 := (((f412.ext eh414).ext eh418).mod mh421 (fun b hb hc => by simp at hc; have := lt_v b hb; omega))
                      refine s_call [.agg #[.int .i64 q.phase, .int .i64 q.holds, .int .i64 q.again, .int .i64 q.shown, v], .agg #[.bool x403.next, .int .i64 x403.signal]] rfl (spec_GlanceAt_ok q v x403 _ f426.toSl) ?_
                      rintro _ h428 ⟨r427, rfl, s_r427, fr_r427, eh428⟩
                      have E429 := E423.trans eh428
                      have z430 := eh428.size
                      have lt_r427 := s_r427.lt
                      refine s_pure (.tuple #[.agg #[.int .i64 (((rgOut q [x403]).1).phase), .int .i64 (((rgOut q [x403]).1).holds), .int .i64 (((rgOut q [x403]).1).again), .int .i64 (((rgOut q [x403]).1).shown), r427], .bool ((rgOut q [x403]).2)]) (fun _ q => q) ?_
                      refine s_pure (.agg #[.int .i64 (((rgOut q [x403]).1).phase), .int .i64 (((rgOut q [x403]).1).holds), .int .i64 (((rgOut q [x403]).1).again), .int .i64 (((rgOut q [x403]).1).shown), r427]) (fun _ q => q) ?_
                      refine s_pure (.bool ((rgOut q [x403]).2)) (fun _ q => q) ?_
                      refine s_new (fun h432 b431 hbb431 hzb431 eh432 bxb431 => ?_)
                      have E433 := E429.trans eh432
                      have z434 := eh432.size
                      have lbb431 := bxb431.lt
                      refine s_stBx (.agg #[.int .i64 (((rgOut q [x403]).1).phase), .int .i64 (((rgOut q [x403]).1).holds), .int .i64 (((rgOut q [x403]).1).again), .int .i64 (((rgOut q [x403]).1).shown), r427]) [.int .i64 (((rgOut q [x403]).1).phase), .int .i64 (((rgOut q [x403]).1).holds), .int .i64 (((rgOut q [x403]).1).again), .int .i64 (((rgOut q [x403]).1).shown), r427] [.int .i64 (((rgOut q [x403]).1).phase), .int .i64 (((rgOut q [x403]).1).holds), .int .i64 (((rgOut q [x403]).1).again), .int .i64 (((rgOut q [x403]).1).shown), r427] bxb431 rfl rfl rfl rfl (by simp) (all_cons rfl (all_cons rfl (all_cons rfl (all_cons rfl (all_cons s_r427.one1 all_nil))))) rfl (fun h435 mh435 sh435 bxx436 => ?_)
                      have E437 := E433.mod mh435 (fun b hb => by simp at hb; omega)
                      refine s_pure (.bool ((rgOut q [x403]).2)) (fun _ q => q) ?_
                      refine s_nil ?_
                      refine p_seqN ?_
                      refine v_seqM1 [(7, .pointer (some ⟨b22, 0, none⟩)), (9, .pointer (some ⟨b36, 0, none⟩)), (29, .pointer (some ⟨b380, 0, none⟩)), (34, .pointer (some ⟨b431, 0, none⟩)), (249, r5), (250, .int .i64 (g4.length : Int)), (251, .int .i64 (k : Int))] (fun R439 h440 eh440 => ?_) (fun M438 => ?_)
                      ·
                        have E441 := E437.trans eh440
                        have z442 := eh440.size
                        refine v_ops ?_
                        have f443 := (bxx436.ext eh440)
                        refine s_load (.agg #[.int .i64 (((rgOut q [x403]).1).phase), .int .i64 (((rgOut q [x403]).1).holds), .int .i64 (((rgOut q [x403]).1).again), .int .i64 (((rgOut q [x403]).1).shown), r427]) (fun _ q => f443.loadA rfl q) ?_
                        have f444 := ((((f424.ext eh428).ext eh432).mod mh435 (by simp; omega)).ext eh440)
                        refine s_stBx (.agg #[.int .i64 (((rgOut q [x403]).1).phase), .int .i64 (((rgOut q [x403]).1).holds), .int .i64 (((rgOut q [x403]).1).again), .int .i64 (((rgOut q [x403]).1).shown), r427]) [.int .i64 (((rgOut q [x403]).1).phase), .int .i64 (((rgOut q [x403]).1).holds), .int .i64 (((rgOut q [x403]).1).again), .int .i64 (((rgOut q [x403]).1).shown), r427] [.int .i64 (((rgOut q [x403]).1).phase), .int .i64 (((rgOut q [x403]).1).holds), .int .i64 (((rgOut q [x403]).1).again), .int .i64 (((rgOut q [x403]).1).shown), r427] f444 rfl rfl rfl rfl (by simp) (all_cons rfl (all_cons rfl (all_cons rfl (all_cons rfl (all_cons s_r427.one1 all_nil))))) rfl (fun h445 mh445 sh445 bxx446 => ?_)
                        have E447 := E441.mod mh445 (fun b hb => by simp at hb; omega)
                        refine s_nil ?_
                        refine p_blkN ?_
                        refine p_seqN ?_
                        refine v_ops ?_
                        refine s_pure (.int .i64 ((k : Int) + 1)) (fun _ q => ArithVC.mk (by omega) q) ?_
                        refine s_pure (.int .i64 ((k : Int) + 1)) (fun _ q => q) ?_
                        refine s_nil ?_
                        have f448 := ((((((((((bxb22.ext eh405).mod mh408 (by simp; omega)).ext eh414).ext eh418).mod mh421 (by simp; omega)).ext eh428).ext eh432).mod mh435 (by simp; omega)).ext eh440).mod mh445 (by simp; omega))
                        have f449 := ((((((((((bxb36.ext eh405).mod mh408 (by simp; omega)).ext eh414).ext eh418).mod mh421 (by simp; omega)).ext eh428).ext eh432).mod mh435 (by simp; omega)).ext eh440).mod mh445 (by simp; omega))
                        have f450 := ((((((((((s_r18.ext eh405).mod mh408 (fun b hb hc => by simp at hc; have := ltk_r18 b hb; have := lt_r18 b hb; omega)).ext eh414).ext eh418).mod mh421 (fun b hb hc => by simp at hc; have := ltk_r18 b hb; have := lt_r18 b hb; omega)).ext eh428).ext eh432).mod mh435 (fun b hb hc => by simp at hc; have := ltk_r18 b hb; have := lt_r18 b hb; omega)).ext eh440).mod mh445 (fun b hb hc => nk388 (by simp at hc; rw [← hc]; exact hb)))
                        have f451 := ((((((((((s_r32.ext eh405).mod mh408 (fun b hb hc => by simp at hc; have := ltk_r32 b hb; have := lt_r32 b hb; omega)).ext eh414).ext eh418).mod mh421 (fun b hb hc => by simp at hc; have := ltk_r32 b hb; have := lt_r32 b hb; omega)).ext eh428).ext eh432).mod mh435 (fun b hb hc => by simp at hc; have := ltk_r32 b hb; have := lt_r32 b hb; omega)).ext eh440).mod mh445 (fun b hb hc => nk389 (by simp at hc; rw [← hc]; exact hb)))
                        have f452 := ((((s_r427.ext eh432).mod mh435 (fun b hb hc => by simp at hc; have := lt_r427 b hb; omega)).ext eh440).mod mh445 (fun b hb hc => by simp at hc; have := fr_r427 b hb; omega))
                        have f453 := ((((((((((s_r5.ext eh405).mod mh408 (fun b hb hc => by simp at hc; have := ltk_r5 b hb; have := lt_r5 b hb; omega)).ext eh414).ext eh418).mod mh421 (fun b hb hc => by simp at hc; have := ltk_r5 b hb; have := lt_r5 b hb; omega)).ext eh428).ext eh432).mod mh435 (fun b hb hc => by simp at hc; have := ltk_r5 b hb; have := lt_r5 b hb; omega)).ext eh440).mod mh445 (fun b hb hc => nk390 (by simp at hc; rw [← hc]; exact hb)))
                        exact p_lpN ⟨k + 1, ((rgOut q [x403]).1), r427, ⟨rfl, rfl, rfl, rfl, rfl, rfl⟩, ⟨E447, f448, f449, bxx446, f450, f451, (sl_eq f452 (by simp)), (fr_r427.mono (by omega)), f453, (fun hc => by have := fr_r427 _ hc; omega), (fun hc => by have := fr_r427 _ hc; omega), (fun hc => by have := fr_r427 _ hc; omega), (fun b hb hc => by have := ltk_r18 b hb; have := lt_r18 b hb; have := fr_r427 b hc; omega), (fun b hb hc => by have := ltk_r32 b hb; have := lt_r32 b hb; have := fr_r427 b hc; omega), (fun b hb hc => by have := ltk_r5 b hb; have := lt_r5 b hb; have := fr_r427 b hc; omega), (by exact ⟨by omega, by rw [now_ok hr1 hr2 hr3 (by assumption) hq]; exact run_step (by assumption) hq⟩)⟩, by omega⟩
                      ·
                        refine v_seq ?_
                        refine v_seq ?_
                        refine v_ops ?_
                        refine s_pure (.bool ((rgOut q [x403]).2)) (fun _ q => q) ?_
                        refine s_pure (.bool (!(rgOut q [x403]).2)) (fun _ q => q) ?_
                        refine s_pure (.bool (!(rgOut q [x403]).2)) (fun _ q => q) ?_
                        refine s_splitT rfl (fun c454 => ?_) (fun c454 => ?_)
                        ·
                          refine s_pass rfl ?_
                          refine s_pass rfl ?_
                          refine s_pure (.bool true) (fun _ q => q) ?_
                          refine s_pure (.bool true) (fun _ q => q) ?_
                          refine s_splitY rfl rfl ?_
                          refine s_pass rfl ?_
                          refine s_pass rfl ?_
                          refine s_pass rfl ?_
                          refine s_pass rfl ?_
                          refine s_pure (.bool true) (fun _ q => q) ?_
                          refine s_nil ?_
                          refine p_seqN ?_
                          refine v_condY rfl rfl ?_
                          refine v_seq ?_
                          refine v_ops ?_
                          refine s_pure (.bool false) (fun _ q => q) ?_
                          refine s_nil ?_
                          refine p_seqN ?_
                          refine v_ret ?_
                          refine p_seqR ?_
                          refine p_blkR ?_
                          refine p_seqR ?_
                          refine p_lpR ?_
                          refine p_blkR ?_
                          refine p_seqR ?_
                          refine p_ret [.bool false] (.bool false) (fun _ q => q) rfl ?_
                          have ho : true = false := by first | rfl | exact (decide_eq_true (rg_rep (by assumption))).symm | (exfalso; first | omega | exact absurd hk1 (by assumption) | exact absurd hk4 (by assumption) | (have q_ := hk5 (by omega); simp_all; done) | exact absurd (hE.1 (by omega)).1 (by assumption) | exact absurd hEa (by assumption) | (have q_ := hE.1 (by omega); simp_all; done) | (rw [hp3] at *; simp_all; done) | (have q_ := now_ok hr1 hr2 hr3 (by assumption) hq; simp_all; done) | exact absurd (same_of hr4 hq (by assumption)) (by assumption) | (simp_all; done))
                          exact ⟨by first | (rw [ho]; done) | rfl, E437⟩
                        ·
                          have c454 := Classical.not_not.1 c454
                          refine s_run rfl ?_
                          refine s_pure (.bool ((rgOut q [x403]).2)) (fun _ q => q) ?_
                          refine s_run rfl ?_
                          refine s_pure (.bool (!(rgOut q [x403]).2)) (fun _ q => q) ?_
                          refine s_pure (.bool (!(rgOut q [x403]).2)) (fun _ q => q) ?_
                          refine s_pure (.bool (!(rgOut q [x403]).2)) (fun _ q => q) ?_
                          refine s_splitN rfl (by first | assumption | omega | (simp; done) | (simp; omega) | simp_all) ?_
                          refine s_run rfl ?_
                          have f455 := (((bxx422.ext eh428).ext eh432).mod mh435 (by simp; omega))
                          refine s_load (.agg #[.int .i64 (((rgOut q [x403]).1).phase), .int .i64 (((rgOut q [x403]).1).holds), .int .i64 (((rgOut q [x403]).1).again), .int .i64 (((rgOut q [x403]).1).shown), r413]) (fun _ q => f455.loadA rfl q) ?_
                          refine s_run rfl ?_
                          refine s_load (.agg #[.int .i64 (((rgOut q [x403]).1).phase), .int .i64 (((rgOut q [x403]).1).holds), .int .i64 (((rgOut q [x403]).1).again), .int .i64 (((rgOut q [x403]).1).shown), r427]) (fun _ q => bxx436.loadA rfl q) ?_
                          refine s_run rfl ?_
                          have f457 := (((((s_r413.ext eh418).mod mh421 (fun b hb hc => by simp at hc; have := lt_r413 b hb; omega)).ext eh428).ext eh432).mod mh435 (fun b hb hc => by simp at hc; have := lt_r413 b hb; omega))
                          have f458 := ((s_r427.ext eh432).mod mh435 (fun b hb hc => by simp at hc; have := lt_r427 b hb; omega))
                          refine s_call [.agg #[.int .i64 (((rgOut q [x403]).1).phase), .int .i64 (((rgOut q [x403]).1).holds), .int .i64 (((rgOut q [x403]).1).again), .int .i64 (((rgOut q [x403]).1).shown), r413], .agg #[.int .i64 (((rgOut q [x403]).1).phase), .int .i64 (((rgOut q [x403]).1).holds), .int .i64 (((rgOut q [x403]).1).again), .int .i64 (((rgOut q [x403]).1).shown), r427]] rfl (laws_qRepeater_ok ((rgOut q [x403]).1) r413 ((rgOut q [x403]).1) r427 _ f457.toSl f458.toSl) ?_
                          rintro vh456 h456 ⟨hvh456, eh456⟩
                          obtain rfl : vh456 = .bool true := hvh456.trans (by rw [decide_eq_true (rep_refl _)])
                          have E459 := E437.trans eh456
                          have z460 := eh456.size
                          refine s_run rfl ?_
                          refine s_pure (.bool false) (fun _ q => q) ?_
                          refine s_pure (.bool false) (fun _ q => q) ?_
                          refine s_nil ?_
                          refine p_seqN ?_
                          refine v_condN rfl (by simp) ?_
                          refine v_skip ?_
                          refine p_seqN ?_
                          exact M438 _ _ ⟨rfl, rfl, rfl, rfl, rfl, rfl, rfl⟩ ((Ext.refl _).trans eh456)
                    ·
                      refine v_exit ?_
                      refine p_seqX ?_
                      refine p_lpX ?_
                      refine p_blkX ?_
                      refine p_seqN ?_
                      refine v_seq ?_
                      refine v_ops ?_
                      refine s_load (.agg #[.int .i64 q.phase, .int .i64 q.holds, .int .i64 q.again, .int .i64 q.shown, v]) (fun _ q => bxb380.loadA rfl q) ?_
                      refine s_load (.agg #[.int .i64 (((rgOut g2 g4).1).phase), .int .i64 (((rgOut g2 g4).1).holds), .int .i64 (((rgOut g2 g4).1).again), .int .i64 (((rgOut g2 g4).1).shown), r32]) (fun _ q => bxb36.loadA rfl q) ?_
                      refine s_call [.agg #[.int .i64 q.phase, .int .i64 q.holds, .int .i64 q.again, .int .i64 q.shown, v], .agg #[.int .i64 (((rgOut g2 g4).1).phase), .int .i64 (((rgOut g2 g4).1).holds), .int .i64 (((rgOut g2 g4).1).again), .int .i64 (((rgOut g2 g4).1).shown), r32]] rfl (laws_qRepeater_ok q v ((rgOut g2 g4).1) r32 _ s_v.toSl s_r32.toSl) ?_
                      rintro _ h461 ⟨rfl, eh461⟩
                      have E462 := Eh.trans eh461
                      have z463 := eh461.size
                      refine s_pure (.bool (decide (q.same ((rgOut g2 g4).1)))) (fun _ q => q) ?_
                      refine s_splitT rfl (fun c464 => ?_) (fun c464 => ?_)
                      ·
                        refine s_run rfl ?_
                        have f465 := (bxb22.ext eh461)
                        refine s_load (.agg #[.int .i64 (((rgOut g2 g4).1).phase), .int .i64 (((rgOut g2 g4).1).holds), .int .i64 (((rgOut g2 g4).1).again), .int .i64 (((rgOut g2 g4).1).shown), r18]) (fun _ q => f465.loadA rfl q) ?_
                        refine s_run rfl ?_
                        have f466 := (s_r18.ext eh461)
                        refine s_call [.agg #[.int .i64 (((rgOut g2 g4).1).phase), .int .i64 (((rgOut g2 g4).1).holds), .int .i64 (((rgOut g2 g4).1).again), .int .i64 (((rgOut g2 g4).1).shown), r18]] rfl (impl_IsRepeater_ok ((rgOut g2 g4).1) r18 _ f466.toSl) ?_
                        rintro _ h467 ⟨rfl, eh467⟩
                        have E468 := E462.trans eh467
                        have z469 := eh467.size
                        refine s_pure (.bool (decide (RepOk ((rgOut g2 g4).1)))) (fun _ q => q) ?_
                        refine s_pure (.bool (decide (RepOk ((rgOut g2 g4).1)))) (fun _ q => q) ?_
                        refine s_nil ?_
                        refine p_seqN ?_
                        refine v_ret ?_
                        refine p_ret [.bool (decide (RepOk ((rgOut g2 g4).1)))] (.bool (decide (RepOk ((rgOut g2 g4).1)))) (fun _ q => q) rfl ?_
                        have ho : true = decide (RepOk ((rgOut g2 g4).1)) := by first | rfl | exact (decide_eq_true (rg_rep (by assumption))).symm | (exfalso; first | omega | exact absurd hk1 (by assumption) | exact absurd hk4 (by assumption) | (have q_ := hk5 (by omega); simp_all; done) | exact absurd (hE.1 (by omega)).1 (by assumption) | exact absurd hEa (by assumption) | (have q_ := hE.1 (by omega); simp_all; done) | (rw [hp3] at *; simp_all; done) | (have q_ := now_ok hr1 hr2 hr3 (by assumption) hq; simp_all; done) | exact absurd (same_of hr4 hq (by assumption)) (by assumption) | (simp_all; done))
                        exact ⟨by first | (rw [ho]; done) | rfl, E468⟩
                      ·
                        refine s_pass rfl ?_
                        refine s_pass rfl ?_
                        refine s_pure (.bool false) (fun _ q => q) ?_
                        refine s_pure (.bool false) (fun _ q => q) ?_
                        refine s_nil ?_
                        refine p_seqN ?_
                        refine v_ret ?_
                        refine p_ret [.bool false] (.bool false) (fun _ q => q) rfl ?_
                        have ho : true = false := by first | rfl | exact (decide_eq_true (rg_rep (by assumption))).symm | (exfalso; first | omega | exact absurd hk1 (by assumption) | exact absurd hk4 (by assumption) | (have q_ := hk5 (by omega); simp_all; done) | exact absurd (hE.1 (by omega)).1 (by assumption) | exact absurd hEa (by assumption) | (have q_ := hE.1 (by omega); simp_all; done) | (rw [hp3] at *; simp_all; done) | (have q_ := now_ok hr1 hr2 hr3 (by assumption) hq; simp_all; done) | exact absurd (same_of hr4 hq (by assumption)) (by assumption) | (simp_all; done))
                        exact ⟨by first | (rw [ho]; done) | rfl, E462⟩
            ·
              refine v_seq ?_
              refine v_seq ?_
              refine v_ops ?_
              refine s_pure (.bool ((pbOut ((pgOut g94).1)).2.2)) (fun _ q => q) ?_
              refine s_pure (.bool (!(pbOut ((pgOut g94).1)).2.2)) (fun _ q => q) ?_
              refine s_pure (.bool (!(pbOut ((pgOut g94).1)).2.2)) (fun _ q => q) ?_
              refine s_splitT rfl (fun c470 => ?_) (fun c470 => ?_)
              ·
                refine s_pass rfl ?_
                refine s_pass rfl ?_
                refine s_pass rfl ?_
                refine s_pass rfl ?_
                refine s_pass rfl ?_
                refine s_pass rfl ?_
                refine s_pure (.bool true) (fun _ q => q) ?_
                refine s_nil ?_
                refine p_seqN ?_
                refine v_condY rfl rfl ?_
                refine v_seq ?_
                refine v_ops ?_
                refine s_pure (.bool false) (fun _ q => q) ?_
                refine s_nil ?_
                refine p_seqN ?_
                refine v_ret ?_
                refine p_seqR ?_
                refine p_seqR ?_
                refine p_ret [.bool false] (.bool false) (fun _ q => q) rfl ?_
                have ho : true = false := by first | rfl | exact (decide_eq_true (rg_rep (by assumption))).symm | (exfalso; first | omega | exact absurd hk1 (by assumption) | exact absurd hk4 (by assumption) | (have q_ := hk5 (by omega); simp_all; done) | exact absurd (hE.1 (by omega)).1 (by assumption) | exact absurd hEa (by assumption) | (have q_ := hE.1 (by omega); simp_all; done) | (rw [hp3] at *; simp_all; done) | (have q_ := now_ok hr1 hr2 hr3 (by assumption) hq; simp_all; done) | exact absurd (same_of hr4 hq (by assumption)) (by assumption) | (simp_all; done))
                exact ⟨by first | (rw [ho]; done) | rfl, Eh⟩
              ·
                have c470 := Classical.not_not.1 c470
                refine s_run rfl ?_
                refine s_pure r104 (fun _ q => q) ?_
                refine s_run rfl ?_
                refine s_pure (.int .i64 (((pgOut g94).1).length : Int)) (fun _ q => s_r104.lenVC q) ?_
                refine s_run rfl ?_
                refine s_pure r95 (fun _ q => q) ?_
                refine s_run rfl ?_
                refine s_pure (.int .i64 (g94.length : Int)) (fun _ q => s_r95.lenVC q) ?_
                refine s_run rfl ?_
                refine s_pure (.int .i64 (2 * (g94.length : Int))) (fun _ q => ArithVC.mk (by omega) q) ?_
                refine s_run rfl ?_
                refine s_pure (.bool ((((pgOut g94).1).length : Int) != (2 * (g94.length : Int)))) (fun _ q => q) ?_
                refine s_pure (.bool ((((pgOut g94).1).length : Int) != (2 * (g94.length : Int)))) (fun _ q => q) ?_
                refine s_nil ?_
                refine p_seqN ?_
                refine v_cond rfl (fun c471 => ?_) (fun c471 => ?_)
                ·
                  refine v_seq ?_
                  refine v_ops ?_
                  refine s_pure (.bool false) (fun _ q => q) ?_
                  refine s_nil ?_
                  refine p_seqN ?_
                  refine v_ret ?_
                  refine p_seqR ?_
                  refine p_seqR ?_
                  refine p_ret [.bool false] (.bool false) (fun _ q => q) rfl ?_
                  have ho : true = false := by first | rfl | exact (decide_eq_true (rg_rep (by assumption))).symm | (exfalso; first | omega | exact absurd hk1 (by assumption) | exact absurd hk4 (by assumption) | (have q_ := hk5 (by omega); simp_all; done) | exact absurd (hE.1 (by omega)).1 (by assumption) | exact absurd hEa (by assumption) | (have q_ := hE.1 (by omega); simp_all; done) | (rw [hp3] at *; simp_all; done) | (have q_ := now_ok hr1 hr2 hr3 (by assumption) hq; simp_all; done) | exact absurd (same_of hr4 hq (by assumption)) (by assumption) | (simp_all; done))
                  exact ⟨by first | (rw [ho]; done) | rfl, Eh⟩
                ·
                  have c471 := Classical.not_not.1 c471
                  refine v_skip ?_
                  refine p_seqN ?_
                  exact M164 _ _ ⟨rfl, rfl, rfl, rfl, rfl, rfl, rfl, rfl, rfl⟩ (Ext.refl _)
        ·
          refine v_skip ?_
          refine p_seqN ?_
          refine v_seq ?_
          refine v_seq ?_
          refine v_ops ?_
          refine s_pure (.bool ((rgOut g2 g4).2)) (fun _ q => q) ?_
          refine s_pure (.bool (!(rgOut g2 g4).2)) (fun _ q => q) ?_
          refine s_nil ?_
          refine p_seqN ?_
          refine v_cond rfl (fun c472 => ?_) (fun c472 => ?_)
          ·
            refine v_seq ?_
            refine v_ops ?_
            refine s_pure (.bool true) (fun _ q => q) ?_
            refine s_nil ?_
            refine p_seqN ?_
            refine v_ret ?_
            refine p_seqR ?_
            refine p_ret [.bool true] (.bool true) (fun _ q => q) rfl ?_
            have ho : true = true := by first | rfl | exact (decide_eq_true (rg_rep (by assumption))).symm | (exfalso; first | omega | exact absurd hk1 (by assumption) | exact absurd hk4 (by assumption) | (have q_ := hk5 (by omega); simp_all; done) | exact absurd (hE.1 (by omega)).1 (by assumption) | exact absurd hEa (by assumption) | (have q_ := hE.1 (by omega); simp_all; done) | (rw [hp3] at *; simp_all; done) | (have q_ := now_ok hr1 hr2 hr3 (by assumption) hq; simp_all; done) | exact absurd (same_of hr4 hq (by assumption)) (by assumption) | (simp_all; done))
            exact ⟨by first | (rw [ho]; done) | rfl, E116⟩
          ·
            have c472 := Classical.not_not.1 c472
            obtain ⟨hr1, hr2, hr3, hr4⟩ := rg_good c472
            refine v_skip ?_
            refine p_seqN ?_
            refine v_seq ?_
            refine v_ops ?_
            have f473 := (((((((((((((((((((f29.ext eh33).ext eh37).mod mh40 (by simp; omega)).ext eh47).ext eh51).ext eh55).mod mh59 (by simp; omega)).mod mh63 (by simp; omega)).ext eh69).ext eh73).mod mh76 (by simp; omega)).ext eh83).ext eh87).mod mh90 (by simp; omega)).ext eh96).ext eh100).ext eh105).ext eh110).ext eh115)
            refine s_load (.agg #[.int .i64 g2.phase, .int .i64 g2.holds, .int .i64 g2.again, .int .i64 g2.shown, r3]) (fun _ q => f473.loadA rfl q) ?_
            refine s_new (fun h475 b474 hbb474 hzb474 eh475 bxb474 => ?_)
            have E476 := E116.trans eh475
            have z477 := eh475.size
            have lbb474 := bxb474.lt
            refine s_stBx (.agg #[.int .i64 g2.phase, .int .i64 g2.holds, .int .i64 g2.again, .int .i64 g2.shown, r3]) [.int .i64 g2.phase, .int .i64 g2.holds, .int .i64 g2.again, .int .i64 g2.shown, r3] [.int .i64 g2.phase, .int .i64 g2.holds, .int .i64 g2.again, .int .i64 g2.shown, r3] bxb474 rfl rfl rfl rfl (by simp) (all_cons rfl (all_cons rfl (all_cons rfl (all_cons rfl (all_cons f30.one1 all_nil))))) rfl (fun h478 mh478 sh478 bxx479 => ?_)
            have E480 := E476.mod mh478 (fun b hb => by simp at hb; omega)
            refine s_nil ?_
            refine p_seqN ?_
            refine v_seq ?_
            refine v_seq ?_
            refine v_ops ?_
            refine s_pure r5 (fun _ q => q) ?_
            refine s_pure (.int .i64 (g4.length : Int)) (fun _ q => f31.lenVC q) ?_
            refine s_pure (.int .i64 0) (fun _ q => q) ?_
            refine s_nil ?_
            refine p_seqN ?_
            refine v_block ?_
            have nk482 : b22 ∉ blks r18 := (fun hc => by have := lt_r18 _ hc; omega)
            have nk483 : b36 ∉ blks r18 := (fun hc => by have := lt_r18 _ hc; omega)
            have nk484 : b474 ∉ blks r18 := (fun hc => by have := lt_r18 _ hc; omega)
            have nk485 : b22 ∉ blks r32 := (fun hc => by have := fr_r32 _ hc; omega)
            have nk486 : b36 ∉ blks r32 := (fun hc => by have := lt_r32 _ hc; omega)
            have nk487 : b474 ∉ blks r32 := (fun hc => by have := lt_r32 _ hc; omega)
            have nk488 : b22 ∉ blks r5 := (fun hc => by have := lt_r5 _ hc; omega)
            have nk489 : b36 ∉ blks r5 := (fun hc => by have := lt_r5 _ hc; omega)
            have nk490 : b474 ∉ blks r5 := (fun hc => by have := lt_r5 _ hc; omega)
            have f491 := (((((((((((((((((((((bxx27.ext eh33).ext eh37).mod mh40 (by simp; omega)).ext eh47).ext eh51).ext eh55).mod mh59 (by simp; omega)).mod mh63 (by simp; omega)).ext eh69).ext eh73).mod mh76 (by simp; omega)).ext eh83).ext eh87).mod mh90 (by simp; omega)).ext eh96).ext eh100).ext eh105).ext eh110).ext eh115).ext eh475).mod mh478 (by simp; omega))
            have f492 := ((((((((((((((((((bxx41.ext eh47).ext eh51).ext eh55).mod mh59 (by simp; omega)).mod mh63 (by simp; omega)).ext eh69).ext eh73).mod mh76 (by simp; omega)).ext eh83).ext eh87).mod mh90 (by simp; omega)).ext eh96).ext eh100).ext eh105).ext eh110).ext eh115).ext eh475).mod mh478 (by simp; omega))
            have f493 := (((((((((((((((((((((((s_r18.ext eh23).mod mh26 (fun b hb hc => by simp at hc; have := lt_r18 b hb; omega)).ext eh33).ext eh37).mod mh40 (fun b hb hc => by simp at hc; have := lt_r18 b hb; omega)).ext eh47).ext eh51).ext eh55).mod mh59 (fun b hb hc => by simp at hc; have := lt_r18 b hb; omega)).mod mh63 (fun b hb hc => by simp at hc; have := lt_r18 b hb; omega)).ext eh69).ext eh73).mod mh76 (fun b hb hc => by simp at hc; have := lt_r18 b hb; omega)).ext eh83).ext eh87).mod mh90 (fun b hb hc => by simp at hc; have := lt_r18 b hb; omega)).ext eh96).ext eh100).ext eh105).ext eh110).ext eh115).ext eh475).mod mh478 (fun b hb hc => by simp at hc; have := lt_r18 b hb; omega))
            have f494 := ((((((((((((((((((((s_r32.ext eh37).mod mh40 (fun b hb hc => by simp at hc; have := lt_r32 b hb; omega)).ext eh47).ext eh51).ext eh55).mod mh59 (fun b hb hc => by simp at hc; have := lt_r32 b hb; omega)).mod mh63 (fun b hb hc => by simp at hc; have := lt_r32 b hb; omega)).ext eh69).ext eh73).mod mh76 (fun b hb hc => by simp at hc; have := lt_r32 b hb; omega)).ext eh83).ext eh87).mod mh90 (fun b hb hc => by simp at hc; have := lt_r32 b hb; omega)).ext eh96).ext eh100).ext eh105).ext eh110).ext eh115).ext eh475).mod mh478 (fun b hb hc => by simp at hc; have := lt_r32 b hb; omega))
            have f495 := (((((((((((((((((((((f30.ext eh33).ext eh37).mod mh40 (fun b hb hc => by simp at hc; have := lt_r3 b hb; omega)).ext eh47).ext eh51).ext eh55).mod mh59 (fun b hb hc => by simp at hc; have := lt_r3 b hb; omega)).mod mh63 (fun b hb hc => by simp at hc; have := lt_r3 b hb; omega)).ext eh69).ext eh73).mod mh76 (fun b hb hc => by simp at hc; have := lt_r3 b hb; omega)).ext eh83).ext eh87).mod mh90 (fun b hb hc => by simp at hc; have := lt_r3 b hb; omega)).ext eh96).ext eh100).ext eh105).ext eh110).ext eh115).ext eh475).mod mh478 (fun b hb hc => by simp at hc; have := lt_r3 b hb; omega))
            have f496 := (((((((((((((((((((((f31.ext eh33).ext eh37).mod mh40 (fun b hb hc => by simp at hc; have := lt_r5 b hb; omega)).ext eh47).ext eh51).ext eh55).mod mh59 (fun b hb hc => by simp at hc; have := lt_r5 b hb; omega)).mod mh63 (fun b hb hc => by simp at hc; have := lt_r5 b hb; omega)).ext eh69).ext eh73).mod mh76 (fun b hb hc => by simp at hc; have := lt_r5 b hb; omega)).ext eh83).ext eh87).mod mh90 (fun b hb hc => by simp at hc; have := lt_r5 b hb; omega)).ext eh96).ext eh100).ext eh105).ext eh110).ext eh115).ext eh475).mod mh478 (fun b hb hc => by simp at hc; have := lt_r5 b hb; omega))
            refine v_loop3 (α := Nat) (β := RepP) (γ := Value) (fun k q v => [(7, .pointer (some ⟨b22, 0, none⟩)), (9, .pointer (some ⟨b36, 0, none⟩)), (29, .pointer (some ⟨b474, 0, none⟩)), (249, r5), (250, .int .i64 (g4.length : Int)), (251, .int .i64 (k : Int))]) (fun k q v hh => Ext h hh ∧ Bx hh b22 [.int .i64 (((rgOut g2 g4).1).phase), .int .i64 (((rgOut g2 g4).1).holds), .int .i64 (((rgOut g2 g4).1).again), .int .i64 (((rgOut g2 g4).1).shown), r18] 25 ∧ Bx hh b36 [.int .i64 (((rgOut g2 g4).1).phase), .int .i64 (((rgOut g2 g4).1).holds), .int .i64 (((rgOut g2 g4).1).again), .int .i64 (((rgOut g2 g4).1).shown), r32] 25 ∧ Bx hh b474 [.int .i64 q.phase, .int .i64 q.holds, .int .i64 q.again, .int .i64 q.shown, v] 25 ∧ SlO hh r18 (((rgOut g2 g4).1).passed) ∧ SlO hh r32 (((rgOut g2 g4).1).passed) ∧ SlO hh v q.passed ∧ Fr h.size v ∧ SlO hh r5 g4 ∧ b22 ∉ blks v ∧ b36 ∉ blks v ∧ b474 ∉ blks v ∧ (∀ b ∈ blks r18, b ∉ blks v) ∧ (∀ b ∈ blks r32, b ∉ blks v) ∧ (∀ b ∈ blks r5, b ∉ blks v) ∧ k ≤ g4.length ∧ q = run g2 (g4.take k)) (fun k q v => g4.length - k) 0 g2 r3 ⟨rfl, rfl, rfl, rfl, rfl, rfl⟩ ⟨E480, f491, f492, bxx479, f493, f494, (sl_eq f495 (by simp)), (fr_r3.mono (by omega)), f496, (fun hc => by have := lt_r3 _ hc; omega), (fun hc => by have := lt_r3 _ hc; omega), (fun hc => by have := lt_r3 _ hc; omega), (fun b hb hc => by have := fr_r18 b hb; have := lt_r3 b hc; omega), (fun b hb hc => by have := fr_r32 b hb; have := lt_r3 b hc; omega), (fun b hb hc => ap_r3_r5 b hc hb), (by exact ⟨by omega, rfl⟩)⟩ ?_
            rintro k q v R497 h481 ⟨Eh, bxb22, bxb36, bxb474, s_r18, s_r32, s_v, fr_v, s_r5, np_b22_v, np_b36_v, np_b474_v, np_r18_v, np_r32_v, np_r5_v, ⟨hk, hq⟩⟩
            have zEh := Eh.size
            have f499 := s_code.ext Eh
            have f500 := s_more.ext Eh
            have ltk_r5 := s_r5.lt
            have ltk_r18 := s_r18.lt
            have lbb22 := bxb22.lt
            have ltk_r32 := s_r32.lt
            have lbb36 := bxb36.lt
            have lbb474 := bxb474.lt
            have lt_v := s_v.lt
            refine v_seq ?_
            refine v_ops ?_
            refine s_pure (.bool (decide ((k : Int) < (g4.length : Int)))) (fun _ q => q) ?_
            refine s_nil ?_
            refine p_seqN ?_
            refine v_seq ?_
            refine v_cond rfl (fun c501 => ?_) (fun c501 => ?_)
            ·
              refine v_skip ?_
              refine p_seqN ?_
              refine v_seq ?_
              refine v_block ?_
              refine v_seq ?_
              refine v_ops ?_
              have hk502 : k < g4.length := (by first | omega | (simp; omega))
              obtain ⟨x503, hx503⟩ : ∃ x, g4[k]? = some x := ⟨_, List.getElem?_eq_getElem hk502⟩
              refine s_pure (.pointer (some ⟨sblk r5, soff r5 + k * 2, none⟩)) (fun _ q => s_r5.idx (k := k) rfl hk502 q) ?_
              refine s_load (.agg #[.bool x503.next, .int .i64 x503.signal]) (fun _ q => s_r5.loadN hx503 rfl q) ?_
              refine s_new (fun h505 b504 hbb504 hzb504 eh505 bxb504 => ?_)
              have E506 := Eh.trans eh505
              have z507 := eh505.size
              have lbb504 := bxb504.lt
              refine s_stBx (.agg #[.bool x503.next, .int .i64 x503.signal]) [.bool x503.next, .int .i64 x503.signal] [.bool x503.next, .int .i64 x503.signal] bxb504 rfl rfl rfl rfl (by simp) (all_cons rfl (all_cons rfl all_nil)) rfl (fun h508 mh508 sh508 bxx509 => ?_)
              have E510 := E506.mod mh508 (fun b hb => by simp at hb; omega)
              refine s_nil ?_
              refine p_seqN ?_
              refine v_seq ?_
              refine v_ops ?_
              have f511 := ((bxb474.ext eh505).mod mh508 (by simp; omega))
              refine s_load (.agg #[.int .i64 q.phase, .int .i64 q.holds, .int .i64 q.again, .int .i64 q.shown, v]) (fun _ q => f511.loadA rfl q) ?_
              refine s_load (.agg #[.bool x503.next, .int .i64 x503.signal]) (fun _ q => bxx509.loadA rfl q) ?_
              have f512 := ((s_v.ext eh505).mod mh508 (fun b hb hc => by simp at hc; have := lt_v b hb; omega))
              refine s_call [.agg #[.int .i64 q.phase, .int .i64 q.holds, .int .i64 q.again, .int .i64 q.shown, v], .agg #[.bool x503.next, .int .i64 x503.signal]] rfl (impl_GlanceAt_ok q v x503 _ f512.toSl) ?_
              rintro _ h514 ⟨r513, rfl, s_r513, fr_r513, eh514⟩
              have E515 := E510.trans eh514
              have z516 := eh514.size
              have lt_r513 := s_r513.lt
              refine s_pure (.tuple #[.agg #[.int .i64 (((rgOut q [x503]).1).phase), .int .i64 (((rgOut q [x503]).1).holds), .int .i64 (((rgOut q [x503]).1).again), .int .i64 (((rgOut q [x503]).1).shown), r513], .bool ((rgOut q [x503]).2)]) (fun _ q => q) ?_
              refine s_pure (.agg #[.int .i64 (((rgOut q [x503]).1).phase), .int .i64 (((rgOut q [x503]).1).holds), .int .i64 (((rgOut q [x503]).1).again), .int .i64 (((rgOut q [x503]).1).shown), r513]) (fun _ q => q) ?_
              refine s_pure (.bool ((rgOut q [x503]).2)) (fun _ q => q) ?_
              refine s_new (fun h518 b517 hbb517 hzb517 eh518 bxb517 => ?_)
              have E519 := E515.trans eh518
              have z520 := eh518.size
              have lbb517 := bxb517.lt
              refine s_stBx (.agg #[.int .i64 (((rgOut q [x503]).1).phase), .int .i64 (((rgOut q [x503]).1).holds), .int .i64 (((rgOut q [x503]).1).again), .int .i64 (((rgOut q [x503]).1).shown), r513]) [.int .i64 (((rgOut q [x503]).1).phase), .int .i64 (((rgOut q [x503]).1).holds), .int .i64 (((rgOut q [x503]).1).again), .int .i64 (((rgOut q [x503]).1).shown), r513] [.int .i64 (((rgOut q [x503]).1).phase), .int .i64 (((rgOut q [x503]).1).holds), .int .i64 (((rgOut q [x503]).1).again), .int .i64 (((rgOut q [x503]).1).shown), r513] bxb517 rfl rfl rfl rfl (by simp) (all_cons rfl (all_cons rfl (all_cons rfl (all_cons rfl (all_cons s_r513.one1 all_nil))))) rfl (fun h521 mh521 sh521 bxx522 => ?_)
              have E523 := E519.mod mh521 (fun b hb => by simp at hb; omega)
              refine s_pure (.bool ((rgOut q [x503]).2)) (fun _ q => q) ?_
              refine s_nil ?_
              refine p_seqN ?_
              refine v_seq ?_
              refine v_ops ?_
              have f524 := (((f511.ext eh514).ext eh518).mod mh521 (by simp; omega))
              refine s_load (.agg #[.int .i64 q.phase, .int .i64 q.holds, .int .i64 q.again, .int .i64 q.shown, v]) (fun _ q => f524.loadA rfl q) ?_
              have f525 := (((bxx509.ext eh514).ext eh518).mod mh521 (by simp; omega))
              refine s_load (.agg #[.bool x503.next, .int .i64 x503.signal]) (fun _ q => f525.loadA rfl q) ?_
              have f526 := (((f512.ext eh514).ext eh518).mod mh521 (fun b hb hc => by simp at hc; have := lt_v b hb; omega))
              refine s_call [.agg #[.int .i64 q.phase, .int .i64 q.holds, .int .i64 q.again, .int .i64 q.shown, v], .agg #[.bool x503.next, .int .i64 x503.signal]] rfl (spec_GlanceAt_ok q v x503 _ f526.toSl) ?_
              rintro _ h528 ⟨r527, rfl, s_r527, fr_r527, eh528⟩
              have E529 := E523.trans eh528
              have z530 := eh528.size
              have lt_r527 := s_r527.lt
              refine s_pure (.tuple #[.agg #[.int .i64 (((rgOut q [x503]).1).phase), .int .i64 (((rgOut q [x503]).1).holds), .int .i64 (((rgOut q [x503]).1).again), .int .i64 (((rgOut q [x503]).1).shown), r527], .bool ((rgOut q [x503]).2)]) (fun _ q => q) ?_
              refine s_pure (.agg #[.int .i64 (((rgOut q [x503]).1).phase), .int .i64 (((rgOut q [x503]).1).holds), .int .i64 (((rgOut q [x503]).1).again), .int .i64 (((rgOut q [x503]).1).shown), r527]) (fun _ q => q) ?_
              refine s_pure (.bool ((rgOut q [x503]).2)) (fun _ q => q) ?_
              refine s_new (fun h532 b531 hbb531 hzb531 eh532 bxb531 => ?_)
              have E533 := E529.trans eh532
              have z534 := eh532.size
              have lbb531 := bxb531.lt
              refine s_stBx (.agg #[.int .i64 (((rgOut q [x503]).1).phase), .int .i64 (((rgOut q [x503]).1).holds), .int .i64 (((rgOut q [x503]).1).again), .int .i64 (((rgOut q [x503]).1).shown), r527]) [.int .i64 (((rgOut q [x503]).1).phase), .int .i64 (((rgOut q [x503]).1).holds), .int .i64 (((rgOut q [x503]).1).again), .int .i64 (((rgOut q [x503]).1).shown), r527] [.int .i64 (((rgOut q [x503]).1).phase), .int .i64 (((rgOut q [x503]).1).holds), .int .i64 (((rgOut q [x503]).1).again), .int .i64 (((rgOut q [x503]).1).shown), r527] bxb531 rfl rfl rfl rfl (by simp) (all_cons rfl (all_cons rfl (all_cons rfl (all_cons rfl (all_cons s_r527.one1 all_nil))))) rfl (fun h535 mh535 sh535 bxx536 => ?_)
              have E537 := E533.mod mh535 (fun b hb => by simp at hb; omega)
              refine s_pure (.bool ((rgOut q [x503]).2)) (fun _ q => q) ?_
              refine s_nil ?_
              refine p_seqN ?_
              refine v_seqM1 [(7, .pointer (some ⟨b22, 0, none⟩)), (9, .pointer (some ⟨b36, 0, none⟩)), (29, .pointer (some ⟨b474, 0, none⟩)), (34, .pointer (some ⟨b531, 0, none⟩)), (249, r5), (250, .int .i64 (g4.length : Int)), (251, .int .i64 (k : Int))] (fun R539 h540 eh540 => ?_) (fun M538 => ?_)
              ·
                have E541 := E537.trans eh540
                have z542 := eh540.size
                refine v_ops ?_
                have f543 := (bxx536.ext eh540)
                refine s_load (.agg #[.int .i64 (((rgOut q [x503]).1).phase), .int .i64 (((rgOut q [x503]).1).holds), .int .i64 (((rgOut q [x503]).1).again), .int .i64 (((rgOut q [x503]).1).shown), r527]) (fun _ q => f543.loadA rfl q) ?_
                have f544 := ((((f524.ext eh528).ext eh532).mod mh535 (by simp; omega)).ext eh540)
                refine s_stBx (.agg #[.int .i64 (((rgOut q [x503]).1).phase), .int .i64 (((rgOut q [x503]).1).holds), .int .i64 (((rgOut q [x503]).1).again), .int .i64 (((rgOut q [x503]).1).shown), r527]) [.int .i64 (((rgOut q [x503]).1).phase), .int .i64 (((rgOut q [x503]).1).holds), .int .i64 (((rgOut q [x503]).1).again), .int .i64 (((rgOut q [x503]).1).shown), r527] [.int .i64 (((rgOut q [x503]).1).phase), .int .i64 (((rgOut q [x503]).1).holds), .int .i64 (((rgOut q [x503]).1).again), .int .i64 (((rgOut q [x503]).1).shown), r527] f544 rfl rfl rfl rfl (by simp) (all_cons rfl (all_cons rfl (all_cons rfl (all_cons rfl (all_cons s_r527.one1 all_nil))))) rfl (fun h545 mh545 sh545 bxx546 => ?_)
                have E547 := E541.mod mh545 (fun b hb => by simp at hb; omega)
                refine s_nil ?_
                refine p_blkN ?_
                refine p_seqN ?_
                refine v_ops ?_
                refine s_pure (.int .i64 ((k : Int) + 1)) (fun _ q => ArithVC.mk (by omega) q) ?_
                refine s_pure (.int .i64 ((k : Int) + 1)) (fun _ q => q) ?_
                refine s_nil ?_
                have f548 := ((((((((((bxb22.ext eh505).mod mh508 (by simp; omega)).ext eh514).ext eh518).mod mh521 (by simp; omega)).ext eh528).ext eh532).mod mh535 (by simp; omega)).ext eh540).mod mh545 (by simp; omega))
                have f549 := ((((((((((bxb36.ext eh505).mod mh508 (by simp; omega)).ext eh514).ext eh518).mod mh521 (by simp; omega)).ext eh528).ext eh532).mod mh535 (by simp; omega)).ext eh540).mod mh545 (by simp; omega))
                have f550 := ((((((((((s_r18.ext eh505).mod mh508 (fun b hb hc => by simp at hc; have := ltk_r18 b hb; have := lt_r18 b hb; omega)).ext eh514).ext eh518).mod mh521 (fun b hb hc => by simp at hc; have := ltk_r18 b hb; have := lt_r18 b hb; omega)).ext eh528).ext eh532).mod mh535 (fun b hb hc => by simp at hc; have := ltk_r18 b hb; have := lt_r18 b hb; omega)).ext eh540).mod mh545 (fun b hb hc => nk484 (by simp at hc; rw [← hc]; exact hb)))
                have f551 := ((((((((((s_r32.ext eh505).mod mh508 (fun b hb hc => by simp at hc; have := ltk_r32 b hb; have := lt_r32 b hb; omega)).ext eh514).ext eh518).mod mh521 (fun b hb hc => by simp at hc; have := ltk_r32 b hb; have := lt_r32 b hb; omega)).ext eh528).ext eh532).mod mh535 (fun b hb hc => by simp at hc; have := ltk_r32 b hb; have := lt_r32 b hb; omega)).ext eh540).mod mh545 (fun b hb hc => nk487 (by simp at hc; rw [← hc]; exact hb)))
                have f552 := ((((s_r527.ext eh532).mod mh535 (fun b hb hc => by simp at hc; have := lt_r527 b hb; omega)).ext eh540).mod mh545 (fun b hb hc => by simp at hc; have := fr_r527 b hb; omega))
                have f553 := ((((((((((s_r5.ext eh505).mod mh508 (fun b hb hc => by simp at hc; have := ltk_r5 b hb; have := lt_r5 b hb; omega)).ext eh514).ext eh518).mod mh521 (fun b hb hc => by simp at hc; have := ltk_r5 b hb; have := lt_r5 b hb; omega)).ext eh528).ext eh532).mod mh535 (fun b hb hc => by simp at hc; have := ltk_r5 b hb; have := lt_r5 b hb; omega)).ext eh540).mod mh545 (fun b hb hc => nk490 (by simp at hc; rw [← hc]; exact hb)))
                exact p_lpN ⟨k + 1, ((rgOut q [x503]).1), r527, ⟨rfl, rfl, rfl, rfl, rfl, rfl⟩, ⟨E547, f548, f549, bxx546, f550, f551, (sl_eq f552 (by simp)), (fr_r527.mono (by omega)), f553, (fun hc => by have := fr_r527 _ hc; omega), (fun hc => by have := fr_r527 _ hc; omega), (fun hc => by have := fr_r527 _ hc; omega), (fun b hb hc => by have := ltk_r18 b hb; have := lt_r18 b hb; have := fr_r527 b hc; omega), (fun b hb hc => by have := ltk_r32 b hb; have := lt_r32 b hb; have := fr_r527 b hc; omega), (fun b hb hc => by have := ltk_r5 b hb; have := lt_r5 b hb; have := fr_r527 b hc; omega), (by exact ⟨by omega, by rw [now_ok hr1 hr2 hr3 (by assumption) hq]; exact run_step (by assumption) hq⟩)⟩, by omega⟩
              ·
                refine v_seq ?_
                refine v_seq ?_
                refine v_ops ?_
                refine s_pure (.bool ((rgOut q [x503]).2)) (fun _ q => q) ?_
                refine s_pure (.bool (!(rgOut q [x503]).2)) (fun _ q => q) ?_
                refine s_pure (.bool (!(rgOut q [x503]).2)) (fun _ q => q) ?_
                refine s_splitT rfl (fun c554 => ?_) (fun c554 => ?_)
                ·
                  refine s_pass rfl ?_
                  refine s_pass rfl ?_
                  refine s_pure (.bool true) (fun _ q => q) ?_
                  refine s_pure (.bool true) (fun _ q => q) ?_
                  refine s_splitY rfl rfl ?_
                  refine s_pass rfl ?_
                  refine s_pass rfl ?_
                  refine s_pass rfl ?_
                  refine s_pass rfl ?_
                  refine s_pure (.bool true) (fun _ q => q) ?_
                  refine s_nil ?_
                  refine p_seqN ?_
                  refine v_condY rfl rfl ?_
                  refine v_seq ?_
                  refine v_ops ?_
                  refine s_pure (.bool false) (fun _ q => q) ?_
                  refine s_nil ?_
                  refine p_seqN ?_
                  refine v_ret ?_
                  refine p_seqR ?_
                  refine p_blkR ?_
                  refine p_seqR ?_
                  refine p_lpR ?_
                  refine p_blkR ?_
                  refine p_seqR ?_
                  refine p_ret [.bool false] (.bool false) (fun _ q => q) rfl ?_
                  have ho : true = false := by first | rfl | exact (decide_eq_true (rg_rep (by assumption))).symm | (exfalso; first | omega | exact absurd hk1 (by assumption) | exact absurd hk4 (by assumption) | (have q_ := hk5 (by omega); simp_all; done) | exact absurd (hE.1 (by omega)).1 (by assumption) | exact absurd hEa (by assumption) | (have q_ := hE.1 (by omega); simp_all; done) | (rw [hp3] at *; simp_all; done) | (have q_ := now_ok hr1 hr2 hr3 (by assumption) hq; simp_all; done) | exact absurd (same_of hr4 hq (by assumption)) (by assumption) | (simp_all; done))
                  exact ⟨by first | (rw [ho]; done) | rfl, E537⟩
                ·
                  have c554 := Classical.not_not.1 c554
                  refine s_run rfl ?_
                  refine s_pure (.bool ((rgOut q [x503]).2)) (fun _ q => q) ?_
                  refine s_run rfl ?_
                  refine s_pure (.bool (!(rgOut q [x503]).2)) (fun _ q => q) ?_
                  refine s_pure (.bool (!(rgOut q [x503]).2)) (fun _ q => q) ?_
                  refine s_pure (.bool (!(rgOut q [x503]).2)) (fun _ q => q) ?_
                  refine s_splitN rfl (by first | assumption | omega | (simp; done) | (simp; omega) | simp_all) ?_
                  refine s_run rfl ?_
                  have f555 := (((bxx522.ext eh528).ext eh532).mod mh535 (by simp; omega))
                  refine s_load (.agg #[.int .i64 (((rgOut q [x503]).1).phase), .int .i64 (((rgOut q [x503]).1).holds), .int .i64 (((rgOut q [x503]).1).again), .int .i64 (((rgOut q [x503]).1).shown), r513]) (fun _ q => f555.loadA rfl q) ?_
                  refine s_run rfl ?_
                  refine s_load (.agg #[.int .i64 (((rgOut q [x503]).1).phase), .int .i64 (((rgOut q [x503]).1).holds), .int .i64 (((rgOut q [x503]).1).again), .int .i64 (((rgOut q [x503]).1).shown), r527]) (fun _ q => bxx536.loadA rfl q) ?_
                  refine s_run rfl ?_
                  have f557 := (((((s_r513.ext eh518).mod mh521 (fun b hb hc => by simp at hc; have := lt_r513 b hb; omega)).ext eh528).ext eh532).mod mh535 (fun b hb hc => by simp at hc; have := lt_r513 b hb; omega))
                  have f558 := ((s_r527.ext eh532).mod mh535 (fun b hb hc => by simp at hc; have := lt_r527 b hb; omega))
                  refine s_call [.agg #[.int .i64 (((rgOut q [x503]).1).phase), .int .i64 (((rgOut q [x503]).1).holds), .int .i64 (((rgOut q [x503]).1).again), .int .i64 (((rgOut q [x503]).1).shown), r513], .agg #[.int .i64 (((rgOut q [x503]).1).phase), .int .i64 (((rgOut q [x503]).1).holds), .int .i64 (((rgOut q [x503]).1).again), .int .i64 (((rgOut q [x503]).1).shown), r527]] rfl (laws_qRepeater_ok ((rgOut q [x503]).1) r513 ((rgOut q [x503]).1) r527 _ f557.toSl f558.toSl) ?_
                  rintro vh556 h556 ⟨hvh556, eh556⟩
                  obtain rfl : vh556 = .bool true := hvh556.trans (by rw [decide_eq_true (rep_refl _)])
                  have E559 := E537.trans eh556
                  have z560 := eh556.size
                  refine s_run rfl ?_
                  refine s_pure (.bool false) (fun _ q => q) ?_
                  refine s_pure (.bool false) (fun _ q => q) ?_
                  refine s_nil ?_
                  refine p_seqN ?_
                  refine v_condN rfl (by simp) ?_
                  refine v_skip ?_
                  refine p_seqN ?_
                  exact M538 _ _ ⟨rfl, rfl, rfl, rfl, rfl, rfl, rfl⟩ ((Ext.refl _).trans eh556)
            ·
              refine v_exit ?_
              refine p_seqX ?_
              refine p_lpX ?_
              refine p_blkX ?_
              refine p_seqN ?_
              refine v_seq ?_
              refine v_ops ?_
              refine s_load (.agg #[.int .i64 q.phase, .int .i64 q.holds, .int .i64 q.again, .int .i64 q.shown, v]) (fun _ q => bxb474.loadA rfl q) ?_
              refine s_load (.agg #[.int .i64 (((rgOut g2 g4).1).phase), .int .i64 (((rgOut g2 g4).1).holds), .int .i64 (((rgOut g2 g4).1).again), .int .i64 (((rgOut g2 g4).1).shown), r32]) (fun _ q => bxb36.loadA rfl q) ?_
              refine s_call [.agg #[.int .i64 q.phase, .int .i64 q.holds, .int .i64 q.again, .int .i64 q.shown, v], .agg #[.int .i64 (((rgOut g2 g4).1).phase), .int .i64 (((rgOut g2 g4).1).holds), .int .i64 (((rgOut g2 g4).1).again), .int .i64 (((rgOut g2 g4).1).shown), r32]] rfl (laws_qRepeater_ok q v ((rgOut g2 g4).1) r32 _ s_v.toSl s_r32.toSl) ?_
              rintro _ h561 ⟨rfl, eh561⟩
              have E562 := Eh.trans eh561
              have z563 := eh561.size
              refine s_pure (.bool (decide (q.same ((rgOut g2 g4).1)))) (fun _ q => q) ?_
              refine s_splitT rfl (fun c564 => ?_) (fun c564 => ?_)
              ·
                refine s_run rfl ?_
                have f565 := (bxb22.ext eh561)
                refine s_load (.agg #[.int .i64 (((rgOut g2 g4).1).phase), .int .i64 (((rgOut g2 g4).1).holds), .int .i64 (((rgOut g2 g4).1).again), .int .i64 (((rgOut g2 g4).1).shown), r18]) (fun _ q => f565.loadA rfl q) ?_
                refine s_run rfl ?_
                have f566 := (s_r18.ext eh561)
                refine s_call [.agg #[.int .i64 (((rgOut g2 g4).1).phase), .int .i64 (((rgOut g2 g4).1).holds), .int .i64 (((rgOut g2 g4).1).again), .int .i64 (((rgOut g2 g4).1).shown), r18]] rfl (impl_IsRepeater_ok ((rgOut g2 g4).1) r18 _ f566.toSl) ?_
                rintro _ h567 ⟨rfl, eh567⟩
                have E568 := E562.trans eh567
                have z569 := eh567.size
                refine s_pure (.bool (decide (RepOk ((rgOut g2 g4).1)))) (fun _ q => q) ?_
                refine s_pure (.bool (decide (RepOk ((rgOut g2 g4).1)))) (fun _ q => q) ?_
                refine s_nil ?_
                refine p_seqN ?_
                refine v_ret ?_
                refine p_ret [.bool (decide (RepOk ((rgOut g2 g4).1)))] (.bool (decide (RepOk ((rgOut g2 g4).1)))) (fun _ q => q) rfl ?_
                have ho : true = decide (RepOk ((rgOut g2 g4).1)) := by first | rfl | exact (decide_eq_true (rg_rep (by assumption))).symm | (exfalso; first | omega | exact absurd hk1 (by assumption) | exact absurd hk4 (by assumption) | (have q_ := hk5 (by omega); simp_all; done) | exact absurd (hE.1 (by omega)).1 (by assumption) | exact absurd hEa (by assumption) | (have q_ := hE.1 (by omega); simp_all; done) | (rw [hp3] at *; simp_all; done) | (have q_ := now_ok hr1 hr2 hr3 (by assumption) hq; simp_all; done) | exact absurd (same_of hr4 hq (by assumption)) (by assumption) | (simp_all; done))
                exact ⟨by first | (rw [ho]; done) | rfl, E568⟩
              ·
                refine s_pass rfl ?_
                refine s_pass rfl ?_
                refine s_pure (.bool false) (fun _ q => q) ?_
                refine s_pure (.bool false) (fun _ q => q) ?_
                refine s_nil ?_
                refine p_seqN ?_
                refine v_ret ?_
                refine p_ret [.bool false] (.bool false) (fun _ q => q) rfl ?_
                have ho : true = false := by first | rfl | exact (decide_eq_true (rg_rep (by assumption))).symm | (exfalso; first | omega | exact absurd hk1 (by assumption) | exact absurd hk4 (by assumption) | (have q_ := hk5 (by omega); simp_all; done) | exact absurd (hE.1 (by omega)).1 (by assumption) | exact absurd hEa (by assumption) | (have q_ := hE.1 (by omega); simp_all; done) | (rw [hp3] at *; simp_all; done) | (have q_ := now_ok hr1 hr2 hr3 (by assumption) hq; simp_all; done) | exact absurd (same_of hr4 hq (by assumption)) (by assumption) | (simp_all; done))
                exact ⟨by first | (rw [ho]; done) | rfl, E562⟩
      ·
        refine v_seq ?_
        refine v_seq ?_
        refine v_ops ?_
        refine s_pure (.bool ((rgOut g44 [g46]).2)) (fun _ q => q) ?_
        refine s_nil ?_
        refine p_seqN ?_
        refine v_cond rfl (fun c570 => ?_) (fun c570 => ?_)
        ·
          obtain ⟨hk1, hk2, hk3, hk4, hk5⟩ := rg_step c570
          refine v_seq ?_
          refine v_ops ?_
          refine s_pure (.pointer (some ⟨b86, 4, none⟩)) (fun _ q => q) ?_
          have f571 := ((((bxx91.ext eh96).ext eh100).ext eh105).ext eh110)
          refine s_load r82 (fun _ q => f571.load rfl q) ?_
          refine s_pure (.int .i64 ((((rgOut g44 [g46]).1).passed).length : Int)) (fun _ q => s_r82.lenVC q) ?_
          refine s_pure (.pointer (some ⟨b50, 4, none⟩)) (fun _ q => q) ?_
          have f572 := (((((((f79.ext eh83).ext eh87).mod mh90 (by simp; omega)).ext eh96).ext eh100).ext eh105).ext eh110)
          refine s_load r45 (fun _ q => f572.load rfl q) ?_
          refine s_pure (.int .i64 (g44.passed.length : Int)) (fun _ q => f81.lenVC q) ?_
          refine s_pure (.int .i64 (((((rgOut g44 [g46]).1).passed).length : Int) - (g44.passed.length : Int))) (fun _ q => ArithVC.mk (by omega) q) ?_
          refine s_pure (.int .i64 (((((rgOut g44 [g46]).1).passed).length : Int) - (g44.passed.length : Int))) (fun _ q => q) ?_
          refine s_nil ?_
          refine p_seqN ?_
          refine v_seq ?_
          have f573 := (((((((f80.ext eh83).ext eh87).mod mh90 (by simp; omega)).ext eh96).ext eh100).ext eh105).ext eh110)
          have f574 := ((((((s_r82.ext eh87).mod mh90 (fun b hb hc => by simp at hc; have := lt_r82 b hb; omega)).ext eh96).ext eh100).ext eh105).ext eh110)
          refine v_draw (DrawVC.hold ([b86] ++ [b50] ++ [b54] ++ blks r82) ?_)
          have f575 := (((((((bxx77.ext eh83).ext eh87).mod mh90 (by simp; omega)).ext eh96).ext eh100).ext eh105).ext eh110)
          refine d_loadO (.agg #[.int .i64 (((rgOut g44 [g46]).1).phase), .int .i64 (((rgOut g44 [g46]).1).holds), .int .i64 (((rgOut g44 [g46]).1).again), .int .i64 (((rgOut g44 [g46]).1).shown), r68]) (fun _ q => f575.loadA rfl q) ?_
          refine d_eff ?_
          have f576 := (((((((((s_r68.ext eh73).mod mh76 (fun b hb hc => by simp at hc; have := lt_r68 b hb; omega)).ext eh83).ext eh87).mod mh90 (fun b hb hc => by simp at hc; have := lt_r68 b hb; omega)).ext eh96).ext eh100).ext eh105).ext eh110)
          refine s_call [.agg #[.int .i64 (((rgOut g44 [g46]).1).phase), .int .i64 (((rgOut g44 [g46]).1).holds), .int .i64 (((rgOut g44 [g46]).1).again), .int .i64 (((rgOut g44 [g46]).1).shown), r68]] rfl (impl_IsRepeater_ok ((rgOut g44 [g46]).1) r68 _ f576.toSl) ?_
          rintro _ h577 ⟨rfl, eh577⟩
          have E578 := E111.trans eh577
          have z579 := eh577.size
          have G580 := eh577
          refine s_nil ⟨fun _ x hx => G580.blk x (by simp at hx; rcases hx with hx | hx | hx | hx <;> first | omega | (have := lt_r82 x hx; omega)), ?_⟩
          refine d_pureT (.bool (!decide (RepOk ((rgOut g44 [g46]).1)))) (fun _ q => q) ?_
          refine d_pureT (.bool (!decide (RepOk ((rgOut g44 [g46]).1)))) (fun _ q => q) ?_
          refine d_splitT rfl (fun c581 => ?_) (fun c581 => ?_)
          ·
            refine d_passT rfl ?_
            refine d_passT rfl ?_
            refine d_pureT (.bool true) (fun _ q => q) ?_
            refine d_pureT (.bool true) (fun _ q => q) ?_
            refine d_splitY rfl rfl ?_
            refine d_passT rfl ?_
            refine d_passT rfl ?_
            refine d_pureT (.bool true) (fun _ q => q) ?_
            refine d_pureT (.bool true) (fun _ q => q) ?_
            refine d_splitY rfl rfl ?_
            refine d_passT rfl ?_
            refine d_passT rfl ?_
            refine d_passT rfl ?_
            refine d_passT rfl ?_
            refine d_passT rfl ?_
            refine d_passT rfl ?_
            refine d_passT rfl ?_
            refine d_passO rfl ?_
            refine d_passO rfl ?_
            refine d_passT rfl ?_
            refine d_pureT (.bool true) (fun _ q => q) ?_
            refine d_pureT (.bool true) (fun _ q => q) ?_
            refine d_splitY rfl rfl ?_
            refine d_passT rfl ?_
            refine d_passT rfl ?_
            refine d_passT rfl ?_
            refine d_splitU rfl ?_
            refine d_passTU rfl ?_
            refine d_passOU rfl ?_
            refine d_passTU rfl ?_
            refine d_passTU rfl ?_
            refine d_splitU rfl ?_
            refine d_passTU rfl ?_
            refine d_passTU rfl ?_
            refine d_passTU rfl ?_
            refine d_passOU rfl ?_
            refine d_passTU rfl ?_
            refine d_passTU rfl ?_
            refine d_passTU rfl ?_
            refine d_splitU rfl ?_
            refine d_passTU rfl ?_
            refine d_passTU rfl ?_
            refine d_passTU rfl ?_
            refine d_passTU rfl ?_
            refine d_passTU rfl ?_
            refine d_passTU rfl ?_
            refine d_passTU rfl ?_
            refine d_passTU rfl ?_
            refine d_passOU rfl ?_
            refine d_passTU rfl ?_
            refine d_passTU rfl ?_
            refine d_passT rfl ?_
            refine d_pureT (.bool true) (fun _ q => q) ?_
            refine d_done ?_
            refine p_seqN ?_
            refine v_condY rfl rfl ?_
            refine v_seq ?_
            refine v_ops ?_
            refine s_pure (.bool false) (fun _ q => q) ?_
            refine s_nil ?_
            refine p_seqN ?_
            refine v_ret ?_
            refine p_seqR ?_
            refine p_ret [.bool false] (.bool false) (fun _ q => q) rfl ?_
            have ho : true = false := by first | rfl | exact (decide_eq_true (rg_rep (by assumption))).symm | (exfalso; first | omega | exact absurd hk1 (by assumption) | exact absurd hk4 (by assumption) | (have q_ := hk5 (by omega); simp_all; done) | exact absurd (hE.1 (by omega)).1 (by assumption) | exact absurd hEa (by assumption) | (have q_ := hE.1 (by omega); simp_all; done) | (rw [hp3] at *; simp_all; done) | (have q_ := now_ok hr1 hr2 hr3 (by assumption) hq; simp_all; done) | exact absurd (same_of hr4 hq (by assumption)) (by assumption) | (simp_all; done))
            exact ⟨by first | (rw [ho]; done) | rfl, E578⟩
          ·
            have c581 := Classical.not_not.1 c581
            refine d_runT rfl ?_
            refine d_pureT (.int .i64 (((((rgOut g44 [g46]).1).passed).length : Int) - (g44.passed.length : Int))) (fun _ q => q) ?_
            refine d_runT rfl ?_
            refine d_pureT (.bool (decide ((((((rgOut g44 [g46]).1).passed).length : Int) - (g44.passed.length : Int)) < 0))) (fun _ q => q) ?_
            refine d_pureT (.bool (decide ((((((rgOut g44 [g46]).1).passed).length : Int) - (g44.passed.length : Int)) < 0))) (fun _ q => q) ?_
            refine d_pureT (.bool (decide ((((((rgOut g44 [g46]).1).passed).length : Int) - (g44.passed.length : Int)) < 0))) (fun _ q => q) ?_
            refine d_splitT rfl (fun c582 => ?_) (fun c582 => ?_)
            ·
              refine d_passT rfl ?_
              refine d_passT rfl ?_
              refine d_pureT (.bool true) (fun _ q => q) ?_
              refine d_pureT (.bool true) (fun _ q => q) ?_
              refine d_splitY rfl rfl ?_
              refine d_passT rfl ?_
              refine d_passT rfl ?_
              refine d_passT rfl ?_
              refine d_passT rfl ?_
              refine d_passT rfl ?_
              refine d_passT rfl ?_
              refine d_passT rfl ?_
              refine d_passO rfl ?_
              refine d_passO rfl ?_
              refine d_passT rfl ?_
              refine d_pureT (.bool true) (fun _ q => q) ?_
              refine d_pureT (.bool true) (fun _ q => q) ?_
              refine d_splitY rfl rfl ?_
              refine d_passT rfl ?_
              refine d_passT rfl ?_
              refine d_passT rfl ?_
              refine d_splitU rfl ?_
              refine d_passTU rfl ?_
              refine d_passOU rfl ?_
              refine d_passTU rfl ?_
              refine d_passTU rfl ?_
              refine d_splitU rfl ?_
              refine d_passTU rfl ?_
              refine d_passTU rfl ?_
              refine d_passTU rfl ?_
              refine d_passOU rfl ?_
              refine d_passTU rfl ?_
              refine d_passTU rfl ?_
              refine d_passTU rfl ?_
              refine d_splitU rfl ?_
              refine d_passTU rfl ?_
              refine d_passTU rfl ?_
              refine d_passTU rfl ?_
              refine d_passTU rfl ?_
              refine d_passTU rfl ?_
              refine d_passTU rfl ?_
              refine d_passTU rfl ?_
              refine d_passTU rfl ?_
              refine d_passOU rfl ?_
              refine d_passTU rfl ?_
              refine d_passTU rfl ?_
              refine d_passT rfl ?_
              refine d_pureT (.bool true) (fun _ q => q) ?_
              refine d_done ?_
              refine p_seqN ?_
              refine v_condY rfl rfl ?_
              refine v_seq ?_
              refine v_ops ?_
              refine s_pure (.bool false) (fun _ q => q) ?_
              refine s_nil ?_
              refine p_seqN ?_
              refine v_ret ?_
              refine p_seqR ?_
              refine p_ret [.bool false] (.bool false) (fun _ q => q) rfl ?_
              have ho : true = false := by first | rfl | exact (decide_eq_true (rg_rep (by assumption))).symm | (exfalso; first | omega | exact absurd hk1 (by assumption) | exact absurd hk4 (by assumption) | (have q_ := hk5 (by omega); simp_all; done) | exact absurd (hE.1 (by omega)).1 (by assumption) | exact absurd hEa (by assumption) | (have q_ := hE.1 (by omega); simp_all; done) | (rw [hp3] at *; simp_all; done) | (have q_ := now_ok hr1 hr2 hr3 (by assumption) hq; simp_all; done) | exact absurd (same_of hr4 hq (by assumption)) (by assumption) | (simp_all; done))
              exact ⟨by first | (rw [ho]; done) | rfl, E578⟩
            ·
              refine d_runT rfl ?_
              refine d_pureT (.int .i64 (((((rgOut g44 [g46]).1).passed).length : Int) - (g44.passed.length : Int))) (fun _ q => q) ?_
              refine d_runT rfl ?_
              refine d_pureT (.bool (decide ((((((rgOut g44 [g46]).1).passed).length : Int) - (g44.passed.length : Int)) > 1))) (fun _ q => q) ?_
              refine d_pureT (.bool (decide ((((((rgOut g44 [g46]).1).passed).length : Int) - (g44.passed.length : Int)) > 1))) (fun _ q => q) ?_
              refine d_pureT (.bool (decide ((((((rgOut g44 [g46]).1).passed).length : Int) - (g44.passed.length : Int)) > 1))) (fun _ q => q) ?_
              refine d_splitT rfl (fun c583 => ?_) (fun c583 => ?_)
              ·
                refine d_passT rfl ?_
                refine d_passT rfl ?_
                refine d_passT rfl ?_
                refine d_passT rfl ?_
                refine d_passT rfl ?_
                refine d_passT rfl ?_
                refine d_passT rfl ?_
                refine d_passO rfl ?_
                refine d_passO rfl ?_
                refine d_passT rfl ?_
                refine d_pureT (.bool true) (fun _ q => q) ?_
                refine d_pureT (.bool true) (fun _ q => q) ?_
                refine d_splitY rfl rfl ?_
                refine d_passT rfl ?_
                refine d_passT rfl ?_
                refine d_passT rfl ?_
                refine d_splitU rfl ?_
                refine d_passTU rfl ?_
                refine d_passOU rfl ?_
                refine d_passTU rfl ?_
                refine d_passTU rfl ?_
                refine d_splitU rfl ?_
                refine d_passTU rfl ?_
                refine d_passTU rfl ?_
                refine d_passTU rfl ?_
                refine d_passOU rfl ?_
                refine d_passTU rfl ?_
                refine d_passTU rfl ?_
                refine d_passTU rfl ?_
                refine d_splitU rfl ?_
                refine d_passTU rfl ?_
                refine d_passTU rfl ?_
                refine d_passTU rfl ?_
                refine d_passTU rfl ?_
                refine d_passTU rfl ?_
                refine d_passTU rfl ?_
                refine d_passTU rfl ?_
                refine d_passTU rfl ?_
                refine d_passOU rfl ?_
                refine d_passTU rfl ?_
                refine d_passTU rfl ?_
                refine d_passT rfl ?_
                refine d_pureT (.bool true) (fun _ q => q) ?_
                refine d_done ?_
                refine p_seqN ?_
                refine v_condY rfl rfl ?_
                refine v_seq ?_
                refine v_ops ?_
                refine s_pure (.bool false) (fun _ q => q) ?_
                refine s_nil ?_
                refine p_seqN ?_
                refine v_ret ?_
                refine p_seqR ?_
                refine p_ret [.bool false] (.bool false) (fun _ q => q) rfl ?_
                have ho : true = false := by first | rfl | exact (decide_eq_true (rg_rep (by assumption))).symm | (exfalso; first | omega | exact absurd hk1 (by assumption) | exact absurd hk4 (by assumption) | (have q_ := hk5 (by omega); simp_all; done) | exact absurd (hE.1 (by omega)).1 (by assumption) | exact absurd hEa (by assumption) | (have q_ := hE.1 (by omega); simp_all; done) | (rw [hp3] at *; simp_all; done) | (have q_ := now_ok hr1 hr2 hr3 (by assumption) hq; simp_all; done) | exact absurd (same_of hr4 hq (by assumption)) (by assumption) | (simp_all; done))
                exact ⟨by first | (rw [ho]; done) | rfl, E578⟩
              ·
                refine d_runT rfl ?_
                refine d_pureT (.pointer (some ⟨b86, 4, none⟩)) (fun _ q => q) ?_
                refine d_runT rfl ?_
                refine d_pureT (.pointer (some ⟨b50, 4, none⟩)) (fun _ q => q) ?_
                refine d_runT rfl ?_
                refine d_pureT (.pointer (some ⟨b50, 4, none⟩)) (fun _ q => q) ?_
                refine d_runT rfl ?_
                refine d_loadT r82 (fun _ q => f571.take (by simp) rfl q) ?_
                refine d_runT rfl ?_
                refine d_loadT r45 (fun _ q => f572.take (by simp) rfl q) ?_
                refine d_runT rfl ?_
                refine d_pureT (.int .i64 (g44.passed.length : Int)) (fun _ q => f81.lenVC q) ?_
                refine d_runT rfl ?_
                have f584 := (f574.ext eh577)
                obtain ⟨r585, hqr585, s_r585, bk_r585⟩ := f584.toSl.slc (l := 0) (m := g44.passed.length) (by first | omega | (simp; omega)) (by first | omega | (simp; omega))
                simp only [List.drop_zero] at s_r585
                have lt_r585 := s_r585.lt
                refine d_pureT r585 (fun K q => hqr585 _ rfl none (some (.int .i64 (g44.passed.length : Int))) rfl ⟨_, _, rfl, rfl⟩ K q) ?_
                refine d_runO rfl ?_
                have f586 := (f572.ext eh577)
                refine d_loadO r45 (fun _ q => f586.load rfl q) ?_
                refine d_runO rfl ?_
                refine d_eff ?_
                have f588 := ((((((((f81.ext eh83).ext eh87).mod mh90 (fun b hb hc => by simp at hc; have := lt_r45 b hb; omega)).ext eh96).ext eh100).ext eh105).ext eh110).ext eh577)
                refine s_call [r585, r45] rfl (laws_qInts_ok r585 ((((rgOut g44 [g46]).1).passed).take g44.passed.length) r45 g44.passed _ s_r585 f588.toSl) ?_
                rintro _ h587 ⟨rfl, eh587⟩
                have E589 := E578.trans eh587
                have z590 := eh587.size
                have G591 := G580.trans eh587
                refine s_nil ⟨fun _ x hx => G591.blk x (by simp at hx; rcases hx with hx | hx | hx | hx <;> first | omega | (have := lt_r82 x hx; omega)), ?_⟩
                refine d_runT rfl ?_
                refine d_pureT (.bool (!(decide (((((rgOut g44 [g46]).1).passed).take g44.passed.length) = g44.passed)))) (fun _ q => q) ?_
                refine d_pureT (.bool (!(decide (((((rgOut g44 [g46]).1).passed).take g44.passed.length) = g44.passed)))) (fun _ q => q) ?_
                refine d_pureT (.bool (!(decide (((((rgOut g44 [g46]).1).passed).take g44.passed.length) = g44.passed)))) (fun _ q => q) ?_
                refine d_splitT rfl (fun c592 => ?_) (fun c592 => ?_)
                ·
                  refine d_passT rfl ?_
                  refine d_passT rfl ?_
                  refine d_passT rfl ?_
                  refine d_splitU rfl ?_
                  refine d_passTU rfl ?_
                  refine d_passOU rfl ?_
                  refine d_passTU rfl ?_
                  refine d_passTU rfl ?_
                  refine d_splitU rfl ?_
                  refine d_passTU rfl ?_
                  refine d_passTU rfl ?_
                  refine d_passTU rfl ?_
                  refine d_passOU rfl ?_
                  refine d_passTU rfl ?_
                  refine d_passTU rfl ?_
                  refine d_passTU rfl ?_
                  refine d_splitU rfl ?_
                  refine d_passTU rfl ?_
                  refine d_passTU rfl ?_
                  refine d_passTU rfl ?_
                  refine d_passTU rfl ?_
                  refine d_passTU rfl ?_
                  refine d_passTU rfl ?_
                  refine d_passTU rfl ?_
                  refine d_passTU rfl ?_
                  refine d_passOU rfl ?_
                  refine d_passTU rfl ?_
                  refine d_passTU rfl ?_
                  refine d_passT rfl ?_
                  refine d_pureT (.bool true) (fun _ q => q) ?_
                  refine d_done ?_
                  refine p_seqN ?_
                  refine v_condY rfl rfl ?_
                  refine v_seq ?_
                  refine v_ops ?_
                  refine s_pure (.bool false) (fun _ q => q) ?_
                  refine s_nil ?_
                  refine p_seqN ?_
                  refine v_ret ?_
                  refine p_seqR ?_
                  refine p_ret [.bool false] (.bool false) (fun _ q => q) rfl ?_
                  have ho : true = false := by first | rfl | exact (decide_eq_true (rg_rep (by assumption))).symm | (exfalso; first | omega | exact absurd hk1 (by assumption) | exact absurd hk4 (by assumption) | (have q_ := hk5 (by omega); simp_all; done) | exact absurd (hE.1 (by omega)).1 (by assumption) | exact absurd hEa (by assumption) | (have q_ := hE.1 (by omega); simp_all; done) | (rw [hp3] at *; simp_all; done) | (have q_ := now_ok hr1 hr2 hr3 (by assumption) hq; simp_all; done) | exact absurd (same_of hr4 hq (by assumption)) (by assumption) | (simp_all; done))
                  exact ⟨by first | (rw [ho]; done) | rfl, E589⟩
                ·
                  have c592 := Classical.not_not.1 c592
                  refine d_runT rfl ?_
                  refine d_pureT (.int .i64 (((((rgOut g44 [g46]).1).passed).length : Int) - (g44.passed.length : Int))) (fun _ q => q) ?_
                  refine d_runT rfl ?_
                  refine d_pureT (.bool ((((((rgOut g44 [g46]).1).passed).length : Int) - (g44.passed.length : Int)) == 1)) (fun _ q => q) ?_
                  refine d_runT rfl ?_
                  refine d_pureT (.bool ((((((rgOut g44 [g46]).1).passed).length : Int) - (g44.passed.length : Int)) == 1)) (fun _ q => q) ?_
                  refine d_splitT rfl (fun c593 => ?_) (fun c593 => ?_)
                  ·
                    refine d_runT rfl ?_
                    refine d_pureT (.pointer (some ⟨b54, 0, none⟩)) (fun _ q => q) ?_
                    refine d_runO rfl ?_
                    have f594 := ((f573.ext eh577).ext eh587)
                    refine d_loadO (.bool g46.next) (fun _ q => f594.load rfl q) ?_
                    refine d_runT rfl ?_
                    refine d_pureT (.bool (!g46.next)) (fun _ q => q) ?_
                    refine d_runT rfl ?_
                    refine d_pureT (.bool (!g46.next)) (fun _ q => q) ?_
                    refine d_splitT rfl (fun c595 => ?_) (fun c595 => ?_)
                    ·
                      refine d_passT rfl ?_
                      refine d_passT rfl ?_
                      refine d_passT rfl ?_
                      refine d_passO rfl ?_
                      refine d_passT rfl ?_
                      refine d_runT rfl ?_
                      refine d_pureT (.bool true) (fun _ q => q) ?_
                      refine d_runT rfl ?_
                      refine d_pureT (.bool true) (fun _ q => q) ?_
                      refine d_splitY rfl rfl ?_
                      refine d_passT rfl ?_
                      refine d_passT rfl ?_
                      refine d_passT rfl ?_
                      refine d_passT rfl ?_
                      refine d_passT rfl ?_
                      refine d_passT rfl ?_
                      refine d_passT rfl ?_
                      refine d_passT rfl ?_
                      refine d_passO rfl ?_
                      refine d_passT rfl ?_
                      refine d_runT rfl ?_
                      refine d_pureT (.bool true) (fun _ q => q) ?_
                      refine d_runT rfl ?_
                      refine d_pureT (.bool true) (fun _ q => q) ?_
                      refine d_pureT (.bool true) (fun _ q => q) ?_
                      refine d_done ?_
                      refine p_seqN ?_
                      refine v_condY rfl rfl ?_
                      refine v_seq ?_
                      refine v_ops ?_
                      refine s_pure (.bool false) (fun _ q => q) ?_
                      refine s_nil ?_
                      refine p_seqN ?_
                      refine v_ret ?_
                      refine p_seqR ?_
                      refine p_ret [.bool false] (.bool false) (fun _ q => q) rfl ?_
                      have ho : true = false := by first | rfl | exact (decide_eq_true (rg_rep (by assumption))).symm | (exfalso; first | omega | exact absurd hk1 (by assumption) | exact absurd hk4 (by assumption) | (have q_ := hk5 (by omega); simp_all; done) | exact absurd (hE.1 (by omega)).1 (by assumption) | exact absurd hEa (by assumption) | (have q_ := hE.1 (by omega); simp_all; done) | (rw [hp3] at *; simp_all; done) | (have q_ := now_ok hr1 hr2 hr3 (by assumption) hq; simp_all; done) | exact absurd (same_of hr4 hq (by assumption)) (by assumption) | (simp_all; done))
                      exact ⟨by first | (rw [ho]; done) | rfl, E589⟩
                    ·
                      have c595 := Classical.not_not.1 c595
                      refine d_runT rfl ?_
                      refine d_pureT (.pointer (some ⟨b54, 1, none⟩)) (fun _ q => q) ?_
                      refine d_runT rfl ?_
                      refine d_pureT (.pointer (some ⟨b50, 1, none⟩)) (fun _ q => q) ?_
                      refine d_runT rfl ?_
                      refine d_loadT (.int .i64 g46.signal) (fun _ q => f573.take (by simp) rfl q) ?_
                      refine d_runO rfl ?_
                      have f596 := (f586.ext eh587)
                      refine d_loadO (.int .i64 g44.holds) (fun _ q => f596.load rfl q) ?_
                      refine d_runT rfl ?_
                      refine d_pureT (.bool (g46.signal != g44.holds)) (fun _ q => q) ?_
                      refine d_runT rfl ?_
                      refine d_pureT (.bool (g46.signal != g44.holds)) (fun _ q => q) ?_
                      refine d_runT rfl ?_
                      refine d_pureT (.bool (g46.signal != g44.holds)) (fun _ q => q) ?_
                      refine d_splitT rfl (fun c597 => ?_) (fun c597 => ?_)
                      ·
                        refine d_passT rfl ?_
                        refine d_passT rfl ?_
                        refine d_passT rfl ?_
                        refine d_passT rfl ?_
                        refine d_passT rfl ?_
                        refine d_passT rfl ?_
                        refine d_passT rfl ?_
                        refine d_passT rfl ?_
                        refine d_passO rfl ?_
                        refine d_passT rfl ?_
                        refine d_runT rfl ?_
                        refine d_pureT (.bool true) (fun _ q => q) ?_
                        refine d_runT rfl ?_
                        refine d_pureT (.bool true) (fun _ q => q) ?_
                        refine d_pureT (.bool true) (fun _ q => q) ?_
                        refine d_done ?_
                        refine p_seqN ?_
                        refine v_condY rfl rfl ?_
                        refine v_seq ?_
                        refine v_ops ?_
                        refine s_pure (.bool false) (fun _ q => q) ?_
                        refine s_nil ?_
                        refine p_seqN ?_
                        refine v_ret ?_
                        refine p_seqR ?_
                        refine p_ret [.bool false] (.bool false) (fun _ q => q) rfl ?_
                        have ho : true = false := by first | rfl | exact (decide_eq_true (rg_rep (by assumption))).symm | (exfalso; first | omega | exact absurd hk1 (by assumption) | exact absurd hk4 (by assumption) | (have q_ := hk5 (by omega); simp_all; done) | exact absurd (hE.1 (by omega)).1 (by assumption) | exact absurd hEa (by assumption) | (have q_ := hE.1 (by omega); simp_all; done) | (rw [hp3] at *; simp_all; done) | (have q_ := now_ok hr1 hr2 hr3 (by assumption) hq; simp_all; done) | exact absurd (same_of hr4 hq (by assumption)) (by assumption) | (simp_all; done))
                        exact ⟨by first | (rw [ho]; done) | rfl, E589⟩
                      ·
                        have c597 := Classical.not_not.1 c597
                        refine d_runT rfl ?_
                        refine d_pureT (.pointer (some ⟨b86, 4, none⟩)) (fun _ q => q) ?_
                        refine d_runT rfl ?_
                        refine d_pureT (.pointer (some ⟨b50, 4, none⟩)) (fun _ q => q) ?_
                        refine d_runT rfl ?_
                        refine d_pureT (.pointer (some ⟨b50, 1, none⟩)) (fun _ q => q) ?_
                        refine d_runT rfl ?_
                        refine d_loadT r82 (fun _ q => f571.take (by simp) rfl q) ?_
                        refine d_runT rfl ?_
                        refine d_loadT r45 (fun _ q => f572.take (by simp) rfl q) ?_
                        refine d_runT rfl ?_
                        refine d_pureT (.int .i64 (g44.passed.length : Int)) (fun _ q => f588.lenVC q) ?_
                        refine d_runT rfl ?_
                        have f598 := (f584.ext eh587)
                        have hk599 : g44.passed.length < (((rgOut g44 [g46]).1).passed).length := (by first | omega | (simp; omega))
                        obtain ⟨x600, hx600⟩ : ∃ x, (((rgOut g44 [g46]).1).passed)[g44.passed.length]? = some x := ⟨_, List.getElem?_eq_getElem hk599⟩
                        refine d_pureT (.pointer (some ⟨sblk r82, soff r82 + g44.passed.length * 1, none⟩)) (fun _ q => f598.idx (k := g44.passed.length) rfl hk599 q) ?_
                        refine d_runT rfl ?_
                        refine d_loadT (.int .i64 x600) (fun _ q => f574.take1 (fun b hb => by simp [hb]) hx600 rfl q) ?_
                        refine d_runO rfl ?_
                        refine d_loadO (.int .i64 g44.holds) (fun _ q => f596.load rfl q) ?_
                        refine d_runT rfl ?_
                        refine d_pureT (.bool (x600 != g44.holds)) (fun _ q => q) ?_
                        refine d_runT rfl ?_
                        refine d_pureT (.bool (x600 != g44.holds)) (fun _ q => q) ?_
                        refine d_runT rfl ?_
                        refine d_pureT (.bool (x600 != g44.holds)) (fun _ q => q) ?_
                        refine d_pureT (.bool (x600 != g44.holds)) (fun _ q => q) ?_
                        refine d_done ?_
                        refine p_seqN ?_
                        refine v_cond rfl (fun c601 => ?_) (fun c601 => ?_)
                        ·
                          refine v_seq ?_
                          refine v_ops ?_
                          refine s_pure (.bool false) (fun _ q => q) ?_
                          refine s_nil ?_
                          refine p_seqN ?_
                          refine v_ret ?_
                          refine p_seqR ?_
                          refine p_ret [.bool false] (.bool false) (fun _ q => q) rfl ?_
                          have ho : true = false := by first | rfl | exact (decide_eq_true (rg_rep (by assumption))).symm | (exfalso; first | omega | exact absurd hk1 (by assumption) | exact absurd hk4 (by assumption) | (have q_ := hk5 (by omega); simp_all; done) | exact absurd (hE.1 (by omega)).1 (by assumption) | exact absurd hEa (by assumption) | (have q_ := hE.1 (by omega); simp_all; done) | (rw [hp3] at *; simp_all; done) | (have q_ := now_ok hr1 hr2 hr3 (by assumption) hq; simp_all; done) | exact absurd (same_of hr4 hq (by assumption)) (by assumption) | (simp_all; done))
                          exact ⟨by first | (rw [ho]; done) | rfl, E589⟩
                        ·
                          have c601 := Classical.not_not.1 c601
                          refine v_skip ?_
                          refine p_seqN ?_
                          exact M113 _ _ ⟨rfl, rfl, rfl, rfl, rfl, rfl, rfl, rfl, rfl⟩ (((Ext.refl _).trans eh577).trans eh587)
                  ·
                    refine d_passT rfl ?_
                    refine d_passO rfl ?_
                    refine d_passT rfl ?_
                    refine d_passT rfl ?_
                    refine d_splitU rfl ?_
                    refine d_passTU rfl ?_
                    refine d_passTU rfl ?_
                    refine d_passTU rfl ?_
                    refine d_passOU rfl ?_
                    refine d_passTU rfl ?_
                    refine d_passT rfl ?_
                    refine d_passT rfl ?_
                    refine d_splitU rfl ?_
                    refine d_passTU rfl ?_
                    refine d_passTU rfl ?_
                    refine d_passTU rfl ?_
                    refine d_passTU rfl ?_
                    refine d_passTU rfl ?_
                    refine d_passTU rfl ?_
                    refine d_passTU rfl ?_
                    refine d_passTU rfl ?_
                    refine d_passOU rfl ?_
                    refine d_passTU rfl ?_
                    refine d_passT rfl ?_
                    refine d_runT rfl ?_
                    refine d_pureT (.bool false) (fun _ q => q) ?_
                    refine d_pureT (.bool false) (fun _ q => q) ?_
                    refine d_done ?_
                    refine p_seqN ?_
                    refine v_condN rfl (by simp) ?_
                    refine v_skip ?_
                    refine p_seqN ?_
                    exact M113 _ _ ⟨rfl, rfl, rfl, rfl, rfl, rfl, rfl, rfl, rfl⟩ (((Ext.refl _).trans eh577).trans eh587)
        ·
          refine v_skip ?_
          refine p_seqN ?_
          exact M113 _ _ ⟨rfl, rfl, rfl, rfl, rfl, rfl, rfl, rfl, rfl⟩ (Ext.refl _)
    ·
      refine v_seq ?_
      refine v_seq ?_
      have f602 := ((((((bxx77.ext eh83).ext eh87).mod mh90 (by simp; omega)).ext eh96).ext eh100).ext eh105)
      have f603 := (((((((((((((((((f29.ext eh33).ext eh37).mod mh40 (by simp; omega)).ext eh47).ext eh51).ext eh55).mod mh59 (by simp; omega)).mod mh63 (by simp; omega)).ext eh69).ext eh73).mod mh76 (by simp; omega)).ext eh83).ext eh87).mod mh90 (by simp; omega)).ext eh96).ext eh100).ext eh105)
      refine v_draw (DrawVC.hold ([b72] ++ [b9]) ?_)
      refine d_pureT (.bool ((rgOut g2 g4).2)) (fun _ q => q) ?_
      refine d_pureT (.bool ((rgOut g2 g4).2)) (fun _ q => q) ?_
      refine d_pureT (.bool ((rgOut g2 g4).2 != (rgOut g2 g4).2)) (fun _ q => q) ?_
      refine d_pureT (.bool ((rgOut g2 g4).2 != (rgOut g2 g4).2)) (fun _ q => q) ?_
      refine d_splitN rfl (by first | assumption | omega | (simp; done) | (simp; omega) | simp_all) ?_
      refine d_runO rfl ?_
      have f604 := (((((((((((((((((bxx27.ext eh33).ext eh37).mod mh40 (by simp; omega)).ext eh47).ext eh51).ext eh55).mod mh59 (by simp; omega)).mod mh63 (by simp; omega)).ext eh69).ext eh73).mod mh76 (by simp; omega)).ext eh83).ext eh87).mod mh90 (by simp; omega)).ext eh96).ext eh100).ext eh105)
      refine d_loadO (.agg #[.int .i64 (((rgOut g2 g4).1).phase), .int .i64 (((rgOut g2 g4).1).holds), .int .i64 (((rgOut g2 g4).1).again), .int .i64 (((rgOut g2 g4).1).shown), r18]) (fun _ q => f604.loadA rfl q) ?_
      refine d_runO rfl ?_
      have f605 := ((((((((((((((bxx41.ext eh47).ext eh51).ext eh55).mod mh59 (by simp; omega)).mod mh63 (by simp; omega)).ext eh69).ext eh73).mod mh76 (by simp; omega)).ext eh83).ext eh87).mod mh90 (by simp; omega)).ext eh96).ext eh100).ext eh105)
      refine d_loadO (.agg #[.int .i64 (((rgOut g2 g4).1).phase), .int .i64 (((rgOut g2 g4).1).holds), .int .i64 (((rgOut g2 g4).1).again), .int .i64 (((rgOut g2 g4).1).shown), r32]) (fun _ q => f605.loadA rfl q) ?_
      refine d_runO rfl ?_
      refine d_eff ?_
      have f607 := (((((((((((((((((((s_r18.ext eh23).mod mh26 (fun b hb hc => by simp at hc; have := lt_r18 b hb; omega)).ext eh33).ext eh37).mod mh40 (fun b hb hc => by simp at hc; have := lt_r18 b hb; omega)).ext eh47).ext eh51).ext eh55).mod mh59 (fun b hb hc => by simp at hc; have := lt_r18 b hb; omega)).mod mh63 (fun b hb hc => by simp at hc; have := lt_r18 b hb; omega)).ext eh69).ext eh73).mod mh76 (fun b hb hc => by simp at hc; have := lt_r18 b hb; omega)).ext eh83).ext eh87).mod mh90 (fun b hb hc => by simp at hc; have := lt_r18 b hb; omega)).ext eh96).ext eh100).ext eh105)
      have f608 := ((((((((((((((((s_r32.ext eh37).mod mh40 (fun b hb hc => by simp at hc; have := lt_r32 b hb; omega)).ext eh47).ext eh51).ext eh55).mod mh59 (fun b hb hc => by simp at hc; have := lt_r32 b hb; omega)).mod mh63 (fun b hb hc => by simp at hc; have := lt_r32 b hb; omega)).ext eh69).ext eh73).mod mh76 (fun b hb hc => by simp at hc; have := lt_r32 b hb; omega)).ext eh83).ext eh87).mod mh90 (fun b hb hc => by simp at hc; have := lt_r32 b hb; omega)).ext eh96).ext eh100).ext eh105)
      refine s_call [.agg #[.int .i64 (((rgOut g2 g4).1).phase), .int .i64 (((rgOut g2 g4).1).holds), .int .i64 (((rgOut g2 g4).1).again), .int .i64 (((rgOut g2 g4).1).shown), r18], .agg #[.int .i64 (((rgOut g2 g4).1).phase), .int .i64 (((rgOut g2 g4).1).holds), .int .i64 (((rgOut g2 g4).1).again), .int .i64 (((rgOut g2 g4).1).shown), r32]] rfl (laws_qRepeater_ok ((rgOut g2 g4).1) r18 ((rgOut g2 g4).1) r32 _ f607.toSl f608.toSl) ?_
      rintro vh606 h606 ⟨hvh606, eh606⟩
      obtain rfl : vh606 = .bool true := hvh606.trans (by rw [decide_eq_true (rep_refl _)])
      have E609 := E106.trans eh606
      have z610 := eh606.size
      have G611 := eh606
      refine s_nil ⟨fun _ x hx => G611.blk x (by simp at hx; omega), ?_⟩
      refine d_runT rfl ?_
      refine d_pureT (.bool false) (fun _ q => q) ?_
      refine d_pureT (.bool false) (fun _ q => q) ?_
      refine d_pureT (.bool false) (fun _ q => q) ?_
      refine d_splitN rfl (by simp) ?_
      refine d_runT rfl ?_
      refine d_pureT (.bool ((rgOut g44 [g46]).2)) (fun _ q => q) ?_
      refine d_runT rfl ?_
      refine d_pureT (.bool ((rgOut g44 [g46]).2)) (fun _ q => q) ?_
      refine d_runT rfl ?_
      refine d_pureT (.bool ((rgOut g44 [g46]).2 != (rgOut g44 [g46]).2)) (fun _ q => q) ?_
      refine d_pureT (.bool ((rgOut g44 [g46]).2 != (rgOut g44 [g46]).2)) (fun _ q => q) ?_
      refine d_pureT (.bool ((rgOut g44 [g46]).2 != (rgOut g44 [g46]).2)) (fun _ q => q) ?_
      refine d_splitN rfl (by first | assumption | omega | (simp; done) | (simp; omega) | simp_all) ?_
      refine d_runT rfl ?_
      refine d_loadT (.agg #[.int .i64 (((rgOut g44 [g46]).1).phase), .int .i64 (((rgOut g44 [g46]).1).holds), .int .i64 (((rgOut g44 [g46]).1).again), .int .i64 (((rgOut g44 [g46]).1).shown), r68]) (fun _ q => f602.takeA (by simp) rfl q) ?_
      refine d_runO rfl ?_
      have f612 := ((((bxx91.ext eh96).ext eh100).ext eh105).ext eh606)
      refine d_loadO (.agg #[.int .i64 (((rgOut g44 [g46]).1).phase), .int .i64 (((rgOut g44 [g46]).1).holds), .int .i64 (((rgOut g44 [g46]).1).again), .int .i64 (((rgOut g44 [g46]).1).shown), r82]) (fun _ q => f612.loadA rfl q) ?_
      refine d_runO rfl ?_
      refine d_eff ?_
      have f614 := (((((((((s_r68.ext eh73).mod mh76 (fun b hb hc => by simp at hc; have := lt_r68 b hb; omega)).ext eh83).ext eh87).mod mh90 (fun b hb hc => by simp at hc; have := lt_r68 b hb; omega)).ext eh96).ext eh100).ext eh105).ext eh606)
      have f615 := ((((((s_r82.ext eh87).mod mh90 (fun b hb hc => by simp at hc; have := lt_r82 b hb; omega)).ext eh96).ext eh100).ext eh105).ext eh606)
      refine s_call [.agg #[.int .i64 (((rgOut g44 [g46]).1).phase), .int .i64 (((rgOut g44 [g46]).1).holds), .int .i64 (((rgOut g44 [g46]).1).again), .int .i64 (((rgOut g44 [g46]).1).shown), r68], .agg #[.int .i64 (((rgOut g44 [g46]).1).phase), .int .i64 (((rgOut g44 [g46]).1).holds), .int .i64 (((rgOut g44 [g46]).1).again), .int .i64 (((rgOut g44 [g46]).1).shown), r82]] rfl (laws_qRepeater_ok ((rgOut g44 [g46]).1) r68 ((rgOut g44 [g46]).1) r82 _ f614.toSl f615.toSl) ?_
      rintro vh613 h613 ⟨hvh613, eh613⟩
      obtain rfl : vh613 = .bool true := hvh613.trans (by rw [decide_eq_true (rep_refl _)])
      have E616 := E609.trans eh613
      have z617 := eh613.size
      have G618 := G611.trans eh613
      refine s_nil ⟨fun _ x hx => G618.blk x (by simp at hx; omega), ?_⟩
      refine d_runT rfl ?_
      refine d_pureT (.bool false) (fun _ q => q) ?_
      refine d_pureT (.bool false) (fun _ q => q) ?_
      refine d_pureT (.bool false) (fun _ q => q) ?_
      refine d_splitN rfl (by simp) ?_
      refine d_runT rfl ?_
      refine d_pureT (.bool ((pgOut g94).2)) (fun _ q => q) ?_
      refine d_runT rfl ?_
      refine d_pureT (.bool ((pgOut g94).2)) (fun _ q => q) ?_
      refine d_runT rfl ?_
      refine d_pureT (.bool ((pgOut g94).2 != (pgOut g94).2)) (fun _ q => q) ?_
      refine d_pureT (.bool ((pgOut g94).2 != (pgOut g94).2)) (fun _ q => q) ?_
      refine d_pureT (.bool ((pgOut g94).2 != (pgOut g94).2)) (fun _ q => q) ?_
      refine d_splitN rfl (by first | assumption | omega | (simp; done) | (simp; omega) | simp_all) ?_
      refine d_runT rfl ?_
      refine d_pureT r99 (fun _ q => q) ?_
      refine d_runT rfl ?_
      refine d_pureT r104 (fun _ q => q) ?_
      refine d_runO rfl ?_
      refine d_eff ?_
      have f620 := (((s_r99.ext eh105).ext eh606).ext eh613)
      have f621 := ((s_r104.ext eh606).ext eh613)
      refine s_call [r99, r104] rfl (laws_qGlances_ok r99 ((pgOut g94).1) r104 ((pgOut g94).1) _ f620.toSl f621.toSl) ?_
      rintro vh619 h619 ⟨hvh619, eh619⟩
      obtain rfl : vh619 = .bool true := hvh619.trans (by rw [decide_eq_true rfl])
      have E622 := E616.trans eh619
      have z623 := eh619.size
      have G624 := G618.trans eh619
      refine s_nil ⟨fun _ x hx => G624.blk x (by simp at hx; omega), ?_⟩
      refine d_runT rfl ?_
      refine d_pureT (.bool false) (fun _ q => q) ?_
      refine d_pureT (.bool false) (fun _ q => q) ?_
      refine d_pureT (.bool false) (fun _ q => q) ?_
      refine d_splitN rfl (by simp) ?_
      refine d_runT rfl ?_
      refine d_loadT (.agg #[.int .i64 g2.phase, .int .i64 g2.holds, .int .i64 g2.again, .int .i64 g2.shown, r3]) (fun _ q => f603.takeA (by simp) rfl q) ?_
      refine d_runT rfl ?_
      refine d_loadT (.agg #[.int .i64 g2.phase, .int .i64 g2.holds, .int .i64 g2.again, .int .i64 g2.shown, r3]) (fun _ q => f603.takeA (by simp) rfl q) ?_
      refine d_runO rfl ?_
      refine d_eff ?_
      have f625 := ((((((((((((((((((((f30.ext eh33).ext eh37).mod mh40 (fun b hb hc => by simp at hc; have := lt_r3 b hb; omega)).ext eh47).ext eh51).ext eh55).mod mh59 (fun b hb hc => by simp at hc; have := lt_r3 b hb; omega)).mod mh63 (fun b hb hc => by simp at hc; have := lt_r3 b hb; omega)).ext eh69).ext eh73).mod mh76 (fun b hb hc => by simp at hc; have := lt_r3 b hb; omega)).ext eh83).ext eh87).mod mh90 (fun b hb hc => by simp at hc; have := lt_r3 b hb; omega)).ext eh96).ext eh100).ext eh105).ext eh606).ext eh613).ext eh619)
      refine s_call [.agg #[.int .i64 g2.phase, .int .i64 g2.holds, .int .i64 g2.again, .int .i64 g2.shown, r3]] rfl (impl_IsRepeater_ok g2 r3 _ f625.toSl) ?_
      rintro _ h626 ⟨rfl, eh626⟩
      have E627 := E622.trans eh626
      have z628 := eh626.size
      have G629 := G624.trans eh626
      refine s_nil ⟨fun _ x hx => G629.blk x (by simp at hx; omega), ?_⟩
      refine d_runO rfl ?_
      refine d_eff ?_
      have f630 := (f625.ext eh626)
      refine s_call [.agg #[.int .i64 g2.phase, .int .i64 g2.holds, .int .i64 g2.again, .int .i64 g2.shown, r3]] rfl (spec_IsRepeater_ok g2 r3 _ f630.toSl) ?_
      rintro _ h631 ⟨rfl, eh631⟩
      have E632 := E627.trans eh631
      have z633 := eh631.size
      have G634 := G629.trans eh631
      refine s_nil ⟨fun hl => (by cases hl), ?_⟩
      refine d_runT rfl ?_
      refine d_pureT (.bool (decide (RepOk g2) != decide (RepOk g2))) (fun _ q => q) ?_
      refine d_pureT (.bool (decide (RepOk g2) != decide (RepOk g2))) (fun _ q => q) ?_
      refine d_done ?_
      refine p_seqN ?_
      refine v_condN rfl (by first | assumption | omega | (simp; done) | (simp; omega) | simp_all) ?_
      refine v_skip ?_
      refine p_seqN ?_
      exact M108 _ _ ⟨rfl, rfl, rfl, rfl, rfl, rfl, rfl, rfl, rfl, rfl, rfl, rfl, rfl, rfl⟩ ((((((Ext.refl _).trans eh606).trans eh613).trans eh619).trans eh626).trans eh631)

theorem law_ok (h : Heap) (v0 : Value) (x0 : List By) (s0 : Sl h v0 x0) (w0 : ∀ y ∈ x0, (0 ≤ y.n ∧ y.n ≤ 255)) (lx0 : x0.length ≤ 140737488351232) (v1 : Value) (x1 : List By) (s1 : Sl h v1 x1) (w1 : ∀ y ∈ x1, (0 ≤ y.n ∧ y.n ≤ 255)) (lx1 : x1.length ≤ 140737488351232) : Cn f_laws_FnRepeaters [v0, v1] h fun v h' => v = .bool true ∧ Ext h h' := laws_FnRepeaters_ok v0 x0 v1 x1 h s0 s1 w0 w1 lx0 lx1
end Go.Proofs.Ytpbjcaadnbeplaa.finFnRepeaters

