/- The law FnLines: its text returns true. Condition: none. Printed by a program. -/
import Derived.Test.YtckkablifoblbaaLn12
namespace Go.Proofs.Ytckkablifoblbaa.finFnLines
open Go.Vc
set_option linter.all false
set_option maxRecDepth 100000
set_option maxHeartbeats 4000000
set_option maxRecDepth 10000 in
set_option maxHeartbeats 4000000 in
theorem laws_FnLines_ok (v_code : Value) (code : List By) (v_more : Value) (more : List By) (h : Heap) (s_code : Sl h v_code code) (s_more : Sl h v_more more) (hb0 : ∀ y ∈ code, 0 ≤ y.n ∧ y.n ≤ 255) (hb1 : ∀ y ∈ more, 0 ≤ y.n ∧ y.n ≤ 255) : Cn f_laws_FnLines [v_code, v_more] h fun v h' => v = .bool true ∧ Ext h h' := by
  have lt_code := s_code.lt
  have l63_code := s_code.len63
  have lt_more := s_more.lt
  have l63_more := s_more.len63
  refine calls_of r_laws_FnLines ?_
  refine v_seq ?_
  refine v_ops ?_
  refine s_pure (.bool false) (fun _ q => q) ?_
  refine s_nil ?_
  refine p_seqN ?_
  refine v_seq ?_
  refine v_seq ?_
  refine v_ops ?_
  refine s_pure v_code (fun _ q => q) ?_
  refine s_pure v_more (fun _ q => q) ?_
  refine s_call [v_code, v_more] rfl (laws_big_ok v_code code v_more more _ s_code s_more) ?_
  rintro _ h1 ⟨rfl, eh1⟩
  have E2 := (Ext.refl h).trans eh1
  have z3 := eh1.size
  refine s_nil ?_
  refine p_seqN ?_
  refine v_cond rfl (fun c4 => ?_) (fun c4 => ?_)
  ·
    refine v_seq ?_
    refine v_ops ?_
    refine s_pure (.bool true) (fun _ q => q) ?_
    refine s_nil ?_
    refine p_seqN ?_
    refine v_ret ?_
    refine p_seqR ?_
    refine p_ret [.bool true] (.bool true) (fun _ q => q) rfl ?_
    have ho : true = true := by first | rfl | (exfalso; first | omega | exact absurd (gl_ok _ _ _ _) (by assumption) | exact absurd (ws_ok _ _ _ _) (by assumption) | exact (by assumption : _ ≠ _) hP2 | (have := hP3 (by assumption); omega) | (have := ha_ok hA hw0 (by assumption); simp_all; done) | (have := pl_plain hA; simp_all; done) | (simp_all; done))
    exact ⟨by first | (rw [ho]; done) | rfl, E2⟩
  ·
    have hbig : code.length ≤ 1048576 ∧ more.length ≤ 1048576 := by omega
    refine v_skip ?_
    refine p_seqN ?_
    refine v_seq ?_
    refine v_ops ?_
    refine s_pure v_code (fun _ q => q) ?_
    have f5 := (s_code.ext eh1)
    refine s_call [v_code] rfl (spec_DrawPassLine_ok v_code code _ f5 (by first | omega | assumption | (simp; done) | (simp; omega)) (by first | omega | assumption | (simp; done) | (simp; omega))) ?_
    rintro _ h11 ⟨g6, g7, g9, r8, r10, rfl, s_r8, fr_r8, s_r10, fr_r10, qh11, eh11⟩
    have E12 := E2.trans eh11
    have z13 := eh11.size
    have lt_r8 := s_r8.lt
    have lt_r10 := s_r10.lt
    refine s_pure (.tuple #[.agg #[.int .i64 g6.towers, .int .i64 g6.tries], r8, r10]) (fun _ q => q) ?_
    refine s_pure (.agg #[.int .i64 g6.towers, .int .i64 g6.tries]) (fun _ q => q) ?_
    refine s_pure r8 (fun _ q => q) ?_
    refine s_pure r10 (fun _ q => q) ?_
    refine s_new (fun h15 b14 hbb14 hzb14 eh15 bxb14 => ?_)
    have E16 := E12.trans eh15
    have z17 := eh15.size
    have lbb14 := bxb14.lt
    refine s_stBx (.agg #[.int .i64 g6.towers, .int .i64 g6.tries]) [.int .i64 g6.towers, .int .i64 g6.tries] [.int .i64 g6.towers, .int .i64 g6.tries] bxb14 rfl rfl rfl rfl (by simp) (all_cons rfl (all_cons rfl all_nil)) rfl (fun h18 mh18 sh18 bxx19 => ?_)
    have E20 := E16.mod mh18 (fun b hb => by simp at hb; omega)
    refine s_pure r8 (fun _ q => q) ?_
    refine s_pure r10 (fun _ q => q) ?_
    refine s_nil ?_
    refine p_seqN ?_
    refine v_seq ?_
    refine v_ops ?_
    refine s_load (.agg #[.int .i64 g6.towers, .int .i64 g6.tries]) (fun _ q => bxx19.loadA rfl q) ?_
    refine s_pure r8 (fun _ q => q) ?_
    refine s_pure r10 (fun _ q => q) ?_
    have f21 := ((s_r8.ext eh15).mod mh18 (fun b hb hc => by simp at hc; have := lt_r8 b hb; omega))
    have f22 := ((s_r10.ext eh15).mod mh18 (fun b hb hc => by simp at hc; have := lt_r10 b hb; omega))
    refine s_call [.agg #[.int .i64 g6.towers, .int .i64 g6.tries], r8, r10] rfl (w_implPassLine g6 r8 g7 r10 g9 _ f21.toSl f22.toSl) ?_
    rintro _ h24 ⟨r23, rfl, s_r23, fr_r23, eh24⟩
    have E25 := E20.trans eh24
    have z26 := eh24.size
    have lt_r23 := s_r23.lt
    refine s_pure (.tuple #[r23, .bool ((plOut g6.towers g6.tries g7 g9).2.1), .bool ((plOut g6.towers g6.tries g7 g9).2.2)]) (fun _ q => q) ?_
    refine s_pure r23 (fun _ q => q) ?_
    refine s_pure (.bool ((plOut g6.towers g6.tries g7 g9).2.1)) (fun _ q => q) ?_
    refine s_pure (.bool ((plOut g6.towers g6.tries g7 g9).2.2)) (fun _ q => q) ?_
    refine s_pure r23 (fun _ q => q) ?_
    refine s_pure (.bool ((plOut g6.towers g6.tries g7 g9).2.1)) (fun _ q => q) ?_
    refine s_pure (.bool ((plOut g6.towers g6.tries g7 g9).2.2)) (fun _ q => q) ?_
    refine s_nil ?_
    refine p_seqN ?_
    refine v_seq ?_
    refine v_ops ?_
    have f27 := (bxx19.ext eh24)
    refine s_load (.agg #[.int .i64 g6.towers, .int .i64 g6.tries]) (fun _ q => f27.loadA rfl q) ?_
    refine s_pure r8 (fun _ q => q) ?_
    refine s_pure r10 (fun _ q => q) ?_
    have f28 := (f21.ext eh24)
    have f29 := (f22.ext eh24)
    refine s_call [.agg #[.int .i64 g6.towers, .int .i64 g6.tries], r8, r10] rfl (w_specPassLine g6 r8 g7 r10 g9 _ f28.toSl f29.toSl) ?_
    rintro _ h31 ⟨r30, rfl, s_r30, fr_r30, eh31⟩
    have E32 := E25.trans eh31
    have z33 := eh31.size
    have lt_r30 := s_r30.lt
    refine s_pure (.tuple #[r30, .bool ((plOut g6.towers g6.tries g7 g9).2.1), .bool ((plOut g6.towers g6.tries g7 g9).2.2)]) (fun _ q => q) ?_
    refine s_pure r30 (fun _ q => q) ?_
    refine s_pure (.bool ((plOut g6.towers g6.tries g7 g9).2.1)) (fun _ q => q) ?_
    refine s_pure (.bool ((plOut g6.towers g6.tries g7 g9).2.2)) (fun _ q => q) ?_
    refine s_pure r30 (fun _ q => q) ?_
    refine s_pure (.bool ((plOut g6.towers g6.tries g7 g9).2.1)) (fun _ q => q) ?_
    refine s_pure (.bool ((plOut g6.towers g6.tries g7 g9).2.2)) (fun _ q => q) ?_
    refine s_nil ?_
    refine p_seqN ?_
    refine v_seq ?_
    refine v_ops ?_
    have f34 := (f27.ext eh31)
    refine s_load (.agg #[.int .i64 g6.towers, .int .i64 g6.tries]) (fun _ q => f34.loadA rfl q) ?_
    refine s_pure r8 (fun _ q => q) ?_
    refine s_pure r10 (fun _ q => q) ?_
    have f35 := (f28.ext eh31)
    have f36 := (f29.ext eh31)
    refine s_call [.agg #[.int .i64 g6.towers, .int .i64 g6.tries], r8, r10] rfl (w_implLineGlances g6 r8 g7 r10 g9 _ f35.toSl f36.toSl) ?_
    rintro _ h37 ⟨rfl, eh37⟩
    have E38 := E32.trans eh37
    have z39 := eh37.size
    refine s_pure (.tuple #[.int .i64 ((glOut g6.towers g6.tries g7 g9).1), .bool ((glOut g6.towers g6.tries g7 g9).2)]) (fun _ q => q) ?_
    refine s_pure (.int .i64 ((glOut g6.towers g6.tries g7 g9).1)) (fun _ q => q) ?_
    refine s_pure (.bool ((glOut g6.towers g6.tries g7 g9).2)) (fun _ q => q) ?_
    refine s_pure (.int .i64 ((glOut g6.towers g6.tries g7 g9).1)) (fun _ q => q) ?_
    refine s_pure (.bool ((glOut g6.towers g6.tries g7 g9).2)) (fun _ q => q) ?_
    refine s_nil ?_
    refine p_seqN ?_
    refine v_seq ?_
    refine v_ops ?_
    have f40 := (f34.ext eh37)
    refine s_load (.agg #[.int .i64 g6.towers, .int .i64 g6.tries]) (fun _ q => f40.loadA rfl q) ?_
    refine s_pure r8 (fun _ q => q) ?_
    refine s_pure r10 (fun _ q => q) ?_
    have f41 := (f35.ext eh37)
    have f42 := (f36.ext eh37)
    refine s_call [.agg #[.int .i64 g6.towers, .int .i64 g6.tries], r8, r10] rfl (w_specLineGlances g6 r8 g7 r10 g9 _ f41.toSl f42.toSl) ?_
    rintro _ h43 ⟨rfl, eh43⟩
    have E44 := E38.trans eh43
    have z45 := eh43.size
    refine s_pure (.tuple #[.int .i64 ((glOut g6.towers g6.tries g7 g9).1), .bool ((glOut g6.towers g6.tries g7 g9).2)]) (fun _ q => q) ?_
    refine s_pure (.int .i64 ((glOut g6.towers g6.tries g7 g9).1)) (fun _ q => q) ?_
    refine s_pure (.bool ((glOut g6.towers g6.tries g7 g9).2)) (fun _ q => q) ?_
    refine s_pure (.int .i64 ((glOut g6.towers g6.tries g7 g9).1)) (fun _ q => q) ?_
    refine s_pure (.bool ((glOut g6.towers g6.tries g7 g9).2)) (fun _ q => q) ?_
    refine s_nil ?_
    refine p_seqN ?_
    refine v_seq ?_
    refine v_ops ?_
    have f46 := (f40.ext eh43)
    refine s_load (.agg #[.int .i64 g6.towers, .int .i64 g6.tries]) (fun _ q => f46.loadA rfl q) ?_
    refine s_pure r8 (fun _ q => q) ?_
    refine s_pure r10 (fun _ q => q) ?_
    have f47 := (f41.ext eh43)
    have f48 := (f42.ext eh43)
    refine s_call [.agg #[.int .i64 g6.towers, .int .i64 g6.tries], r8, r10] rfl (impl_WrongSignals_ok g6 r8 g7 r10 g9 _ f47.toSl f48.toSl) ?_
    rintro _ h50 ⟨r49, rfl, s_r49, fr_r49, eh50⟩
    have E51 := E44.trans eh50
    have z52 := eh50.size
    have lt_r49 := s_r49.lt
    refine s_pure (.tuple #[r49, .bool ((wsOut g6.towers g6.tries g7 g9).2)]) (fun _ q => q) ?_
    refine s_pure r49 (fun _ q => q) ?_
    refine s_pure (.bool ((wsOut g6.towers g6.tries g7 g9).2)) (fun _ q => q) ?_
    refine s_pure r49 (fun _ q => q) ?_
    refine s_pure (.bool ((wsOut g6.towers g6.tries g7 g9).2)) (fun _ q => q) ?_
    refine s_nil ?_
    refine p_seqN ?_
    refine v_seq ?_
    refine v_ops ?_
    have f53 := (f46.ext eh50)
    refine s_load (.agg #[.int .i64 g6.towers, .int .i64 g6.tries]) (fun _ q => f53.loadA rfl q) ?_
    refine s_pure r8 (fun _ q => q) ?_
    refine s_pure r10 (fun _ q => q) ?_
    have f54 := (f47.ext eh50)
    have f55 := (f48.ext eh50)
    refine s_call [.agg #[.int .i64 g6.towers, .int .i64 g6.tries], r8, r10] rfl (spec_WrongSignals_ok g6 r8 g7 r10 g9 _ f54.toSl f55.toSl) ?_
    rintro _ h57 ⟨r56, rfl, s_r56, fr_r56, eh57⟩
    have E58 := E51.trans eh57
    have z59 := eh57.size
    have lt_r56 := s_r56.lt
    refine s_pure (.tuple #[r56, .bool ((wsOut g6.towers g6.tries g7 g9).2)]) (fun _ q => q) ?_
    refine s_pure r56 (fun _ q => q) ?_
    refine s_pure (.bool ((wsOut g6.towers g6.tries g7 g9).2)) (fun _ q => q) ?_
    refine s_pure r56 (fun _ q => q) ?_
    refine s_pure (.bool ((wsOut g6.towers g6.tries g7 g9).2)) (fun _ q => q) ?_
    refine s_nil ?_
    refine p_seqN ?_
    refine v_seq ?_
    refine v_seq ?_
    have f60 := (f53.ext eh57)
    refine v_draw (DrawVC.hold ([b14]) ?_)
    refine d_pureT (.bool ((plOut g6.towers g6.tries g7 g9).2.2)) (fun _ q => q) ?_
    refine d_pureT (.bool ((plOut g6.towers g6.tries g7 g9).2.2)) (fun _ q => q) ?_
    refine d_pureT (.bool ((plOut g6.towers g6.tries g7 g9).2.2 != (plOut g6.towers g6.tries g7 g9).2.2)) (fun _ q => q) ?_
    refine d_pureT (.bool ((plOut g6.towers g6.tries g7 g9).2.2 != (plOut g6.towers g6.tries g7 g9).2.2)) (fun _ q => q) ?_
    refine d_splitN rfl (by first | assumption | omega | (simp; done) | (simp; omega) | simp_all) ?_
    refine d_runT rfl ?_
    refine d_pureT r23 (fun _ q => q) ?_
    refine d_runT rfl ?_
    refine d_pureT r30 (fun _ q => q) ?_
    refine d_runO rfl ?_
    refine d_eff ?_
    have f62 := (((((s_r23.ext eh31).ext eh37).ext eh43).ext eh50).ext eh57)
    have f63 := ((((s_r30.ext eh37).ext eh43).ext eh50).ext eh57)
    refine s_call [r23, r30] rfl (laws_sameInts_ok r23 ((plOut g6.towers g6.tries g7 g9).1) r30 ((plOut g6.towers g6.tries g7 g9).1) _ f62.toSl f63.toSl) ?_
    rintro vh61 h61 ⟨hvh61, eh61⟩
    obtain rfl : vh61 = .bool true := hvh61.trans (by rw [decide_eq_true rfl])
    have E64 := E58.trans eh61
    have z65 := eh61.size
    have G66 := eh61
    refine s_nil ⟨fun _ x hx => G66.blk x (by simp at hx; omega), ?_⟩
    refine d_runT rfl ?_
    refine d_pureT (.bool false) (fun _ q => q) ?_
    refine d_pureT (.bool false) (fun _ q => q) ?_
    refine d_pureT (.bool false) (fun _ q => q) ?_
    refine d_splitN rfl (by simp) ?_
    refine d_runT rfl ?_
    refine d_pureT (.bool ((plOut g6.towers g6.tries g7 g9).2.1)) (fun _ q => q) ?_
    refine d_runT rfl ?_
    refine d_pureT (.bool ((plOut g6.towers g6.tries g7 g9).2.1)) (fun _ q => q) ?_
    refine d_runT rfl ?_
    refine d_pureT (.bool ((plOut g6.towers g6.tries g7 g9).2.1 != (plOut g6.towers g6.tries g7 g9).2.1)) (fun _ q => q) ?_
    refine d_pureT (.bool ((plOut g6.towers g6.tries g7 g9).2.1 != (plOut g6.towers g6.tries g7 g9).2.1)) (fun _ q => q) ?_
    refine d_pureT (.bool ((plOut g6.towers g6.tries g7 g9).2.1 != (plOut g6.towers g6.tries g7 g9).2.1)) (fun _ q => q) ?_
    refine d_splitN rfl (by first | assumption | omega | (simp; done) | (simp; omega) | simp_all) ?_
    refine d_runT rfl ?_
    refine d_pureT (.bool ((glOut g6.towers g6.tries g7 g9).2)) (fun _ q => q) ?_
    refine d_runT rfl ?_
    refine d_pureT (.bool ((glOut g6.towers g6.tries g7 g9).2)) (fun _ q => q) ?_
    refine d_runT rfl ?_
    refine d_pureT (.bool ((glOut g6.towers g6.tries g7 g9).2 != (glOut g6.towers g6.tries g7 g9).2)) (fun _ q => q) ?_
    refine d_pureT (.bool ((glOut g6.towers g6.tries g7 g9).2 != (glOut g6.towers g6.tries g7 g9).2)) (fun _ q => q) ?_
    refine d_pureT (.bool ((glOut g6.towers g6.tries g7 g9).2 != (glOut g6.towers g6.tries g7 g9).2)) (fun _ q => q) ?_
    refine d_splitN rfl (by first | assumption | omega | (simp; done) | (simp; omega) | simp_all) ?_
    refine d_runT rfl ?_
    refine d_pureT (.int .i64 ((glOut g6.towers g6.tries g7 g9).1)) (fun _ q => q) ?_
    refine d_runT rfl ?_
    refine d_pureT (.int .i64 ((glOut g6.towers g6.tries g7 g9).1)) (fun _ q => q) ?_
    refine d_runT rfl ?_
    refine d_pureT (.bool ((glOut g6.towers g6.tries g7 g9).1 != (glOut g6.towers g6.tries g7 g9).1)) (fun _ q => q) ?_
    refine d_pureT (.bool ((glOut g6.towers g6.tries g7 g9).1 != (glOut g6.towers g6.tries g7 g9).1)) (fun _ q => q) ?_
    refine d_pureT (.bool ((glOut g6.towers g6.tries g7 g9).1 != (glOut g6.towers g6.tries g7 g9).1)) (fun _ q => q) ?_
    refine d_splitN rfl (by first | assumption | omega | (simp; done) | (simp; omega) | simp_all) ?_
    refine d_runT rfl ?_
    refine d_pureT (.bool ((wsOut g6.towers g6.tries g7 g9).2)) (fun _ q => q) ?_
    refine d_runT rfl ?_
    refine d_pureT (.bool ((wsOut g6.towers g6.tries g7 g9).2)) (fun _ q => q) ?_
    refine d_runT rfl ?_
    refine d_pureT (.bool ((wsOut g6.towers g6.tries g7 g9).2 != (wsOut g6.towers g6.tries g7 g9).2)) (fun _ q => q) ?_
    refine d_pureT (.bool ((wsOut g6.towers g6.tries g7 g9).2 != (wsOut g6.towers g6.tries g7 g9).2)) (fun _ q => q) ?_
    refine d_pureT (.bool ((wsOut g6.towers g6.tries g7 g9).2 != (wsOut g6.towers g6.tries g7 g9).2)) (fun _ q => q) ?_
    refine d_splitN rfl (by first | assumption | omega | (simp; done) | (simp; omega) | simp_all) ?_
    refine d_runT rfl ?_
    refine d_pureT r49 (fun _ q => q) ?_
    refine d_runT rfl ?_
    refine d_pureT r56 (fun _ q => q) ?_
    refine d_runO rfl ?_
    refine d_eff ?_
    have f68 := ((s_r49.ext eh57).ext eh61)
    have f69 := (s_r56.ext eh61)
    refine s_call [r49, r56] rfl (laws_sameInts_ok r49 ((wsOut g6.towers g6.tries g7 g9).1) r56 ((wsOut g6.towers g6.tries g7 g9).1) _ f68.toSl f69.toSl) ?_
    rintro vh67 h67 ⟨hvh67, eh67⟩
    obtain rfl : vh67 = .bool true := hvh67.trans (by rw [decide_eq_true rfl])
    have E70 := E64.trans eh67
    have z71 := eh67.size
    have G72 := G66.trans eh67
    refine s_nil ⟨fun _ x hx => G72.blk x (by simp at hx; omega), ?_⟩
    refine d_runT rfl ?_
    refine d_pureT (.bool false) (fun _ q => q) ?_
    refine d_pureT (.bool false) (fun _ q => q) ?_
    refine d_pureT (.bool false) (fun _ q => q) ?_
    refine d_splitN rfl (by simp) ?_
    refine d_runT rfl ?_
    refine d_pureT (.bool ((glOut g6.towers g6.tries g7 g9).2)) (fun _ q => q) ?_
    refine d_runT rfl ?_
    refine d_pureT (.bool ((plOut g6.towers g6.tries g7 g9).2.2)) (fun _ q => q) ?_
    refine d_runT rfl ?_
    refine d_pureT (.bool ((glOut g6.towers g6.tries g7 g9).2 != (plOut g6.towers g6.tries g7 g9).2.2)) (fun _ q => q) ?_
    refine d_pureT (.bool ((glOut g6.towers g6.tries g7 g9).2 != (plOut g6.towers g6.tries g7 g9).2.2)) (fun _ q => q) ?_
    refine d_pureT (.bool ((glOut g6.towers g6.tries g7 g9).2 != (plOut g6.towers g6.tries g7 g9).2.2)) (fun _ q => q) ?_
    refine d_splitT rfl (fun c73 => ?_) (fun c73 => ?_)
    ·
      refine d_passT rfl ?_
      refine d_passT rfl ?_
      refine d_passT rfl ?_
      refine d_pureT (.bool true) (fun _ q => q) ?_
      refine d_pureT (.bool true) (fun _ q => q) ?_
      refine d_splitY rfl rfl ?_
      refine d_passT rfl ?_
      refine d_passT rfl ?_
      refine d_passO rfl ?_
      refine d_passO rfl ?_
      refine d_passT rfl ?_
      refine d_pureT (.bool true) (fun _ q => q) ?_
      refine d_done ?_
      refine p_seqN ?_
      refine v_condY rfl rfl ?_
      refine v_seq ?_
      refine v_ops ?_
      refine s_pure (.bool false) (fun _ q => q) ?_
      refine s_nil ?_
      refine p_seqN ?_
      refine v_ret ?_
      refine p_seqR ?_
      refine p_ret [.bool false] (.bool false) (fun _ q => q) rfl ?_
      have ho : true = false := by first | rfl | (exfalso; first | omega | exact absurd (gl_ok _ _ _ _) (by assumption) | exact absurd (ws_ok _ _ _ _) (by assumption) | exact (by assumption : _ ≠ _) hP2 | (have := hP3 (by assumption); omega) | (have := ha_ok hA hw0 (by assumption); simp_all; done) | (have := pl_plain hA; simp_all; done) | (simp_all; done))
      exact ⟨by first | (rw [ho]; done) | rfl, E70⟩
    ·
      have c73 := Classical.not_not.1 c73
      refine d_runT rfl ?_
      refine d_pureT (.bool ((wsOut g6.towers g6.tries g7 g9).2)) (fun _ q => q) ?_
      refine d_runT rfl ?_
      refine d_pureT (.bool ((plOut g6.towers g6.tries g7 g9).2.2)) (fun _ q => q) ?_
      refine d_runT rfl ?_
      refine d_pureT (.bool ((wsOut g6.towers g6.tries g7 g9).2 != (plOut g6.towers g6.tries g7 g9).2.2)) (fun _ q => q) ?_
      refine d_pureT (.bool ((wsOut g6.towers g6.tries g7 g9).2 != (plOut g6.towers g6.tries g7 g9).2.2)) (fun _ q => q) ?_
      refine d_pureT (.bool ((wsOut g6.towers g6.tries g7 g9).2 != (plOut g6.towers g6.tries g7 g9).2.2)) (fun _ q => q) ?_
      refine d_splitT rfl (fun c74 => ?_) (fun c74 => ?_)
      ·
        refine d_passT rfl ?_
        refine d_passT rfl ?_
        refine d_passO rfl ?_
        refine d_passO rfl ?_
        refine d_passT rfl ?_
        refine d_pureT (.bool true) (fun _ q => q) ?_
        refine d_done ?_
        refine p_seqN ?_
        refine v_condY rfl rfl ?_
        refine v_seq ?_
        refine v_ops ?_
        refine s_pure (.bool false) (fun _ q => q) ?_
        refine s_nil ?_
        refine p_seqN ?_
        refine v_ret ?_
        refine p_seqR ?_
        refine p_ret [.bool false] (.bool false) (fun _ q => q) rfl ?_
        have ho : true = false := by first | rfl | (exfalso; first | omega | exact absurd (gl_ok _ _ _ _) (by assumption) | exact absurd (ws_ok _ _ _ _) (by assumption) | exact (by assumption : _ ≠ _) hP2 | (have := hP3 (by assumption); omega) | (have := ha_ok hA hw0 (by assumption); simp_all; done) | (have := pl_plain hA; simp_all; done) | (simp_all; done))
        exact ⟨by first | (rw [ho]; done) | rfl, E70⟩
      ·
        have c74 := Classical.not_not.1 c74
        refine d_runT rfl ?_
        refine d_loadT (.agg #[.int .i64 g6.towers, .int .i64 g6.tries]) (fun _ q => f60.takeA (by simp) rfl q) ?_
        refine d_runT rfl ?_
        refine d_loadT (.agg #[.int .i64 g6.towers, .int .i64 g6.tries]) (fun _ q => f60.takeA (by simp) rfl q) ?_
        refine d_runO rfl ?_
        refine d_eff ?_
        refine s_call [.agg #[.int .i64 g6.towers, .int .i64 g6.tries]] rfl (w_implIsLine g6 _ ) ?_
        rintro _ h75 ⟨rfl, eh75⟩
        have E76 := E70.trans eh75
        have z77 := eh75.size
        have G78 := G72.trans eh75
        refine s_nil ⟨fun _ x hx => G78.blk x (by simp at hx; omega), ?_⟩
        refine d_runO rfl ?_
        refine d_eff ?_
        refine s_call [.agg #[.int .i64 g6.towers, .int .i64 g6.tries]] rfl (w_specIsLine g6 _ ) ?_
        rintro _ h79 ⟨rfl, eh79⟩
        have E80 := E76.trans eh79
        have z81 := eh79.size
        have G82 := G78.trans eh79
        refine s_nil ⟨fun hl => (by cases hl), ?_⟩
        refine d_runT rfl ?_
        refine d_pureT (.bool ((decide (LineOk g6.towers g6.tries)) != (decide (LineOk g6.towers g6.tries)))) (fun _ q => q) ?_
        refine d_pureT (.bool ((decide (LineOk g6.towers g6.tries)) != (decide (LineOk g6.towers g6.tries)))) (fun _ q => q) ?_
        refine d_done ?_
        refine p_seqN ?_
        refine v_condN rfl (by first | assumption | omega | (simp; done) | (simp; omega) | simp_all) ?_
        refine v_skip ?_
        refine p_seqN ?_
        refine v_seq ?_
        refine v_seq ?_
        refine v_ops ?_
        refine s_pure (.bool ((plOut g6.towers g6.tries g7 g9).2.2)) (fun _ q => q) ?_
        refine s_nil ?_
        refine p_seqN ?_
        refine v_cond rfl (fun c83 => ?_) (fun c83 => ?_)
        ·
          obtain ⟨hA, hP1, hP2, hP3, hP4, hP5, hP6⟩ := pl_facts c83
          have hPl := pl_plain hA
          refine v_seq ?_
          refine v_seq ?_
          refine v_ops ?_
          refine s_pure r30 (fun _ q => q) ?_
          refine s_pure (.int .i64 (((plOut g6.towers g6.tries g7 g9).1).length : Int)) (fun _ q => f63.lenVC q) ?_
          refine s_pure r8 (fun _ q => q) ?_
          refine s_pure (.int .i64 (g7.length : Int)) (fun _ q => f54.lenVC q) ?_
          refine s_pure (.bool (decide ((((plOut g6.towers g6.tries g7 g9).1).length : Int) > (g7.length : Int)))) (fun _ q => q) ?_
          refine s_pure (.bool (decide ((((plOut g6.towers g6.tries g7 g9).1).length : Int) > (g7.length : Int)))) (fun _ q => q) ?_
          refine s_splitT rfl (fun c84 => ?_) (fun c84 => ?_)
          ·
            refine s_pass rfl ?_
            refine s_pass rfl ?_
            refine s_pass rfl ?_
            refine s_pass rfl ?_
            refine s_pass rfl ?_
            refine s_pass rfl ?_
            refine s_pass rfl ?_
            refine s_pure (.bool true) (fun _ q => q) ?_
            refine s_pure (.bool true) (fun _ q => q) ?_
            refine s_splitY rfl rfl ?_
            refine s_pass rfl ?_
            refine s_pass rfl ?_
            refine s_splitU rfl ?_
            refine s_passU rfl ?_
            refine s_passU rfl ?_
            refine s_passU rfl ?_
            refine s_passU rfl ?_
            refine s_passU rfl ?_
            refine s_passU rfl ?_
            refine s_passU rfl ?_
            refine s_passU rfl ?_
            refine s_passU rfl ?_
            refine s_pass rfl ?_
            refine s_pure (.bool true) (fun _ q => q) ?_
            refine s_nil ?_
            refine p_seqN ?_
            refine v_condY rfl rfl ?_
            refine v_seq ?_
            refine v_ops ?_
            refine s_pure (.bool false) (fun _ q => q) ?_
            refine s_nil ?_
            refine p_seqN ?_
            refine v_ret ?_
            refine p_seqR ?_
            refine p_seqR ?_
            refine p_ret [.bool false] (.bool false) (fun _ q => q) rfl ?_
            have ho : true = false := by first | rfl | (exfalso; first | omega | exact absurd (gl_ok _ _ _ _) (by assumption) | exact absurd (ws_ok _ _ _ _) (by assumption) | exact (by assumption : _ ≠ _) hP2 | (have := hP3 (by assumption); omega) | (have := ha_ok hA hw0 (by assumption); simp_all; done) | (have := pl_plain hA; simp_all; done) | (simp_all; done))
            exact ⟨by first | (rw [ho]; done) | rfl, E80⟩
          ·
            refine s_run rfl ?_
            refine s_pure (.bool ((plOut g6.towers g6.tries g7 g9).2.1)) (fun _ q => q) ?_
            refine s_run rfl ?_
            refine s_pure r30 (fun _ q => q) ?_
            refine s_run rfl ?_
            refine s_pure (.int .i64 (((plOut g6.towers g6.tries g7 g9).1).length : Int)) (fun _ q => f63.lenVC q) ?_
            refine s_run rfl ?_
            refine s_pure r8 (fun _ q => q) ?_
            refine s_run rfl ?_
            refine s_pure (.int .i64 (g7.length : Int)) (fun _ q => f54.lenVC q) ?_
            refine s_run rfl ?_
            refine s_pure (.bool ((((plOut g6.towers g6.tries g7 g9).1).length : Int) == (g7.length : Int))) (fun _ q => q) ?_
            refine s_run rfl ?_
            refine s_pure (.bool ((plOut g6.towers g6.tries g7 g9).2.1 != ((((plOut g6.towers g6.tries g7 g9).1).length : Int) == (g7.length : Int)))) (fun _ q => q) ?_
            refine s_pure (.bool ((plOut g6.towers g6.tries g7 g9).2.1 != ((((plOut g6.towers g6.tries g7 g9).1).length : Int) == (g7.length : Int)))) (fun _ q => q) ?_
            refine s_pure (.bool ((plOut g6.towers g6.tries g7 g9).2.1 != ((((plOut g6.towers g6.tries g7 g9).1).length : Int) == (g7.length : Int)))) (fun _ q => q) ?_
            refine s_splitT rfl (fun c85 => ?_) (fun c85 => ?_)
            ·
              refine s_pass rfl ?_
              refine s_pass rfl ?_
              refine s_splitU rfl ?_
              refine s_passU rfl ?_
              refine s_passU rfl ?_
              refine s_passU rfl ?_
              refine s_passU rfl ?_
              refine s_passU rfl ?_
              refine s_passU rfl ?_
              refine s_passU rfl ?_
              refine s_passU rfl ?_
              refine s_passU rfl ?_
              refine s_pass rfl ?_
              refine s_pure (.bool true) (fun _ q => q) ?_
              refine s_nil ?_
              refine p_seqN ?_
              refine v_condY rfl rfl ?_
              refine v_seq ?_
              refine v_ops ?_
              refine s_pure (.bool false) (fun _ q => q) ?_
              refine s_nil ?_
              refine p_seqN ?_
              refine v_ret ?_
              refine p_seqR ?_
              refine p_seqR ?_
              refine p_ret [.bool false] (.bool false) (fun _ q => q) rfl ?_
              have ho : true = false := by first | rfl | (exfalso; first | omega | exact absurd (gl_ok _ _ _ _) (by assumption) | exact absurd (ws_ok _ _ _ _) (by assumption) | exact (by assumption : _ ≠ _) hP2 | (have := hP3 (by assumption); omega) | (have := ha_ok hA hw0 (by assumption); simp_all; done) | (have := pl_plain hA; simp_all; done) | (simp_all; done))
              exact ⟨by first | (rw [ho]; done) | rfl, E80⟩
            ·
              have c85 := Classical.not_not.1 c85
              refine s_run rfl ?_
              refine s_pure (.bool ((plOut g6.towers g6.tries g7 g9).2.1)) (fun _ q => q) ?_
              refine s_run rfl ?_
              refine s_pure (.bool ((plOut g6.towers g6.tries g7 g9).2.1)) (fun _ q => q) ?_
              refine s_splitT rfl (fun c86 => ?_) (fun c86 => ?_)
              ·
                refine s_run rfl ?_
                refine s_pure (.int .i64 ((glOut g6.towers g6.tries g7 g9).1)) (fun _ q => q) ?_
                refine s_run rfl ?_
                refine s_pure r8 (fun _ q => q) ?_
                refine s_run rfl ?_
                refine s_pure (.int .i64 (g7.length : Int)) (fun _ q => f54.lenVC q) ?_
                refine s_run rfl ?_
                refine s_pure (.int .i64 (2 * (g7.length : Int))) (fun _ q => ArithVC.mk (by omega) q) ?_
                refine s_run rfl ?_
                refine s_pure (.pointer (some ⟨b14, 0, none⟩)) (fun _ q => q) ?_
                refine s_run rfl ?_
                have f87 := ((((f60.ext eh61).ext eh67).ext eh75).ext eh79)
                refine s_load (.int .i64 g6.towers) (fun _ q => f87.load rfl q) ?_
                refine s_run rfl ?_
                refine s_pure (.int .i64 (g6.towers - 1)) (fun _ q => ArithVC.mk (by omega) q) ?_
                refine s_run rfl ?_
                refine s_pure (.int .i64 ((2 * (g7.length : Int)) * (g6.towers - 1))) (fun _ q => ArithVC.mk (by (have hmb := mul_bound (n := (g7.length : Int)) (t := g6.towers) (by omega) (by omega) (by omega) (by omega)); omega) q) ?_
                refine s_run rfl ?_
                refine s_pure (.bool (decide ((glOut g6.towers g6.tries g7 g9).1 < ((2 * (g7.length : Int)) * (g6.towers - 1))))) (fun _ q => q) ?_
                refine s_run rfl ?_
                refine s_pure (.bool (decide ((glOut g6.towers g6.tries g7 g9).1 < ((2 * (g7.length : Int)) * (g6.towers - 1))))) (fun _ q => q) ?_
                refine s_pure (.bool (decide ((glOut g6.towers g6.tries g7 g9).1 < ((2 * (g7.length : Int)) * (g6.towers - 1))))) (fun _ q => q) ?_
                refine s_nil ?_
                refine p_seqN ?_
                refine v_cond rfl (fun c88 => ?_) (fun c88 => ?_)
                ·
                  refine v_seq ?_
                  refine v_ops ?_
                  refine s_pure (.bool false) (fun _ q => q) ?_
                  refine s_nil ?_
                  refine p_seqN ?_
                  refine v_ret ?_
                  refine p_seqR ?_
                  refine p_seqR ?_
                  refine p_ret [.bool false] (.bool false) (fun _ q => q) rfl ?_
                  have ho : true = false := by first | rfl | (exfalso; first | omega | exact absurd (gl_ok _ _ _ _) (by assumption) | exact absurd (ws_ok _ _ _ _) (by assumption) | exact (by assumption : _ ≠ _) hP2 | (have := hP3 (by assumption); omega) | (have := ha_ok hA hw0 (by assumption); simp_all; done) | (have := pl_plain hA; simp_all; done) | (simp_all; done))
                  exact ⟨by first | (rw [ho]; done) | rfl, E80⟩
                ·
                  refine v_skip ?_
                  refine p_seqN ?_
                  refine v_seq ?_
                  refine v_ops ?_
                  refine s_pure r8 (fun _ q => q) ?_
                  refine s_pure (.int .i64 (g7.length : Int)) (fun _ q => f54.lenVC q) ?_
                  refine s_pure (.int .i64 (g7.length : Int)) (fun _ q => q) ?_
                  refine s_nil ?_
                  refine p_seqN ?_
                  refine v_seq ?_
                  refine v_seq ?_
                  refine v_ops ?_
                  refine s_pure (.int .i64 0) (fun _ q => q) ?_
                  refine s_nil ?_
                  refine p_seqN ?_
                  refine v_block ?_
                  have nk90 : b14 ∉ blks r8 := (fun hc => by have := lt_r8 _ hc; omega)
                  have nk91 : b14 ∉ blks r10 := (fun hc => by have := lt_r10 _ hc; omega)
                  have f92 := (((((f54.ext eh57).ext eh61).ext eh67).ext eh75).ext eh79)
                  have f93 := (((((f55.ext eh57).ext eh61).ext eh67).ext eh75).ext eh79)
                  refine v_loop2 (α := Int) (β := Int) (fun w last => [(1, v_more), (5, .pointer (some ⟨b14, 0, none⟩)), (6, r8), (7, r10), (22, .int .i64 last), (23, .int .i64 w)]) (fun w last hh => Ext h hh ∧ Bx hh b14 [.int .i64 g6.towers, .int .i64 g6.tries] 25 ∧ SlO hh r8 g7 ∧ SlO hh r10 g9 ∧ 0 ≤ w ∧ w ≤ g6.towers ∧ ∀ j, w ≤ j → ((haOut g6.towers g6.tries g7 g9 j).1.length : Int) ≤ last) (fun w last => (g6.towers - w).toNat) 0 (g7.length : Int) ⟨rfl, rfl, rfl, rfl, rfl, rfl⟩ ⟨E80, f87, f92, f93, (by exact ⟨by omega, by omega, fun j _ => Int.ofNat_le.2 (ha_le g6.towers g6.tries g7 g9 j)⟩)⟩ ?_
                  rintro w last R94 h89 ⟨Eh, bxb14, s_r8, s_r10, ⟨hw0, hw1, hL⟩⟩
                  have zEh := Eh.size
                  have f95 := s_code.ext Eh
                  have f96 := s_more.ext Eh
                  have ltk_r8 := s_r8.lt
                  have ltk_r10 := s_r10.lt
                  have lbb14 := bxb14.lt
                  have hLw := hL w (by omega)
                  refine v_seq ?_
                  refine v_seq ?_
                  refine v_ops ?_
                  refine s_pure (.int .i64 w) (fun _ q => q) ?_
                  refine s_pure (.pointer (some ⟨b14, 0, none⟩)) (fun _ q => q) ?_
                  refine s_load (.int .i64 g6.towers) (fun _ q => bxb14.load rfl q) ?_
                  refine s_pure (.bool (decide (w < g6.towers))) (fun _ q => q) ?_
                  refine s_nil ?_
                  refine p_seqN ?_
                  refine v_cond rfl (fun c97 => ?_) (fun c97 => ?_)
                  ·
                    have hOw := ha_ok hA hw0 (by assumption)
                    refine v_skip ?_
                    refine p_seqN ?_
                    refine v_seq ?_
                    refine v_block ?_
                    refine v_seq ?_
                    refine v_ops ?_
                    refine s_load (.agg #[.int .i64 g6.towers, .int .i64 g6.tries]) (fun _ q => bxb14.loadA rfl q) ?_
                    refine s_pure r8 (fun _ q => q) ?_
                    refine s_pure r10 (fun _ q => q) ?_
                    refine s_pure (.int .i64 w) (fun _ q => q) ?_
                    refine s_call [.agg #[.int .i64 g6.towers, .int .i64 g6.tries], r8, r10, .int .i64 w] rfl (w_implHeldAtTower g6 r8 g7 r10 g9 w _ s_r8.toSl s_r10.toSl) ?_
                    rintro _ h99 ⟨r98, rfl, s_r98, fr_r98, eh99⟩
                    have E100 := Eh.trans eh99
                    have z101 := eh99.size
                    have lt_r98 := s_r98.lt
                    refine s_pure (.tuple #[r98, .bool ((haOut g6.towers g6.tries g7 g9 w).2)]) (fun _ q => q) ?_
                    refine s_pure r98 (fun _ q => q) ?_
                    refine s_pure (.bool ((haOut g6.towers g6.tries g7 g9 w).2)) (fun _ q => q) ?_
                    refine s_pure r98 (fun _ q => q) ?_
                    refine s_pure (.bool ((haOut g6.towers g6.tries g7 g9 w).2)) (fun _ q => q) ?_
                    refine s_nil ?_
                    refine p_seqN ?_
                    refine v_seq ?_
                    refine v_ops ?_
                    have f102 := (bxb14.ext eh99)
                    refine s_load (.agg #[.int .i64 g6.towers, .int .i64 g6.tries]) (fun _ q => f102.loadA rfl q) ?_
                    refine s_pure r8 (fun _ q => q) ?_
                    refine s_pure r10 (fun _ q => q) ?_
                    refine s_pure (.int .i64 w) (fun _ q => q) ?_
                    have f103 := (s_r8.ext eh99)
                    have f104 := (s_r10.ext eh99)
                    refine s_call [.agg #[.int .i64 g6.towers, .int .i64 g6.tries], r8, r10, .int .i64 w] rfl (w_specHeldAtTower g6 r8 g7 r10 g9 w _ f103.toSl f104.toSl) ?_
                    rintro _ h106 ⟨r105, rfl, s_r105, fr_r105, eh106⟩
                    have E107 := E100.trans eh106
                    have z108 := eh106.size
                    have lt_r105 := s_r105.lt
                    refine s_pure (.tuple #[r105, .bool ((haOut g6.towers g6.tries g7 g9 w).2)]) (fun _ q => q) ?_
                    refine s_pure r105 (fun _ q => q) ?_
                    refine s_pure (.bool ((haOut g6.towers g6.tries g7 g9 w).2)) (fun _ q => q) ?_
                    refine s_pure r105 (fun _ q => q) ?_
                    refine s_pure (.bool ((haOut g6.towers g6.tries g7 g9 w).2)) (fun _ q => q) ?_
                    refine s_nil ?_
                    refine p_seqN ?_
                    refine v_seq ?_
                    refine v_seq ?_
                    refine v_ops ?_
                    refine s_pure (.bool ((haOut g6.towers g6.tries g7 g9 w).2)) (fun _ q => q) ?_
                    refine s_pure (.bool (!(haOut g6.towers g6.tries g7 g9 w).2)) (fun _ q => q) ?_
                    refine s_pure (.bool (!(haOut g6.towers g6.tries g7 g9 w).2)) (fun _ q => q) ?_
                    refine s_splitN rfl (by first | assumption | omega | (simp [hP2]; done) | (simp [hPl]; done) | (simp [hOw]; done) | (simp; done) | (simp; omega) | simp_all) ?_
                    refine s_run rfl ?_
                    refine s_pure (.bool ((haOut g6.towers g6.tries g7 g9 w).2)) (fun _ q => q) ?_
                    refine s_run rfl ?_
                    refine s_pure (.bool (!(haOut g6.towers g6.tries g7 g9 w).2)) (fun _ q => q) ?_
                    refine s_pure (.bool (!(haOut g6.towers g6.tries g7 g9 w).2)) (fun _ q => q) ?_
                    refine s_pure (.bool (!(haOut g6.towers g6.tries g7 g9 w).2)) (fun _ q => q) ?_
                    refine s_splitN rfl (by first | assumption | omega | (simp [hP2]; done) | (simp [hPl]; done) | (simp [hOw]; done) | (simp; done) | (simp; omega) | simp_all) ?_
                    refine s_run rfl ?_
                    refine s_pure r98 (fun _ q => q) ?_
                    refine s_run rfl ?_
                    refine s_pure r105 (fun _ q => q) ?_
                    refine s_run rfl ?_
                    have f110 := (s_r98.ext eh106)
                    refine s_call [r98, r105] rfl (laws_sameInts_ok r98 ((haOut g6.towers g6.tries g7 g9 w).1) r105 ((haOut g6.towers g6.tries g7 g9 w).1) _ f110.toSl s_r105.toSl) ?_
                    rintro vh109 h109 ⟨hvh109, eh109⟩
                    obtain rfl : vh109 = .bool true := hvh109.trans (by rw [decide_eq_true rfl])
                    have E111 := E107.trans eh109
                    have z112 := eh109.size
                    refine s_run rfl ?_
                    refine s_pure (.bool false) (fun _ q => q) ?_
                    refine s_pure (.bool false) (fun _ q => q) ?_
                    refine s_pure (.bool false) (fun _ q => q) ?_
                    refine s_splitN rfl (by simp) ?_
                    refine s_run rfl ?_
                    refine s_pure r105 (fun _ q => q) ?_
                    refine s_run rfl ?_
                    refine s_pure (.int .i64 (((haOut g6.towers g6.tries g7 g9 w).1).length : Int)) (fun _ q => s_r105.lenVC q) ?_
                    refine s_run rfl ?_
                    refine s_pure (.int .i64 last) (fun _ q => q) ?_
                    refine s_run rfl ?_
                    refine s_pure (.bool (decide ((((haOut g6.towers g6.tries g7 g9 w).1).length : Int) > last))) (fun _ q => q) ?_
                    refine s_pure (.bool (decide ((((haOut g6.towers g6.tries g7 g9 w).1).length : Int) > last))) (fun _ q => q) ?_
                    refine s_nil ?_
                    refine p_seqN ?_
                    refine v_cond rfl (fun c113 => ?_) (fun c113 => ?_)
                    ·
                      refine v_seq ?_
                      refine v_ops ?_
                      refine s_pure (.bool false) (fun _ q => q) ?_
                      refine s_nil ?_
                      refine p_seqN ?_
                      refine v_ret ?_
                      refine p_seqR ?_
                      refine p_blkR ?_
                      refine p_seqR ?_
                      refine p_lpR ?_
                      refine p_blkR ?_
                      refine p_seqR ?_
                      refine p_seqR ?_
                      refine p_ret [.bool false] (.bool false) (fun _ q => q) rfl ?_
                      have ho : true = false := by first | rfl | (exfalso; first | omega | exact absurd (gl_ok _ _ _ _) (by assumption) | exact absurd (ws_ok _ _ _ _) (by assumption) | exact (by assumption : _ ≠ _) hP2 | (have := hP3 (by assumption); omega) | (have := ha_ok hA hw0 (by assumption); simp_all; done) | (have := pl_plain hA; simp_all; done) | (simp_all; done))
                      exact ⟨by first | (rw [ho]; done) | rfl, E111⟩
                    ·
                      refine v_skip ?_
                      refine p_seqN ?_
                      refine v_ops ?_
                      refine s_pure r105 (fun _ q => q) ?_
                      refine s_pure (.int .i64 (((haOut g6.towers g6.tries g7 g9 w).1).length : Int)) (fun _ q => s_r105.lenVC q) ?_
                      refine s_pure (.int .i64 (((haOut g6.towers g6.tries g7 g9 w).1).length : Int)) (fun _ q => q) ?_
                      refine s_nil ?_
                      refine p_blkN ?_
                      refine p_seqN ?_
                      refine v_ops ?_
                      refine s_pure (.int .i64 w) (fun _ q => q) ?_
                      refine s_pure (.int .i64 (w + 1)) (fun _ q => ArithVC.mk (by omega) q) ?_
                      refine s_pure (.int .i64 (w + 1)) (fun _ q => q) ?_
                      refine s_nil ?_
                      have f114 := ((f102.ext eh106).ext eh109)
                      have f115 := ((f103.ext eh106).ext eh109)
                      have f116 := ((f104.ext eh106).ext eh109)
                      exact p_lpN ⟨(w + 1), (((haOut g6.towers g6.tries g7 g9 w).1).length : Int), ⟨rfl, rfl, rfl, rfl, rfl, rfl⟩, ⟨E111, f114, f115, f116, (by exact ⟨by omega, by omega, fun j hj => Int.ofNat_le.2 (ha_mono hA hw0 (by omega) (by omega))⟩)⟩, by omega⟩
                  ·
                    refine v_exit ?_
                    refine p_seqX ?_
                    refine p_lpX ?_
                    refine p_blkX ?_
                    refine p_seqN ?_
                    refine v_seq ?_
                    refine v_ops ?_
                    refine s_load (.agg #[.int .i64 g6.towers, .int .i64 g6.tries]) (fun _ q => bxb14.loadA rfl q) ?_
                    refine s_pure r8 (fun _ q => q) ?_
                    refine s_call [.agg #[.int .i64 g6.towers, .int .i64 g6.tries], r8, .slice none 0 0] rfl (w_implPassLine g6 r8 g7 (.slice none 0 0) [] _ s_r8.toSl (SlX.nil (α := Int) false _)) ?_
                    rintro _ h118 ⟨r117, rfl, s_r117, fr_r117, eh118⟩
                    have E119 := Eh.trans eh118
                    have z120 := eh118.size
                    have lt_r117 := s_r117.lt
                    refine s_pure (.tuple #[r117, .bool ((plOut g6.towers g6.tries g7 []).2.1), .bool ((plOut g6.towers g6.tries g7 []).2.2)]) (fun _ q => q) ?_
                    refine s_pure r117 (fun _ q => q) ?_
                    refine s_pure (.bool ((plOut g6.towers g6.tries g7 []).2.1)) (fun _ q => q) ?_
                    refine s_pure (.bool ((plOut g6.towers g6.tries g7 []).2.2)) (fun _ q => q) ?_
                    refine s_pure r117 (fun _ q => q) ?_
                    refine s_pure (.bool ((plOut g6.towers g6.tries g7 []).2.1)) (fun _ q => q) ?_
                    refine s_pure (.bool ((plOut g6.towers g6.tries g7 []).2.2)) (fun _ q => q) ?_
                    refine s_nil ?_
                    refine p_seqN ?_
                    refine v_seq ?_
                    refine v_ops ?_
                    refine s_pure (.bool ((plOut g6.towers g6.tries g7 []).2.2)) (fun _ q => q) ?_
                    refine s_pure (.bool (!(plOut g6.towers g6.tries g7 []).2.2)) (fun _ q => q) ?_
                    refine s_pure (.bool (!(plOut g6.towers g6.tries g7 []).2.2)) (fun _ q => q) ?_
                    refine s_splitN rfl (by first | assumption | omega | (simp [hP2]; done) | (simp [hPl]; done) | (simp; done) | (simp; omega) | simp_all) ?_
                    refine s_run rfl ?_
                    refine s_pure (.bool ((plOut g6.towers g6.tries g7 []).2.1)) (fun _ q => q) ?_
                    refine s_run rfl ?_
                    refine s_pure (.bool (!(plOut g6.towers g6.tries g7 []).2.1)) (fun _ q => q) ?_
                    refine s_pure (.bool (!(plOut g6.towers g6.tries g7 []).2.1)) (fun _ q => q) ?_
                    refine s_pure (.bool (!(plOut g6.towers g6.tries g7 []).2.1)) (fun _ q => q) ?_
                    refine s_splitN rfl (by first | assumption | omega | (simp [hP2]; done) | (simp [hPl]; done) | (simp; done) | (simp; omega) | simp_all) ?_
                    refine s_run rfl ?_
                    refine s_pure r117 (fun _ q => q) ?_
                    refine s_run rfl ?_
                    refine s_pure r8 (fun _ q => q) ?_
                    refine s_run rfl ?_
                    have f122 := (s_r8.ext eh118)
                    refine s_call [r117, r8] rfl (laws_sameInts_ok r117 ((plOut g6.towers g6.tries g7 []).1) r8 g7 _ s_r117.toSl f122.toSl) ?_
                    rintro _ h121 ⟨rfl, eh121⟩
                    have E123 := E119.trans eh121
                    have z124 := eh121.size
                    refine s_run rfl ?_
                    refine s_pure (.bool (!(decide (((plOut g6.towers g6.tries g7 []).1) = g7)))) (fun _ q => q) ?_
                    refine s_pure (.bool (!(decide (((plOut g6.towers g6.tries g7 []).1) = g7)))) (fun _ q => q) ?_
                    refine s_nil ?_
                    refine p_seqN ?_
                    refine v_cond rfl (fun c125 => ?_) (fun c125 => ?_)
                    ·
                      refine v_seq ?_
                      refine v_ops ?_
                      refine s_pure (.bool false) (fun _ q => q) ?_
                      refine s_nil ?_
                      refine p_seqN ?_
                      refine v_ret ?_
                      refine p_seqR ?_
                      refine p_ret [.bool false] (.bool false) (fun _ q => q) rfl ?_
                      have ho : true = false := by first | rfl | (exfalso; first | omega | exact absurd (gl_ok _ _ _ _) (by assumption) | exact absurd (ws_ok _ _ _ _) (by assumption) | exact (by assumption : _ ≠ _) hP2 | (have := hP3 (by assumption); omega) | (have := ha_ok hA hw0 (by assumption); simp_all; done) | (have := pl_plain hA; simp_all; done) | (simp_all; done))
                      exact ⟨by first | (rw [ho]; done) | rfl, E123⟩
                    ·
                      have c125 := Classical.not_not.1 c125
                      refine v_skip ?_
                      refine p_seqN ?_
                      refine v_seq ?_
                      refine v_ops ?_
                      refine s_pure v_more (fun _ q => q) ?_
                      have f126 := ((f96.ext eh118).ext eh121)
                      refine s_call [v_more] rfl (spec_DrawPlainCount_ok v_more more _ f126 (by first | omega | assumption | (simp; done) | (simp; omega)) (by first | omega | assumption | (simp; done) | (simp; omega))) ?_
                      rintro _ h129 ⟨g127, g128, rfl, qh129, eh129⟩
                      have E130 := E123.trans eh129
                      have z131 := eh129.size
                      refine s_pure (.tuple #[.agg #[.int .i64 g127.towers, .int .i64 g127.tries], .int .i64 g128]) (fun _ q => q) ?_
                      refine s_pure (.agg #[.int .i64 g127.towers, .int .i64 g127.tries]) (fun _ q => q) ?_
                      refine s_pure (.int .i64 g128) (fun _ q => q) ?_
                      refine s_new (fun h133 b132 hbb132 hzb132 eh133 bxb132 => ?_)
                      have E134 := E130.trans eh133
                      have z135 := eh133.size
                      have lbb132 := bxb132.lt
                      refine s_stBx (.agg #[.int .i64 g127.towers, .int .i64 g127.tries]) [.int .i64 g127.towers, .int .i64 g127.tries] [.int .i64 g127.towers, .int .i64 g127.tries] bxb132 rfl rfl rfl rfl (by simp) (all_cons rfl (all_cons rfl all_nil)) rfl (fun h136 mh136 sh136 bxx137 => ?_)
                      have E138 := E134.mod mh136 (fun b hb => by simp at hb; omega)
                      refine s_pure (.int .i64 g128) (fun _ q => q) ?_
                      refine s_nil ?_
                      refine p_seqN ?_
                      refine v_seq ?_
                      refine v_ops ?_
                      refine s_load (.agg #[.int .i64 g127.towers, .int .i64 g127.tries]) (fun _ q => bxx137.loadA rfl q) ?_
                      refine s_pure (.int .i64 g128) (fun _ q => q) ?_
                      refine s_call [.agg #[.int .i64 g127.towers, .int .i64 g127.tries], .int .i64 g128] rfl (w_implPlainCount g127 g128 _ ) ?_
                      rintro _ h139 ⟨rfl, eh139⟩
                      have E140 := E138.trans eh139
                      have z141 := eh139.size
                      refine s_pure (.tuple #[.int .i64 ((plainOut g127.towers g127.tries g128).1), .bool ((plainOut g127.towers g127.tries g128).2)]) (fun _ q => q) ?_
                      refine s_pure (.int .i64 ((plainOut g127.towers g127.tries g128).1)) (fun _ q => q) ?_
                      refine s_pure (.bool ((plainOut g127.towers g127.tries g128).2)) (fun _ q => q) ?_
                      refine s_pure (.int .i64 ((plainOut g127.towers g127.tries g128).1)) (fun _ q => q) ?_
                      refine s_pure (.bool ((plainOut g127.towers g127.tries g128).2)) (fun _ q => q) ?_
                      refine s_nil ?_
                      refine p_seqN ?_
                      refine v_seq ?_
                      refine v_ops ?_
                      have f142 := (bxx137.ext eh139)
                      refine s_load (.agg #[.int .i64 g127.towers, .int .i64 g127.tries]) (fun _ q => f142.loadA rfl q) ?_
                      refine s_pure (.int .i64 g128) (fun _ q => q) ?_
                      refine s_call [.agg #[.int .i64 g127.towers, .int .i64 g127.tries], .int .i64 g128] rfl (w_specPlainCount g127 g128 _ ) ?_
                      rintro _ h143 ⟨rfl, eh143⟩
                      have E144 := E140.trans eh143
                      have z145 := eh143.size
                      refine s_pure (.tuple #[.int .i64 ((plainOut g127.towers g127.tries g128).1), .bool ((plainOut g127.towers g127.tries g128).2)]) (fun _ q => q) ?_
                      refine s_pure (.int .i64 ((plainOut g127.towers g127.tries g128).1)) (fun _ q => q) ?_
                      refine s_pure (.bool ((plainOut g127.towers g127.tries g128).2)) (fun _ q => q) ?_
                      refine s_pure (.int .i64 ((plainOut g127.towers g127.tries g128).1)) (fun _ q => q) ?_
                      refine s_pure (.bool ((plainOut g127.towers g127.tries g128).2)) (fun _ q => q) ?_
                      refine s_nil ?_
                      refine p_seqN ?_
                      refine v_seq ?_
                      refine v_seq ?_
                      refine v_ops ?_
                      refine s_pure (.bool ((plainOut g127.towers g127.tries g128).2)) (fun _ q => q) ?_
                      refine s_pure (.bool ((plainOut g127.towers g127.tries g128).2)) (fun _ q => q) ?_
                      refine s_pure (.bool ((plainOut g127.towers g127.tries g128).2 != (plainOut g127.towers g127.tries g128).2)) (fun _ q => q) ?_
                      refine s_pure (.bool ((plainOut g127.towers g127.tries g128).2 != (plainOut g127.towers g127.tries g128).2)) (fun _ q => q) ?_
                      refine s_splitN rfl (by first | assumption | omega | (simp [hP2]; done) | (simp [hPl]; done) | (simp; done) | (simp; omega) | simp_all) ?_
                      refine s_run rfl ?_
                      refine s_pure (.int .i64 ((plainOut g127.towers g127.tries g128).1)) (fun _ q => q) ?_
                      refine s_run rfl ?_
                      refine s_pure (.int .i64 ((plainOut g127.towers g127.tries g128).1)) (fun _ q => q) ?_
                      refine s_run rfl ?_
                      refine s_pure (.bool ((plainOut g127.towers g127.tries g128).1 != (plainOut g127.towers g127.tries g128).1)) (fun _ q => q) ?_
                      refine s_pure (.bool ((plainOut g127.towers g127.tries g128).1 != (plainOut g127.towers g127.tries g128).1)) (fun _ q => q) ?_
                      refine s_nil ?_
                      refine p_seqN ?_
                      refine v_condN rfl (by first | assumption | omega | (simp [hP2]; done) | (simp [hPl]; done) | (simp; done) | (simp; omega) | simp_all) ?_
                      refine v_skip ?_
                      refine p_seqN ?_
                      refine v_seq ?_
                      refine v_seq ?_
                      refine v_ops ?_
                      refine s_pure (.bool ((plainOut g127.towers g127.tries g128).2)) (fun _ q => q) ?_
                      refine s_nil ?_
                      refine p_seqN ?_
                      refine v_cond rfl (fun c146 => ?_) (fun c146 => ?_)
                      ·
                        obtain ⟨hn_, hG_⟩ := gl_plain c146
                        refine v_seq ?_
                        have f147 := (f142.ext eh143)
                        refine v_draw (DrawVC.hold ([b132]) ?_)
                        refine d_pureT (.int .i64 g128) (fun _ q => q) ?_
                        refine d_loadT (.agg #[.int .i64 g127.towers, .int .i64 g127.tries]) (fun _ q => f147.takeA (by simp) rfl q) ?_
                        refine d_eff ?_
                        refine s_mk (α := Int) ((g128).toNat) 0 rfl rfl (by omega) (by omega) rfl rfl (by first | (simp [maxLen]; done) | (simp [maxLen]; omega)) (by omega) (fun r148 h149 eh149 zh149 s_r148 fr_r148 => ?_)
                        have E150 := E144.trans eh149
                        have z151 := eh149.size
                        have G152 := eh149
                        have lt_r148 := s_r148.lt
                        refine s_nil ⟨fun _ x hx => G152.blk x (by simp at hx; omega), ?_⟩
                        refine d_eff ?_
                        refine s_call [.agg #[.int .i64 g127.towers, .int .i64 g127.tries], r148, .slice none 0 0] rfl (w_implLineGlances g127 r148 (List.replicate ((g128).toNat) 0) (.slice none 0 0) [] _ s_r148.toSl (SlX.nil (α := Int) false _)) ?_
                        rintro _ h153 ⟨rfl, eh153⟩
                        have E154 := E150.trans eh153
                        have z155 := eh153.size
                        have G156 := G152.trans eh153
                        refine s_nil ⟨fun hl => (by cases hl), ?_⟩
                        refine d_pureT (.tuple #[.int .i64 ((glOut g127.towers g127.tries (List.replicate ((g128).toNat) 0) []).1), .bool ((glOut g127.towers g127.tries (List.replicate ((g128).toNat) 0) []).2)]) (fun _ q => q) ?_
                        refine d_pureT (.int .i64 ((glOut g127.towers g127.tries (List.replicate ((g128).toNat) 0) []).1)) (fun _ q => q) ?_
                        refine d_pureT (.bool ((glOut g127.towers g127.tries (List.replicate ((g128).toNat) 0) []).2)) (fun _ q => q) ?_
                        refine d_pureT (.int .i64 ((glOut g127.towers g127.tries (List.replicate ((g128).toNat) 0) []).1)) (fun _ q => q) ?_
                        refine d_pureT (.bool ((glOut g127.towers g127.tries (List.replicate ((g128).toNat) 0) []).2)) (fun _ q => q) ?_
                        refine d_done ?_
                        refine p_seqN ?_
                        refine v_seq ?_
                        refine v_ops ?_
                        refine s_pure (.bool ((glOut g127.towers g127.tries (List.replicate ((g128).toNat) 0) []).2)) (fun _ q => q) ?_
                        refine s_pure (.bool (!(glOut g127.towers g127.tries (List.replicate ((g128).toNat) 0) []).2)) (fun _ q => q) ?_
                        refine s_pure (.bool (!(glOut g127.towers g127.tries (List.replicate ((g128).toNat) 0) []).2)) (fun _ q => q) ?_
                        refine s_splitT rfl (fun c157 => ?_) (fun c157 => ?_)
                        ·
                          refine s_pass rfl ?_
                          refine s_pass rfl ?_
                          refine s_pass rfl ?_
                          refine s_pure (.bool true) (fun _ q => q) ?_
                          refine s_nil ?_
                          refine p_seqN ?_
                          refine v_condY rfl rfl ?_
                          refine v_seq ?_
                          refine v_ops ?_
                          refine s_pure (.bool false) (fun _ q => q) ?_
                          refine s_nil ?_
                          refine p_seqN ?_
                          refine v_ret ?_
                          refine p_seqR ?_
                          refine p_ret [.bool false] (.bool false) (fun _ q => q) rfl ?_
                          have ho : true = false := by first | rfl | (exfalso; first | omega | exact absurd (gl_ok _ _ _ _) (by assumption) | exact absurd (ws_ok _ _ _ _) (by assumption) | exact (by assumption : _ ≠ _) hP2 | (have := hP3 (by assumption); omega) | (have := ha_ok hA hw0 (by assumption); simp_all; done) | (have := pl_plain hA; simp_all; done) | (simp_all; done))
                          exact ⟨by first | (rw [ho]; done) | rfl, E154⟩
                        ·
                          have c157 := Classical.not_not.1 c157
                          refine s_run rfl ?_
                          refine s_pure (.int .i64 ((glOut g127.towers g127.tries (List.replicate ((g128).toNat) 0) []).1)) (fun _ q => q) ?_
                          refine s_run rfl ?_
                          refine s_pure (.int .i64 ((plainOut g127.towers g127.tries g128).1)) (fun _ q => q) ?_
                          refine s_run rfl ?_
                          refine s_pure (.bool ((glOut g127.towers g127.tries (List.replicate ((g128).toNat) 0) []).1 != (plainOut g127.towers g127.tries g128).1)) (fun _ q => q) ?_
                          refine s_pure (.bool ((glOut g127.towers g127.tries (List.replicate ((g128).toNat) 0) []).1 != (plainOut g127.towers g127.tries g128).1)) (fun _ q => q) ?_
                          refine s_nil ?_
                          refine p_seqN ?_
                          refine v_cond rfl (fun c158 => ?_) (fun c158 => ?_)
                          ·
                            refine v_seq ?_
                            refine v_ops ?_
                            refine s_pure (.bool false) (fun _ q => q) ?_
                            refine s_nil ?_
                            refine p_seqN ?_
                            refine v_ret ?_
                            refine p_seqR ?_
                            refine p_ret [.bool false] (.bool false) (fun _ q => q) rfl ?_
                            have ho : true = false := by first | rfl | (exfalso; first | omega | exact absurd (gl_ok _ _ _ _) (by assumption) | exact absurd (ws_ok _ _ _ _) (by assumption) | exact (by assumption : _ ≠ _) hP2 | (have := hP3 (by assumption); omega) | (have := ha_ok hA hw0 (by assumption); simp_all; done) | (have := pl_plain hA; simp_all; done) | (simp_all; done))
                            exact ⟨by first | (rw [ho]; done) | rfl, E154⟩
                          ·
                            have c158 := Classical.not_not.1 c158
                            refine v_skip ?_
                            refine p_seqN ?_
                            refine v_seq ?_
                            refine v_ops ?_
                            refine s_pure v_more (fun _ q => q) ?_
                            have f159 := (((((((f126.ext eh129).ext eh133).mod mh136 (fun b hb hc => by simp at hc; have := lt_more b hb; omega)).ext eh139).ext eh143).ext eh149).ext eh153)
                            refine s_call [v_more] rfl (spec_DrawHeldAtTower_ok v_more more _ f159 (by first | omega | assumption | (simp; done) | (simp; omega)) (by first | omega | assumption | (simp; done) | (simp; omega))) ?_
                            rintro _ h166 ⟨g160, g161, g163, g165, r162, r164, rfl, s_r162, fr_r162, s_r164, fr_r164, qh166, eh166⟩
                            have E167 := E154.trans eh166
                            have z168 := eh166.size
                            have lt_r162 := s_r162.lt
                            have lt_r164 := s_r164.lt
                            refine s_pure (.tuple #[.agg #[.int .i64 g160.towers, .int .i64 g160.tries], r162, r164, .int .i64 g165]) (fun _ q => q) ?_
                            refine s_pure (.agg #[.int .i64 g160.towers, .int .i64 g160.tries]) (fun _ q => q) ?_
                            refine s_pure r162 (fun _ q => q) ?_
                            refine s_pure r164 (fun _ q => q) ?_
                            refine s_pure (.int .i64 g165) (fun _ q => q) ?_
                            refine s_new (fun h170 b169 hbb169 hzb169 eh170 bxb169 => ?_)
                            have E171 := E167.trans eh170
                            have z172 := eh170.size
                            have lbb169 := bxb169.lt
                            refine s_stBx (.agg #[.int .i64 g160.towers, .int .i64 g160.tries]) [.int .i64 g160.towers, .int .i64 g160.tries] [.int .i64 g160.towers, .int .i64 g160.tries] bxb169 rfl rfl rfl rfl (by simp) (all_cons rfl (all_cons rfl all_nil)) rfl (fun h173 mh173 sh173 bxx174 => ?_)
                            have E175 := E171.mod mh173 (fun b hb => by simp at hb; omega)
                            refine s_pure r162 (fun _ q => q) ?_
                            refine s_pure r164 (fun _ q => q) ?_
                            refine s_pure (.int .i64 g165) (fun _ q => q) ?_
                            refine s_nil ?_
                            refine p_seqN ?_
                            refine v_seq ?_
                            refine v_ops ?_
                            refine s_load (.agg #[.int .i64 g160.towers, .int .i64 g160.tries]) (fun _ q => bxx174.loadA rfl q) ?_
                            refine s_pure r162 (fun _ q => q) ?_
                            refine s_pure r164 (fun _ q => q) ?_
                            refine s_pure (.int .i64 g165) (fun _ q => q) ?_
                            have f176 := ((s_r162.ext eh170).mod mh173 (fun b hb hc => by simp at hc; have := lt_r162 b hb; omega))
                            have f177 := ((s_r164.ext eh170).mod mh173 (fun b hb hc => by simp at hc; have := lt_r164 b hb; omega))
                            refine s_call [.agg #[.int .i64 g160.towers, .int .i64 g160.tries], r162, r164, .int .i64 g165] rfl (w_implHeldAtTower g160 r162 g161 r164 g163 g165 _ f176.toSl f177.toSl) ?_
                            rintro _ h179 ⟨r178, rfl, s_r178, fr_r178, eh179⟩
                            have E180 := E175.trans eh179
                            have z181 := eh179.size
                            have lt_r178 := s_r178.lt
                            refine s_pure (.tuple #[r178, .bool ((haOut g160.towers g160.tries g161 g163 g165).2)]) (fun _ q => q) ?_
                            refine s_pure r178 (fun _ q => q) ?_
                            refine s_pure (.bool ((haOut g160.towers g160.tries g161 g163 g165).2)) (fun _ q => q) ?_
                            refine s_pure r178 (fun _ q => q) ?_
                            refine s_pure (.bool ((haOut g160.towers g160.tries g161 g163 g165).2)) (fun _ q => q) ?_
                            refine s_nil ?_
                            refine p_seqN ?_
                            refine v_seq ?_
                            refine v_ops ?_
                            have f182 := (bxx174.ext eh179)
                            refine s_load (.agg #[.int .i64 g160.towers, .int .i64 g160.tries]) (fun _ q => f182.loadA rfl q) ?_
                            refine s_pure r162 (fun _ q => q) ?_
                            refine s_pure r164 (fun _ q => q) ?_
                            refine s_pure (.int .i64 g165) (fun _ q => q) ?_
                            have f183 := (f176.ext eh179)
                            have f184 := (f177.ext eh179)
                            refine s_call [.agg #[.int .i64 g160.towers, .int .i64 g160.tries], r162, r164, .int .i64 g165] rfl (w_specHeldAtTower g160 r162 g161 r164 g163 g165 _ f183.toSl f184.toSl) ?_
                            rintro _ h186 ⟨r185, rfl, s_r185, fr_r185, eh186⟩
                            have E187 := E180.trans eh186
                            have z188 := eh186.size
                            have lt_r185 := s_r185.lt
                            refine s_pure (.tuple #[r185, .bool ((haOut g160.towers g160.tries g161 g163 g165).2)]) (fun _ q => q) ?_
                            refine s_pure r185 (fun _ q => q) ?_
                            refine s_pure (.bool ((haOut g160.towers g160.tries g161 g163 g165).2)) (fun _ q => q) ?_
                            refine s_pure r185 (fun _ q => q) ?_
                            refine s_pure (.bool ((haOut g160.towers g160.tries g161 g163 g165).2)) (fun _ q => q) ?_
                            refine s_nil ?_
                            refine p_seqN ?_
                            refine v_seq ?_
                            refine v_ops ?_
                            refine s_pure (.bool ((haOut g160.towers g160.tries g161 g163 g165).2)) (fun _ q => q) ?_
                            refine s_pure (.bool ((haOut g160.towers g160.tries g161 g163 g165).2)) (fun _ q => q) ?_
                            refine s_pure (.bool ((haOut g160.towers g160.tries g161 g163 g165).2 == (haOut g160.towers g160.tries g161 g163 g165).2)) (fun _ q => q) ?_
                            refine s_pure (.bool ((haOut g160.towers g160.tries g161 g163 g165).2 == (haOut g160.towers g160.tries g161 g163 g165).2)) (fun _ q => q) ?_
                            refine s_splitY rfl (by first | assumption | omega | (simp [hP2]; done) | (simp [hPl]; done) | (simp [hG_]; done) | (simp; done) | (simp; omega) | simp_all) ?_
                            refine s_run rfl ?_
                            refine s_pure r178 (fun _ q => q) ?_
                            refine s_run rfl ?_
                            refine s_pure r185 (fun _ q => q) ?_
                            refine s_run rfl ?_
                            have f190 := (s_r178.ext eh186)
                            refine s_call [r178, r185] rfl (laws_sameInts_ok r178 ((haOut g160.towers g160.tries g161 g163 g165).1) r185 ((haOut g160.towers g160.tries g161 g163 g165).1) _ f190.toSl s_r185.toSl) ?_
                            rintro vh189 h189 ⟨hvh189, eh189⟩
                            obtain rfl : vh189 = .bool true := hvh189.trans (by rw [decide_eq_true rfl])
                            have E191 := E187.trans eh189
                            have z192 := eh189.size
                            refine s_pure (.bool true) (fun _ q => q) ?_
                            refine s_pure (.bool true) (fun _ q => q) ?_
                            refine s_nil ?_
                            refine p_seqN ?_
                            refine v_ret ?_
                            refine p_ret [.bool true] (.bool true) (fun _ q => q) rfl ?_
                            have ho : true = true := by first | rfl | (exfalso; first | omega | exact absurd (gl_ok _ _ _ _) (by assumption) | exact absurd (ws_ok _ _ _ _) (by assumption) | exact (by assumption : _ ≠ _) hP2 | (have := hP3 (by assumption); omega) | (have := ha_ok hA hw0 (by assumption); simp_all; done) | (have := pl_plain hA; simp_all; done) | (simp_all; done))
                            exact ⟨by first | (rw [ho]; done) | rfl, E191⟩
                      ·
                        refine v_skip ?_
                        refine p_seqN ?_
                        refine v_seq ?_
                        refine v_ops ?_
                        refine s_pure v_more (fun _ q => q) ?_
                        have f193 := (((((f126.ext eh129).ext eh133).mod mh136 (fun b hb hc => by simp at hc; have := lt_more b hb; omega)).ext eh139).ext eh143)
                        refine s_call [v_more] rfl (spec_DrawHeldAtTower_ok v_more more _ f193 (by first | omega | assumption | (simp; done) | (simp; omega)) (by first | omega | assumption | (simp; done) | (simp; omega))) ?_
                        rintro _ h200 ⟨g194, g195, g197, g199, r196, r198, rfl, s_r196, fr_r196, s_r198, fr_r198, qh200, eh200⟩
                        have E201 := E144.trans eh200
                        have z202 := eh200.size
                        have lt_r196 := s_r196.lt
                        have lt_r198 := s_r198.lt
                        refine s_pure (.tuple #[.agg #[.int .i64 g194.towers, .int .i64 g194.tries], r196, r198, .int .i64 g199]) (fun _ q => q) ?_
                        refine s_pure (.agg #[.int .i64 g194.towers, .int .i64 g194.tries]) (fun _ q => q) ?_
                        refine s_pure r196 (fun _ q => q) ?_
                        refine s_pure r198 (fun _ q => q) ?_
                        refine s_pure (.int .i64 g199) (fun _ q => q) ?_
                        refine s_new (fun h204 b203 hbb203 hzb203 eh204 bxb203 => ?_)
                        have E205 := E201.trans eh204
                        have z206 := eh204.size
                        have lbb203 := bxb203.lt
                        refine s_stBx (.agg #[.int .i64 g194.towers, .int .i64 g194.tries]) [.int .i64 g194.towers, .int .i64 g194.tries] [.int .i64 g194.towers, .int .i64 g194.tries] bxb203 rfl rfl rfl rfl (by simp) (all_cons rfl (all_cons rfl all_nil)) rfl (fun h207 mh207 sh207 bxx208 => ?_)
                        have E209 := E205.mod mh207 (fun b hb => by simp at hb; omega)
                        refine s_pure r196 (fun _ q => q) ?_
                        refine s_pure r198 (fun _ q => q) ?_
                        refine s_pure (.int .i64 g199) (fun _ q => q) ?_
                        refine s_nil ?_
                        refine p_seqN ?_
                        refine v_seq ?_
                        refine v_ops ?_
                        refine s_load (.agg #[.int .i64 g194.towers, .int .i64 g194.tries]) (fun _ q => bxx208.loadA rfl q) ?_
                        refine s_pure r196 (fun _ q => q) ?_
                        refine s_pure r198 (fun _ q => q) ?_
                        refine s_pure (.int .i64 g199) (fun _ q => q) ?_
                        have f210 := ((s_r196.ext eh204).mod mh207 (fun b hb hc => by simp at hc; have := lt_r196 b hb; omega))
                        have f211 := ((s_r198.ext eh204).mod mh207 (fun b hb hc => by simp at hc; have := lt_r198 b hb; omega))
                        refine s_call [.agg #[.int .i64 g194.towers, .int .i64 g194.tries], r196, r198, .int .i64 g199] rfl (w_implHeldAtTower g194 r196 g195 r198 g197 g199 _ f210.toSl f211.toSl) ?_
                        rintro _ h213 ⟨r212, rfl, s_r212, fr_r212, eh213⟩
                        have E214 := E209.trans eh213
                        have z215 := eh213.size
                        have lt_r212 := s_r212.lt
                        refine s_pure (.tuple #[r212, .bool ((haOut g194.towers g194.tries g195 g197 g199).2)]) (fun _ q => q) ?_
                        refine s_pure r212 (fun _ q => q) ?_
                        refine s_pure (.bool ((haOut g194.towers g194.tries g195 g197 g199).2)) (fun _ q => q) ?_
                        refine s_pure r212 (fun _ q => q) ?_
                        refine s_pure (.bool ((haOut g194.towers g194.tries g195 g197 g199).2)) (fun _ q => q) ?_
                        refine s_nil ?_
                        refine p_seqN ?_
                        refine v_seq ?_
                        refine v_ops ?_
                        have f216 := (bxx208.ext eh213)
                        refine s_load (.agg #[.int .i64 g194.towers, .int .i64 g194.tries]) (fun _ q => f216.loadA rfl q) ?_
                        refine s_pure r196 (fun _ q => q) ?_
                        refine s_pure r198 (fun _ q => q) ?_
                        refine s_pure (.int .i64 g199) (fun _ q => q) ?_
                        have f217 := (f210.ext eh213)
                        have f218 := (f211.ext eh213)
                        refine s_call [.agg #[.int .i64 g194.towers, .int .i64 g194.tries], r196, r198, .int .i64 g199] rfl (w_specHeldAtTower g194 r196 g195 r198 g197 g199 _ f217.toSl f218.toSl) ?_
                        rintro _ h220 ⟨r219, rfl, s_r219, fr_r219, eh220⟩
                        have E221 := E214.trans eh220
                        have z222 := eh220.size
                        have lt_r219 := s_r219.lt
                        refine s_pure (.tuple #[r219, .bool ((haOut g194.towers g194.tries g195 g197 g199).2)]) (fun _ q => q) ?_
                        refine s_pure r219 (fun _ q => q) ?_
                        refine s_pure (.bool ((haOut g194.towers g194.tries g195 g197 g199).2)) (fun _ q => q) ?_
                        refine s_pure r219 (fun _ q => q) ?_
                        refine s_pure (.bool ((haOut g194.towers g194.tries g195 g197 g199).2)) (fun _ q => q) ?_
                        refine s_nil ?_
                        refine p_seqN ?_
                        refine v_seq ?_
                        refine v_ops ?_
                        refine s_pure (.bool ((haOut g194.towers g194.tries g195 g197 g199).2)) (fun _ q => q) ?_
                        refine s_pure (.bool ((haOut g194.towers g194.tries g195 g197 g199).2)) (fun _ q => q) ?_
                        refine s_pure (.bool ((haOut g194.towers g194.tries g195 g197 g199).2 == (haOut g194.towers g194.tries g195 g197 g199).2)) (fun _ q => q) ?_
                        refine s_pure (.bool ((haOut g194.towers g194.tries g195 g197 g199).2 == (haOut g194.towers g194.tries g195 g197 g199).2)) (fun _ q => q) ?_
                        refine s_splitY rfl (by first | assumption | omega | (simp [hP2]; done) | (simp [hPl]; done) | (simp; done) | (simp; omega) | simp_all) ?_
                        refine s_run rfl ?_
                        refine s_pure r212 (fun _ q => q) ?_
                        refine s_run rfl ?_
                        refine s_pure r219 (fun _ q => q) ?_
                        refine s_run rfl ?_
                        have f224 := (s_r212.ext eh220)
                        refine s_call [r212, r219] rfl (laws_sameInts_ok r212 ((haOut g194.towers g194.tries g195 g197 g199).1) r219 ((haOut g194.towers g194.tries g195 g197 g199).1) _ f224.toSl s_r219.toSl) ?_
                        rintro vh223 h223 ⟨hvh223, eh223⟩
                        obtain rfl : vh223 = .bool true := hvh223.trans (by rw [decide_eq_true rfl])
                        have E225 := E221.trans eh223
                        have z226 := eh223.size
                        refine s_pure (.bool true) (fun _ q => q) ?_
                        refine s_pure (.bool true) (fun _ q => q) ?_
                        refine s_nil ?_
                        refine p_seqN ?_
                        refine v_ret ?_
                        refine p_ret [.bool true] (.bool true) (fun _ q => q) rfl ?_
                        have ho : true = true := by first | rfl | (exfalso; first | omega | exact absurd (gl_ok _ _ _ _) (by assumption) | exact absurd (ws_ok _ _ _ _) (by assumption) | exact (by assumption : _ ≠ _) hP2 | (have := hP3 (by assumption); omega) | (have := ha_ok hA hw0 (by assumption); simp_all; done) | (have := pl_plain hA; simp_all; done) | (simp_all; done))
                        exact ⟨by first | (rw [ho]; done) | rfl, E225⟩
              ·
                refine s_pass rfl ?_
                refine s_pass rfl ?_
                refine s_pass rfl ?_
                refine s_pass rfl ?_
                refine s_pass rfl ?_
                refine s_pass rfl ?_
                refine s_pass rfl ?_
                refine s_pass rfl ?_
                refine s_pass rfl ?_
                refine s_run rfl ?_
                refine s_pure (.bool false) (fun _ q => q) ?_
                refine s_pure (.bool false) (fun _ q => q) ?_
                refine s_nil ?_
                refine p_seqN ?_
                refine v_condN rfl (by simp) ?_
                refine v_skip ?_
                refine p_seqN ?_
                refine v_seq ?_
                refine v_ops ?_
                refine s_pure r8 (fun _ q => q) ?_
                refine s_pure (.int .i64 (g7.length : Int)) (fun _ q => f54.lenVC q) ?_
                refine s_pure (.int .i64 (g7.length : Int)) (fun _ q => q) ?_
                refine s_nil ?_
                refine p_seqN ?_
                refine v_seq ?_
                refine v_seq ?_
                refine v_ops ?_
                refine s_pure (.int .i64 0) (fun _ q => q) ?_
                refine s_nil ?_
                refine p_seqN ?_
                refine v_block ?_
                have nk228 : b14 ∉ blks r8 := (fun hc => by have := lt_r8 _ hc; omega)
                have nk229 : b14 ∉ blks r10 := (fun hc => by have := lt_r10 _ hc; omega)
                have f230 := ((((f60.ext eh61).ext eh67).ext eh75).ext eh79)
                have f231 := (((((f54.ext eh57).ext eh61).ext eh67).ext eh75).ext eh79)
                have f232 := (((((f55.ext eh57).ext eh61).ext eh67).ext eh75).ext eh79)
                refine v_loop2 (α := Int) (β := Int) (fun w last => [(1, v_more), (5, .pointer (some ⟨b14, 0, none⟩)), (6, r8), (7, r10), (22, .int .i64 last), (23, .int .i64 w)]) (fun w last hh => Ext h hh ∧ Bx hh b14 [.int .i64 g6.towers, .int .i64 g6.tries] 25 ∧ SlO hh r8 g7 ∧ SlO hh r10 g9 ∧ 0 ≤ w ∧ w ≤ g6.towers ∧ ∀ j, w ≤ j → ((haOut g6.towers g6.tries g7 g9 j).1.length : Int) ≤ last) (fun w last => (g6.towers - w).toNat) 0 (g7.length : Int) ⟨rfl, rfl, rfl, rfl, rfl, rfl⟩ ⟨E80, f230, f231, f232, (by exact ⟨by omega, by omega, fun j _ => Int.ofNat_le.2 (ha_le g6.towers g6.tries g7 g9 j)⟩)⟩ ?_
                rintro w last R233 h227 ⟨Eh, bxb14, s_r8, s_r10, ⟨hw0, hw1, hL⟩⟩
                have zEh := Eh.size
                have f234 := s_code.ext Eh
                have f235 := s_more.ext Eh
                have ltk_r8 := s_r8.lt
                have ltk_r10 := s_r10.lt
                have lbb14 := bxb14.lt
                have hLw := hL w (by omega)
                refine v_seq ?_
                refine v_seq ?_
                refine v_ops ?_
                refine s_pure (.int .i64 w) (fun _ q => q) ?_
                refine s_pure (.pointer (some ⟨b14, 0, none⟩)) (fun _ q => q) ?_
                refine s_load (.int .i64 g6.towers) (fun _ q => bxb14.load rfl q) ?_
                refine s_pure (.bool (decide (w < g6.towers))) (fun _ q => q) ?_
                refine s_nil ?_
                refine p_seqN ?_
                refine v_cond rfl (fun c236 => ?_) (fun c236 => ?_)
                ·
                  have hOw := ha_ok hA hw0 (by assumption)
                  refine v_skip ?_
                  refine p_seqN ?_
                  refine v_seq ?_
                  refine v_block ?_
                  refine v_seq ?_
                  refine v_ops ?_
                  refine s_load (.agg #[.int .i64 g6.towers, .int .i64 g6.tries]) (fun _ q => bxb14.loadA rfl q) ?_
                  refine s_pure r8 (fun _ q => q) ?_
                  refine s_pure r10 (fun _ q => q) ?_
                  refine s_pure (.int .i64 w) (fun _ q => q) ?_
                  refine s_call [.agg #[.int .i64 g6.towers, .int .i64 g6.tries], r8, r10, .int .i64 w] rfl (w_implHeldAtTower g6 r8 g7 r10 g9 w _ s_r8.toSl s_r10.toSl) ?_
                  rintro _ h238 ⟨r237, rfl, s_r237, fr_r237, eh238⟩
                  have E239 := Eh.trans eh238
                  have z240 := eh238.size
                  have lt_r237 := s_r237.lt
                  refine s_pure (.tuple #[r237, .bool ((haOut g6.towers g6.tries g7 g9 w).2)]) (fun _ q => q) ?_
                  refine s_pure r237 (fun _ q => q) ?_
                  refine s_pure (.bool ((haOut g6.towers g6.tries g7 g9 w).2)) (fun _ q => q) ?_
                  refine s_pure r237 (fun _ q => q) ?_
                  refine s_pure (.bool ((haOut g6.towers g6.tries g7 g9 w).2)) (fun _ q => q) ?_
                  refine s_nil ?_
                  refine p_seqN ?_
                  refine v_seq ?_
                  refine v_ops ?_
                  have f241 := (bxb14.ext eh238)
                  refine s_load (.agg #[.int .i64 g6.towers, .int .i64 g6.tries]) (fun _ q => f241.loadA rfl q) ?_
                  refine s_pure r8 (fun _ q => q) ?_
                  refine s_pure r10 (fun _ q => q) ?_
                  refine s_pure (.int .i64 w) (fun _ q => q) ?_
                  have f242 := (s_r8.ext eh238)
                  have f243 := (s_r10.ext eh238)
                  refine s_call [.agg #[.int .i64 g6.towers, .int .i64 g6.tries], r8, r10, .int .i64 w] rfl (w_specHeldAtTower g6 r8 g7 r10 g9 w _ f242.toSl f243.toSl) ?_
                  rintro _ h245 ⟨r244, rfl, s_r244, fr_r244, eh245⟩
                  have E246 := E239.trans eh245
                  have z247 := eh245.size
                  have lt_r244 := s_r244.lt
                  refine s_pure (.tuple #[r244, .bool ((haOut g6.towers g6.tries g7 g9 w).2)]) (fun _ q => q) ?_
                  refine s_pure r244 (fun _ q => q) ?_
                  refine s_pure (.bool ((haOut g6.towers g6.tries g7 g9 w).2)) (fun _ q => q) ?_
                  refine s_pure r244 (fun _ q => q) ?_
                  refine s_pure (.bool ((haOut g6.towers g6.tries g7 g9 w).2)) (fun _ q => q) ?_
                  refine s_nil ?_
                  refine p_seqN ?_
                  refine v_seq ?_
                  refine v_seq ?_
                  refine v_ops ?_
                  refine s_pure (.bool ((haOut g6.towers g6.tries g7 g9 w).2)) (fun _ q => q) ?_
                  refine s_pure (.bool (!(haOut g6.towers g6.tries g7 g9 w).2)) (fun _ q => q) ?_
                  refine s_pure (.bool (!(haOut g6.towers g6.tries g7 g9 w).2)) (fun _ q => q) ?_
                  refine s_splitN rfl (by first | assumption | omega | (simp [hP2]; done) | (simp [hPl]; done) | (simp [hOw]; done) | (simp; done) | (simp; omega) | simp_all) ?_
                  refine s_run rfl ?_
                  refine s_pure (.bool ((haOut g6.towers g6.tries g7 g9 w).2)) (fun _ q => q) ?_
                  refine s_run rfl ?_
                  refine s_pure (.bool (!(haOut g6.towers g6.tries g7 g9 w).2)) (fun _ q => q) ?_
                  refine s_pure (.bool (!(haOut g6.towers g6.tries g7 g9 w).2)) (fun _ q => q) ?_
                  refine s_pure (.bool (!(haOut g6.towers g6.tries g7 g9 w).2)) (fun _ q => q) ?_
                  refine s_splitN rfl (by first | assumption | omega | (simp [hP2]; done) | (simp [hPl]; done) | (simp [hOw]; done) | (simp; done) | (simp; omega) | simp_all) ?_
                  refine s_run rfl ?_
                  refine s_pure r237 (fun _ q => q) ?_
                  refine s_run rfl ?_
                  refine s_pure r244 (fun _ q => q) ?_
                  refine s_run rfl ?_
                  have f249 := (s_r237.ext eh245)
                  refine s_call [r237, r244] rfl (laws_sameInts_ok r237 ((haOut g6.towers g6.tries g7 g9 w).1) r244 ((haOut g6.towers g6.tries g7 g9 w).1) _ f249.toSl s_r244.toSl) ?_
                  rintro vh248 h248 ⟨hvh248, eh248⟩
                  obtain rfl : vh248 = .bool true := hvh248.trans (by rw [decide_eq_true rfl])
                  have E250 := E246.trans eh248
                  have z251 := eh248.size
                  refine s_run rfl ?_
                  refine s_pure (.bool false) (fun _ q => q) ?_
                  refine s_pure (.bool false) (fun _ q => q) ?_
                  refine s_pure (.bool false) (fun _ q => q) ?_
                  refine s_splitN rfl (by simp) ?_
                  refine s_run rfl ?_
                  refine s_pure r244 (fun _ q => q) ?_
                  refine s_run rfl ?_
                  refine s_pure (.int .i64 (((haOut g6.towers g6.tries g7 g9 w).1).length : Int)) (fun _ q => s_r244.lenVC q) ?_
                  refine s_run rfl ?_
                  refine s_pure (.int .i64 last) (fun _ q => q) ?_
                  refine s_run rfl ?_
                  refine s_pure (.bool (decide ((((haOut g6.towers g6.tries g7 g9 w).1).length : Int) > last))) (fun _ q => q) ?_
                  refine s_pure (.bool (decide ((((haOut g6.towers g6.tries g7 g9 w).1).length : Int) > last))) (fun _ q => q) ?_
                  refine s_nil ?_
                  refine p_seqN ?_
                  refine v_cond rfl (fun c252 => ?_) (fun c252 => ?_)
                  ·
                    refine v_seq ?_
                    refine v_ops ?_
                    refine s_pure (.bool false) (fun _ q => q) ?_
                    refine s_nil ?_
                    refine p_seqN ?_
                    refine v_ret ?_
                    refine p_seqR ?_
                    refine p_blkR ?_
                    refine p_seqR ?_
                    refine p_lpR ?_
                    refine p_blkR ?_
                    refine p_seqR ?_
                    refine p_seqR ?_
                    refine p_ret [.bool false] (.bool false) (fun _ q => q) rfl ?_
                    have ho : true = false := by first | rfl | (exfalso; first | omega | exact absurd (gl_ok _ _ _ _) (by assumption) | exact absurd (ws_ok _ _ _ _) (by assumption) | exact (by assumption : _ ≠ _) hP2 | (have := hP3 (by assumption); omega) | (have := ha_ok hA hw0 (by assumption); simp_all; done) | (have := pl_plain hA; simp_all; done) | (simp_all; done))
                    exact ⟨by first | (rw [ho]; done) | rfl, E250⟩
                  ·
                    refine v_skip ?_
                    refine p_seqN ?_
                    refine v_ops ?_
                    refine s_pure r244 (fun _ q => q) ?_
                    refine s_pure (.int .i64 (((haOut g6.towers g6.tries g7 g9 w).1).length : Int)) (fun _ q => s_r244.lenVC q) ?_
                    refine s_pure (.int .i64 (((haOut g6.towers g6.tries g7 g9 w).1).length : Int)) (fun _ q => q) ?_
                    refine s_nil ?_
                    refine p_blkN ?_
                    refine p_seqN ?_
                    refine v_ops ?_
                    refine s_pure (.int .i64 w) (fun _ q => q) ?_
                    refine s_pure (.int .i64 (w + 1)) (fun _ q => ArithVC.mk (by omega) q) ?_
                    refine s_pure (.int .i64 (w + 1)) (fun _ q => q) ?_
                    refine s_nil ?_
                    have f253 := ((f241.ext eh245).ext eh248)
                    have f254 := ((f242.ext eh245).ext eh248)
                    have f255 := ((f243.ext eh245).ext eh248)
                    exact p_lpN ⟨(w + 1), (((haOut g6.towers g6.tries g7 g9 w).1).length : Int), ⟨rfl, rfl, rfl, rfl, rfl, rfl⟩, ⟨E250, f253, f254, f255, (by exact ⟨by omega, by omega, fun j hj => Int.ofNat_le.2 (ha_mono hA hw0 (by omega) (by omega))⟩)⟩, by omega⟩
                ·
                  refine v_exit ?_
                  refine p_seqX ?_
                  refine p_lpX ?_
                  refine p_blkX ?_
                  refine p_seqN ?_
                  refine v_seq ?_
                  refine v_ops ?_
                  refine s_load (.agg #[.int .i64 g6.towers, .int .i64 g6.tries]) (fun _ q => bxb14.loadA rfl q) ?_
                  refine s_pure r8 (fun _ q => q) ?_
                  refine s_call [.agg #[.int .i64 g6.towers, .int .i64 g6.tries], r8, .slice none 0 0] rfl (w_implPassLine g6 r8 g7 (.slice none 0 0) [] _ s_r8.toSl (SlX.nil (α := Int) false _)) ?_
                  rintro _ h257 ⟨r256, rfl, s_r256, fr_r256, eh257⟩
                  have E258 := Eh.trans eh257
                  have z259 := eh257.size
                  have lt_r256 := s_r256.lt
                  refine s_pure (.tuple #[r256, .bool ((plOut g6.towers g6.tries g7 []).2.1), .bool ((plOut g6.towers g6.tries g7 []).2.2)]) (fun _ q => q) ?_
                  refine s_pure r256 (fun _ q => q) ?_
                  refine s_pure (.bool ((plOut g6.towers g6.tries g7 []).2.1)) (fun _ q => q) ?_
                  refine s_pure (.bool ((plOut g6.towers g6.tries g7 []).2.2)) (fun _ q => q) ?_
                  refine s_pure r256 (fun _ q => q) ?_
                  refine s_pure (.bool ((plOut g6.towers g6.tries g7 []).2.1)) (fun _ q => q) ?_
                  refine s_pure (.bool ((plOut g6.towers g6.tries g7 []).2.2)) (fun _ q => q) ?_
                  refine s_nil ?_
                  refine p_seqN ?_
                  refine v_seq ?_
                  refine v_ops ?_
                  refine s_pure (.bool ((plOut g6.towers g6.tries g7 []).2.2)) (fun _ q => q) ?_
                  refine s_pure (.bool (!(plOut g6.towers g6.tries g7 []).2.2)) (fun _ q => q) ?_
                  refine s_pure (.bool (!(plOut g6.towers g6.tries g7 []).2.2)) (fun _ q => q) ?_
                  refine s_splitN rfl (by first | assumption | omega | (simp [hP2]; done) | (simp [hPl]; done) | (simp; done) | (simp; omega) | simp_all) ?_
                  refine s_run rfl ?_
                  refine s_pure (.bool ((plOut g6.towers g6.tries g7 []).2.1)) (fun _ q => q) ?_
                  refine s_run rfl ?_
                  refine s_pure (.bool (!(plOut g6.towers g6.tries g7 []).2.1)) (fun _ q => q) ?_
                  refine s_pure (.bool (!(plOut g6.towers g6.tries g7 []).2.1)) (fun _ q => q) ?_
                  refine s_pure (.bool (!(plOut g6.towers g6.tries g7 []).2.1)) (fun _ q => q) ?_
                  refine s_splitN rfl (by first | assumption | omega | (simp [hP2]; done) | (simp [hPl]; done) | (simp; done) | (simp; omega) | simp_all) ?_
                  refine s_run rfl ?_
                  refine s_pure r256 (fun _ q => q) ?_
                  refine s_run rfl ?_
                  refine s_pure r8 (fun _ q => q) ?_
                  refine s_run rfl ?_
                  have f261 := (s_r8.ext eh257)
                  refine s_call [r256, r8] rfl (laws_sameInts_ok r256 ((plOut g6.towers g6.tries g7 []).1) r8 g7 _ s_r256.toSl f261.toSl) ?_
                  rintro _ h260 ⟨rfl, eh260⟩
                  have E262 := E258.trans eh260
                  have z263 := eh260.size
                  refine s_run rfl ?_
                  refine s_pure (.bool (!(decide (((plOut g6.towers g6.tries g7 []).1) = g7)))) (fun _ q => q) ?_
                  refine s_pure (.bool (!(decide (((plOut g6.towers g6.tries g7 []).1) = g7)))) (fun _ q => q) ?_
                  refine s_nil ?_
                  refine p_seqN ?_
                  refine v_cond rfl (fun c264 => ?_) (fun c264 => ?_)
                  ·
                    refine v_seq ?_
                    refine v_ops ?_
                    refine s_pure (.bool false) (fun _ q => q) ?_
                    refine s_nil ?_
                    refine p_seqN ?_
                    refine v_ret ?_
                    refine p_seqR ?_
                    refine p_ret [.bool false] (.bool false) (fun _ q => q) rfl ?_
                    have ho : true = false := by first | rfl | (exfalso; first | omega | exact absurd (gl_ok _ _ _ _) (by assumption) | exact absurd (ws_ok _ _ _ _) (by assumption) | exact (by assumption : _ ≠ _) hP2 | (have := hP3 (by assumption); omega) | (have := ha_ok hA hw0 (by assumption); simp_all; done) | (have := pl_plain hA; simp_all; done) | (simp_all; done))
                    exact ⟨by first | (rw [ho]; done) | rfl, E262⟩
                  ·
                    have c264 := Classical.not_not.1 c264
                    refine v_skip ?_
                    refine p_seqN ?_
                    refine v_seq ?_
                    refine v_ops ?_
                    refine s_pure v_more (fun _ q => q) ?_
                    have f265 := ((f235.ext eh257).ext eh260)
                    refine s_call [v_more] rfl (spec_DrawPlainCount_ok v_more more _ f265 (by first | omega | assumption | (simp; done) | (simp; omega)) (by first | omega | assumption | (simp; done) | (simp; omega))) ?_
                    rintro _ h268 ⟨g266, g267, rfl, qh268, eh268⟩
                    have E269 := E262.trans eh268
                    have z270 := eh268.size
                    refine s_pure (.tuple #[.agg #[.int .i64 g266.towers, .int .i64 g266.tries], .int .i64 g267]) (fun _ q => q) ?_
                    refine s_pure (.agg #[.int .i64 g266.towers, .int .i64 g266.tries]) (fun _ q => q) ?_
                    refine s_pure (.int .i64 g267) (fun _ q => q) ?_
                    refine s_new (fun h272 b271 hbb271 hzb271 eh272 bxb271 => ?_)
                    have E273 := E269.trans eh272
                    have z274 := eh272.size
                    have lbb271 := bxb271.lt
                    refine s_stBx (.agg #[.int .i64 g266.towers, .int .i64 g266.tries]) [.int .i64 g266.towers, .int .i64 g266.tries] [.int .i64 g266.towers, .int .i64 g266.tries] bxb271 rfl rfl rfl rfl (by simp) (all_cons rfl (all_cons rfl all_nil)) rfl (fun h275 mh275 sh275 bxx276 => ?_)
                    have E277 := E273.mod mh275 (fun b hb => by simp at hb; omega)
                    refine s_pure (.int .i64 g267) (fun _ q => q) ?_
                    refine s_nil ?_
                    refine p_seqN ?_
                    refine v_seq ?_
                    refine v_ops ?_
                    refine s_load (.agg #[.int .i64 g266.towers, .int .i64 g266.tries]) (fun _ q => bxx276.loadA rfl q) ?_
                    refine s_pure (.int .i64 g267) (fun _ q => q) ?_
                    refine s_call [.agg #[.int .i64 g266.towers, .int .i64 g266.tries], .int .i64 g267] rfl (w_implPlainCount g266 g267 _ ) ?_
                    rintro _ h278 ⟨rfl, eh278⟩
                    have E279 := E277.trans eh278
                    have z280 := eh278.size
                    refine s_pure (.tuple #[.int .i64 ((plainOut g266.towers g266.tries g267).1), .bool ((plainOut g266.towers g266.tries g267).2)]) (fun _ q => q) ?_
                    refine s_pure (.int .i64 ((plainOut g266.towers g266.tries g267).1)) (fun _ q => q) ?_
                    refine s_pure (.bool ((plainOut g266.towers g266.tries g267).2)) (fun _ q => q) ?_
                    refine s_pure (.int .i64 ((plainOut g266.towers g266.tries g267).1)) (fun _ q => q) ?_
                    refine s_pure (.bool ((plainOut g266.towers g266.tries g267).2)) (fun _ q => q) ?_
                    refine s_nil ?_
                    refine p_seqN ?_
                    refine v_seq ?_
                    refine v_ops ?_
                    have f281 := (bxx276.ext eh278)
                    refine s_load (.agg #[.int .i64 g266.towers, .int .i64 g266.tries]) (fun _ q => f281.loadA rfl q) ?_
                    refine s_pure (.int .i64 g267) (fun _ q => q) ?_
                    refine s_call [.agg #[.int .i64 g266.towers, .int .i64 g266.tries], .int .i64 g267] rfl (w_specPlainCount g266 g267 _ ) ?_
                    rintro _ h282 ⟨rfl, eh282⟩
                    have E283 := E279.trans eh282
                    have z284 := eh282.size
                    refine s_pure (.tuple #[.int .i64 ((plainOut g266.towers g266.tries g267).1), .bool ((plainOut g266.towers g266.tries g267).2)]) (fun _ q => q) ?_
                    refine s_pure (.int .i64 ((plainOut g266.towers g266.tries g267).1)) (fun _ q => q) ?_
                    refine s_pure (.bool ((plainOut g266.towers g266.tries g267).2)) (fun _ q => q) ?_
                    refine s_pure (.int .i64 ((plainOut g266.towers g266.tries g267).1)) (fun _ q => q) ?_
                    refine s_pure (.bool ((plainOut g266.towers g266.tries g267).2)) (fun _ q => q) ?_
                    refine s_nil ?_
                    refine p_seqN ?_
                    refine v_seq ?_
                    refine v_seq ?_
                    refine v_ops ?_
                    refine s_pure (.bool ((plainOut g266.towers g266.tries g267).2)) (fun _ q => q) ?_
                    refine s_pure (.bool ((plainOut g266.towers g266.tries g267).2)) (fun _ q => q) ?_
                    refine s_pure (.bool ((plainOut g266.towers g266.tries g267).2 != (plainOut g266.towers g266.tries g267).2)) (fun _ q => q) ?_
                    refine s_pure (.bool ((plainOut g266.towers g266.tries g267).2 != (plainOut g266.towers g266.tries g267).2)) (fun _ q => q) ?_
                    refine s_splitN rfl (by first | assumption | omega | (simp [hP2]; done) | (simp [hPl]; done) | (simp; done) | (simp; omega) | simp_all) ?_
                    refine s_run rfl ?_
                    refine s_pure (.int .i64 ((plainOut g266.towers g266.tries g267).1)) (fun _ q => q) ?_
                    refine s_run rfl ?_
                    refine s_pure (.int .i64 ((plainOut g266.towers g266.tries g267).1)) (fun _ q => q) ?_
                    refine s_run rfl ?_
                    refine s_pure (.bool ((plainOut g266.towers g266.tries g267).1 != (plainOut g266.towers g266.tries g267).1)) (fun _ q => q) ?_
                    refine s_pure (.bool ((plainOut g266.towers g266.tries g267).1 != (plainOut g266.towers g266.tries g267).1)) (fun _ q => q) ?_
                    refine s_nil ?_
                    refine p_seqN ?_
                    refine v_condN rfl (by first | assumption | omega | (simp [hP2]; done) | (simp [hPl]; done) | (simp; done) | (simp; omega) | simp_all) ?_
                    refine v_skip ?_
                    refine p_seqN ?_
                    refine v_seq ?_
                    refine v_seq ?_
                    refine v_ops ?_
                    refine s_pure (.bool ((plainOut g266.towers g266.tries g267).2)) (fun _ q => q) ?_
                    refine s_nil ?_
                    refine p_seqN ?_
                    refine v_cond rfl (fun c285 => ?_) (fun c285 => ?_)
                    ·
                      obtain ⟨hn_, hG_⟩ := gl_plain c285
                      refine v_seq ?_
                      have f286 := (f281.ext eh282)
                      refine v_draw (DrawVC.hold ([b271]) ?_)
                      refine d_pureT (.int .i64 g267) (fun _ q => q) ?_
                      refine d_loadT (.agg #[.int .i64 g266.towers, .int .i64 g266.tries]) (fun _ q => f286.takeA (by simp) rfl q) ?_
                      refine d_eff ?_
                      refine s_mk (α := Int) ((g267).toNat) 0 rfl rfl (by omega) (by omega) rfl rfl (by first | (simp [maxLen]; done) | (simp [maxLen]; omega)) (by omega) (fun r287 h288 eh288 zh288 s_r287 fr_r287 => ?_)
                      have E289 := E283.trans eh288
                      have z290 := eh288.size
                      have G291 := eh288
                      have lt_r287 := s_r287.lt
                      refine s_nil ⟨fun _ x hx => G291.blk x (by simp at hx; omega), ?_⟩
                      refine d_eff ?_
                      refine s_call [.agg #[.int .i64 g266.towers, .int .i64 g266.tries], r287, .slice none 0 0] rfl (w_implLineGlances g266 r287 (List.replicate ((g267).toNat) 0) (.slice none 0 0) [] _ s_r287.toSl (SlX.nil (α := Int) false _)) ?_
                      rintro _ h292 ⟨rfl, eh292⟩
                      have E293 := E289.trans eh292
                      have z294 := eh292.size
                      have G295 := G291.trans eh292
                      refine s_nil ⟨fun hl => (by cases hl), ?_⟩
                      refine d_pureT (.tuple #[.int .i64 ((glOut g266.towers g266.tries (List.replicate ((g267).toNat) 0) []).1), .bool ((glOut g266.towers g266.tries (List.replicate ((g267).toNat) 0) []).2)]) (fun _ q => q) ?_
                      refine d_pureT (.int .i64 ((glOut g266.towers g266.tries (List.replicate ((g267).toNat) 0) []).1)) (fun _ q => q) ?_
                      refine d_pureT (.bool ((glOut g266.towers g266.tries (List.replicate ((g267).toNat) 0) []).2)) (fun _ q => q) ?_
                      refine d_pureT (.int .i64 ((glOut g266.towers g266.tries (List.replicate ((g267).toNat) 0) []).1)) (fun _ q => q) ?_
                      refine d_pureT (.bool ((glOut g266.towers g266.tries (List.replicate ((g267).toNat) 0) []).2)) (fun _ q => q) ?_
                      refine d_done ?_
                      refine p_seqN ?_
                      refine v_seq ?_
                      refine v_ops ?_
                      refine s_pure (.bool ((glOut g266.towers g266.tries (List.replicate ((g267).toNat) 0) []).2)) (fun _ q => q) ?_
                      refine s_pure (.bool (!(glOut g266.towers g266.tries (List.replicate ((g267).toNat) 0) []).2)) (fun _ q => q) ?_
                      refine s_pure (.bool (!(glOut g266.towers g266.tries (List.replicate ((g267).toNat) 0) []).2)) (fun _ q => q) ?_
                      refine s_splitT rfl (fun c296 => ?_) (fun c296 => ?_)
                      ·
                        refine s_pass rfl ?_
                        refine s_pass rfl ?_
                        refine s_pass rfl ?_
                        refine s_pure (.bool true) (fun _ q => q) ?_
                        refine s_nil ?_
                        refine p_seqN ?_
                        refine v_condY rfl rfl ?_
                        refine v_seq ?_
                        refine v_ops ?_
                        refine s_pure (.bool false) (fun _ q => q) ?_
                        refine s_nil ?_
                        refine p_seqN ?_
                        refine v_ret ?_
                        refine p_seqR ?_
                        refine p_ret [.bool false] (.bool false) (fun _ q => q) rfl ?_
                        have ho : true = false := by first | rfl | (exfalso; first | omega | exact absurd (gl_ok _ _ _ _) (by assumption) | exact absurd (ws_ok _ _ _ _) (by assumption) | exact (by assumption : _ ≠ _) hP2 | (have := hP3 (by assumption); omega) | (have := ha_ok hA hw0 (by assumption); simp_all; done) | (have := pl_plain hA; simp_all; done) | (simp_all; done))
                        exact ⟨by first | (rw [ho]; done) | rfl, E293⟩
                      ·
                        have c296 := Classical.not_not.1 c296
                        refine s_run rfl ?_
                        refine s_pure (.int .i64 ((glOut g266.towers g266.tries (List.replicate ((g267).toNat) 0) []).1)) (fun _ q => q) ?_
                        refine s_run rfl ?_
                        refine s_pure (.int .i64 ((plainOut g266.towers g266.tries g267).1)) (fun _ q => q) ?_
                        refine s_run rfl ?_
                        refine s_pure (.bool ((glOut g266.towers g266.tries (List.replicate ((g267).toNat) 0) []).1 != (plainOut g266.towers g266.tries g267).1)) (fun _ q => q) ?_
                        refine s_pure (.bool ((glOut g266.towers g266.tries (List.replicate ((g267).toNat) 0) []).1 != (plainOut g266.towers g266.tries g267).1)) (fun _ q => q) ?_
                        refine s_nil ?_
                        refine p_seqN ?_
                        refine v_cond rfl (fun c297 => ?_) (fun c297 => ?_)
                        ·
                          refine v_seq ?_
                          refine v_ops ?_
                          refine s_pure (.bool false) (fun _ q => q) ?_
                          refine s_nil ?_
                          refine p_seqN ?_
                          refine v_ret ?_
                          refine p_seqR ?_
                          refine p_ret [.bool false] (.bool false) (fun _ q => q) rfl ?_
                          have ho : true = false := by first | rfl | (exfalso; first | omega | exact absurd (gl_ok _ _ _ _) (by assumption) | exact absurd (ws_ok _ _ _ _) (by assumption) | exact (by assumption : _ ≠ _) hP2 | (have := hP3 (by assumption); omega) | (have := ha_ok hA hw0 (by assumption); simp_all; done) | (have := pl_plain hA; simp_all; done) | (simp_all; done))
                          exact ⟨by first | (rw [ho]; done) | rfl, E293⟩
                        ·
                          have c297 := Classical.not_not.1 c297
                          refine v_skip ?_
                          refine p_seqN ?_
                          refine v_seq ?_
                          refine v_ops ?_
                          refine s_pure v_more (fun _ q => q) ?_
                          have f298 := (((((((f265.ext eh268).ext eh272).mod mh275 (fun b hb hc => by simp at hc; have := lt_more b hb; omega)).ext eh278).ext eh282).ext eh288).ext eh292)
                          refine s_call [v_more] rfl (spec_DrawHeldAtTower_ok v_more more _ f298 (by first | omega | assumption | (simp; done) | (simp; omega)) (by first | omega | assumption | (simp; done) | (simp; omega))) ?_
                          rintro _ h305 ⟨g299, g300, g302, g304, r301, r303, rfl, s_r301, fr_r301, s_r303, fr_r303, qh305, eh305⟩
                          have E306 := E293.trans eh305
                          have z307 := eh305.size
                          have lt_r301 := s_r301.lt
                          have lt_r303 := s_r303.lt
                          refine s_pure (.tuple #[.agg #[.int .i64 g299.towers, .int .i64 g299.tries], r301, r303, .int .i64 g304]) (fun _ q => q) ?_
                          refine s_pure (.agg #[.int .i64 g299.towers, .int .i64 g299.tries]) (fun _ q => q) ?_
                          refine s_pure r301 (fun _ q => q) ?_
                          refine s_pure r303 (fun _ q => q) ?_
                          refine s_pure (.int .i64 g304) (fun _ q => q) ?_
                          refine s_new (fun h309 b308 hbb308 hzb308 eh309 bxb308 => ?_)
                          have E310 := E306.trans eh309
                          have z311 := eh309.size
                          have lbb308 := bxb308.lt
                          refine s_stBx (.agg #[.int .i64 g299.towers, .int .i64 g299.tries]) [.int .i64 g299.towers, .int .i64 g299.tries] [.int .i64 g299.towers, .int .i64 g299.tries] bxb308 rfl rfl rfl rfl (by simp) (all_cons rfl (all_cons rfl all_nil)) rfl (fun h312 mh312 sh312 bxx313 => ?_)
                          have E314 := E310.mod mh312 (fun b hb => by simp at hb; omega)
                          refine s_pure r301 (fun _ q => q) ?_
                          refine s_pure r303 (fun _ q => q) ?_
                          refine s_pure (.int .i64 g304) (fun _ q => q) ?_
                          refine s_nil ?_
                          refine p_seqN ?_
                          refine v_seq ?_
                          refine v_ops ?_
                          refine s_load (.agg #[.int .i64 g299.towers, .int .i64 g299.tries]) (fun _ q => bxx313.loadA rfl q) ?_
                          refine s_pure r301 (fun _ q => q) ?_
                          refine s_pure r303 (fun _ q => q) ?_
                          refine s_pure (.int .i64 g304) (fun _ q => q) ?_
                          have f315 := ((s_r301.ext eh309).mod mh312 (fun b hb hc => by simp at hc; have := lt_r301 b hb; omega))
                          have f316 := ((s_r303.ext eh309).mod mh312 (fun b hb hc => by simp at hc; have := lt_r303 b hb; omega))
                          refine s_call [.agg #[.int .i64 g299.towers, .int .i64 g299.tries], r301, r303, .int .i64 g304] rfl (w_implHeldAtTower g299 r301 g300 r303 g302 g304 _ f315.toSl f316.toSl) ?_
                          rintro _ h318 ⟨r317, rfl, s_r317, fr_r317, eh318⟩
                          have E319 := E314.trans eh318
                          have z320 := eh318.size
                          have lt_r317 := s_r317.lt
                          refine s_pure (.tuple #[r317, .bool ((haOut g299.towers g299.tries g300 g302 g304).2)]) (fun _ q => q) ?_
                          refine s_pure r317 (fun _ q => q) ?_
                          refine s_pure (.bool ((haOut g299.towers g299.tries g300 g302 g304).2)) (fun _ q => q) ?_
                          refine s_pure r317 (fun _ q => q) ?_
                          refine s_pure (.bool ((haOut g299.towers g299.tries g300 g302 g304).2)) (fun _ q => q) ?_
                          refine s_nil ?_
                          refine p_seqN ?_
                          refine v_seq ?_
                          refine v_ops ?_
                          have f321 := (bxx313.ext eh318)
                          refine s_load (.agg #[.int .i64 g299.towers, .int .i64 g299.tries]) (fun _ q => f321.loadA rfl q) ?_
                          refine s_pure r301 (fun _ q => q) ?_
                          refine s_pure r303 (fun _ q => q) ?_
                          refine s_pure (.int .i64 g304) (fun _ q => q) ?_
                          have f322 := (f315.ext eh318)
                          have f323 := (f316.ext eh318)
                          refine s_call [.agg #[.int .i64 g299.towers, .int .i64 g299.tries], r301, r303, .int .i64 g304] rfl (w_specHeldAtTower g299 r301 g300 r303 g302 g304 _ f322.toSl f323.toSl) ?_
                          rintro _ h325 ⟨r324, rfl, s_r324, fr_r324, eh325⟩
                          have E326 := E319.trans eh325
                          have z327 := eh325.size
                          have lt_r324 := s_r324.lt
                          refine s_pure (.tuple #[r324, .bool ((haOut g299.towers g299.tries g300 g302 g304).2)]) (fun _ q => q) ?_
                          refine s_pure r324 (fun _ q => q) ?_
                          refine s_pure (.bool ((haOut g299.towers g299.tries g300 g302 g304).2)) (fun _ q => q) ?_
                          refine s_pure r324 (fun _ q => q) ?_
                          refine s_pure (.bool ((haOut g299.towers g299.tries g300 g302 g304).2)) (fun _ q => q) ?_
                          refine s_nil ?_
                          refine p_seqN ?_
                          refine v_seq ?_
                          refine v_ops ?_
                          refine s_pure (.bool ((haOut g299.towers g299.tries g300 g302 g304).2)) (fun _ q => q) ?_
                          refine s_pure (.bool ((haOut g299.towers g299.tries g300 g302 g304).2)) (fun _ q => q) ?_
                          refine s_pure (.bool ((haOut g299.towers g299.tries g300 g302 g304).2 == (haOut g299.towers g299.tries g300 g302 g304).2)) (fun _ q => q) ?_
                          refine s_pure (.bool ((haOut g299.towers g299.tries g300 g302 g304).2 == (haOut g299.towers g299.tries g300 g302 g304).2)) (fun _ q => q) ?_
                          refine s_splitY rfl (by first | assumption | omega | (simp [hP2]; done) | (simp [hPl]; done) | (simp [hG_]; done) | (simp; done) | (simp; omega) | simp_all) ?_
                          refine s_run rfl ?_
                          refine s_pure r317 (fun _ q => q) ?_
                          refine s_run rfl ?_
                          refine s_pure r324 (fun _ q => q) ?_
                          refine s_run rfl ?_
                          have f329 := (s_r317.ext eh325)
                          refine s_call [r317, r324] rfl (laws_sameInts_ok r317 ((haOut g299.towers g299.tries g300 g302 g304).1) r324 ((haOut g299.towers g299.tries g300 g302 g304).1) _ f329.toSl s_r324.toSl) ?_
                          rintro vh328 h328 ⟨hvh328, eh328⟩
                          obtain rfl : vh328 = .bool true := hvh328.trans (by rw [decide_eq_true rfl])
                          have E330 := E326.trans eh328
                          have z331 := eh328.size
                          refine s_pure (.bool true) (fun _ q => q) ?_
                          refine s_pure (.bool true) (fun _ q => q) ?_
                          refine s_nil ?_
                          refine p_seqN ?_
                          refine v_ret ?_
                          refine p_ret [.bool true] (.bool true) (fun _ q => q) rfl ?_
                          have ho : true = true := by first | rfl | (exfalso; first | omega | exact absurd (gl_ok _ _ _ _) (by assumption) | exact absurd (ws_ok _ _ _ _) (by assumption) | exact (by assumption : _ ≠ _) hP2 | (have := hP3 (by assumption); omega) | (have := ha_ok hA hw0 (by assumption); simp_all; done) | (have := pl_plain hA; simp_all; done) | (simp_all; done))
                          exact ⟨by first | (rw [ho]; done) | rfl, E330⟩
                    ·
                      refine v_skip ?_
                      refine p_seqN ?_
                      refine v_seq ?_
                      refine v_ops ?_
                      refine s_pure v_more (fun _ q => q) ?_
                      have f332 := (((((f265.ext eh268).ext eh272).mod mh275 (fun b hb hc => by simp at hc; have := lt_more b hb; omega)).ext eh278).ext eh282)
                      refine s_call [v_more] rfl (spec_DrawHeldAtTower_ok v_more more _ f332 (by first | omega | assumption | (simp; done) | (simp; omega)) (by first | omega | assumption | (simp; done) | (simp; omega))) ?_
                      rintro _ h339 ⟨g333, g334, g336, g338, r335, r337, rfl, s_r335, fr_r335, s_r337, fr_r337, qh339, eh339⟩
                      have E340 := E283.trans eh339
                      have z341 := eh339.size
                      have lt_r335 := s_r335.lt
                      have lt_r337 := s_r337.lt
                      refine s_pure (.tuple #[.agg #[.int .i64 g333.towers, .int .i64 g333.tries], r335, r337, .int .i64 g338]) (fun _ q => q) ?_
                      refine s_pure (.agg #[.int .i64 g333.towers, .int .i64 g333.tries]) (fun _ q => q) ?_
                      refine s_pure r335 (fun _ q => q) ?_
                      refine s_pure r337 (fun _ q => q) ?_
                      refine s_pure (.int .i64 g338) (fun _ q => q) ?_
                      refine s_new (fun h343 b342 hbb342 hzb342 eh343 bxb342 => ?_)
                      have E344 := E340.trans eh343
                      have z345 := eh343.size
                      have lbb342 := bxb342.lt
                      refine s_stBx (.agg #[.int .i64 g333.towers, .int .i64 g333.tries]) [.int .i64 g333.towers, .int .i64 g333.tries] [.int .i64 g333.towers, .int .i64 g333.tries] bxb342 rfl rfl rfl rfl (by simp) (all_cons rfl (all_cons rfl all_nil)) rfl (fun h346 mh346 sh346 bxx347 => ?_)
                      have E348 := E344.mod mh346 (fun b hb => by simp at hb; omega)
                      refine s_pure r335 (fun _ q => q) ?_
                      refine s_pure r337 (fun _ q => q) ?_
                      refine s_pure (.int .i64 g338) (fun _ q => q) ?_
                      refine s_nil ?_
                      refine p_seqN ?_
                      refine v_seq ?_
                      refine v_ops ?_
                      refine s_load (.agg #[.int .i64 g333.towers, .int .i64 g333.tries]) (fun _ q => bxx347.loadA rfl q) ?_
                      refine s_pure r335 (fun _ q => q) ?_
                      refine s_pure r337 (fun _ q => q) ?_
                      refine s_pure (.int .i64 g338) (fun _ q => q) ?_
                      have f349 := ((s_r335.ext eh343).mod mh346 (fun b hb hc => by simp at hc; have := lt_r335 b hb; omega))
                      have f350 := ((s_r337.ext eh343).mod mh346 (fun b hb hc => by simp at hc; have := lt_r337 b hb; omega))
                      refine s_call [.agg #[.int .i64 g333.towers, .int .i64 g333.tries], r335, r337, .int .i64 g338] rfl (w_implHeldAtTower g333 r335 g334 r337 g336 g338 _ f349.toSl f350.toSl) ?_
                      rintro _ h352 ⟨r351, rfl, s_r351, fr_r351, eh352⟩
                      have E353 := E348.trans eh352
                      have z354 := eh352.size
                      have lt_r351 := s_r351.lt
                      refine s_pure (.tuple #[r351, .bool ((haOut g333.towers g333.tries g334 g336 g338).2)]) (fun _ q => q) ?_
                      refine s_pure r351 (fun _ q => q) ?_
                      refine s_pure (.bool ((haOut g333.towers g333.tries g334 g336 g338).2)) (fun _ q => q) ?_
                      refine s_pure r351 (fun _ q => q) ?_
                      refine s_pure (.bool ((haOut g333.towers g333.tries g334 g336 g338).2)) (fun _ q => q) ?_
                      refine s_nil ?_
                      refine p_seqN ?_
                      refine v_seq ?_
                      refine v_ops ?_
                      have f355 := (bxx347.ext eh352)
                      refine s_load (.agg #[.int .i64 g333.towers, .int .i64 g333.tries]) (fun _ q => f355.loadA rfl q) ?_
                      refine s_pure r335 (fun _ q => q) ?_
                      refine s_pure r337 (fun _ q => q) ?_
                      refine s_pure (.int .i64 g338) (fun _ q => q) ?_
                      have f356 := (f349.ext eh352)
                      have f357 := (f350.ext eh352)
                      refine s_call [.agg #[.int .i64 g333.towers, .int .i64 g333.tries], r335, r337, .int .i64 g338] rfl (w_specHeldAtTower g333 r335 g334 r337 g336 g338 _ f356.toSl f357.toSl) ?_
                      rintro _ h359 ⟨r358, rfl, s_r358, fr_r358, eh359⟩
                      have E360 := E353.trans eh359
                      have z361 := eh359.size
                      have lt_r358 := s_r358.lt
                      refine s_pure (.tuple #[r358, .bool ((haOut g333.towers g333.tries g334 g336 g338).2)]) (fun _ q => q) ?_
                      refine s_pure r358 (fun _ q => q) ?_
                      refine s_pure (.bool ((haOut g333.towers g333.tries g334 g336 g338).2)) (fun _ q => q) ?_
                      refine s_pure r358 (fun _ q => q) ?_
                      refine s_pure (.bool ((haOut g333.towers g333.tries g334 g336 g338).2)) (fun _ q => q) ?_
                      refine s_nil ?_
                      refine p_seqN ?_
                      refine v_seq ?_
                      refine v_ops ?_
                      refine s_pure (.bool ((haOut g333.towers g333.tries g334 g336 g338).2)) (fun _ q => q) ?_
                      refine s_pure (.bool ((haOut g333.towers g333.tries g334 g336 g338).2)) (fun _ q => q) ?_
                      refine s_pure (.bool ((haOut g333.towers g333.tries g334 g336 g338).2 == (haOut g333.towers g333.tries g334 g336 g338).2)) (fun _ q => q) ?_
                      refine s_pure (.bool ((haOut g333.towers g333.tries g334 g336 g338).2 == (haOut g333.towers g333.tries g334 g336 g338).2)) (fun _ q => q) ?_
                      refine s_splitY rfl (by first | assumption | omega | (simp [hP2]; done) | (simp [hPl]; done) | (simp; done) | (simp; omega) | simp_all) ?_
                      refine s_run rfl ?_
                      refine s_pure r351 (fun _ q => q) ?_
                      refine s_run rfl ?_
                      refine s_pure r358 (fun _ q => q) ?_
                      refine s_run rfl ?_
                      have f363 := (s_r351.ext eh359)
                      refine s_call [r351, r358] rfl (laws_sameInts_ok r351 ((haOut g333.towers g333.tries g334 g336 g338).1) r358 ((haOut g333.towers g333.tries g334 g336 g338).1) _ f363.toSl s_r358.toSl) ?_
                      rintro vh362 h362 ⟨hvh362, eh362⟩
                      obtain rfl : vh362 = .bool true := hvh362.trans (by rw [decide_eq_true rfl])
                      have E364 := E360.trans eh362
                      have z365 := eh362.size
                      refine s_pure (.bool true) (fun _ q => q) ?_
                      refine s_pure (.bool true) (fun _ q => q) ?_
                      refine s_nil ?_
                      refine p_seqN ?_
                      refine v_ret ?_
                      refine p_ret [.bool true] (.bool true) (fun _ q => q) rfl ?_
                      have ho : true = true := by first | rfl | (exfalso; first | omega | exact absurd (gl_ok _ _ _ _) (by assumption) | exact absurd (ws_ok _ _ _ _) (by assumption) | exact (by assumption : _ ≠ _) hP2 | (have := hP3 (by assumption); omega) | (have := ha_ok hA hw0 (by assumption); simp_all; done) | (have := pl_plain hA; simp_all; done) | (simp_all; done))
                      exact ⟨by first | (rw [ho]; done) | rfl, E364⟩
        ·
          refine v_skip ?_
          refine p_seqN ?_
          refine v_seq ?_
          refine v_ops ?_
          refine s_pure v_more (fun _ q => q) ?_
          have f366 := ((((((((((((((s_more.ext eh1).ext eh11).ext eh15).mod mh18 (fun b hb hc => by simp at hc; have := lt_more b hb; omega)).ext eh24).ext eh31).ext eh37).ext eh43).ext eh50).ext eh57).ext eh61).ext eh67).ext eh75).ext eh79)
          refine s_call [v_more] rfl (spec_DrawPlainCount_ok v_more more _ f366 (by first | omega | assumption | (simp; done) | (simp; omega)) (by first | omega | assumption | (simp; done) | (simp; omega))) ?_
          rintro _ h369 ⟨g367, g368, rfl, qh369, eh369⟩
          have E370 := E80.trans eh369
          have z371 := eh369.size
          refine s_pure (.tuple #[.agg #[.int .i64 g367.towers, .int .i64 g367.tries], .int .i64 g368]) (fun _ q => q) ?_
          refine s_pure (.agg #[.int .i64 g367.towers, .int .i64 g367.tries]) (fun _ q => q) ?_
          refine s_pure (.int .i64 g368) (fun _ q => q) ?_
          refine s_new (fun h373 b372 hbb372 hzb372 eh373 bxb372 => ?_)
          have E374 := E370.trans eh373
          have z375 := eh373.size
          have lbb372 := bxb372.lt
          refine s_stBx (.agg #[.int .i64 g367.towers, .int .i64 g367.tries]) [.int .i64 g367.towers, .int .i64 g367.tries] [.int .i64 g367.towers, .int .i64 g367.tries] bxb372 rfl rfl rfl rfl (by simp) (all_cons rfl (all_cons rfl all_nil)) rfl (fun h376 mh376 sh376 bxx377 => ?_)
          have E378 := E374.mod mh376 (fun b hb => by simp at hb; omega)
          refine s_pure (.int .i64 g368) (fun _ q => q) ?_
          refine s_nil ?_
          refine p_seqN ?_
          refine v_seq ?_
          refine v_ops ?_
          refine s_load (.agg #[.int .i64 g367.towers, .int .i64 g367.tries]) (fun _ q => bxx377.loadA rfl q) ?_
          refine s_pure (.int .i64 g368) (fun _ q => q) ?_
          refine s_call [.agg #[.int .i64 g367.towers, .int .i64 g367.tries], .int .i64 g368] rfl (w_implPlainCount g367 g368 _ ) ?_
          rintro _ h379 ⟨rfl, eh379⟩
          have E380 := E378.trans eh379
          have z381 := eh379.size
          refine s_pure (.tuple #[.int .i64 ((plainOut g367.towers g367.tries g368).1), .bool ((plainOut g367.towers g367.tries g368).2)]) (fun _ q => q) ?_
          refine s_pure (.int .i64 ((plainOut g367.towers g367.tries g368).1)) (fun _ q => q) ?_
          refine s_pure (.bool ((plainOut g367.towers g367.tries g368).2)) (fun _ q => q) ?_
          refine s_pure (.int .i64 ((plainOut g367.towers g367.tries g368).1)) (fun _ q => q) ?_
          refine s_pure (.bool ((plainOut g367.towers g367.tries g368).2)) (fun _ q => q) ?_
          refine s_nil ?_
          refine p_seqN ?_
          refine v_seq ?_
          refine v_ops ?_
          have f382 := (bxx377.ext eh379)
          refine s_load (.agg #[.int .i64 g367.towers, .int .i64 g367.tries]) (fun _ q => f382.loadA rfl q) ?_
          refine s_pure (.int .i64 g368) (fun _ q => q) ?_
          refine s_call [.agg #[.int .i64 g367.towers, .int .i64 g367.tries], .int .i64 g368] rfl (w_specPlainCount g367 g368 _ ) ?_
          rintro _ h383 ⟨rfl, eh383⟩
          have E384 := E380.trans eh383
          have z385 := eh383.size
          refine s_pure (.tuple #[.int .i64 ((plainOut g367.towers g367.tries g368).1), .bool ((plainOut g367.towers g367.tries g368).2)]) (fun _ q => q) ?_
          refine s_pure (.int .i64 ((plainOut g367.towers g367.tries g368).1)) (fun _ q => q) ?_
          refine s_pure (.bool ((plainOut g367.towers g367.tries g368).2)) (fun _ q => q) ?_
          refine s_pure (.int .i64 ((plainOut g367.towers g367.tries g368).1)) (fun _ q => q) ?_
          refine s_pure (.bool ((plainOut g367.towers g367.tries g368).2)) (fun _ q => q) ?_
          refine s_nil ?_
          refine p_seqN ?_
          refine v_seq ?_
          refine v_seq ?_
          refine v_ops ?_
          refine s_pure (.bool ((plainOut g367.towers g367.tries g368).2)) (fun _ q => q) ?_
          refine s_pure (.bool ((plainOut g367.towers g367.tries g368).2)) (fun _ q => q) ?_
          refine s_pure (.bool ((plainOut g367.towers g367.tries g368).2 != (plainOut g367.towers g367.tries g368).2)) (fun _ q => q) ?_
          refine s_pure (.bool ((plainOut g367.towers g367.tries g368).2 != (plainOut g367.towers g367.tries g368).2)) (fun _ q => q) ?_
          refine s_splitN rfl (by first | assumption | omega | (simp; done) | (simp; omega) | simp_all) ?_
          refine s_run rfl ?_
          refine s_pure (.int .i64 ((plainOut g367.towers g367.tries g368).1)) (fun _ q => q) ?_
          refine s_run rfl ?_
          refine s_pure (.int .i64 ((plainOut g367.towers g367.tries g368).1)) (fun _ q => q) ?_
          refine s_run rfl ?_
          refine s_pure (.bool ((plainOut g367.towers g367.tries g368).1 != (plainOut g367.towers g367.tries g368).1)) (fun _ q => q) ?_
          refine s_pure (.bool ((plainOut g367.towers g367.tries g368).1 != (plainOut g367.towers g367.tries g368).1)) (fun _ q => q) ?_
          refine s_nil ?_
          refine p_seqN ?_
          refine v_condN rfl (by first | assumption | omega | (simp; done) | (simp; omega) | simp_all) ?_
          refine v_skip ?_
          refine p_seqN ?_
          refine v_seq ?_
          refine v_seq ?_
          refine v_ops ?_
          refine s_pure (.bool ((plainOut g367.towers g367.tries g368).2)) (fun _ q => q) ?_
          refine s_nil ?_
          refine p_seqN ?_
          refine v_cond rfl (fun c386 => ?_) (fun c386 => ?_)
          ·
            obtain ⟨hn_, hG_⟩ := gl_plain c386
            refine v_seq ?_
            have f387 := (f382.ext eh383)
            refine v_draw (DrawVC.hold ([b372]) ?_)
            refine d_pureT (.int .i64 g368) (fun _ q => q) ?_
            refine d_loadT (.agg #[.int .i64 g367.towers, .int .i64 g367.tries]) (fun _ q => f387.takeA (by simp) rfl q) ?_
            refine d_eff ?_
            refine s_mk (α := Int) ((g368).toNat) 0 rfl rfl (by omega) (by omega) rfl rfl (by first | (simp [maxLen]; done) | (simp [maxLen]; omega)) (by omega) (fun r388 h389 eh389 zh389 s_r388 fr_r388 => ?_)
            have E390 := E384.trans eh389
            have z391 := eh389.size
            have G392 := eh389
            have lt_r388 := s_r388.lt
            refine s_nil ⟨fun _ x hx => G392.blk x (by simp at hx; omega), ?_⟩
            refine d_eff ?_
            refine s_call [.agg #[.int .i64 g367.towers, .int .i64 g367.tries], r388, .slice none 0 0] rfl (w_implLineGlances g367 r388 (List.replicate ((g368).toNat) 0) (.slice none 0 0) [] _ s_r388.toSl (SlX.nil (α := Int) false _)) ?_
            rintro _ h393 ⟨rfl, eh393⟩
            have E394 := E390.trans eh393
            have z395 := eh393.size
            have G396 := G392.trans eh393
            refine s_nil ⟨fun hl => (by cases hl), ?_⟩
            refine d_pureT (.tuple #[.int .i64 ((glOut g367.towers g367.tries (List.replicate ((g368).toNat) 0) []).1), .bool ((glOut g367.towers g367.tries (List.replicate ((g368).toNat) 0) []).2)]) (fun _ q => q) ?_
            refine d_pureT (.int .i64 ((glOut g367.towers g367.tries (List.replicate ((g368).toNat) 0) []).1)) (fun _ q => q) ?_
            refine d_pureT (.bool ((glOut g367.towers g367.tries (List.replicate ((g368).toNat) 0) []).2)) (fun _ q => q) ?_
            refine d_pureT (.int .i64 ((glOut g367.towers g367.tries (List.replicate ((g368).toNat) 0) []).1)) (fun _ q => q) ?_
            refine d_pureT (.bool ((glOut g367.towers g367.tries (List.replicate ((g368).toNat) 0) []).2)) (fun _ q => q) ?_
            refine d_done ?_
            refine p_seqN ?_
            refine v_seq ?_
            refine v_ops ?_
            refine s_pure (.bool ((glOut g367.towers g367.tries (List.replicate ((g368).toNat) 0) []).2)) (fun _ q => q) ?_
            refine s_pure (.bool (!(glOut g367.towers g367.tries (List.replicate ((g368).toNat) 0) []).2)) (fun _ q => q) ?_
            refine s_pure (.bool (!(glOut g367.towers g367.tries (List.replicate ((g368).toNat) 0) []).2)) (fun _ q => q) ?_
            refine s_splitT rfl (fun c397 => ?_) (fun c397 => ?_)
            ·
              refine s_pass rfl ?_
              refine s_pass rfl ?_
              refine s_pass rfl ?_
              refine s_pure (.bool true) (fun _ q => q) ?_
              refine s_nil ?_
              refine p_seqN ?_
              refine v_condY rfl rfl ?_
              refine v_seq ?_
              refine v_ops ?_
              refine s_pure (.bool false) (fun _ q => q) ?_
              refine s_nil ?_
              refine p_seqN ?_
              refine v_ret ?_
              refine p_seqR ?_
              refine p_ret [.bool false] (.bool false) (fun _ q => q) rfl ?_
              have ho : true = false := by first | rfl | (exfalso; first | omega | exact absurd (gl_ok _ _ _ _) (by assumption) | exact absurd (ws_ok _ _ _ _) (by assumption) | exact (by assumption : _ ≠ _) hP2 | (have := hP3 (by assumption); omega) | (have := ha_ok hA hw0 (by assumption); simp_all; done) | (have := pl_plain hA; simp_all; done) | (simp_all; done))
              exact ⟨by first | (rw [ho]; done) | rfl, E394⟩
            ·
              have c397 := Classical.not_not.1 c397
              refine s_run rfl ?_
              refine s_pure (.int .i64 ((glOut g367.towers g367.tries (List.replicate ((g368).toNat) 0) []).1)) (fun _ q => q) ?_
              refine s_run rfl ?_
              refine s_pure (.int .i64 ((plainOut g367.towers g367.tries g368).1)) (fun _ q => q) ?_
              refine s_run rfl ?_
              refine s_pure (.bool ((glOut g367.towers g367.tries (List.replicate ((g368).toNat) 0) []).1 != (plainOut g367.towers g367.tries g368).1)) (fun _ q => q) ?_
              refine s_pure (.bool ((glOut g367.towers g367.tries (List.replicate ((g368).toNat) 0) []).1 != (plainOut g367.towers g367.tries g368).1)) (fun _ q => q) ?_
              refine s_nil ?_
              refine p_seqN ?_
              refine v_cond rfl (fun c398 => ?_) (fun c398 => ?_)
              ·
                refine v_seq ?_
                refine v_ops ?_
                refine s_pure (.bool false) (fun _ q => q) ?_
                refine s_nil ?_
                refine p_seqN ?_
                refine v_ret ?_
                refine p_seqR ?_
                refine p_ret [.bool false] (.bool false) (fun _ q => q) rfl ?_
                have ho : true = false := by first | rfl | (exfalso; first | omega | exact absurd (gl_ok _ _ _ _) (by assumption) | exact absurd (ws_ok _ _ _ _) (by assumption) | exact (by assumption : _ ≠ _) hP2 | (have := hP3 (by assumption); omega) | (have := ha_ok hA hw0 (by assumption); simp_all; done) | (have := pl_plain hA; simp_all; done) | (simp_all; done))
                exact ⟨by first | (rw [ho]; done) | rfl, E394⟩
              ·
                have c398 := Classical.not_not.1 c398
                refine v_skip ?_
                refine p_seqN ?_
                refine v_seq ?_
                refine v_ops ?_
                refine s_pure v_more (fun _ q => q) ?_
                have f399 := (((((((f366.ext eh369).ext eh373).mod mh376 (fun b hb hc => by simp at hc; have := lt_more b hb; omega)).ext eh379).ext eh383).ext eh389).ext eh393)
                refine s_call [v_more] rfl (spec_DrawHeldAtTower_ok v_more more _ f399 (by first | omega | assumption | (simp; done) | (simp; omega)) (by first | omega | assumption | (simp; done) | (simp; omega))) ?_
                rintro _ h406 ⟨g400, g401, g403, g405, r402, r404, rfl, s_r402, fr_r402, s_r404, fr_r404, qh406, eh406⟩
                have E407 := E394.trans eh406
                have z408 := eh406.size
                have lt_r402 := s_r402.lt
                have lt_r404 := s_r404.lt
                refine s_pure (.tuple #[.agg #[.int .i64 g400.towers, .int .i64 g400.tries], r402, r404, .int .i64 g405]) (fun _ q => q) ?_
                refine s_pure (.agg #[.int .i64 g400.towers, .int .i64 g400.tries]) (fun _ q => q) ?_
                refine s_pure r402 (fun _ q => q) ?_
                refine s_pure r404 (fun _ q => q) ?_
                refine s_pure (.int .i64 g405) (fun _ q => q) ?_
                refine s_new (fun h410 b409 hbb409 hzb409 eh410 bxb409 => ?_)
                have E411 := E407.trans eh410
                have z412 := eh410.size
                have lbb409 := bxb409.lt
                refine s_stBx (.agg #[.int .i64 g400.towers, .int .i64 g400.tries]) [.int .i64 g400.towers, .int .i64 g400.tries] [.int .i64 g400.towers, .int .i64 g400.tries] bxb409 rfl rfl rfl rfl (by simp) (all_cons rfl (all_cons rfl all_nil)) rfl (fun h413 mh413 sh413 bxx414 => ?_)
                have E415 := E411.mod mh413 (fun b hb => by simp at hb; omega)
                refine s_pure r402 (fun _ q => q) ?_
                refine s_pure r404 (fun _ q => q) ?_
                refine s_pure (.int .i64 g405) (fun _ q => q) ?_
                refine s_nil ?_
                refine p_seqN ?_
                refine v_seq ?_
                refine v_ops ?_
                refine s_load (.agg #[.int .i64 g400.towers, .int .i64 g400.tries]) (fun _ q => bxx414.loadA rfl q) ?_
                refine s_pure r402 (fun _ q => q) ?_
                refine s_pure r404 (fun _ q => q) ?_
                refine s_pure (.int .i64 g405) (fun _ q => q) ?_
                have f416 := ((s_r402.ext eh410).mod mh413 (fun b hb hc => by simp at hc; have := lt_r402 b hb; omega))
                have f417 := ((s_r404.ext eh410).mod mh413 (fun b hb hc => by simp at hc; have := lt_r404 b hb; omega))
                refine s_call [.agg #[.int .i64 g400.towers, .int .i64 g400.tries], r402, r404, .int .i64 g405] rfl (w_implHeldAtTower g400 r402 g401 r404 g403 g405 _ f416.toSl f417.toSl) ?_
                rintro _ h419 ⟨r418, rfl, s_r418, fr_r418, eh419⟩
                have E420 := E415.trans eh419
                have z421 := eh419.size
                have lt_r418 := s_r418.lt
                refine s_pure (.tuple #[r418, .bool ((haOut g400.towers g400.tries g401 g403 g405).2)]) (fun _ q => q) ?_
                refine s_pure r418 (fun _ q => q) ?_
                refine s_pure (.bool ((haOut g400.towers g400.tries g401 g403 g405).2)) (fun _ q => q) ?_
                refine s_pure r418 (fun _ q => q) ?_
                refine s_pure (.bool ((haOut g400.towers g400.tries g401 g403 g405).2)) (fun _ q => q) ?_
                refine s_nil ?_
                refine p_seqN ?_
                refine v_seq ?_
                refine v_ops ?_
                have f422 := (bxx414.ext eh419)
                refine s_load (.agg #[.int .i64 g400.towers, .int .i64 g400.tries]) (fun _ q => f422.loadA rfl q) ?_
                refine s_pure r402 (fun _ q => q) ?_
                refine s_pure r404 (fun _ q => q) ?_
                refine s_pure (.int .i64 g405) (fun _ q => q) ?_
                have f423 := (f416.ext eh419)
                have f424 := (f417.ext eh419)
                refine s_call [.agg #[.int .i64 g400.towers, .int .i64 g400.tries], r402, r404, .int .i64 g405] rfl (w_specHeldAtTower g400 r402 g401 r404 g403 g405 _ f423.toSl f424.toSl) ?_
                rintro _ h426 ⟨r425, rfl, s_r425, fr_r425, eh426⟩
                have E427 := E420.trans eh426
                have z428 := eh426.size
                have lt_r425 := s_r425.lt
                refine s_pure (.tuple #[r425, .bool ((haOut g400.towers g400.tries g401 g403 g405).2)]) (fun _ q => q) ?_
                refine s_pure r425 (fun _ q => q) ?_
                refine s_pure (.bool ((haOut g400.towers g400.tries g401 g403 g405).2)) (fun _ q => q) ?_
                refine s_pure r425 (fun _ q => q) ?_
                refine s_pure (.bool ((haOut g400.towers g400.tries g401 g403 g405).2)) (fun _ q => q) ?_
                refine s_nil ?_
                refine p_seqN ?_
                refine v_seq ?_
                refine v_ops ?_
                refine s_pure (.bool ((haOut g400.towers g400.tries g401 g403 g405).2)) (fun _ q => q) ?_
                refine s_pure (.bool ((haOut g400.towers g400.tries g401 g403 g405).2)) (fun _ q => q) ?_
                refine s_pure (.bool ((haOut g400.towers g400.tries g401 g403 g405).2 == (haOut g400.towers g400.tries g401 g403 g405).2)) (fun _ q => q) ?_
                refine s_pure (.bool ((haOut g400.towers g400.tries g401 g403 g405).2 == (haOut g400.towers g400.tries g401 g403 g405).2)) (fun _ q => q) ?_
                refine s_splitY rfl (by first | assumption | omega | (simp [hG_]; done) | (simp; done) | (simp; omega) | simp_all) ?_
                refine s_run rfl ?_
                refine s_pure r418 (fun _ q => q) ?_
                refine s_run rfl ?_
                refine s_pure r425 (fun _ q => q) ?_
                refine s_run rfl ?_
                have f430 := (s_r418.ext eh426)
                refine s_call [r418, r425] rfl (laws_sameInts_ok r418 ((haOut g400.towers g400.tries g401 g403 g405).1) r425 ((haOut g400.towers g400.tries g401 g403 g405).1) _ f430.toSl s_r425.toSl) ?_
                rintro vh429 h429 ⟨hvh429, eh429⟩
                obtain rfl : vh429 = .bool true := hvh429.trans (by rw [decide_eq_true rfl])
                have E431 := E427.trans eh429
                have z432 := eh429.size
                refine s_pure (.bool true) (fun _ q => q) ?_
                refine s_pure (.bool true) (fun _ q => q) ?_
                refine s_nil ?_
                refine p_seqN ?_
                refine v_ret ?_
                refine p_ret [.bool true] (.bool true) (fun _ q => q) rfl ?_
                have ho : true = true := by first | rfl | (exfalso; first | omega | exact absurd (gl_ok _ _ _ _) (by assumption) | exact absurd (ws_ok _ _ _ _) (by assumption) | exact (by assumption : _ ≠ _) hP2 | (have := hP3 (by assumption); omega) | (have := ha_ok hA hw0 (by assumption); simp_all; done) | (have := pl_plain hA; simp_all; done) | (simp_all; done))
                exact ⟨by first | (rw [ho]; done) | rfl, E431⟩
          ·
            refine v_skip ?_
            refine p_seqN ?_
            refine v_seq ?_
            refine v_ops ?_
            refine s_pure v_more (fun _ q => q) ?_
            have f433 := (((((f366.ext eh369).ext eh373).mod mh376 (fun b hb hc => by simp at hc; have := lt_more b hb; omega)).ext eh379).ext eh383)
            refine s_call [v_more] rfl (spec_DrawHeldAtTower_ok v_more more _ f433 (by first | omega | assumption | (simp; done) | (simp; omega)) (by first | omega | assumption | (simp; done) | (simp; omega))) ?_
            rintro _ h440 ⟨g434, g435, g437, g439, r436, r438, rfl, s_r436, fr_r436, s_r438, fr_r438, qh440, eh440⟩
            have E441 := E384.trans eh440
            have z442 := eh440.size
            have lt_r436 := s_r436.lt
            have lt_r438 := s_r438.lt
            refine s_pure (.tuple #[.agg #[.int .i64 g434.towers, .int .i64 g434.tries], r436, r438, .int .i64 g439]) (fun _ q => q) ?_
            refine s_pure (.agg #[.int .i64 g434.towers, .int .i64 g434.tries]) (fun _ q => q) ?_
            refine s_pure r436 (fun _ q => q) ?_
            refine s_pure r438 (fun _ q => q) ?_
            refine s_pure (.int .i64 g439) (fun _ q => q) ?_
            refine s_new (fun h444 b443 hbb443 hzb443 eh444 bxb443 => ?_)
            have E445 := E441.trans eh444
            have z446 := eh444.size
            have lbb443 := bxb443.lt
            refine s_stBx (.agg #[.int .i64 g434.towers, .int .i64 g434.tries]) [.int .i64 g434.towers, .int .i64 g434.tries] [.int .i64 g434.towers, .int .i64 g434.tries] bxb443 rfl rfl rfl rfl (by simp) (all_cons rfl (all_cons rfl all_nil)) rfl (fun h447 mh447 sh447 bxx448 => ?_)
            have E449 := E445.mod mh447 (fun b hb => by simp at hb; omega)
            refine s_pure r436 (fun _ q => q) ?_
            refine s_pure r438 (fun _ q => q) ?_
            refine s_pure (.int .i64 g439) (fun _ q => q) ?_
            refine s_nil ?_
            refine p_seqN ?_
            refine v_seq ?_
            refine v_ops ?_
            refine s_load (.agg #[.int .i64 g434.towers, .int .i64 g434.tries]) (fun _ q => bxx448.loadA rfl q) ?_
            refine s_pure r436 (fun _ q => q) ?_
            refine s_pure r438 (fun _ q => q) ?_
            refine s_pure (.int .i64 g439) (fun _ q => q) ?_
            have f450 := ((s_r436.ext eh444).mod mh447 (fun b hb hc => by simp at hc; have := lt_r436 b hb; omega))
            have f451 := ((s_r438.ext eh444).mod mh447 (fun b hb hc => by simp at hc; have := lt_r438 b hb; omega))
            refine s_call [.agg #[.int .i64 g434.towers, .int .i64 g434.tries], r436, r438, .int .i64 g439] rfl (w_implHeldAtTower g434 r436 g435 r438 g437 g439 _ f450.toSl f451.toSl) ?_
            rintro _ h453 ⟨r452, rfl, s_r452, fr_r452, eh453⟩
            have E454 := E449.trans eh453
            have z455 := eh453.size
            have lt_r452 := s_r452.lt
            refine s_pure (.tuple #[r452, .bool ((haOut g434.towers g434.tries g435 g437 g439).2)]) (fun _ q => q) ?_
            refine s_pure r452 (fun _ q => q) ?_
            refine s_pure (.bool ((haOut g434.towers g434.tries g435 g437 g439).2)) (fun _ q => q) ?_
            refine s_pure r452 (fun _ q => q) ?_
            refine s_pure (.bool ((haOut g434.towers g434.tries g435 g437 g439).2)) (fun _ q => q) ?_
            refine s_nil ?_
            refine p_seqN ?_
            refine v_seq ?_
            refine v_ops ?_
            have f456 := (bxx448.ext eh453)
            refine s_load (.agg #[.int .i64 g434.towers, .int .i64 g434.tries]) (fun _ q => f456.loadA rfl q) ?_
            refine s_pure r436 (fun _ q => q) ?_
            refine s_pure r438 (fun _ q => q) ?_
            refine s_pure (.int .i64 g439) (fun _ q => q) ?_
            have f457 := (f450.ext eh453)
            have f458 := (f451.ext eh453)
            refine s_call [.agg #[.int .i64 g434.towers, .int .i64 g434.tries], r436, r438, .int .i64 g439] rfl (w_specHeldAtTower g434 r436 g435 r438 g437 g439 _ f457.toSl f458.toSl) ?_
            rintro _ h460 ⟨r459, rfl, s_r459, fr_r459, eh460⟩
            have E461 := E454.trans eh460
            have z462 := eh460.size
            have lt_r459 := s_r459.lt
            refine s_pure (.tuple #[r459, .bool ((haOut g434.towers g434.tries g435 g437 g439).2)]) (fun _ q => q) ?_
            refine s_pure r459 (fun _ q => q) ?_
            refine s_pure (.bool ((haOut g434.towers g434.tries g435 g437 g439).2)) (fun _ q => q) ?_
            refine s_pure r459 (fun _ q => q) ?_
            refine s_pure (.bool ((haOut g434.towers g434.tries g435 g437 g439).2)) (fun _ q => q) ?_
            refine s_nil ?_
            refine p_seqN ?_
            refine v_seq ?_
            refine v_ops ?_
            refine s_pure (.bool ((haOut g434.towers g434.tries g435 g437 g439).2)) (fun _ q => q) ?_
            refine s_pure (.bool ((haOut g434.towers g434.tries g435 g437 g439).2)) (fun _ q => q) ?_
            refine s_pure (.bool ((haOut g434.towers g434.tries g435 g437 g439).2 == (haOut g434.towers g434.tries g435 g437 g439).2)) (fun _ q => q) ?_
            refine s_pure (.bool ((haOut g434.towers g434.tries g435 g437 g439).2 == (haOut g434.towers g434.tries g435 g437 g439).2)) (fun _ q => q) ?_
            refine s_splitY rfl (by first | assumption | omega | (simp; done) | (simp; omega) | simp_all) ?_
            refine s_run rfl ?_
            refine s_pure r452 (fun _ q => q) ?_
            refine s_run rfl ?_
            refine s_pure r459 (fun _ q => q) ?_
            refine s_run rfl ?_
            have f464 := (s_r452.ext eh460)
            refine s_call [r452, r459] rfl (laws_sameInts_ok r452 ((haOut g434.towers g434.tries g435 g437 g439).1) r459 ((haOut g434.towers g434.tries g435 g437 g439).1) _ f464.toSl s_r459.toSl) ?_
            rintro vh463 h463 ⟨hvh463, eh463⟩
            obtain rfl : vh463 = .bool true := hvh463.trans (by rw [decide_eq_true rfl])
            have E465 := E461.trans eh463
            have z466 := eh463.size
            refine s_pure (.bool true) (fun _ q => q) ?_
            refine s_pure (.bool true) (fun _ q => q) ?_
            refine s_nil ?_
            refine p_seqN ?_
            refine v_ret ?_
            refine p_ret [.bool true] (.bool true) (fun _ q => q) rfl ?_
            have ho : true = true := by first | rfl | (exfalso; first | omega | exact absurd (gl_ok _ _ _ _) (by assumption) | exact absurd (ws_ok _ _ _ _) (by assumption) | exact (by assumption : _ ≠ _) hP2 | (have := hP3 (by assumption); omega) | (have := ha_ok hA hw0 (by assumption); simp_all; done) | (have := pl_plain hA; simp_all; done) | (simp_all; done))
            exact ⟨by first | (rw [ho]; done) | rfl, E465⟩

theorem law_ok (h : Heap) (v0 : Value) (x0 : List By) (s0 : Sl h v0 x0) (w0 : ∀ y ∈ x0, (0 ≤ y.n ∧ y.n ≤ 255)) (v1 : Value) (x1 : List By) (s1 : Sl h v1 x1) (w1 : ∀ y ∈ x1, (0 ≤ y.n ∧ y.n ≤ 255)) : Cn f_laws_FnLines [v0, v1] h fun v h' => v = .bool true ∧ Ext h h' := laws_FnLines_ok v0 x0 v1 x1 h s0 s1 w0 w1
end Go.Proofs.Ytckkablifoblbaa.finFnLines
