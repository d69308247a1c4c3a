/- LawFnFirstArrivals. Condition: none. -/
import Derived.Test.YtgbaonaopkdlpaaMgG
/- The law FnFirstArrivals: its text returns true. Condition: none. Printed by a program. -/
namespace Go.Proofs.Ytgbaonaopkdlpaa.finFnFirstArrivals
open Go.Vc
set_option linter.all false
set_option maxRecDepth 100000
set_option maxHeartbeats 4000000
set_option maxRecDepth 10000 in
set_option maxHeartbeats 4000000 in
theorem laws_FnFirstArrivals_ok (v_code : Value) (code : List By) (v_more : Value) (more : List By) (h : Heap) (s_code : Sl h v_code code) (s_more : Sl h v_more more) (hb0 : ∀ y ∈ code, 0 ≤ y.n ∧ y.n ≤ 255) (hb1 : ∀ y ∈ more, 0 ≤ y.n ∧ y.n ≤ 255) (hl0 : code.length ≤ 140737488351232) (hl1 : more.length ≤ 140737488351232) : Cn f_laws_FnFirstArrivals [v_code, v_more] h fun v h' => v = .bool true ∧ Ext h h' := by
 have l63_code := s_code.len63
 have lt_more := s_more.lt
 have l63_more := s_more.len63
 refine calls_of r_laws_FnFirstArrivals ?_
 refine v_seq <| v_ops <| s_pq (.bool false) <| s_nil <| p_seqN <| v_seq <| v_seq <| v_ops <| s_pq v_code <| s_pure (.int .i64 (code.length : Int)) (fun _ q => s_code.lenVC q) <| s_pq v_more <| s_pure (.int .i64 (more.length : Int)) (fun _ q => s_more.lenVC q) <| s_pure (.int .i64 ((code.length : Int) + (more.length : Int))) (fun _ q => ArithVC.mk (by omega) q) <| s_pq (.bool (decide (((code.length : Int) + (more.length : Int)) > 1048576))) <| s_nil <| p_seqN ?_
 refine v_cond rfl (fun c1 => ?_) (fun c1 => ?_)
 ·
  refine v_seq <| v_ops <| s_pq (.bool true) <| s_nil <| p_seqN <| v_ret <| p_seqR <| p_ret [.bool true] (.bool true) (fun _ q => q) rfl ?_
  have ho : true = true := by first | rfl | ((have q_ := hend (by assumption)); rw [beqI]; first | exact (decide_eq_true (by omega)).symm | exact decide_eq_true (by omega)) | (exfalso; first | omega | ((have q_ := hat _ (by assumption)); (obtain ⟨qa_, qb_, qc_⟩ := q_); first | omega | (have qd_ := qb_ (by assumption); omega) | (have qd_ := qc_ (by assumption); omega) | (simp_all; done)) | (simp_all; done))
  exact ⟨by first | (rw [ho]; done) | rfl, (Ext.refl h)⟩
 have hbig : code.length ≤ 1048576 ∧ more.length ≤ 1048576 := by omega
 refine v_skip <| p_seqN <| v_seq <| v_ops <| s_pq v_code <| s_call [v_code] rfl (spec_DrawWayThrough_ok v_code code _ s_code (by first | omega | assumption | (simp; done) | (simp; omega)) (by first | omega | assumption | (simp; done) | (simp; omega))) ?_
 rintro _ h10 ⟨g2, g5, g7, g8, g9, r3, r4, r6, rfl, s_r3, fr_r3, s_r4, fr_r4, s_r6, fr_r6, ap_r3_r4, ap_r3_r6, ap_r4_r6, qh10, eh10⟩
 have E11 := (Ext.refl h).trans eh10
 have z12 := eh10.size
 have lt_r3 := s_r3.lt
 have lt_r4 := s_r4.lt
 have lt_r6 := s_r6.lt
 refine s_pq (.tuple #[.agg #[r3, r4], r6, .int .i64 g7, .int .i64 g8, .int .i64 g9]) <| s_pq (.agg #[r3, r4]) <| s_pq r6 <| s_pq (.int .i64 g7) <| s_pq (.int .i64 g8) <| s_pq (.int .i64 g9) ?_
 refine s_new (fun h14 b13 hbb13 hzb13 eh14 bxb13 => ?_)
 have E15 := E11.trans eh14
 have z16 := eh14.size
 have lbb13 := bxb13.lt
 refine s_stBx (.agg #[r3, r4]) [r3, r4] [r3, r4] bxb13 rfl rfl rfl rfl (by simp) (all_cons s_r3.one1 (all_cons s_r4.one1 all_nil)) rfl (fun h17 mh17 sh17 bxx18 => ?_)
 have E19 := E15.mod mh17 (fun b hb => by simp at hb; omega)
 refine s_pq r6 <| s_pq (.int .i64 g7) <| s_pq (.int .i64 g8) <| s_pq (.int .i64 g9) <| s_nil <| p_seqN <| v_seq <| v_ops <| s_load (.agg #[r3, r4]) (fun _ q => bxx18.loadA rfl q) <| s_pq r6 <| s_pq (.int .i64 g7) <| s_pq (.int .i64 g8) <| s_pq (.int .i64 g9) ?_
 have f20 := ((s_r3.ext eh14).mod mh17 (fun b hb hc => by simp at hc; have := lt_r3 b hb; omega))
 have f21 := ((s_r4.ext eh14).mod mh17 (fun b hb hc => by simp at hc; have := lt_r4 b hb; omega))
 have f22 := ((s_r6.ext eh14).mod mh17 (fun b hb hc => by simp at hc; have := lt_r6 b hb; omega))
 refine s_call [.agg #[r3, r4], r6, .int .i64 g7, .int .i64 g8, .int .i64 g9] rfl (impl_WayThrough_ok g2 r3 r4 r6 g5 g7 g8 g9 _ f20.toSl f21.toSl f22.toSl) ?_
 rintro _ h24 ⟨r23, rfl, s_r23, fr_r23, eh24⟩
 have E25 := E19.trans eh24
 have z26 := eh24.size
 have lt_r23 := s_r23.lt
 refine s_pq (.tuple #[r23, .bool ((wayOf g2 g5 g7 g8 g9).2)]) <| s_pq r23 <| s_pq (.bool ((wayOf g2 g5 g7 g8 g9).2)) <| s_pq r23 <| s_pq (.bool ((wayOf g2 g5 g7 g8 g9).2)) <| s_nil <| p_seqN <| v_seq <| v_ops ?_
 have f27 := (bxx18.ext eh24)
 refine s_load (.agg #[r3, r4]) (fun _ q => f27.loadA rfl q) <| s_pq r6 <| s_pq (.int .i64 g7) <| s_pq (.int .i64 g8) <| s_pq (.int .i64 g9) ?_
 have f28 := (f20.ext eh24)
 have f29 := (f21.ext eh24)
 have f30 := (f22.ext eh24)
 refine s_call [.agg #[r3, r4], r6, .int .i64 g7, .int .i64 g8, .int .i64 g9] rfl (spec_WayThrough_ok g2 r3 r4 r6 g5 g7 g8 g9 _ f28.toSl f29.toSl f30.toSl) ?_
 rintro _ h32 ⟨r31, rfl, s_r31, fr_r31, eh32⟩
 have E33 := E25.trans eh32
 have z34 := eh32.size
 have lt_r31 := s_r31.lt
 refine s_pq (.tuple #[r31, .bool ((wayOf g2 g5 g7 g8 g9).2)]) <| s_pq r31 <| s_pq (.bool ((wayOf g2 g5 g7 g8 g9).2)) <| s_pq r31 <| s_pq (.bool ((wayOf g2 g5 g7 g8 g9).2)) <| s_nil <| p_seqN <| v_seq <| v_ops ?_
 have f35 := (f27.ext eh32)
 refine s_load (.agg #[r3, r4]) (fun _ q => f35.loadA rfl q) <| s_pq r6 <| s_pq (.int .i64 g7) <| s_pq (.int .i64 g8) <| s_pq (.int .i64 g9) ?_
 have f36 := (f28.ext eh32)
 have f37 := (f29.ext eh32)
 have f38 := (f30.ext eh32)
 refine s_call [.agg #[r3, r4], r6, .int .i64 g7, .int .i64 g8, .int .i64 g9] rfl (impl_FirstArrival_ok g2 r3 r4 r6 g5 g7 g8 g9 _ f36.toSl f37.toSl f38.toSl) ?_
 rintro _ h39 ⟨rfl, eh39⟩
 have E40 := E33.trans eh39
 have z41 := eh39.size
 refine s_pq (.tuple #[.int .i64 ((firstOf g2 g5 g7 g8 g9).1), .bool ((firstOf g2 g5 g7 g8 g9).2)]) <| s_pq (.int .i64 ((firstOf g2 g5 g7 g8 g9).1)) <| s_pq (.bool ((firstOf g2 g5 g7 g8 g9).2)) <| s_pq (.int .i64 ((firstOf g2 g5 g7 g8 g9).1)) <| s_pq (.bool ((firstOf g2 g5 g7 g8 g9).2)) <| s_nil <| p_seqN <| v_seq <| v_ops ?_
 have f42 := (f35.ext eh39)
 refine s_load (.agg #[r3, r4]) (fun _ q => f42.loadA rfl q) <| s_pq r6 <| s_pq (.int .i64 g7) <| s_pq (.int .i64 g8) <| s_pq (.int .i64 g9) ?_
 have f43 := (f36.ext eh39)
 have f44 := (f37.ext eh39)
 have f45 := (f38.ext eh39)
 refine s_call [.agg #[r3, r4], r6, .int .i64 g7, .int .i64 g8, .int .i64 g9] rfl (spec_FirstArrival_ok g2 r3 r4 r6 g5 g7 g8 g9 _ f43.toSl f44.toSl f45.toSl) ?_
 rintro _ h46 ⟨rfl, eh46⟩
 have E47 := E40.trans eh46
 have z48 := eh46.size
 refine s_pq (.tuple #[.int .i64 ((firstOf g2 g5 g7 g8 g9).1), .bool ((firstOf g2 g5 g7 g8 g9).2)]) <| s_pq (.int .i64 ((firstOf g2 g5 g7 g8 g9).1)) <| s_pq (.bool ((firstOf g2 g5 g7 g8 g9).2)) <| s_pq (.int .i64 ((firstOf g2 g5 g7 g8 g9).1)) <| s_pq (.bool ((firstOf g2 g5 g7 g8 g9).2)) <| s_nil <| p_seqN <| v_seq <| v_ops ?_
 have f49 := (f42.ext eh46)
 refine s_load (.agg #[r3, r4]) (fun _ q => f49.loadA rfl q) <| s_pq r6 <| s_pq (.int .i64 g7) <| s_pq (.int .i64 g8) <| s_pq (.int .i64 g9) ?_
 have f50 := (f43.ext eh46)
 have f51 := (f44.ext eh46)
 have f52 := (f45.ext eh46)
 refine s_call [.agg #[r3, r4], r6, .int .i64 g7, .int .i64 g8, .int .i64 g9] rfl (impl_FogDelay_ok g2 r3 r4 r6 g5 g7 g8 g9 _ f50.toSl f51.toSl f52.toSl) ?_
 rintro _ h53 ⟨rfl, eh53⟩
 have E54 := E47.trans eh53
 have z55 := eh53.size
 refine s_pq (.tuple #[.int .i64 ((fogDelay g2 g5 g7 g8 g9).1), .bool ((fogDelay g2 g5 g7 g8 g9).2)]) <| s_pq (.int .i64 ((fogDelay g2 g5 g7 g8 g9).1)) <| s_pq (.bool ((fogDelay g2 g5 g7 g8 g9).2)) <| s_pq (.int .i64 ((fogDelay g2 g5 g7 g8 g9).1)) <| s_pq (.bool ((fogDelay g2 g5 g7 g8 g9).2)) <| s_nil <| p_seqN <| v_seq <| v_ops ?_
 have f56 := (f49.ext eh53)
 refine s_load (.agg #[r3, r4]) (fun _ q => f56.loadA rfl q) <| s_pq r6 <| s_pq (.int .i64 g7) <| s_pq (.int .i64 g8) <| s_pq (.int .i64 g9) ?_
 have f57 := (f50.ext eh53)
 have f58 := (f51.ext eh53)
 have f59 := (f52.ext eh53)
 refine s_call [.agg #[r3, r4], r6, .int .i64 g7, .int .i64 g8, .int .i64 g9] rfl (spec_FogDelay_ok g2 r3 r4 r6 g5 g7 g8 g9 _ f57.toSl f58.toSl f59.toSl) ?_
 rintro _ h60 ⟨rfl, eh60⟩
 have E61 := E54.trans eh60
 have z62 := eh60.size
 refine s_pq (.tuple #[.int .i64 ((fogDelay g2 g5 g7 g8 g9).1), .bool ((fogDelay g2 g5 g7 g8 g9).2)]) <| s_pq (.int .i64 ((fogDelay g2 g5 g7 g8 g9).1)) <| s_pq (.bool ((fogDelay g2 g5 g7 g8 g9).2)) <| s_pq (.int .i64 ((fogDelay g2 g5 g7 g8 g9).1)) <| s_pq (.bool ((fogDelay g2 g5 g7 g8 g9).2)) <| s_nil <| p_seqN <| v_seq <| v_ops <| s_pq v_more ?_
 have f63 := (((((((((s_more.ext eh10).ext eh14).mod mh17 (fun b hb hc => by simp at hc; have := lt_more b hb; omega)).ext eh24).ext eh32).ext eh39).ext eh46).ext eh53).ext eh60)
 refine s_call [v_more] rfl (spec_DrawLatestStart_ok v_more more _ f63 (by first | omega | assumption | (simp; done) | (simp; omega)) (by first | omega | assumption | (simp; done) | (simp; omega))) ?_
 rintro _ h72 ⟨g64, g67, g69, g70, g71, r65, r66, r68, rfl, s_r65, fr_r65, s_r66, fr_r66, s_r68, fr_r68, ap_r65_r66, ap_r65_r68, ap_r66_r68, qh72, eh72⟩
 have E73 := E61.trans eh72
 have z74 := eh72.size
 have lt_r65 := s_r65.lt
 have lt_r66 := s_r66.lt
 have lt_r68 := s_r68.lt
 refine s_pq (.tuple #[.agg #[r65, r66], r68, .int .i64 g69, .int .i64 g70, .int .i64 g71]) <| s_pq (.agg #[r65, r66]) <| s_pq r68 <| s_pq (.int .i64 g69) <| s_pq (.int .i64 g70) <| s_pq (.int .i64 g71) ?_
 refine s_new (fun h76 b75 hbb75 hzb75 eh76 bxb75 => ?_)
 have E77 := E73.trans eh76
 have z78 := eh76.size
 have lbb75 := bxb75.lt
 refine s_stBx (.agg #[r65, r66]) [r65, r66] [r65, r66] bxb75 rfl rfl rfl rfl (by simp) (all_cons s_r65.one1 (all_cons s_r66.one1 all_nil)) rfl (fun h79 mh79 sh79 bxx80 => ?_)
 have E81 := E77.mod mh79 (fun b hb => by simp at hb; omega)
 refine s_pq r68 <| s_pq (.int .i64 g69) <| s_pq (.int .i64 g70) <| s_pq (.int .i64 g71) <| s_nil <| p_seqN <| v_seq <| v_ops <| s_load (.agg #[r65, r66]) (fun _ q => bxx80.loadA rfl q) <| s_pq r68 <| s_pq (.int .i64 g69) <| s_pq (.int .i64 g70) <| s_pq (.int .i64 g71) ?_
 have f82 := ((s_r65.ext eh76).mod mh79 (fun b hb hc => by simp at hc; have := lt_r65 b hb; omega))
 have f83 := ((s_r66.ext eh76).mod mh79 (fun b hb hc => by simp at hc; have := lt_r66 b hb; omega))
 have f84 := ((s_r68.ext eh76).mod mh79 (fun b hb hc => by simp at hc; have := lt_r68 b hb; omega))
 refine s_call [.agg #[r65, r66], r68, .int .i64 g69, .int .i64 g70, .int .i64 g71] rfl (impl_LatestStart_ok g64 r65 r66 r68 g67 g69 g70 g71 _ f82.toSl f83.toSl f84.toSl) ?_
 rintro _ h85 ⟨rfl, eh85⟩
 have E86 := E81.trans eh85
 have z87 := eh85.size
 refine s_pq (.tuple #[.int .i64 ((latest g64 g67 g69 g70 g71).1), .bool ((latest g64 g67 g69 g70 g71).2)]) <| s_pq (.int .i64 ((latest g64 g67 g69 g70 g71).1)) <| s_pq (.bool ((latest g64 g67 g69 g70 g71).2)) <| s_pq (.int .i64 ((latest g64 g67 g69 g70 g71).1)) <| s_pq (.bool ((latest g64 g67 g69 g70 g71).2)) <| s_nil <| p_seqN <| v_seq <| v_ops ?_
 have f88 := (bxx80.ext eh85)
 refine s_load (.agg #[r65, r66]) (fun _ q => f88.loadA rfl q) <| s_pq r68 <| s_pq (.int .i64 g69) <| s_pq (.int .i64 g70) <| s_pq (.int .i64 g71) ?_
 have f89 := (f82.ext eh85)
 have f90 := (f83.ext eh85)
 have f91 := (f84.ext eh85)
 refine s_call [.agg #[r65, r66], r68, .int .i64 g69, .int .i64 g70, .int .i64 g71] rfl (spec_LatestStart_ok g64 r65 r66 r68 g67 g69 g70 g71 _ f89.toSl f90.toSl f91.toSl) ?_
 rintro _ h92 ⟨rfl, eh92⟩
 have E93 := E86.trans eh92
 have z94 := eh92.size
 refine s_pq (.tuple #[.int .i64 ((latest g64 g67 g69 g70 g71).1), .bool ((latest g64 g67 g69 g70 g71).2)]) <| s_pq (.int .i64 ((latest g64 g67 g69 g70 g71).1)) <| s_pq (.bool ((latest g64 g67 g69 g70 g71).2)) <| s_pq (.int .i64 ((latest g64 g67 g69 g70 g71).1)) <| s_pq (.bool ((latest g64 g67 g69 g70 g71).2)) <| s_nil <| p_seqN <| v_seq <| v_ops <| s_pq v_more ?_
 have f95 := (((((f63.ext eh72).ext eh76).mod mh79 (fun b hb hc => by simp at hc; have := lt_more b hb; omega)).ext eh85).ext eh92)
 refine s_call [v_more] rfl (spec_DrawArrivalsFrom_ok v_more more _ f95 (by first | omega | assumption | (simp; done) | (simp; omega)) (by first | omega | assumption | (simp; done) | (simp; omega))) ?_
 rintro _ h103 ⟨g96, g99, g101, g102, r97, r98, r100, rfl, s_r97, fr_r97, s_r98, fr_r98, s_r100, fr_r100, ap_r97_r98, ap_r97_r100, ap_r98_r100, qh103, eh103⟩
 have E104 := E93.trans eh103
 have z105 := eh103.size
 have lt_r97 := s_r97.lt
 have lt_r98 := s_r98.lt
 have lt_r100 := s_r100.lt
 refine s_pq (.tuple #[.agg #[r97, r98], r100, .int .i64 g101, .int .i64 g102]) <| s_pq (.agg #[r97, r98]) <| s_pq r100 <| s_pq (.int .i64 g101) <| s_pq (.int .i64 g102) ?_
 refine s_new (fun h107 b106 hbb106 hzb106 eh107 bxb106 => ?_)
 have E108 := E104.trans eh107
 have z109 := eh107.size
 have lbb106 := bxb106.lt
 refine s_stBx (.agg #[r97, r98]) [r97, r98] [r97, r98] bxb106 rfl rfl rfl rfl (by simp) (all_cons s_r97.one1 (all_cons s_r98.one1 all_nil)) rfl (fun h110 mh110 sh110 bxx111 => ?_)
 have E112 := E108.mod mh110 (fun b hb => by simp at hb; omega)
 refine s_pq r100 <| s_pq (.int .i64 g101) <| s_pq (.int .i64 g102) <| s_nil <| p_seqN <| v_seq <| v_ops <| s_load (.agg #[r97, r98]) (fun _ q => bxx111.loadA rfl q) <| s_pq r100 <| s_pq (.int .i64 g101) <| s_pq (.int .i64 g102) ?_
 have f113 := ((s_r97.ext eh107).mod mh110 (fun b hb hc => by simp at hc; have := lt_r97 b hb; omega))
 have f114 := ((s_r98.ext eh107).mod mh110 (fun b hb hc => by simp at hc; have := lt_r98 b hb; omega))
 have f115 := ((s_r100.ext eh107).mod mh110 (fun b hb hc => by simp at hc; have := lt_r100 b hb; omega))
 refine s_call [.agg #[r97, r98], r100, .int .i64 g101, .int .i64 g102] rfl (impl_ArrivalsFrom_ok g96 r97 r98 r100 g99 g101 g102 _ f113.toSl f114.toSl f115.toSl) ?_
 rintro _ h117 ⟨r116, rfl, s_r116, fr_r116, eh117⟩
 have E118 := E112.trans eh117
 have z119 := eh117.size
 refine s_pq (.tuple #[r116, .bool ((arrsFrom g96 g99 g101 g102).2)]) <| s_pq r116 <| s_pq (.bool ((arrsFrom g96 g99 g101 g102).2)) <| s_pq r116 <| s_pq (.bool ((arrsFrom g96 g99 g101 g102).2)) <| s_nil <| p_seqN <| v_seq <| v_ops ?_
 have f120 := (bxx111.ext eh117)
 refine s_load (.agg #[r97, r98]) (fun _ q => f120.loadA rfl q) <| s_pq r100 <| s_pq (.int .i64 g101) <| s_pq (.int .i64 g102) ?_
 have f121 := (f113.ext eh117)
 have f122 := (f114.ext eh117)
 have f123 := (f115.ext eh117)
 refine s_call [.agg #[r97, r98], r100, .int .i64 g101, .int .i64 g102] rfl (spec_ArrivalsFrom_ok g96 r97 r98 r100 g99 g101 g102 _ f121.toSl f122.toSl f123.toSl) ?_
 rintro _ h125 ⟨r124, rfl, s_r124, fr_r124, eh125⟩
 have E126 := E118.trans eh125
 have z127 := eh125.size
 obtain ⟨fl128a, fl128b⟩ := way_flags g2 g5 g7 g8 g9
 refine s_pq (.tuple #[r124, .bool ((arrsFrom g96 g99 g101 g102).2)]) <| s_pq r124 <| s_pq (.bool ((arrsFrom g96 g99 g101 g102).2)) <| s_pq r124 <| s_pq (.bool ((arrsFrom g96 g99 g101 g102).2)) <| s_nil <| p_seqN ?_
 refine v_seqM1 [(5, .pointer (some ⟨b13, 0, none⟩)), (6, r6), (7, .int .i64 g7), (8, .int .i64 g8), (9, .int .i64 g9), (10, r23), (11, .bool ((wayOf g2 g5 g7 g8 g9).2)), (12, r31), (16, .int .i64 ((firstOf g2 g5 g7 g8 g9).1)), (20, .int .i64 ((fogDelay g2 g5 g7 g8 g9).1)), (22, .pointer (some ⟨b75, 0, none⟩)), (23, r68), (24, .int .i64 g69), (25, .int .i64 g70), (26, .int .i64 g71), (28, .bool ((latest g64 g67 g69 g70 g71).2)), (29, .int .i64 ((latest g64 g67 g69 g70 g71).1)), (31, .pointer (some ⟨b106, 0, none⟩)), (32, r100), (33, .int .i64 g101), (34, .int .i64 g102), (36, .bool ((arrsFrom g96 g99 g101 g102).2)), (37, r124)] (fun R130 h131 eh131 => ?_) (fun M129 => ?_)
 ·
  have E132 := E126.trans eh131
  have z133 := eh131.size
  refine v_seqM1 [(5, .pointer (some ⟨b13, 0, none⟩)), (6, r6), (7, .int .i64 g7), (8, .int .i64 g8), (9, .int .i64 g9), (10, r23), (11, .bool ((wayOf g2 g5 g7 g8 g9).2)), (12, r31), (16, .int .i64 ((firstOf g2 g5 g7 g8 g9).1)), (20, .int .i64 ((fogDelay g2 g5 g7 g8 g9).1)), (31, .pointer (some ⟨b106, 0, none⟩)), (32, r100), (33, .int .i64 g101), (34, .int .i64 g102), (36, .bool ((arrsFrom g96 g99 g101 g102).2)), (37, r124)] (fun R135 h136 eh136 => ?_) (fun M134 => ?_)
  ·
   have E137 := E132.trans eh136
   have z138 := eh136.size
   refine v_seqM1 [(5, .pointer (some ⟨b13, 0, none⟩)), (6, r6), (7, .int .i64 g7), (8, .int .i64 g8), (9, .int .i64 g9), (10, r23), (11, .bool ((wayOf g2 g5 g7 g8 g9).2)), (12, r31), (16, .int .i64 ((firstOf g2 g5 g7 g8 g9).1)), (20, .int .i64 ((fogDelay g2 g5 g7 g8 g9).1))] (fun R140 h141 eh141 => ?_) (fun M139 => ?_)
   ·
    have E142 := E137.trans eh141
    have z143 := eh141.size
    refine v_seq <| v_seq <| v_ops <| s_pq (.bool ((wayOf g2 g5 g7 g8 g9).2)) <| s_pq (.bool (!(wayOf g2 g5 g7 g8 g9).2)) <| s_nil <| p_seqN ?_
    refine v_cond rfl (fun c144 => ?_) (fun c144 => ?_)
    ·
     refine v_seq <| v_ops <| s_pq (.bool true) <| s_nil <| p_seqN <| v_ret <| p_seqR <| p_ret [.bool true] (.bool true) (fun _ q => q) rfl ?_
     have ho : true = true := by first | rfl | ((have q_ := hend (by assumption)); rw [beqI]; first | exact (decide_eq_true (by omega)).symm | exact decide_eq_true (by omega)) | (exfalso; first | omega | ((have q_ := hat _ (by assumption)); (obtain ⟨qa_, qb_, qc_⟩ := q_); first | omega | (have qd_ := qb_ (by assumption); omega) | (have qd_ := qc_ (by assumption); omega) | (simp_all; done)) | (simp_all; done))
     exact ⟨by first | (rw [ho]; done) | rfl, E142⟩
    have c144 := Classical.not_not.1 c144
    obtain ⟨hal, hf1, hf2, hf3, hf4, hf5, hf6, hf7, hf8⟩ := way_facts c144
    obtain ⟨hw1, hw2, hw3, hw4⟩ := way_along hal
    have hf9 : (fogDelay g2 g5 g7 g8 g9).1 = (firstOf g2 g5 g7 g8 g9).1 - g9 - (firstOf g2 [] g7 g8 0).1 := by rw [hf8]
    have hw5 : (arrivOf g2 g5 ((wayOf g2 g5 g7 g8 g9).1) g9).1 = (firstOf g2 g5 g7 g8 g9).1 := by rw [hw3, hf2]
    have hwb := waits_bd hal
    have hbd := along_bd hal
    have hp0 := (first_rch hf6).2.1
    have hs16 : ((wayOf g2 g5 g7 g8 g9).1).length ≤ 16 := hbd.2.2.2.2
    have hs0 : 0 < ((wayOf g2 g5 g7 g8 g9).1).length := hf3
    have hf10 : ¬ (fogDelay g2 g5 g7 g8 g9).1 < 0 := by rw [hf9]; omega
    refine v_skip <| p_seqN <| v_seq <| v_ops ?_
    have f145 := ((((((((((((((f56.ext eh60).ext eh72).ext eh76).mod mh79 (by simp; omega)).ext eh85).ext eh92).ext eh103).ext eh107).mod mh110 (by simp; omega)).ext eh117).ext eh125).ext eh131).ext eh136).ext eh141)
    refine s_load (.agg #[r3, r4]) (fun _ q => f145.loadA rfl q) <| s_pq (.int .i64 g7) <| s_pq (.int .i64 g8) ?_
    have f146 := ((((((((((((((f57.ext eh60).ext eh72).ext eh76).mod mh79 (fun b hb hc => by simp at hc; have := lt_r3 b hb; omega)).ext eh85).ext eh92).ext eh103).ext eh107).mod mh110 (fun b hb hc => by simp at hc; have := lt_r3 b hb; omega)).ext eh117).ext eh125).ext eh131).ext eh136).ext eh141)
    have f147 := ((((((((((((((f58.ext eh60).ext eh72).ext eh76).mod mh79 (fun b hb hc => by simp at hc; have := lt_r4 b hb; omega)).ext eh85).ext eh92).ext eh103).ext eh107).mod mh110 (fun b hb hc => by simp at hc; have := lt_r4 b hb; omega)).ext eh117).ext eh125).ext eh131).ext eh136).ext eh141)
    refine s_call [.agg #[r3, r4], .int .i64 g7, .int .i64 g8] rfl (impl_PlainDelay_ok g2 r3 r4 g7 g8 _ f146.toSl f147.toSl) ?_
    rintro _ h148 ⟨rfl, eh148⟩
    have E149 := E142.trans eh148
    have z150 := eh148.size
    refine s_pq (.tuple #[.int .i64 ((firstOf g2 [] g7 g8 0).1), .bool ((firstOf g2 [] g7 g8 0).2)]) <| s_pq (.int .i64 ((firstOf g2 [] g7 g8 0).1)) <| s_pq (.bool ((firstOf g2 [] g7 g8 0).2)) <| s_pq (.int .i64 ((firstOf g2 [] g7 g8 0).1)) <| s_pq (.bool ((firstOf g2 [] g7 g8 0).2)) <| s_nil <| p_seqN <| v_seq <| v_ops ?_
    have f151 := (f145.ext eh148)
    refine s_load (.agg #[r3, r4]) (fun _ q => f151.loadA rfl q) <| s_pq (.int .i64 g7) <| s_pq (.int .i64 g8) ?_
    have f152 := (f146.ext eh148)
    have f153 := (f147.ext eh148)
    refine s_call [.agg #[r3, r4], .int .i64 g7, .int .i64 g8] rfl (spec_PlainDelay_ok g2 r3 r4 g7 g8 _ f152.toSl f153.toSl) ?_
    rintro _ h154 ⟨rfl, eh154⟩
    have E155 := E149.trans eh154
    have z156 := eh154.size
    refine s_pq (.tuple #[.int .i64 ((firstOf g2 [] g7 g8 0).1), .bool ((firstOf g2 [] g7 g8 0).2)]) <| s_pq (.int .i64 ((firstOf g2 [] g7 g8 0).1)) <| s_pq (.bool ((firstOf g2 [] g7 g8 0).2)) <| s_pq (.int .i64 ((firstOf g2 [] g7 g8 0).1)) <| s_pq (.bool ((firstOf g2 [] g7 g8 0).2)) <| s_nil <| p_seqN <| v_seq <| v_ops ?_
    have f157 := (f151.ext eh154)
    refine s_load (.agg #[r3, r4]) (fun _ q => f157.loadA rfl q) <| s_pq r6 <| s_pq r23 <| s_pq (.int .i64 g9) ?_
    have f158 := (f152.ext eh154)
    have f159 := (f153.ext eh154)
    have f160 := ((((((((((((((((f59.ext eh60).ext eh72).ext eh76).mod mh79 (fun b hb hc => by simp at hc; have := lt_r6 b hb; omega)).ext eh85).ext eh92).ext eh103).ext eh107).mod mh110 (fun b hb hc => by simp at hc; have := lt_r6 b hb; omega)).ext eh117).ext eh125).ext eh131).ext eh136).ext eh141).ext eh148).ext eh154)
    have f161 := ((((((((((((((((((((s_r23.ext eh32).ext eh39).ext eh46).ext eh53).ext eh60).ext eh72).ext eh76).mod mh79 (fun b hb hc => by simp at hc; have := lt_r23 b hb; omega)).ext eh85).ext eh92).ext eh103).ext eh107).mod mh110 (fun b hb hc => by simp at hc; have := lt_r23 b hb; omega)).ext eh117).ext eh125).ext eh131).ext eh136).ext eh141).ext eh148).ext eh154)
    refine s_call [.agg #[r3, r4], r6, r23, .int .i64 g9] rfl (impl_ArrivalAlong_ok g2 r3 r4 r6 g5 r23 ((wayOf g2 g5 g7 g8 g9).1) g9 _ f158.toSl f159.toSl f160.toSl f161.toSl) ?_
    rintro _ h162 ⟨rfl, eh162⟩
    have E163 := E155.trans eh162
    have z164 := eh162.size
    refine s_pq (.tuple #[.int .i64 ((arrivOf g2 g5 ((wayOf g2 g5 g7 g8 g9).1) g9).1), .bool ((arrivOf g2 g5 ((wayOf g2 g5 g7 g8 g9).1) g9).2)]) <| s_pq (.int .i64 ((arrivOf g2 g5 ((wayOf g2 g5 g7 g8 g9).1) g9).1)) <| s_pq (.bool ((arrivOf g2 g5 ((wayOf g2 g5 g7 g8 g9).1) g9).2)) <| s_pq (.int .i64 ((arrivOf g2 g5 ((wayOf g2 g5 g7 g8 g9).1) g9).1)) <| s_pq (.bool ((arrivOf g2 g5 ((wayOf g2 g5 g7 g8 g9).1) g9).2)) <| s_nil <| p_seqN <| v_seq <| v_ops ?_
    have f165 := (f157.ext eh162)
    refine s_load (.agg #[r3, r4]) (fun _ q => f165.loadA rfl q) <| s_pq r6 <| s_pq r23 <| s_pq (.int .i64 g9) ?_
    have f166 := (f158.ext eh162)
    have f167 := (f159.ext eh162)
    have f168 := (f160.ext eh162)
    have f169 := (f161.ext eh162)
    refine s_call [.agg #[r3, r4], r6, r23, .int .i64 g9] rfl (impl_WaitsAlong_ok g2 r3 r4 r6 g5 r23 ((wayOf g2 g5 g7 g8 g9).1) g9 _ f166.toSl f167.toSl f168.toSl f169.toSl) ?_
    rintro _ h171 ⟨r170, rfl, s_r170, fr_r170, eh171⟩
    have E172 := E163.trans eh171
    have z173 := eh171.size
    refine s_pq (.tuple #[r170, .bool ((waitsOf g2 g5 ((wayOf g2 g5 g7 g8 g9).1) g9).2)]) <| s_pq r170 <| s_pq (.bool ((waitsOf g2 g5 ((wayOf g2 g5 g7 g8 g9).1) g9).2)) <| s_pq r170 <| s_pq (.bool ((waitsOf g2 g5 ((wayOf g2 g5 g7 g8 g9).1) g9).2)) <| s_nil <| p_seqN <| v_seq <| v_ops ?_
    have f174 := (f165.ext eh171)
    refine s_load (.agg #[r3, r4]) (fun _ q => f174.loadA rfl q) <| s_pq r6 <| s_pq r31 <| s_pq (.int .i64 g9) ?_
    have f175 := (f166.ext eh171)
    have f176 := (f167.ext eh171)
    have f177 := (f168.ext eh171)
    have f178 := (((((((((((((((((((((s_r31.ext eh39).ext eh46).ext eh53).ext eh60).ext eh72).ext eh76).mod mh79 (fun b hb hc => by simp at hc; have := lt_r31 b hb; omega)).ext eh85).ext eh92).ext eh103).ext eh107).mod mh110 (fun b hb hc => by simp at hc; have := lt_r31 b hb; omega)).ext eh117).ext eh125).ext eh131).ext eh136).ext eh141).ext eh148).ext eh154).ext eh162).ext eh171)
    refine s_call [.agg #[r3, r4], r6, r31, .int .i64 g9] rfl (spec_WaitsAlong_ok g2 r3 r4 r6 g5 r31 ((wayOf g2 g5 g7 g8 g9).1) g9 _ f175.toSl f176.toSl f177.toSl f178.toSl) ?_
    rintro _ h180 ⟨r179, rfl, s_r179, fr_r179, eh180⟩
    have E181 := E172.trans eh180
    have z182 := eh180.size
    refine s_pq (.tuple #[r179, .bool ((waitsOf g2 g5 ((wayOf g2 g5 g7 g8 g9).1) g9).2)]) <| s_pq r179 <| s_pq (.bool ((waitsOf g2 g5 ((wayOf g2 g5 g7 g8 g9).1) g9).2)) <| s_pq r179 <| s_pq (.bool ((waitsOf g2 g5 ((wayOf g2 g5 g7 g8 g9).1) g9).2)) <| s_nil <| p_seqN ?_
    refine v_seqM1 [(5, .pointer (some ⟨b13, 0, none⟩)), (9, .int .i64 g9), (12, r31), (16, .int .i64 ((firstOf g2 g5 g7 g8 g9).1)), (55, r179)] (fun R184 h185 eh185 => ?_) (fun M183 => ?_)
    ·
     have E186 := E181.trans eh185
     have z187 := eh185.size
     refine v_seq <| v_ops <| s_pq (.int .i64 0) <| s_nil <| p_seqN <| v_seq <| v_seq <| v_ops <| s_pq (.int .i64 1) <| s_nil <| p_seqN <| v_block ?_
     have nk189 : b13 ∉ blks r3 := (fun hc => by have := lt_r3 _ hc; omega)
     have nk190 : b13 ∉ blks r4 := (fun hc => by have := lt_r4 _ hc; omega)
     have nk191 : b13 ∉ blks r31 := (fun hc => by have := fr_r31 _ hc; omega)
     have nk192 : b13 ∉ blks r179 := (fun hc => by have := fr_r179 _ hc; omega)
     have f193 := ((f174.ext eh180).ext eh185)
     have f194 := ((f175.ext eh180).ext eh185)
     have f195 := ((f176.ext eh180).ext eh185)
     have f196 := ((f178.ext eh180).ext eh185)
     have f197 := (s_r179.ext eh185)
     refine v_loop2 (α := Int) (β := Int) (fun i sm => [(5, .pointer (some ⟨b13, 0, none⟩)), (9, .int .i64 g9), (12, r31), (16, .int .i64 ((firstOf g2 g5 g7 g8 g9).1)), (55, r179), (57, .int .i64 sm), (58, .int .i64 i)]) (fun i sm hh => Ext h hh ∧ Bx hh b13 [r3, r4] 26 ∧ SlO hh r3 g2.towers ∧ SlO hh r4 g2.links ∧ SlO hh r31 ((wayOf g2 g5 g7 g8 g9).1) ∧ SlO hh r179 ((waitsOf g2 g5 ((wayOf g2 g5 g7 g8 g9).1) g9).1) ∧ 1 ≤ i ∧ i ≤ (((wayOf g2 g5 g7 g8 g9).1).length : Int) ∧ (alTo g2 g5 ((linksOf g2 ((wayOf g2 g5 g7 g8 g9).1)).take (i - 1).toNat) g9).1 = g9 + sm + ((waitsOf g2 g5 ((wayOf g2 g5 g7 g8 g9).1) g9).1.take (i - 1).toNat).sum ∧ 0 ≤ sm ∧ sm ≤ 60 * (i - 1)) (fun i sm => ((((wayOf g2 g5 g7 g8 g9).1).length : Int) - i).toNat) 1 0 ⟨rfl, rfl, rfl, rfl, rfl, rfl, rfl⟩ ⟨E186, f193, f194, f195, f196, f197, (by exact ⟨by omega, by omega, by simp [alTo], by omega, by omega⟩)⟩ ?_
     rintro i sm R198 h188 ⟨Eh, bxb13, s_r3, s_r4, s_r31, s_r179, ⟨hi0, hi1, hnow, hs0, hs1⟩⟩
     have zEh := Eh.size
     have ltk_r3 := s_r3.lt
     have ltk_r4 := s_r4.lt
     have lbb13 := bxb13.lt
     have ltk_r31 := s_r31.lt
     have ltk_r179 := s_r179.lt
     have hlk : ∀ y x, ((wayOf g2 g5 g7 g8 g9).1)[(i - 1).toNat]? = some y → ((wayOf g2 g5 g7 g8 g9).1)[(i).toNat]? = some x → lbOut g2 y x = (lkI g2 y x, true) ∧ 0 ≤ lkI g2 y x ∧ (lkI g2 y x).toNat < g2.links.length := fun y x h1 h2 => step_facts hal (by omega) h1 h2
     have hst : ∀ y x z, ((wayOf g2 g5 g7 g8 g9).1)[(i - 1).toNat]? = some y → ((wayOf g2 g5 g7 g8 g9).1)[(i).toNat]? = some x → g2.links[((lbOut g2 y x).1).toNat]? = some z → (alTo g2 g5 ((linksOf g2 ((wayOf g2 g5 g7 g8 g9).1)).take (i).toNat) g9).1 = g9 + (sm + z.delay) + ((waitsOf g2 g5 ((wayOf g2 g5 g7 g8 g9).1) g9).1.take (i).toNat).sum ∧ 1 ≤ z.delay ∧ z.delay ≤ 60 := fun y x z h1 h2 h4 => sum_step hal (by omega) h1 h2 h4 hnow
     have hend : ¬ i < (((wayOf g2 g5 g7 g8 g9).1).length : Int) → (alTo g2 g5 (linksOf g2 ((wayOf g2 g5 g7 g8 g9).1)) g9).1 = g9 + sm + (waitsOf g2 g5 ((wayOf g2 g5 g7 g8 g9).1) g9).1.sum := fun h => sum_end hal (by omega) hnow
     refine v_seq <| v_seq <| v_ops <| s_pq (.int .i64 i) <| s_pq r31 <| s_pure (.int .i64 (((wayOf g2 g5 g7 g8 g9).1).length : Int)) (fun _ q => s_r31.lenVC q) <| s_pq (.bool (decide (i < (((wayOf g2 g5 g7 g8 g9).1).length : Int)))) <| s_nil <| p_seqN ?_
     refine v_cond rfl (fun c202 => ?_) (fun c202 => ?_)
     ·
      refine v_skip <| p_seqN <| v_seq <| v_block <| v_seq <| v_drawF <| d_pq r31 <| d_pq (.int .i64 i) <| d_pureT (.int .i64 (i - 1)) (fun _ q => ArithVC.mk (by omega) q) ?_
      have hk203 : ((i - 1)).toNat < ((wayOf g2 g5 g7 g8 g9).1).length := (by first | omega | (simp; omega))
      obtain ⟨x204, hx204⟩ : ∃ x, ((wayOf g2 g5 g7 g8 g9).1)[((i - 1)).toNat]? = some x := ⟨_, List.getElem?_eq_getElem hk203⟩
      refine d_pureT (.pointer (some ⟨sblk r31, soff r31 + (((i - 1)).toNat) * 1, none⟩)) (fun _ q => s_r31.idx (k := ((i - 1)).toNat) (by omega) hk203 q) <| d_pq r31 <| d_pq (.int .i64 i) ?_
      have hk205 : (i).toNat < ((wayOf g2 g5 g7 g8 g9).1).length := (by first | omega | (simp; omega))
      obtain ⟨x206, hx206⟩ : ∃ x, ((wayOf g2 g5 g7 g8 g9).1)[(i).toNat]? = some x := ⟨_, List.getElem?_eq_getElem hk205⟩
      refine d_pureT (.pointer (some ⟨sblk r31, soff r31 + ((i).toNat) * 1, none⟩)) (fun _ q => s_r31.idx (k := (i).toNat) (by omega) hk205 q) <| d_loadO (.agg #[r3, r4]) (fun _ q => bxb13.loadA rfl q) <| d_loadO (.int .i64 x204) (fun _ q => s_r31.load1 hx204 rfl q) <| d_loadO (.int .i64 x206) (fun _ q => s_r31.load1 hx206 rfl q) <| d_eff <| s_call [.agg #[r3, r4], .int .i64 x204, .int .i64 x206] rfl (spec_LinkBetween_ok g2 r3 r4 x204 x206 _ s_r3.toSl s_r4.toSl) ?_
      rintro _ h207 ⟨rfl, eh207⟩
      have E208 := Eh.trans eh207
      have z209 := eh207.size
      obtain ⟨lb211a, lb211b, lb211c⟩ := hlk _ _ hx204 hx206
      have lb211d : (lbOut g2 x204 x206).2 = true := by rw [lb211a]
      have lb211e : 0 ≤ (lbOut g2 x204 x206).1 ∧ (lbOut g2 x204 x206).1.toNat < g2.links.length := by rw [lb211a]; exact ⟨lb211b, lb211c⟩
      refine s_nil ⟨fun hl => (by cases hl), ?_⟩
      refine d_pq (.tuple #[.int .i64 ((lbOut g2 x204 x206).1), .bool ((lbOut g2 x204 x206).2)]) <| d_pq (.int .i64 ((lbOut g2 x204 x206).1)) <| d_pq (.bool ((lbOut g2 x204 x206).2)) <| d_pq (.int .i64 ((lbOut g2 x204 x206).1)) <| d_pq (.bool ((lbOut g2 x204 x206).2)) <| d_done <| p_seqN <| v_seq <| v_seq <| v_ops <| s_pq (.bool ((lbOut g2 x204 x206).2)) <| s_pq (.bool (!(lbOut g2 x204 x206).2)) <| s_nil <| p_seqN <| v_condN rfl (by first | assumption | omega | (simp [fl128a]; done) | (simp [fl128b]; done) | (simp [hf6]; done) | (simp [hw1]; done) | (simp [hw2]; done) | (simp [hw5]; done) | (simp [hf9]; done) | (simp [lb211d]; done) | (simp; done) | (simp; omega) | simp_all) ?_
      refine v_skip <| p_seqN <| v_ops <| s_pq (.int .i64 sm) <| s_pq (.pointer (some ⟨b13, 1, none⟩)) ?_
      have f212 := (bxb13.ext eh207)
      refine s_load r4 (fun _ q => f212.load rfl q) <| s_pq (.int .i64 ((lbOut g2 x204 x206).1)) ?_
      have f213 := (s_r4.ext eh207)
      have hk214 : ((lbOut g2 x204 x206).1).toNat < g2.links.length := (by first | omega | (simp; omega))
      obtain ⟨x215, hx215⟩ : ∃ x, g2.links[((lbOut g2 x204 x206).1).toNat]? = some x := ⟨_, List.getElem?_eq_getElem hk214⟩
      refine s_pure (.pointer (some ⟨sblk r4, soff r4 + (((lbOut g2 x204 x206).1).toNat) * 3, none⟩)) (fun _ q => f213.idx (k := ((lbOut g2 x204 x206).1).toNat) (by omega) hk214 q) <| s_pq (.pointer (some ⟨sblk r4, soff r4 + (((lbOut g2 x204 x206).1).toNat) * 3 + 2, none⟩)) <| s_load (.int .i64 x215.delay) (fun _ q => f213.load hx215 (j := 2) rfl rfl q) <| s_pure (.int .i64 (sm + x215.delay)) (fun _ q => ArithVC.mk (by (have q_ := hst _ _ _ (by assumption) (by assumption) (by assumption)); omega) q) ?_
      refine s_pq (.int .i64 (sm + x215.delay)) <| s_nil <| p_blkN <| p_seqN <| v_ops <| s_pq (.int .i64 i) <| s_pure (.int .i64 (i + 1)) (fun _ q => ArithVC.mk (by omega) q) <| s_pq (.int .i64 (i + 1)) <| s_nil ?_
      have f216 := (s_r3.ext eh207)
      have f217 := (s_r31.ext eh207)
      have f218 := (s_r179.ext eh207)
      exact p_lpN ⟨(i + 1), (sm + x215.delay), ⟨rfl, rfl, rfl, rfl, rfl, rfl, rfl⟩, ⟨E208, f212, f216, f213, f217, f218, (by (obtain ⟨q1_, q2_, q3_⟩ := hst _ _ _ (by assumption) (by assumption) (by assumption)); exact ⟨by omega, by omega, by rw [show (i + 1 - 1).toNat = (i).toNat by omega, q1_], by omega, by omega⟩)⟩, by omega⟩
     refine v_exit <| p_seqX <| p_lpX <| p_blkX <| p_seqN <| v_seq <| v_ops <| s_pq (.int .i64 ((firstOf g2 g5 g7 g8 g9).1)) <| s_pq (.int .i64 g9) <| s_pq (.int .i64 sm) <| s_pure (.int .i64 (g9 + sm)) (fun _ q => ArithVC.mk (by omega) q) <| s_pq r179 <| s_call [r179] rfl (laws_qSum_ok r179 ((waitsOf g2 g5 ((wayOf g2 g5 g7 g8 g9).1) g9).1) _ s_r179.toSl (by first | omega | assumption | (simp; omega)) (by first | omega | assumption | (simp; omega))) ?_
     rintro _ h219 ⟨rfl, eh219⟩
     have E220 := Eh.trans eh219
     have z221 := eh219.size
     refine s_pure (.int .i64 ((g9 + sm) + ((waitsOf g2 g5 ((wayOf g2 g5 g7 g8 g9).1) g9).1).sum)) (fun _ q => ArithVC.mk (by omega) q) <| s_pq (.bool ((firstOf g2 g5 g7 g8 g9).1 == ((g9 + sm) + ((waitsOf g2 g5 ((wayOf g2 g5 g7 g8 g9).1) g9).1).sum))) <| s_pq (.bool ((firstOf g2 g5 g7 g8 g9).1 == ((g9 + sm) + ((waitsOf g2 g5 ((wayOf g2 g5 g7 g8 g9).1) g9).1).sum))) <| s_nil <| p_seqN <| v_ret <| p_ret [.bool ((firstOf g2 g5 g7 g8 g9).1 == ((g9 + sm) + ((waitsOf g2 g5 ((wayOf g2 g5 g7 g8 g9).1) g9).1).sum))] (.bool ((firstOf g2 g5 g7 g8 g9).1 == ((g9 + sm) + ((waitsOf g2 g5 ((wayOf g2 g5 g7 g8 g9).1) g9).1).sum))) (fun _ q => q) rfl ?_
     have ho : true = ((firstOf g2 g5 g7 g8 g9).1 == ((g9 + sm) + ((waitsOf g2 g5 ((wayOf g2 g5 g7 g8 g9).1) g9).1).sum)) := by first | rfl | ((have q_ := hend (by assumption)); rw [beqI]; first | exact (decide_eq_true (by omega)).symm | exact decide_eq_true (by omega)) | (exfalso; first | omega | ((have q_ := hat _ (by assumption)); (obtain ⟨qa_, qb_, qc_⟩ := q_); first | omega | (have qd_ := qb_ (by assumption); omega) | (have qd_ := qc_ (by assumption); omega) | (simp_all; done)) | (simp_all; done))
     exact ⟨by first | (rw [ho]; done) | rfl, E220⟩
    refine v_seq <| v_seq <| v_ops <| s_pq (.bool ((firstOf g2 [] g7 g8 0).2)) <| s_pq (.bool (!(firstOf g2 [] g7 g8 0).2)) <| s_pq (.bool (!(firstOf g2 [] g7 g8 0).2)) <| s_splitN rfl (by first | assumption | omega | (simp [fl128a]; done) | (simp [fl128b]; done) | (simp [hf6]; done) | (simp [hw1]; done) | (simp [hw2]; done) | (simp [hw5]; done) | (simp [hf9]; done) | (simp; done) | (simp; omega) | simp_all) <| s_run rfl <| s_pq (.bool ((firstOf g2 [] g7 g8 0).2)) <| s_run rfl <| s_pq (.bool (!(firstOf g2 [] g7 g8 0).2)) ?_
    refine s_pq (.bool (!(firstOf g2 [] g7 g8 0).2)) <| s_pq (.bool (!(firstOf g2 [] g7 g8 0).2)) <| s_splitN rfl (by first | assumption | omega | (simp [fl128a]; done) | (simp [fl128b]; done) | (simp [hf6]; done) | (simp [hw1]; done) | (simp [hw2]; done) | (simp [hw5]; done) | (simp [hf9]; done) | (simp; done) | (simp; omega) | simp_all) <| s_run rfl <| s_pq (.int .i64 ((firstOf g2 [] g7 g8 0).1)) <| s_run rfl <| s_pq (.int .i64 ((firstOf g2 [] g7 g8 0).1)) <| s_run rfl <| s_pq (.bool ((firstOf g2 [] g7 g8 0).1 != (firstOf g2 [] g7 g8 0).1)) ?_
    refine s_pq (.bool ((firstOf g2 [] g7 g8 0).1 != (firstOf g2 [] g7 g8 0).1)) <| s_pq (.bool ((firstOf g2 [] g7 g8 0).1 != (firstOf g2 [] g7 g8 0).1)) <| s_splitN rfl (by first | assumption | omega | (simp [fl128a]; done) | (simp [fl128b]; done) | (simp [hf6]; done) | (simp [hw1]; done) | (simp [hw2]; done) | (simp [hw5]; done) | (simp [hf9]; done) | (simp; done) | (simp; omega) | simp_all) <| s_run rfl <| s_pq (.bool ((arrivOf g2 g5 ((wayOf g2 g5 g7 g8 g9).1) g9).2)) <| s_run rfl <| s_pq (.bool (!(arrivOf g2 g5 ((wayOf g2 g5 g7 g8 g9).1) g9).2)) ?_
    refine s_pq (.bool (!(arrivOf g2 g5 ((wayOf g2 g5 g7 g8 g9).1) g9).2)) <| s_pq (.bool (!(arrivOf g2 g5 ((wayOf g2 g5 g7 g8 g9).1) g9).2)) <| s_splitN rfl (by first | assumption | omega | (simp [fl128a]; done) | (simp [fl128b]; done) | (simp [hf6]; done) | (simp [hw1]; done) | (simp [hw2]; done) | (simp [hw5]; done) | (simp [hf9]; done) | (simp; done) | (simp; omega) | simp_all) <| s_run rfl <| s_pq (.int .i64 ((arrivOf g2 g5 ((wayOf g2 g5 g7 g8 g9).1) g9).1)) <| s_run rfl <| s_pq (.int .i64 ((firstOf g2 g5 g7 g8 g9).1)) ?_
    refine s_run rfl <| s_pq (.bool ((arrivOf g2 g5 ((wayOf g2 g5 g7 g8 g9).1) g9).1 != (firstOf g2 g5 g7 g8 g9).1)) <| s_pq (.bool ((arrivOf g2 g5 ((wayOf g2 g5 g7 g8 g9).1) g9).1 != (firstOf g2 g5 g7 g8 g9).1)) <| s_pq (.bool ((arrivOf g2 g5 ((wayOf g2 g5 g7 g8 g9).1) g9).1 != (firstOf g2 g5 g7 g8 g9).1)) <| s_splitN rfl (by first | assumption | omega | (simp [fl128a]; done) | (simp [fl128b]; done) | (simp [hf6]; done) | (simp [hw1]; done) | (simp [hw2]; done) | (simp [hw5]; done) | (simp [hf9]; done) | (simp; done) | (simp; omega) | simp_all) ?_
    refine s_run rfl <| s_pq (.bool ((waitsOf g2 g5 ((wayOf g2 g5 g7 g8 g9).1) g9).2)) <| s_run rfl <| s_pq (.bool (!(waitsOf g2 g5 ((wayOf g2 g5 g7 g8 g9).1) g9).2)) <| s_pq (.bool (!(waitsOf g2 g5 ((wayOf g2 g5 g7 g8 g9).1) g9).2)) <| s_pq (.bool (!(waitsOf g2 g5 ((wayOf g2 g5 g7 g8 g9).1) g9).2)) <| s_splitN rfl (by first | assumption | omega | (simp [fl128a]; done) | (simp [fl128b]; done) | (simp [hf6]; done) | (simp [hw1]; done) | (simp [hw2]; done) | (simp [hw5]; done) | (simp [hf9]; done) | (simp; done) | (simp; omega) | simp_all) ?_
    refine s_run rfl <| s_pq (.bool ((waitsOf g2 g5 ((wayOf g2 g5 g7 g8 g9).1) g9).2)) <| s_run rfl <| s_pq (.bool (!(waitsOf g2 g5 ((wayOf g2 g5 g7 g8 g9).1) g9).2)) <| s_pq (.bool (!(waitsOf g2 g5 ((wayOf g2 g5 g7 g8 g9).1) g9).2)) <| s_pq (.bool (!(waitsOf g2 g5 ((wayOf g2 g5 g7 g8 g9).1) g9).2)) <| s_splitN rfl (by first | assumption | omega | (simp [fl128a]; done) | (simp [fl128b]; done) | (simp [hf6]; done) | (simp [hw1]; done) | (simp [hw2]; done) | (simp [hw5]; done) | (simp [hf9]; done) | (simp; done) | (simp; omega) | simp_all) ?_
    refine s_run rfl <| s_pq r170 <| s_run rfl <| s_pq r179 <| s_run rfl ?_
    have f223 := (s_r170.ext eh180)
    refine s_call [r170, r179] rfl (laws_qInts_ok r170 ((waitsOf g2 g5 ((wayOf g2 g5 g7 g8 g9).1) g9).1) r179 ((waitsOf g2 g5 ((wayOf g2 g5 g7 g8 g9).1) g9).1) _ f223.toSl s_r179.toSl) ?_
    rintro vh222 h222 ⟨hvh222, eh222⟩
    obtain rfl : vh222 = .bool true := hvh222.trans (by rw [decide_eq_true rfl])
    have z225 := eh222.size
    refine s_run rfl <| s_pq (.bool false) <| s_pq (.bool false) <| s_pq (.bool false) <| s_splitN rfl (by simp) <| s_run rfl <| s_pq (.int .i64 ((fogDelay g2 g5 g7 g8 g9).1)) <| s_run rfl <| s_pq (.int .i64 ((firstOf g2 g5 g7 g8 g9).1)) <| s_run rfl <| s_pq (.int .i64 g9) <| s_run rfl <| s_pure (.int .i64 ((firstOf g2 g5 g7 g8 g9).1 - g9)) (fun _ q => ArithVC.mk (by omega) q) <| s_run rfl <| s_pq (.int .i64 ((firstOf g2 [] g7 g8 0).1)) <| s_run rfl <| s_pure (.int .i64 (((firstOf g2 g5 g7 g8 g9).1 - g9) - (firstOf g2 [] g7 g8 0).1)) (fun _ q => ArithVC.mk (by omega) q) ?_
    refine s_run rfl <| s_pq (.bool ((fogDelay g2 g5 g7 g8 g9).1 != (((firstOf g2 g5 g7 g8 g9).1 - g9) - (firstOf g2 [] g7 g8 0).1))) <| s_pq (.bool ((fogDelay g2 g5 g7 g8 g9).1 != (((firstOf g2 g5 g7 g8 g9).1 - g9) - (firstOf g2 [] g7 g8 0).1))) <| s_pq (.bool ((fogDelay g2 g5 g7 g8 g9).1 != (((firstOf g2 g5 g7 g8 g9).1 - g9) - (firstOf g2 [] g7 g8 0).1))) <| s_splitN rfl (by first | assumption | omega | (simp [fl128a]; done) | (simp [fl128b]; done) | (simp [hf6]; done) | (simp [hw1]; done) | (simp [hw2]; done) | (simp [hw5]; done) | (simp [hf9]; done) | (simp; done) | (simp; omega) | simp_all) ?_
    refine s_run rfl <| s_pq (.int .i64 ((fogDelay g2 g5 g7 g8 g9).1)) <| s_run rfl <| s_pq (.bool (decide ((fogDelay g2 g5 g7 g8 g9).1 < 0))) <| s_pq (.bool (decide ((fogDelay g2 g5 g7 g8 g9).1 < 0))) <| s_pq (.bool (decide ((fogDelay g2 g5 g7 g8 g9).1 < 0))) <| s_splitN rfl (by first | assumption | omega | (simp [fl128a]; done) | (simp [fl128b]; done) | (simp [hf6]; done) | (simp [hw1]; done) | (simp [hw2]; done) | (simp [hw5]; done) | (simp [hf9]; done) | (simp; done) | (simp; omega) | simp_all) ?_
    refine s_run rfl <| s_pq r31 <| s_run rfl <| s_pure (.int .i64 (((wayOf g2 g5 g7 g8 g9).1).length : Int)) (fun _ q => f178.lenVC q) <| s_run rfl <| s_pq (.bool ((((wayOf g2 g5 g7 g8 g9).1).length : Int) == 0)) <| s_pq (.bool ((((wayOf g2 g5 g7 g8 g9).1).length : Int) == 0)) <| s_pq (.bool ((((wayOf g2 g5 g7 g8 g9).1).length : Int) == 0)) <| s_splitN rfl (by first | assumption | omega | (simp [fl128a]; done) | (simp [fl128b]; done) | (simp [hf6]; done) | (simp [hw1]; done) | (simp [hw2]; done) | (simp [hw5]; done) | (simp [hf9]; done) | (simp; done) | (simp; omega) | simp_all) ?_
    refine s_run rfl <| s_pq r31 <| s_run rfl ?_
    have f226 := ((f178.ext eh180).ext eh222)
    have hk227 : 0 < ((wayOf g2 g5 g7 g8 g9).1).length := (by first | omega | (simp; omega))
    obtain ⟨x228, hx228⟩ : ∃ x, ((wayOf g2 g5 g7 g8 g9).1)[0]? = some x := ⟨_, List.getElem?_eq_getElem hk227⟩
    refine s_pure (.pointer (some ⟨sblk r31, soff r31 + 0 * 1, none⟩)) (fun _ q => f226.idx (k := 0) rfl hk227 q) <| s_run rfl <| s_load (.int .i64 x228) (fun _ q => f226.load1 hx228 rfl q) <| s_run rfl <| s_pq (.int .i64 g7) <| s_run rfl <| s_pq (.bool (x228 != g7)) <| s_pq (.bool (x228 != g7)) <| s_pq (.bool (x228 != g7)) ?_
    have ge229 : x228 = g7 := Option.some.inj (hx228.symm.trans (by first | exact hf4 | (rw [← hf4]; congr 1; omega)))
    refine s_splitN rfl (by first | assumption | omega | (simp [fl128a]; done) | (simp [fl128b]; done) | (simp [hf6]; done) | (simp [hw1]; done) | (simp [hw2]; done) | (simp [hw5]; done) | (simp [hf9]; done) | (simp [ge229]; done) | (simp; done) | (simp; omega) | simp_all) <| s_run rfl <| s_pq r31 <| s_run rfl <| s_pq r31 <| s_run rfl <| s_pure (.int .i64 (((wayOf g2 g5 g7 g8 g9).1).length : Int)) (fun _ q => f226.lenVC q) <| s_run rfl <| s_pure (.int .i64 ((((wayOf g2 g5 g7 g8 g9).1).length : Int) - 1)) (fun _ q => ArithVC.mk (by omega) q) ?_
    refine s_run rfl ?_
    have hk230 : (((((wayOf g2 g5 g7 g8 g9).1).length : Int) - 1)).toNat < ((wayOf g2 g5 g7 g8 g9).1).length := (by first | omega | (simp; omega))
    obtain ⟨x231, hx231⟩ : ∃ x, ((wayOf g2 g5 g7 g8 g9).1)[(((((wayOf g2 g5 g7 g8 g9).1).length : Int) - 1)).toNat]? = some x := ⟨_, List.getElem?_eq_getElem hk230⟩
    refine s_pure (.pointer (some ⟨sblk r31, soff r31 + ((((((wayOf g2 g5 g7 g8 g9).1).length : Int) - 1)).toNat) * 1, none⟩)) (fun _ q => f226.idx (k := (((((wayOf g2 g5 g7 g8 g9).1).length : Int) - 1)).toNat) (by omega) hk230 q) <| s_run rfl <| s_load (.int .i64 x231) (fun _ q => f226.load1 hx231 rfl q) <| s_run rfl <| s_pq (.int .i64 g8) <| s_run rfl <| s_pq (.bool (x231 != g8)) <| s_pq (.bool (x231 != g8)) <| s_nil <| p_seqN ?_
    have ge232 : x231 = g8 := Option.some.inj (hx231.symm.trans (by first | exact hf5 | (rw [← hf5]; congr 1; omega)))
    refine v_condN rfl (by first | assumption | omega | (simp [fl128a]; done) | (simp [fl128b]; done) | (simp [hf6]; done) | (simp [hw1]; done) | (simp [hw2]; done) | (simp [hw5]; done) | (simp [hf9]; done) | (simp [ge229]; done) | (simp [ge232]; done) | (simp; done) | (simp; omega) | simp_all) <| v_skip <| p_seqN ?_
    exact M183 _ _ ⟨rfl, rfl, rfl, rfl, rfl⟩ ((Ext.refl _).trans eh222)
   refine v_seq <| v_seq <| v_ops <| s_pq (.bool ((arrsFrom g96 g99 g101 g102).2)) <| s_nil <| p_seqN ?_
   refine v_cond rfl (fun c233 => ?_) (fun c233 => ?_)
   ·
    have hA := c233
    refine v_seq <| v_ops <| s_pq r124 <| s_pure (.int .i64 (((arrsFrom g96 g99 g101 g102).1).length : Int)) (fun _ q => s_r124.lenVC q) <| s_pq (.int .i64 0) <| s_nil <| p_seqN <| v_block ?_
    have f235 := ((s_r124.ext eh131).ext eh136)
    have l63_l234 := (f235.toSl).len63
    have nk237 : b13 ∉ blks r3 := (fun hc => by have := lt_r3 _ hc; omega)
    have nk238 : b106 ∉ blks r3 := (fun hc => by have := lt_r3 _ hc; omega)
    have nk239 : b13 ∉ blks r4 := (fun hc => by have := lt_r4 _ hc; omega)
    have nk240 : b106 ∉ blks r4 := (fun hc => by have := lt_r4 _ hc; omega)
    have nk241 : b13 ∉ blks r6 := (fun hc => by have := lt_r6 _ hc; omega)
    have nk242 : b106 ∉ blks r6 := (fun hc => by have := lt_r6 _ hc; omega)
    have nk243 : b13 ∉ blks r23 := (fun hc => by have := fr_r23 _ hc; omega)
    have nk244 : b106 ∉ blks r23 := (fun hc => by have := lt_r23 _ hc; omega)
    have nk245 : b13 ∉ blks r31 := (fun hc => by have := fr_r31 _ hc; omega)
    have nk246 : b106 ∉ blks r31 := (fun hc => by have := lt_r31 _ hc; omega)
    have nk247 : b13 ∉ blks r97 := (fun hc => by have := fr_r97 _ hc; omega)
    have nk248 : b106 ∉ blks r97 := (fun hc => by have := lt_r97 _ hc; omega)
    have nk249 : b13 ∉ blks r98 := (fun hc => by have := fr_r98 _ hc; omega)
    have nk250 : b106 ∉ blks r98 := (fun hc => by have := lt_r98 _ hc; omega)
    have nk251 : b13 ∉ blks r100 := (fun hc => by have := fr_r100 _ hc; omega)
    have nk252 : b106 ∉ blks r100 := (fun hc => by have := lt_r100 _ hc; omega)
    have nk253 : b13 ∉ blks r124 := (fun hc => by have := fr_r124 _ hc; omega)
    have nk254 : b106 ∉ blks r124 := (fun hc => by have := fr_r124 _ hc; omega)
    have f255 := (((((((((((((f56.ext eh60).ext eh72).ext eh76).mod mh79 (by simp; omega)).ext eh85).ext eh92).ext eh103).ext eh107).mod mh110 (by simp; omega)).ext eh117).ext eh125).ext eh131).ext eh136)
    have f256 := (((f120.ext eh125).ext eh131).ext eh136)
    have f257 := (((((((((((((f57.ext eh60).ext eh72).ext eh76).mod mh79 (fun b hb hc => by simp at hc; have := lt_r3 b hb; omega)).ext eh85).ext eh92).ext eh103).ext eh107).mod mh110 (fun b hb hc => by simp at hc; have := lt_r3 b hb; omega)).ext eh117).ext eh125).ext eh131).ext eh136)
    have f258 := (((((((((((((f58.ext eh60).ext eh72).ext eh76).mod mh79 (fun b hb hc => by simp at hc; have := lt_r4 b hb; omega)).ext eh85).ext eh92).ext eh103).ext eh107).mod mh110 (fun b hb hc => by simp at hc; have := lt_r4 b hb; omega)).ext eh117).ext eh125).ext eh131).ext eh136)
    have f259 := (((((((((((((f59.ext eh60).ext eh72).ext eh76).mod mh79 (fun b hb hc => by simp at hc; have := lt_r6 b hb; omega)).ext eh85).ext eh92).ext eh103).ext eh107).mod mh110 (fun b hb hc => by simp at hc; have := lt_r6 b hb; omega)).ext eh117).ext eh125).ext eh131).ext eh136)
    have f260 := (((((((((((((((((s_r23.ext eh32).ext eh39).ext eh46).ext eh53).ext eh60).ext eh72).ext eh76).mod mh79 (fun b hb hc => by simp at hc; have := lt_r23 b hb; omega)).ext eh85).ext eh92).ext eh103).ext eh107).mod mh110 (fun b hb hc => by simp at hc; have := lt_r23 b hb; omega)).ext eh117).ext eh125).ext eh131).ext eh136)
    have f261 := ((((((((((((((((s_r31.ext eh39).ext eh46).ext eh53).ext eh60).ext eh72).ext eh76).mod mh79 (fun b hb hc => by simp at hc; have := lt_r31 b hb; omega)).ext eh85).ext eh92).ext eh103).ext eh107).mod mh110 (fun b hb hc => by simp at hc; have := lt_r31 b hb; omega)).ext eh117).ext eh125).ext eh131).ext eh136)
    have f262 := (((f121.ext eh125).ext eh131).ext eh136)
    have f263 := (((f122.ext eh125).ext eh131).ext eh136)
    have f264 := (((f123.ext eh125).ext eh131).ext eh136)
    refine v_loop1 (α := Nat) (fun k => [(5, .pointer (some ⟨b13, 0, none⟩)), (6, r6), (7, .int .i64 g7), (8, .int .i64 g8), (9, .int .i64 g9), (10, r23), (11, .bool ((wayOf g2 g5 g7 g8 g9).2)), (12, r31), (16, .int .i64 ((firstOf g2 g5 g7 g8 g9).1)), (20, .int .i64 ((fogDelay g2 g5 g7 g8 g9).1)), (31, .pointer (some ⟨b106, 0, none⟩)), (32, r100), (33, .int .i64 g101), (34, .int .i64 g102), (281, r124), (282, .int .i64 (((arrsFrom g96 g99 g101 g102).1).length : Int)), (283, .int .i64 (k : Int))]) (fun k hh => Ext h hh ∧ Ext h136 hh ∧ Bx hh b13 [r3, r4] 26 ∧ Bx hh b106 [r97, r98] 26 ∧ SlO hh r3 g2.towers ∧ SlO hh r4 g2.links ∧ SlO hh r6 g5 ∧ SlO hh r23 ((wayOf g2 g5 g7 g8 g9).1) ∧ SlO hh r31 ((wayOf g2 g5 g7 g8 g9).1) ∧ SlO hh r97 g96.towers ∧ SlO hh r98 g96.links ∧ SlO hh r100 g99 ∧ SlO hh r124 ((arrsFrom g96 g99 g101 g102).1) ∧ k ≤ (arrsFrom g96 g99 g101 g102).1.length) (fun k => (arrsFrom g96 g99 g101 g102).1.length - k) 0 ⟨rfl, rfl, rfl, rfl, rfl, rfl, rfl, rfl, rfl, rfl, rfl, rfl, rfl, rfl, rfl, rfl, rfl⟩ ⟨E137, (Ext.refl _), f255, f256, f257, f258, f259, f260, f261, f262, f263, f264, f235, (by exact Nat.zero_le _)⟩ ?_
    rintro k R265 h236 ⟨Eh, Em0, bxb13, bxb106, s_r3, s_r4, s_r6, s_r23, s_r31, s_r97, s_r98, s_r100, s_r124, hk⟩
    have zEh := Eh.size
    have ltk_r3 := s_r3.lt
    have ltk_r4 := s_r4.lt
    have ltk_r6 := s_r6.lt
    have lbb13 := bxb13.lt
    have ltk_r23 := s_r23.lt
    have ltk_r31 := s_r31.lt
    have ltk_r97 := s_r97.lt
    have ltk_r98 := s_r98.lt
    have ltk_r100 := s_r100.lt
    have lbb106 := bxb106.lt
    have ltk_r124 := s_r124.lt
    have hat : ∀ x, (arrsFrom g96 g99 g101 g102).1[k]? = some x → (firstOf g96 g99 g101 (k : Int) g102).2 = decide (x ≥ 0) ∧ ((firstOf g96 g99 g101 (k : Int) g102).2 = true → (firstOf g96 g99 g101 (k : Int) g102).1 = x ∧ g102 ≤ x) ∧ ((k : Int) = g101 → x = g102) := fun x hx => arr_all hA hx
    refine v_seq <| v_ops <| s_pq (.bool (decide ((k : Int) < (((arrsFrom g96 g99 g101 g102).1).length : Int)))) <| s_nil <| p_seqN <| v_seq ?_
    refine v_cond rfl (fun c269 => ?_) (fun c269 => ?_)
    ·
     refine v_skip <| p_seqN <| v_seq <| v_block <| v_seq <| v_ops <| s_pq (.int .i64 (k : Int)) ?_
     have hk270 : k < ((arrsFrom g96 g99 g101 g102).1).length := (by first | omega | (simp; omega))
     obtain ⟨x271, hx271⟩ : ∃ x, ((arrsFrom g96 g99 g101 g102).1)[k]? = some x := ⟨_, List.getElem?_eq_getElem hk270⟩
     refine s_pure (.pointer (some ⟨sblk r124, soff r124 + k * 1, none⟩)) (fun _ q => s_r124.idx (k := k) rfl hk270 q) <| s_load (.int .i64 x271) (fun _ q => s_r124.load1 hx271 rfl q) <| s_pq (.int .i64 (k : Int)) <| s_pq (.int .i64 x271) <| s_nil <| p_seqN <| v_seq <| v_ops <| s_load (.agg #[r97, r98]) (fun _ q => bxb106.loadA rfl q) <| s_pq r100 <| s_pq (.int .i64 g101) <| s_pq (.int .i64 (k : Int)) <| s_pq (.int .i64 g102) <| s_call [.agg #[r97, r98], r100, .int .i64 g101, .int .i64 (k : Int), .int .i64 g102] rfl (impl_FirstArrival_ok g96 r97 r98 r100 g99 g101 (k : Int) g102 _ s_r97.toSl s_r98.toSl s_r100.toSl) ?_
     rintro _ h272 ⟨rfl, eh272⟩
     have E273 := Eh.trans eh272
     have z274 := eh272.size
     obtain ⟨ar275a, ar275b, ar275c⟩ := hat _ hx271
     refine s_pq (.tuple #[.int .i64 ((firstOf g96 g99 g101 (k : Int) g102).1), .bool ((firstOf g96 g99 g101 (k : Int) g102).2)]) <| s_pq (.int .i64 ((firstOf g96 g99 g101 (k : Int) g102).1)) <| s_pq (.bool ((firstOf g96 g99 g101 (k : Int) g102).2)) <| s_pq (.int .i64 ((firstOf g96 g99 g101 (k : Int) g102).1)) <| s_pq (.bool ((firstOf g96 g99 g101 (k : Int) g102).2)) <| s_nil <| p_seqN <| v_seq <| v_ops <| s_pq (.bool ((firstOf g96 g99 g101 (k : Int) g102).2)) <| s_pq (.int .i64 x271) <| s_pq (.bool (decide (x271 ≥ 0))) ?_
     refine s_pq (.bool ((firstOf g96 g99 g101 (k : Int) g102).2 != (decide (x271 ≥ 0)))) <| s_pq (.bool ((firstOf g96 g99 g101 (k : Int) g102).2 != (decide (x271 ≥ 0)))) <| s_splitN rfl (by first | assumption | omega | (simp [fl128a]; done) | (simp [fl128b]; done) | (simp [ar275a]; done) | (simp; done) | (simp; omega) | simp_all) <| s_run rfl <| s_pq (.bool ((firstOf g96 g99 g101 (k : Int) g102).2)) <| s_run rfl <| s_pq (.bool ((firstOf g96 g99 g101 (k : Int) g102).2)) ?_
     refine s_splitT rfl (fun c276 => ?_) (fun c276 => ?_)
     ·
      obtain ⟨ar277a, ar277b⟩ := ar275b c276
      refine s_run rfl <| s_pq (.int .i64 ((firstOf g96 g99 g101 (k : Int) g102).1)) <| s_run rfl <| s_pq (.int .i64 x271) <| s_run rfl <| s_pq (.bool ((firstOf g96 g99 g101 (k : Int) g102).1 != x271)) <| s_run rfl <| s_pq (.bool ((firstOf g96 g99 g101 (k : Int) g102).1 != x271)) <| s_pq (.bool ((firstOf g96 g99 g101 (k : Int) g102).1 != x271)) <| s_pq (.bool ((firstOf g96 g99 g101 (k : Int) g102).1 != x271)) <| s_splitN rfl (by first | assumption | omega | (simp [fl128a]; done) | (simp [fl128b]; done) | (simp [ar275a]; done) | (simp [ar277a]; done) | (simp; done) | (simp; omega) | simp_all) ?_
      refine s_run rfl <| s_pq (.bool ((firstOf g96 g99 g101 (k : Int) g102).2)) <| s_run rfl <| s_pq (.bool ((firstOf g96 g99 g101 (k : Int) g102).2)) <| s_splitY rfl (by first | assumption | omega | (simp [fl128a]; done) | (simp [fl128b]; done) | (simp [ar275a]; done) | (simp [ar277a]; done) | (simp; done) | (simp; omega) | simp_all) <| s_run rfl <| s_pq (.int .i64 x271) <| s_run rfl <| s_pq (.int .i64 g102) <| s_run rfl <| s_pq (.bool (decide (x271 < g102))) <| s_run rfl <| s_pq (.bool (decide (x271 < g102))) ?_
      refine s_pq (.bool (decide (x271 < g102))) <| s_pq (.bool (decide (x271 < g102))) <| s_splitN rfl (by first | assumption | omega | (simp [fl128a]; done) | (simp [fl128b]; done) | (simp [ar275a]; done) | (simp [ar277a]; done) | (simp; done) | (simp; omega) | simp_all) <| s_run rfl <| s_pq (.int .i64 (k : Int)) <| s_run rfl <| s_pq (.int .i64 g101) <| s_run rfl <| s_pq (.bool ((k : Int) == g101)) <| s_run rfl <| s_pq (.bool ((k : Int) == g101)) ?_
      refine s_splitT rfl (fun c278 => ?_) (fun c278 => ?_)
      ·
       have ar279 := ar275c c278
       refine s_run rfl <| s_pq (.int .i64 x271) <| s_run rfl <| s_pq (.int .i64 g102) <| s_run rfl <| s_pq (.bool (x271 != g102)) <| s_run rfl <| s_pq (.bool (x271 != g102)) <| s_pq (.bool (x271 != g102)) <| s_nil <| p_seqN <| v_condN rfl (by first | assumption | omega | (simp [fl128a]; done) | (simp [fl128b]; done) | (simp [ar275a]; done) | (simp [ar277a]; done) | (simp [ar279]; done) | (simp; done) | (simp; omega) | simp_all) <| v_skip <| p_blkN <| p_seqN <| v_ops <| s_pure (.int .i64 ((k : Int) + 1)) (fun _ q => ArithVC.mk (by omega) q) ?_
       refine s_pq (.int .i64 ((k : Int) + 1)) <| s_nil ?_
       have f280 := (bxb13.ext eh272)
       have f281 := (bxb106.ext eh272)
       have f282 := (s_r3.ext eh272)
       have f283 := (s_r4.ext eh272)
       have f284 := (s_r6.ext eh272)
       have f285 := (s_r23.ext eh272)
       have f286 := (s_r31.ext eh272)
       have f287 := (s_r97.ext eh272)
       have f288 := (s_r98.ext eh272)
       have f289 := (s_r100.ext eh272)
       have f290 := (s_r124.ext eh272)
       exact p_lpN ⟨k + 1, ⟨rfl, rfl, rfl, rfl, rfl, rfl, rfl, rfl, rfl, rfl, rfl, rfl, rfl, rfl, rfl, rfl, rfl⟩, ⟨E273, (Em0.trans eh272), f280, f281, f282, f283, f284, f285, f286, f287, f288, f289, f290, (by omega)⟩, by omega⟩
      refine s_pass rfl <| s_pass rfl <| s_pass rfl <| s_run rfl <| s_pq (.bool false) <| s_pq (.bool false) <| s_nil <| p_seqN <| v_condN rfl (by simp) <| v_skip <| p_blkN <| p_seqN <| v_ops <| s_pure (.int .i64 ((k : Int) + 1)) (fun _ q => ArithVC.mk (by omega) q) <| s_pq (.int .i64 ((k : Int) + 1)) <| s_nil ?_
      have f291 := (bxb13.ext eh272)
      have f292 := (bxb106.ext eh272)
      have f293 := (s_r3.ext eh272)
      have f294 := (s_r4.ext eh272)
      have f295 := (s_r6.ext eh272)
      have f296 := (s_r23.ext eh272)
      have f297 := (s_r31.ext eh272)
      have f298 := (s_r97.ext eh272)
      have f299 := (s_r98.ext eh272)
      have f300 := (s_r100.ext eh272)
      have f301 := (s_r124.ext eh272)
      exact p_lpN ⟨k + 1, ⟨rfl, rfl, rfl, rfl, rfl, rfl, rfl, rfl, rfl, rfl, rfl, rfl, rfl, rfl, rfl, rfl, rfl⟩, ⟨E273, (Em0.trans eh272), f291, f292, f293, f294, f295, f296, f297, f298, f299, f300, f301, (by omega)⟩, by omega⟩
     refine s_pass rfl <| s_pass rfl <| s_pass rfl <| s_run rfl <| s_pq (.bool false) <| s_pq (.bool false) <| s_pq (.bool false) <| s_splitN rfl (by simp) <| s_run rfl <| s_pq (.bool ((firstOf g96 g99 g101 (k : Int) g102).2)) <| s_run rfl <| s_pq (.bool ((firstOf g96 g99 g101 (k : Int) g102).2)) <| s_splitN rfl (by first | assumption | omega | (simp [fl128a]; done) | (simp [fl128b]; done) | (simp [ar275a]; done) | (simp; done) | (simp; omega) | simp_all) <| s_pass rfl <| s_pass rfl <| s_pass rfl ?_
     refine s_run rfl <| s_pq (.bool false) <| s_pq (.bool false) <| s_pq (.bool false) <| s_splitN rfl (by simp) <| s_run rfl <| s_pq (.int .i64 (k : Int)) <| s_run rfl <| s_pq (.int .i64 g101) <| s_run rfl <| s_pq (.bool ((k : Int) == g101)) <| s_run rfl <| s_pq (.bool ((k : Int) == g101)) ?_
     refine s_splitT rfl (fun c302 => ?_) (fun c302 => ?_)
     ·
      have ar303 := ar275c c302
      refine s_run rfl <| s_pq (.int .i64 x271) <| s_run rfl <| s_pq (.int .i64 g102) <| s_run rfl <| s_pq (.bool (x271 != g102)) <| s_run rfl <| s_pq (.bool (x271 != g102)) <| s_pq (.bool (x271 != g102)) <| s_nil <| p_seqN <| v_condN rfl (by first | assumption | omega | (simp [fl128a]; done) | (simp [fl128b]; done) | (simp [ar275a]; done) | (simp [ar303]; done) | (simp; done) | (simp; omega) | simp_all) <| v_skip <| p_blkN <| p_seqN <| v_ops <| s_pure (.int .i64 ((k : Int) + 1)) (fun _ q => ArithVC.mk (by omega) q) ?_
      refine s_pq (.int .i64 ((k : Int) + 1)) <| s_nil ?_
      have f304 := (bxb13.ext eh272)
      have f305 := (bxb106.ext eh272)
      have f306 := (s_r3.ext eh272)
      have f307 := (s_r4.ext eh272)
      have f308 := (s_r6.ext eh272)
      have f309 := (s_r23.ext eh272)
      have f310 := (s_r31.ext eh272)
      have f311 := (s_r97.ext eh272)
      have f312 := (s_r98.ext eh272)
      have f313 := (s_r100.ext eh272)
      have f314 := (s_r124.ext eh272)
      exact p_lpN ⟨k + 1, ⟨rfl, rfl, rfl, rfl, rfl, rfl, rfl, rfl, rfl, rfl, rfl, rfl, rfl, rfl, rfl, rfl, rfl⟩, ⟨E273, (Em0.trans eh272), f304, f305, f306, f307, f308, f309, f310, f311, f312, f313, f314, (by omega)⟩, by omega⟩
     refine s_pass rfl <| s_pass rfl <| s_pass rfl <| s_run rfl <| s_pq (.bool false) <| s_pq (.bool false) <| s_nil <| p_seqN <| v_condN rfl (by simp) <| v_skip <| p_blkN <| p_seqN <| v_ops <| s_pure (.int .i64 ((k : Int) + 1)) (fun _ q => ArithVC.mk (by omega) q) <| s_pq (.int .i64 ((k : Int) + 1)) <| s_nil ?_
     have f315 := (bxb13.ext eh272)
     have f316 := (bxb106.ext eh272)
     have f317 := (s_r3.ext eh272)
     have f318 := (s_r4.ext eh272)
     have f319 := (s_r6.ext eh272)
     have f320 := (s_r23.ext eh272)
     have f321 := (s_r31.ext eh272)
     have f322 := (s_r97.ext eh272)
     have f323 := (s_r98.ext eh272)
     have f324 := (s_r100.ext eh272)
     have f325 := (s_r124.ext eh272)
     exact p_lpN ⟨k + 1, ⟨rfl, rfl, rfl, rfl, rfl, rfl, rfl, rfl, rfl, rfl, rfl, rfl, rfl, rfl, rfl, rfl, rfl⟩, ⟨E273, (Em0.trans eh272), f315, f316, f317, f318, f319, f320, f321, f322, f323, f324, f325, (by omega)⟩, by omega⟩
    refine v_exit <| p_seqX <| p_lpX <| p_blkX <| p_seqN ?_
    exact M139 _ _ ⟨rfl, rfl, rfl, rfl, rfl, rfl, rfl, rfl, rfl, rfl⟩ Em0
   refine v_skip <| p_seqN ?_
   exact M139 _ _ ⟨rfl, rfl, rfl, rfl, rfl, rfl, rfl, rfl, rfl, rfl⟩ (Ext.refl _)
  refine v_seq <| v_seq <| v_ops <| s_pq (.bool ((latest g64 g67 g69 g70 g71).2)) <| s_nil <| p_seqN ?_
  refine v_cond rfl (fun c326 => ?_) (fun c326 => ?_)
  ·
   obtain ⟨hl1, hl2, hl3, hl4, hl5, hl6⟩ := late_facts c326
   refine v_seq <| v_ops ?_
   have f327 := (((((((f88.ext eh92).ext eh103).ext eh107).mod mh110 (by simp; omega)).ext eh117).ext eh125).ext eh131)
   refine s_load (.agg #[r65, r66]) (fun _ q => f327.loadA rfl q) <| s_pq r68 <| s_pq (.int .i64 g69) <| s_pq (.int .i64 g70) <| s_pq (.int .i64 ((latest g64 g67 g69 g70 g71).1)) ?_
   have f328 := (((((((f89.ext eh92).ext eh103).ext eh107).mod mh110 (fun b hb hc => by simp at hc; have := lt_r65 b hb; omega)).ext eh117).ext eh125).ext eh131)
   have f329 := (((((((f90.ext eh92).ext eh103).ext eh107).mod mh110 (fun b hb hc => by simp at hc; have := lt_r66 b hb; omega)).ext eh117).ext eh125).ext eh131)
   have f330 := (((((((f91.ext eh92).ext eh103).ext eh107).mod mh110 (fun b hb hc => by simp at hc; have := lt_r68 b hb; omega)).ext eh117).ext eh125).ext eh131)
   refine s_call [.agg #[r65, r66], r68, .int .i64 g69, .int .i64 g70, .int .i64 ((latest g64 g67 g69 g70 g71).1)] rfl (impl_FirstArrival_ok g64 r65 r66 r68 g67 g69 g70 ((latest g64 g67 g69 g70 g71).1) _ f328.toSl f329.toSl f330.toSl) ?_
   rintro _ h331 ⟨rfl, eh331⟩
   have E332 := E132.trans eh331
   have z333 := eh331.size
   refine s_pq (.tuple #[.int .i64 ((firstOf g64 g67 g69 g70 ((latest g64 g67 g69 g70 g71).1)).1), .bool ((firstOf g64 g67 g69 g70 ((latest g64 g67 g69 g70 g71).1)).2)]) <| s_pq (.int .i64 ((firstOf g64 g67 g69 g70 ((latest g64 g67 g69 g70 g71).1)).1)) <| s_pq (.bool ((firstOf g64 g67 g69 g70 ((latest g64 g67 g69 g70 g71).1)).2)) <| s_pq (.int .i64 ((firstOf g64 g67 g69 g70 ((latest g64 g67 g69 g70 g71).1)).1)) <| s_pq (.bool ((firstOf g64 g67 g69 g70 ((latest g64 g67 g69 g70 g71).1)).2)) <| s_nil <| p_seqN ?_
   refine v_seqM1 [(5, .pointer (some ⟨b13, 0, none⟩)), (6, r6), (7, .int .i64 g7), (8, .int .i64 g8), (9, .int .i64 g9), (10, r23), (11, .bool ((wayOf g2 g5 g7 g8 g9).2)), (12, r31), (16, .int .i64 ((firstOf g2 g5 g7 g8 g9).1)), (20, .int .i64 ((fogDelay g2 g5 g7 g8 g9).1)), (22, .pointer (some ⟨b75, 0, none⟩)), (23, r68), (24, .int .i64 g69), (25, .int .i64 g70), (26, .int .i64 g71), (29, .int .i64 ((latest g64 g67 g69 g70 g71).1)), (31, .pointer (some ⟨b106, 0, none⟩)), (32, r100), (33, .int .i64 g101), (34, .int .i64 g102), (36, .bool ((arrsFrom g96 g99 g101 g102).2)), (37, r124)] (fun R335 h336 eh336 => ?_) (fun M334 => ?_)
   ·
    have z338 := eh336.size
    refine v_seq <| v_ops <| s_pq (.int .i64 ((latest g64 g67 g69 g70 g71).1)) <| s_pq (.int .i64 g71) <| s_pq (.bool (decide ((latest g64 g67 g69 g70 g71).1 < g71))) <| s_nil <| p_seqN ?_
    refine v_cond rfl (fun c339 => ?_) (fun c339 => ?_)
    ·
     refine v_seq <| v_ops ?_
     have f340 := ((f327.ext eh331).ext eh336)
     refine s_load (.agg #[r65, r66]) (fun _ q => f340.loadA rfl q) <| s_pq r68 <| s_pq (.int .i64 g69) <| s_pq (.int .i64 g70) <| s_pq (.int .i64 ((latest g64 g67 g69 g70 g71).1)) <| s_pure (.int .i64 ((latest g64 g67 g69 g70 g71).1 + 1)) (fun _ q => ArithVC.mk (by omega) q) ?_
     have f341 := ((f328.ext eh331).ext eh336)
     have f342 := ((f329.ext eh331).ext eh336)
     have f343 := ((f330.ext eh331).ext eh336)
     refine s_call [.agg #[r65, r66], r68, .int .i64 g69, .int .i64 g70, .int .i64 ((latest g64 g67 g69 g70 g71).1 + 1)] rfl (impl_FirstArrival_ok g64 r65 r66 r68 g67 g69 g70 ((latest g64 g67 g69 g70 g71).1 + 1) _ f341.toSl f342.toSl f343.toSl) ?_
     rintro _ h344 ⟨rfl, eh344⟩
     have z346 := eh344.size
     have hl7 := hl6 (by assumption)
     have hl8 := hl7.1
     have hl9 := hl7.2
     refine s_pq (.tuple #[.int .i64 ((firstOf g64 g67 g69 g70 ((latest g64 g67 g69 g70 g71).1 + 1)).1), .bool ((firstOf g64 g67 g69 g70 ((latest g64 g67 g69 g70 g71).1 + 1)).2)]) <| s_pq (.int .i64 ((firstOf g64 g67 g69 g70 ((latest g64 g67 g69 g70 g71).1 + 1)).1)) <| s_pq (.bool ((firstOf g64 g67 g69 g70 ((latest g64 g67 g69 g70 g71).1 + 1)).2)) <| s_pq (.int .i64 ((firstOf g64 g67 g69 g70 ((latest g64 g67 g69 g70 g71).1 + 1)).1)) <| s_pq (.bool ((firstOf g64 g67 g69 g70 ((latest g64 g67 g69 g70 g71).1 + 1)).2)) ?_
     refine s_nil <| p_seqN <| v_seq <| v_ops <| s_pq (.bool ((firstOf g64 g67 g69 g70 ((latest g64 g67 g69 g70 g71).1 + 1)).2)) <| s_pq (.bool (!(firstOf g64 g67 g69 g70 ((latest g64 g67 g69 g70 g71).1 + 1)).2)) <| s_pq (.bool (!(firstOf g64 g67 g69 g70 ((latest g64 g67 g69 g70 g71).1 + 1)).2)) <| s_splitN rfl (by first | assumption | omega | (simp [fl128a]; done) | (simp [fl128b]; done) | (simp [hl4]; done) | (simp [hl5]; done) | (simp [hl2]; done) | (simp [hl8]; done) | (simp [hl9]; done) | (simp; done) | (simp; omega) | simp_all) ?_
     refine s_run rfl <| s_pq (.int .i64 ((firstOf g64 g67 g69 g70 ((latest g64 g67 g69 g70 g71).1 + 1)).1)) <| s_run rfl <| s_pq (.int .i64 g71) <| s_run rfl <| s_pq (.bool (decide ((firstOf g64 g67 g69 g70 ((latest g64 g67 g69 g70 g71).1 + 1)).1 ≤ g71))) <| s_pq (.bool (decide ((firstOf g64 g67 g69 g70 ((latest g64 g67 g69 g70 g71).1 + 1)).1 ≤ g71))) <| s_nil <| p_seqN <| v_condN rfl (by first | assumption | omega | (simp [fl128a]; done) | (simp [fl128b]; done) | (simp [hl4]; done) | (simp [hl5]; done) | (simp [hl2]; done) | (simp [hl8]; done) | (simp [hl9]; done) | (simp; done) | (simp; omega) | simp_all) ?_
     refine v_skip <| p_seqN ?_
     exact M134 _ _ ⟨rfl, rfl, rfl, rfl, rfl, rfl, rfl, rfl, rfl, rfl, rfl, rfl, rfl, rfl, rfl, rfl⟩ ((((Ext.refl _).trans eh331).trans eh336).trans eh344)
    refine v_skip <| p_seqN ?_
    exact M134 _ _ ⟨rfl, rfl, rfl, rfl, rfl, rfl, rfl, rfl, rfl, rfl, rfl, rfl, rfl, rfl, rfl, rfl⟩ (((Ext.refl _).trans eh331).trans eh336)
   refine v_seq <| v_seq <| v_ops <| s_pq (.bool ((firstOf g64 g67 g69 g70 ((latest g64 g67 g69 g70 g71).1)).2)) <| s_pq (.bool (!(firstOf g64 g67 g69 g70 ((latest g64 g67 g69 g70 g71).1)).2)) <| s_pq (.bool (!(firstOf g64 g67 g69 g70 ((latest g64 g67 g69 g70 g71).1)).2)) <| s_splitN rfl (by first | assumption | omega | (simp [fl128a]; done) | (simp [fl128b]; done) | (simp [hl4]; done) | (simp [hl5]; done) | (simp [hl2]; done) | (simp; done) | (simp; omega) | simp_all) <| s_run rfl <| s_pq (.int .i64 ((firstOf g64 g67 g69 g70 ((latest g64 g67 g69 g70 g71).1)).1)) ?_
   refine s_run rfl <| s_pq (.int .i64 g71) <| s_run rfl <| s_pq (.bool (decide ((firstOf g64 g67 g69 g70 ((latest g64 g67 g69 g70 g71).1)).1 > g71))) <| s_pq (.bool (decide ((firstOf g64 g67 g69 g70 ((latest g64 g67 g69 g70 g71).1)).1 > g71))) <| s_pq (.bool (decide ((firstOf g64 g67 g69 g70 ((latest g64 g67 g69 g70 g71).1)).1 > g71))) <| s_splitN rfl (by first | assumption | omega | (simp [fl128a]; done) | (simp [fl128b]; done) | (simp [hl4]; done) | (simp [hl5]; done) | (simp [hl2]; done) | (simp; done) | (simp; omega) | simp_all) ?_
   refine s_run rfl <| s_pq (.int .i64 ((latest g64 g67 g69 g70 g71).1)) <| s_run rfl <| s_pq (.int .i64 g71) <| s_run rfl <| s_pq (.bool (decide ((latest g64 g67 g69 g70 g71).1 > g71))) <| s_pq (.bool (decide ((latest g64 g67 g69 g70 g71).1 > g71))) <| s_nil <| p_seqN ?_
   refine v_cond rfl (fun c347 => ?_) (fun c347 => ?_)
   ·
    refine v_seq <| v_ops <| s_pq (.bool false) <| s_nil <| p_seqN <| v_ret <| p_seqR <| p_seqR <| p_ret [.bool false] (.bool false) (fun _ q => q) rfl ?_
    have ho : true = false := by first | rfl | ((have q_ := hend (by assumption)); rw [beqI]; first | exact (decide_eq_true (by omega)).symm | exact decide_eq_true (by omega)) | (exfalso; first | omega | ((have q_ := hat _ (by assumption)); (obtain ⟨qa_, qb_, qc_⟩ := q_); first | omega | (have qd_ := qb_ (by assumption); omega) | (have qd_ := qc_ (by assumption); omega) | (simp_all; done)) | (simp_all; done))
    exact ⟨by first | (rw [ho]; done) | rfl, E332⟩
   refine v_skip <| p_seqN ?_
   exact M334 _ _ ⟨rfl, rfl, rfl, rfl, rfl, rfl, rfl, rfl, rfl, rfl, rfl, rfl, rfl, rfl, rfl, rfl, rfl, rfl, rfl, rfl, rfl, rfl⟩ (Ext.refl _)
  refine v_skip <| p_seqN ?_
  exact M134 _ _ ⟨rfl, rfl, rfl, rfl, rfl, rfl, rfl, rfl, rfl, rfl, rfl, rfl, rfl, rfl, rfl, rfl⟩ (Ext.refl _)
 refine v_seq <| v_seq <| v_ops <| s_pq (.bool ((wayOf g2 g5 g7 g8 g9).2)) <| s_pq (.bool ((wayOf g2 g5 g7 g8 g9).2)) <| s_pq (.bool ((wayOf g2 g5 g7 g8 g9).2 != (wayOf g2 g5 g7 g8 g9).2)) <| s_pq (.bool ((wayOf g2 g5 g7 g8 g9).2 != (wayOf g2 g5 g7 g8 g9).2)) <| s_splitN rfl (by first | assumption | omega | (simp [fl128a]; done) | (simp [fl128b]; done) | (simp; done) | (simp; omega) | simp_all) <| s_run rfl <| s_pq r23 <| s_run rfl <| s_pq r31 <| s_run rfl ?_
 have f349 := (((((((((((((((s_r23.ext eh32).ext eh39).ext eh46).ext eh53).ext eh60).ext eh72).ext eh76).mod mh79 (fun b hb hc => by simp at hc; have := lt_r23 b hb; omega)).ext eh85).ext eh92).ext eh103).ext eh107).mod mh110 (fun b hb hc => by simp at hc; have := lt_r23 b hb; omega)).ext eh117).ext eh125)
 have f350 := ((((((((((((((s_r31.ext eh39).ext eh46).ext eh53).ext eh60).ext eh72).ext eh76).mod mh79 (fun b hb hc => by simp at hc; have := lt_r31 b hb; omega)).ext eh85).ext eh92).ext eh103).ext eh107).mod mh110 (fun b hb hc => by simp at hc; have := lt_r31 b hb; omega)).ext eh117).ext eh125)
 refine s_call [r23, r31] rfl (laws_qInts_ok r23 ((wayOf g2 g5 g7 g8 g9).1) r31 ((wayOf g2 g5 g7 g8 g9).1) _ f349.toSl f350.toSl) ?_
 rintro vh348 h348 ⟨hvh348, eh348⟩
 obtain rfl : vh348 = .bool true := hvh348.trans (by rw [decide_eq_true rfl])
 have z352 := eh348.size
 refine s_run rfl <| s_pq (.bool false) <| s_pq (.bool false) <| s_pq (.bool false) <| s_splitN rfl (by simp) <| s_run rfl <| s_pq (.bool ((firstOf g2 g5 g7 g8 g9).2)) <| s_run rfl <| s_pq (.bool ((firstOf g2 g5 g7 g8 g9).2)) <| s_run rfl <| s_pq (.bool ((firstOf g2 g5 g7 g8 g9).2 != (firstOf g2 g5 g7 g8 g9).2)) <| s_pq (.bool ((firstOf g2 g5 g7 g8 g9).2 != (firstOf g2 g5 g7 g8 g9).2)) <| s_pq (.bool ((firstOf g2 g5 g7 g8 g9).2 != (firstOf g2 g5 g7 g8 g9).2)) <| s_splitN rfl (by first | assumption | omega | (simp [fl128a]; done) | (simp [fl128b]; done) | (simp; done) | (simp; omega) | simp_all) ?_
 refine s_run rfl <| s_pq (.int .i64 ((firstOf g2 g5 g7 g8 g9).1)) <| s_run rfl <| s_pq (.int .i64 ((firstOf g2 g5 g7 g8 g9).1)) <| s_run rfl <| s_pq (.bool ((firstOf g2 g5 g7 g8 g9).1 != (firstOf g2 g5 g7 g8 g9).1)) <| s_pq (.bool ((firstOf g2 g5 g7 g8 g9).1 != (firstOf g2 g5 g7 g8 g9).1)) <| s_pq (.bool ((firstOf g2 g5 g7 g8 g9).1 != (firstOf g2 g5 g7 g8 g9).1)) <| s_splitN rfl (by first | assumption | omega | (simp [fl128a]; done) | (simp [fl128b]; done) | (simp; done) | (simp; omega) | simp_all) ?_
 refine s_run rfl <| s_pq (.bool ((fogDelay g2 g5 g7 g8 g9).2)) <| s_run rfl <| s_pq (.bool ((fogDelay g2 g5 g7 g8 g9).2)) <| s_run rfl <| s_pq (.bool ((fogDelay g2 g5 g7 g8 g9).2 != (fogDelay g2 g5 g7 g8 g9).2)) <| s_pq (.bool ((fogDelay g2 g5 g7 g8 g9).2 != (fogDelay g2 g5 g7 g8 g9).2)) <| s_pq (.bool ((fogDelay g2 g5 g7 g8 g9).2 != (fogDelay g2 g5 g7 g8 g9).2)) <| s_splitN rfl (by first | assumption | omega | (simp [fl128a]; done) | (simp [fl128b]; done) | (simp; done) | (simp; omega) | simp_all) ?_
 refine s_run rfl <| s_pq (.int .i64 ((fogDelay g2 g5 g7 g8 g9).1)) <| s_run rfl <| s_pq (.int .i64 ((fogDelay g2 g5 g7 g8 g9).1)) <| s_run rfl <| s_pq (.bool ((fogDelay g2 g5 g7 g8 g9).1 != (fogDelay g2 g5 g7 g8 g9).1)) <| s_pq (.bool ((fogDelay g2 g5 g7 g8 g9).1 != (fogDelay g2 g5 g7 g8 g9).1)) <| s_pq (.bool ((fogDelay g2 g5 g7 g8 g9).1 != (fogDelay g2 g5 g7 g8 g9).1)) <| s_splitN rfl (by first | assumption | omega | (simp [fl128a]; done) | (simp [fl128b]; done) | (simp; done) | (simp; omega) | simp_all) ?_
 refine s_run rfl <| s_pq (.bool ((latest g64 g67 g69 g70 g71).2)) <| s_run rfl <| s_pq (.bool ((latest g64 g67 g69 g70 g71).2)) <| s_run rfl <| s_pq (.bool ((latest g64 g67 g69 g70 g71).2 != (latest g64 g67 g69 g70 g71).2)) <| s_pq (.bool ((latest g64 g67 g69 g70 g71).2 != (latest g64 g67 g69 g70 g71).2)) <| s_pq (.bool ((latest g64 g67 g69 g70 g71).2 != (latest g64 g67 g69 g70 g71).2)) <| s_splitN rfl (by first | assumption | omega | (simp [fl128a]; done) | (simp [fl128b]; done) | (simp; done) | (simp; omega) | simp_all) ?_
 refine s_run rfl <| s_pq (.int .i64 ((latest g64 g67 g69 g70 g71).1)) <| s_run rfl <| s_pq (.int .i64 ((latest g64 g67 g69 g70 g71).1)) <| s_run rfl <| s_pq (.bool ((latest g64 g67 g69 g70 g71).1 != (latest g64 g67 g69 g70 g71).1)) <| s_pq (.bool ((latest g64 g67 g69 g70 g71).1 != (latest g64 g67 g69 g70 g71).1)) <| s_pq (.bool ((latest g64 g67 g69 g70 g71).1 != (latest g64 g67 g69 g70 g71).1)) <| s_splitN rfl (by first | assumption | omega | (simp [fl128a]; done) | (simp [fl128b]; done) | (simp; done) | (simp; omega) | simp_all) ?_
 refine s_run rfl <| s_pq (.bool ((arrsFrom g96 g99 g101 g102).2)) <| s_run rfl <| s_pq (.bool ((arrsFrom g96 g99 g101 g102).2)) <| s_run rfl <| s_pq (.bool ((arrsFrom g96 g99 g101 g102).2 != (arrsFrom g96 g99 g101 g102).2)) <| s_pq (.bool ((arrsFrom g96 g99 g101 g102).2 != (arrsFrom g96 g99 g101 g102).2)) <| s_pq (.bool ((arrsFrom g96 g99 g101 g102).2 != (arrsFrom g96 g99 g101 g102).2)) <| s_splitN rfl (by first | assumption | omega | (simp [fl128a]; done) | (simp [fl128b]; done) | (simp; done) | (simp; omega) | simp_all) ?_
 refine s_run rfl <| s_pq r116 <| s_run rfl <| s_pq r124 <| s_run rfl ?_
 have f354 := ((s_r116.ext eh125).ext eh348)
 have f355 := (s_r124.ext eh348)
 refine s_call [r116, r124] rfl (laws_qInts_ok r116 ((arrsFrom g96 g99 g101 g102).1) r124 ((arrsFrom g96 g99 g101 g102).1) _ f354.toSl f355.toSl) ?_
 rintro vh353 h353 ⟨hvh353, eh353⟩
 obtain rfl : vh353 = .bool true := hvh353.trans (by rw [decide_eq_true rfl])
 have z357 := eh353.size
 refine s_run rfl <| s_pq (.bool false) <| s_pq (.bool false) <| s_pq (.bool false) <| s_splitN rfl (by simp) <| s_run rfl <| s_pq (.bool ((firstOf g2 g5 g7 g8 g9).2)) <| s_run rfl <| s_pq (.bool ((wayOf g2 g5 g7 g8 g9).2)) <| s_run rfl <| s_pq (.bool ((firstOf g2 g5 g7 g8 g9).2 != (wayOf g2 g5 g7 g8 g9).2)) <| s_pq (.bool ((firstOf g2 g5 g7 g8 g9).2 != (wayOf g2 g5 g7 g8 g9).2)) <| s_pq (.bool ((firstOf g2 g5 g7 g8 g9).2 != (wayOf g2 g5 g7 g8 g9).2)) <| s_splitN rfl (by first | assumption | omega | (simp [fl128a]; done) | (simp [fl128b]; done) | (simp; done) | (simp; omega) | simp_all) ?_
 refine s_run rfl <| s_pq (.bool ((fogDelay g2 g5 g7 g8 g9).2)) <| s_run rfl <| s_pq (.bool ((wayOf g2 g5 g7 g8 g9).2)) <| s_run rfl <| s_pq (.bool ((fogDelay g2 g5 g7 g8 g9).2 != (wayOf g2 g5 g7 g8 g9).2)) <| s_pq (.bool ((fogDelay g2 g5 g7 g8 g9).2 != (wayOf g2 g5 g7 g8 g9).2)) <| s_nil <| p_seqN <| v_condN rfl (by first | assumption | omega | (simp [fl128a]; done) | (simp [fl128b]; done) | (simp; done) | (simp; omega) | simp_all) <| v_skip <| p_seqN ?_
 exact M129 _ _ ⟨rfl, rfl, rfl, rfl, rfl, rfl, rfl, rfl, rfl, rfl, rfl, rfl, rfl, rfl, rfl, rfl, rfl, rfl, rfl, rfl, rfl, rfl, rfl⟩ (((Ext.refl _).trans eh348).trans eh353)

theorem law_ok (h : Heap) (v0 : Value) (x0 : List By) (s0 : Sl h v0 x0) (w0 : ∀ y ∈ x0, (0 ≤ y.n ∧ y.n ≤ 255)) (lx0 : x0.length ≤ 140737488351232) (v1 : Value) (x1 : List By) (s1 : Sl h v1 x1) (w1 : ∀ y ∈ x1, (0 ≤ y.n ∧ y.n ≤ 255)) (lx1 : x1.length ≤ 140737488351232) : Cn f_laws_FnFirstArrivals [v0, v1] h fun v h' => v = .bool true ∧ Ext h h' := laws_FnFirstArrivals_ok v0 x0 v1 x1 h s0 s1 w0 w1 lx0 lx1
end Go.Proofs.Ytgbaonaopkdlpaa.finFnFirstArrivals

