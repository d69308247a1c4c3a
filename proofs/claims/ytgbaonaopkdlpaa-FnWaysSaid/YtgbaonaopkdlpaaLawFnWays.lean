/- LawFnWays. Condition: none. -/
import Derived.Test.YtgbaonaopkdlpaaMgG
/- The law FnWays: its text returns true. Condition: none. Printed by a program. -/
namespace Go.Proofs.Ytgbaonaopkdlpaa.finFnWays
open Go.Vc
set_option linter.all false
set_option maxRecDepth 100000
set_option maxHeartbeats 4000000
set_option maxRecDepth 10000 in
set_option maxHeartbeats 4000000 in
theorem laws_FnWays_ok (v_code : Value) (code : List By) (v_more : Value) (more : List By) (h : Heap) (s_code : Sl h v_code code) (s_more : Sl h v_more more) (hb0 : ∀ y ∈ code, 0 ≤ y.n ∧ y.n ≤ 255) (hb1 : ∀ y ∈ more, 0 ≤ y.n ∧ y.n ≤ 255) (hl0 : code.length ≤ 140737488351232) (hl1 : more.length ≤ 140737488351232) : Cn f_laws_FnWays [v_code, v_more] h fun v h' => v = .bool true ∧ Ext h h' := by
 have l63_code := s_code.len63
 have lt_more := s_more.lt
 have l63_more := s_more.len63
 refine calls_of r_laws_FnWays ?_
 refine v_seq <| v_ops <| s_pq (.bool false) <| s_nil <| p_seqN <| v_seq <| v_seq <| v_ops <| s_pq v_code <| s_pure (.int .i64 (code.length : Int)) (fun _ q => s_code.lenVC q) <| s_pq v_more <| s_pure (.int .i64 (more.length : Int)) (fun _ q => s_more.lenVC q) <| s_pure (.int .i64 ((code.length : Int) + (more.length : Int))) (fun _ q => ArithVC.mk (by omega) q) <| s_pq (.bool (decide (((code.length : Int) + (more.length : Int)) > 1048576))) <| s_nil <| p_seqN ?_
 refine v_cond rfl (fun c1 => ?_) (fun c1 => ?_)
 ·
  refine v_seq <| v_ops <| s_pq (.bool true) <| s_nil <| p_seqN <| v_ret <| p_seqR <| p_ret [.bool true] (.bool true) (fun _ q => q) rfl ?_
  have ho : true = true := by first | rfl | exact (decide_eq_true hfinB).symm | (exfalso; first | omega | exact absurd hnowE (by assumption) | (have q_ := waits_pos hal (by assumption); omega) | (have q_ := hws (by assumption); omega) | (have q_ := hmm (by omega); simp_all; done) | (have q_ := hmm (by omega); have r_ := hws; simp_all; omega) | (simp_all; done))
  exact ⟨by first | (rw [ho]; done) | rfl, (Ext.refl h)⟩
 have hbig : code.length ≤ 1048576 ∧ more.length ≤ 1048576 := by omega
 refine v_skip <| p_seqN <| v_seq <| v_ops <| s_pq v_code <| s_call [v_code] rfl (spec_DrawWaitsAlong_ok v_code code _ s_code (by first | omega | assumption | (simp; done) | (simp; omega)) (by first | omega | assumption | (simp; done) | (simp; omega))) ?_
 rintro _ h10 ⟨g2, g5, g7, g9, r3, r4, r6, r8, rfl, s_r3, fr_r3, s_r4, fr_r4, s_r6, fr_r6, s_r8, fr_r8, ap_r3_r4, ap_r3_r6, ap_r3_r8, ap_r4_r6, ap_r4_r8, ap_r6_r8, qh10, eh10⟩
 have E11 := (Ext.refl h).trans eh10
 have z12 := eh10.size
 have lt_r3 := s_r3.lt
 have lt_r4 := s_r4.lt
 have lt_r6 := s_r6.lt
 have lt_r8 := s_r8.lt
 refine s_pq (.tuple #[.agg #[r3, r4], r6, r8, .int .i64 g9]) <| s_pq (.agg #[r3, r4]) <| s_pq r6 <| s_pq r8 <| s_pq (.int .i64 g9) ?_
 refine s_new (fun h14 b13 hbb13 hzb13 eh14 bxb13 => ?_)
 have E15 := E11.trans eh14
 have z16 := eh14.size
 have lbb13 := bxb13.lt
 refine s_stBx (.agg #[r3, r4]) [r3, r4] [r3, r4] bxb13 rfl rfl rfl rfl (by simp) (all_cons s_r3.one1 (all_cons s_r4.one1 all_nil)) rfl (fun h17 mh17 sh17 bxx18 => ?_)
 have E19 := E15.mod mh17 (fun b hb => by simp at hb; omega)
 refine s_pq r6 <| s_pq r8 <| s_pq (.int .i64 g9) <| s_nil <| p_seqN <| v_seq <| v_ops <| s_load (.agg #[r3, r4]) (fun _ q => bxx18.loadA rfl q) <| s_pq r6 <| s_pq r8 <| s_pq (.int .i64 g9) ?_
 have f20 := ((s_r3.ext eh14).mod mh17 (fun b hb hc => by simp at hc; have := lt_r3 b hb; omega))
 have f21 := ((s_r4.ext eh14).mod mh17 (fun b hb hc => by simp at hc; have := lt_r4 b hb; omega))
 have f22 := ((s_r6.ext eh14).mod mh17 (fun b hb hc => by simp at hc; have := lt_r6 b hb; omega))
 have f23 := ((s_r8.ext eh14).mod mh17 (fun b hb hc => by simp at hc; have := lt_r8 b hb; omega))
 refine s_call [.agg #[r3, r4], r6, r8, .int .i64 g9] rfl (impl_WaitsAlong_ok g2 r3 r4 r6 g5 r8 g7 g9 _ f20.toSl f21.toSl f22.toSl f23.toSl) ?_
 rintro _ h25 ⟨r24, rfl, s_r24, fr_r24, eh25⟩
 have E26 := E19.trans eh25
 have z27 := eh25.size
 have lt_r24 := s_r24.lt
 refine s_pq (.tuple #[r24, .bool ((waitsOf g2 g5 g7 g9).2)]) <| s_pq r24 <| s_pq (.bool ((waitsOf g2 g5 g7 g9).2)) <| s_pq r24 <| s_pq (.bool ((waitsOf g2 g5 g7 g9).2)) <| s_nil <| p_seqN <| v_seq <| v_ops ?_
 have f28 := (bxx18.ext eh25)
 refine s_load (.agg #[r3, r4]) (fun _ q => f28.loadA rfl q) <| s_pq r6 <| s_pq r8 <| s_pq (.int .i64 g9) ?_
 have f29 := (f20.ext eh25)
 have f30 := (f21.ext eh25)
 have f31 := (f22.ext eh25)
 have f32 := (f23.ext eh25)
 refine s_call [.agg #[r3, r4], r6, r8, .int .i64 g9] rfl (spec_WaitsAlong_ok g2 r3 r4 r6 g5 r8 g7 g9 _ f29.toSl f30.toSl f31.toSl f32.toSl) ?_
 rintro _ h34 ⟨r33, rfl, s_r33, fr_r33, eh34⟩
 have E35 := E26.trans eh34
 have z36 := eh34.size
 have lt_r33 := s_r33.lt
 refine s_pq (.tuple #[r33, .bool ((waitsOf g2 g5 g7 g9).2)]) <| s_pq r33 <| s_pq (.bool ((waitsOf g2 g5 g7 g9).2)) <| s_pq r33 <| s_pq (.bool ((waitsOf g2 g5 g7 g9).2)) <| s_nil <| p_seqN <| v_seq <| v_ops ?_
 have f37 := (f28.ext eh34)
 refine s_load (.agg #[r3, r4]) (fun _ q => f37.loadA rfl q) <| s_pq r6 <| s_pq r8 <| s_pq (.int .i64 g9) ?_
 have f38 := (f29.ext eh34)
 have f39 := (f30.ext eh34)
 have f40 := (f31.ext eh34)
 have f41 := (f32.ext eh34)
 refine s_call [.agg #[r3, r4], r6, r8, .int .i64 g9] rfl (impl_ArrivalAlong_ok g2 r3 r4 r6 g5 r8 g7 g9 _ f38.toSl f39.toSl f40.toSl f41.toSl) ?_
 rintro _ h42 ⟨rfl, eh42⟩
 have E43 := E35.trans eh42
 have z44 := eh42.size
 refine s_pq (.tuple #[.int .i64 ((arrivOf g2 g5 g7 g9).1), .bool ((arrivOf g2 g5 g7 g9).2)]) <| s_pq (.int .i64 ((arrivOf g2 g5 g7 g9).1)) <| s_pq (.bool ((arrivOf g2 g5 g7 g9).2)) <| s_pq (.int .i64 ((arrivOf g2 g5 g7 g9).1)) <| s_pq (.bool ((arrivOf g2 g5 g7 g9).2)) <| s_nil <| p_seqN <| v_seq <| v_ops ?_
 have f45 := (f37.ext eh42)
 refine s_load (.agg #[r3, r4]) (fun _ q => f45.loadA rfl q) <| s_pq r6 <| s_pq r8 <| s_pq (.int .i64 g9) ?_
 have f46 := (f38.ext eh42)
 have f47 := (f39.ext eh42)
 have f48 := (f40.ext eh42)
 have f49 := (f41.ext eh42)
 refine s_call [.agg #[r3, r4], r6, r8, .int .i64 g9] rfl (spec_ArrivalAlong_ok g2 r3 r4 r6 g5 r8 g7 g9 _ f46.toSl f47.toSl f48.toSl f49.toSl) ?_
 rintro _ h50 ⟨rfl, eh50⟩
 have E51 := E43.trans eh50
 have z52 := eh50.size
 refine s_pq (.tuple #[.int .i64 ((arrivOf g2 g5 g7 g9).1), .bool ((arrivOf g2 g5 g7 g9).2)]) <| s_pq (.int .i64 ((arrivOf g2 g5 g7 g9).1)) <| s_pq (.bool ((arrivOf g2 g5 g7 g9).2)) <| s_pq (.int .i64 ((arrivOf g2 g5 g7 g9).1)) <| s_pq (.bool ((arrivOf g2 g5 g7 g9).2)) <| s_nil <| p_seqN <| v_seq <| v_ops <| s_pq v_more ?_
 have f53 := (((((((s_more.ext eh10).ext eh14).mod mh17 (fun b hb hc => by simp at hc; have := lt_more b hb; omega)).ext eh25).ext eh34).ext eh42).ext eh50)
 refine s_call [v_more] rfl (spec_DrawLinksThatMatter_ok v_more more _ f53 (by first | omega | assumption | (simp; done) | (simp; omega)) (by first | omega | assumption | (simp; done) | (simp; omega))) ?_
 rintro _ h59 ⟨g54, g57, g58, r55, r56, rfl, s_r55, fr_r55, s_r56, fr_r56, ap_r55_r56, qh59, eh59⟩
 have E60 := E51.trans eh59
 have z61 := eh59.size
 have lt_r55 := s_r55.lt
 have lt_r56 := s_r56.lt
 refine s_pq (.tuple #[.agg #[r55, r56], .int .i64 g57, .int .i64 g58]) <| s_pq (.agg #[r55, r56]) <| s_pq (.int .i64 g57) <| s_pq (.int .i64 g58) ?_
 refine s_new (fun h63 b62 hbb62 hzb62 eh63 bxb62 => ?_)
 have E64 := E60.trans eh63
 have z65 := eh63.size
 have lbb62 := bxb62.lt
 refine s_stBx (.agg #[r55, r56]) [r55, r56] [r55, r56] bxb62 rfl rfl rfl rfl (by simp) (all_cons s_r55.one1 (all_cons s_r56.one1 all_nil)) rfl (fun h66 mh66 sh66 bxx67 => ?_)
 have E68 := E64.mod mh66 (fun b hb => by simp at hb; omega)
 refine s_pq (.int .i64 g57) <| s_pq (.int .i64 g58) <| s_nil <| p_seqN <| v_seq <| v_ops <| s_load (.agg #[r55, r56]) (fun _ q => bxx67.loadA rfl q) <| s_pq (.int .i64 g57) <| s_pq (.int .i64 g58) ?_
 have f69 := ((s_r55.ext eh63).mod mh66 (fun b hb hc => by simp at hc; have := lt_r55 b hb; omega))
 have f70 := ((s_r56.ext eh63).mod mh66 (fun b hb hc => by simp at hc; have := lt_r56 b hb; omega))
 refine s_call [.agg #[r55, r56], .int .i64 g57, .int .i64 g58] rfl (impl_LinksThatMatter_ok g54 r55 r56 g57 g58 _ f69.toSl f70.toSl) ?_
 rintro _ h72 ⟨r71, rfl, s_r71, fr_r71, eh72⟩
 have E73 := E68.trans eh72
 have z74 := eh72.size
 have lt_r71 := s_r71.lt
 refine s_pq (.tuple #[r71, .bool ((matterOf g54 g57 g58).2)]) <| s_pq r71 <| s_pq (.bool ((matterOf g54 g57 g58).2)) <| s_pq r71 <| s_pq (.bool ((matterOf g54 g57 g58).2)) <| s_nil <| p_seqN <| v_seq <| v_ops ?_
 have f75 := (bxx67.ext eh72)
 refine s_load (.agg #[r55, r56]) (fun _ q => f75.loadA rfl q) <| s_pq (.int .i64 g57) <| s_pq (.int .i64 g58) ?_
 have f76 := (f69.ext eh72)
 have f77 := (f70.ext eh72)
 refine s_call [.agg #[r55, r56], .int .i64 g57, .int .i64 g58] rfl (spec_LinksThatMatter_ok g54 r55 r56 g57 g58 _ f76.toSl f77.toSl) ?_
 rintro _ h79 ⟨r78, rfl, s_r78, fr_r78, eh79⟩
 have E80 := E73.trans eh79
 have z81 := eh79.size
 have lt_r78 := s_r78.lt
 refine s_pq (.tuple #[r78, .bool ((matterOf g54 g57 g58).2)]) <| s_pq r78 <| s_pq (.bool ((matterOf g54 g57 g58).2)) <| s_pq r78 <| s_pq (.bool ((matterOf g54 g57 g58).2)) <| s_nil <| p_seqN <| v_seq <| v_ops ?_
 have f82 := (f75.ext eh79)
 refine s_load (.agg #[r55, r56]) (fun _ q => f82.loadA rfl q) <| s_pq (.int .i64 g57) <| s_pq (.int .i64 g58) ?_
 have f83 := (f76.ext eh79)
 have f84 := (f77.ext eh79)
 refine s_call [.agg #[r55, r56], .int .i64 g57, .int .i64 g58] rfl (impl_PlainDelay_ok g54 r55 r56 g57 g58 _ f83.toSl f84.toSl) ?_
 rintro _ h85 ⟨rfl, eh85⟩
 have E86 := E80.trans eh85
 have z87 := eh85.size
 refine s_pq (.tuple #[.int .i64 ((firstOf g54 [] g57 g58 0).1), .bool ((firstOf g54 [] g57 g58 0).2)]) <| s_pq (.int .i64 ((firstOf g54 [] g57 g58 0).1)) <| s_pq (.bool ((firstOf g54 [] g57 g58 0).2)) <| s_pq (.int .i64 ((firstOf g54 [] g57 g58 0).1)) <| s_pq (.bool ((firstOf g54 [] g57 g58 0).2)) <| s_nil <| p_seqN <| v_seq <| v_ops ?_
 have f88 := (f82.ext eh85)
 refine s_load (.agg #[r55, r56]) (fun _ q => f88.loadA rfl q) <| s_pq (.int .i64 g57) <| s_pq (.int .i64 g58) ?_
 have f89 := (f83.ext eh85)
 have f90 := (f84.ext eh85)
 refine s_call [.agg #[r55, r56], .int .i64 g57, .int .i64 g58] rfl (spec_PlainDelay_ok g54 r55 r56 g57 g58 _ f89.toSl f90.toSl) ?_
 rintro _ h91 ⟨rfl, eh91⟩
 have E92 := E86.trans eh91
 have z93 := eh91.size
 have fl94 : (matterOf g54 g57 g58).2 = (firstOf g54 [] g57 g58 0).2 := matter_flag
 have fl95 : (arrivOf g2 g5 g7 g9).2 = (waitsOf g2 g5 g7 g9).2 := rfl
 refine s_pq (.tuple #[.int .i64 ((firstOf g54 [] g57 g58 0).1), .bool ((firstOf g54 [] g57 g58 0).2)]) <| s_pq (.int .i64 ((firstOf g54 [] g57 g58 0).1)) <| s_pq (.bool ((firstOf g54 [] g57 g58 0).2)) <| s_pq (.int .i64 ((firstOf g54 [] g57 g58 0).1)) <| s_pq (.bool ((firstOf g54 [] g57 g58 0).2)) <| s_nil <| p_seqN <| v_seq <| v_ops <| s_pq v_more ?_
 have f96 := (((((((f53.ext eh59).ext eh63).mod mh66 (fun b hb hc => by simp at hc; have := lt_more b hb; omega)).ext eh72).ext eh79).ext eh85).ext eh91)
 refine s_call [v_more] rfl (spec_DrawDelayWithout_ok v_more more _ f96 (by first | omega | assumption | (simp; done) | (simp; omega)) (by first | omega | assumption | (simp; done) | (simp; omega))) ?_
 rintro _ h103 ⟨g97, g100, g101, g102, r98, r99, rfl, s_r98, fr_r98, s_r99, fr_r99, ap_r98_r99, qh103, eh103⟩
 have E104 := E92.trans eh103
 have z105 := eh103.size
 have lt_r98 := s_r98.lt
 have lt_r99 := s_r99.lt
 refine s_pq (.tuple #[.agg #[r98, r99], .int .i64 g100, .int .i64 g101, .int .i64 g102]) <| s_pq (.agg #[r98, r99]) <| s_pq (.int .i64 g100) <| s_pq (.int .i64 g101) <| s_pq (.int .i64 g102) ?_
 refine s_new (fun h107 b106 hbb106 hzb106 eh107 bxb106 => ?_)
 have E108 := E104.trans eh107
 have z109 := eh107.size
 have lbb106 := bxb106.lt
 refine s_stBx (.agg #[r98, r99]) [r98, r99] [r98, r99] bxb106 rfl rfl rfl rfl (by simp) (all_cons s_r98.one1 (all_cons s_r99.one1 all_nil)) rfl (fun h110 mh110 sh110 bxx111 => ?_)
 have E112 := E108.mod mh110 (fun b hb => by simp at hb; omega)
 refine s_pq (.int .i64 g100) <| s_pq (.int .i64 g101) <| s_pq (.int .i64 g102) <| s_nil <| p_seqN <| v_seq <| v_ops <| s_load (.agg #[r98, r99]) (fun _ q => bxx111.loadA rfl q) <| s_pq (.int .i64 g100) <| s_pq (.int .i64 g101) <| s_pq (.int .i64 g102) ?_
 have f113 := ((s_r98.ext eh107).mod mh110 (fun b hb hc => by simp at hc; have := lt_r98 b hb; omega))
 have f114 := ((s_r99.ext eh107).mod mh110 (fun b hb hc => by simp at hc; have := lt_r99 b hb; omega))
 refine s_call [.agg #[r98, r99], .int .i64 g100, .int .i64 g101, .int .i64 g102] rfl (impl_DelayWithout_ok g97 r98 r99 g100 g101 g102 _ f113.toSl f114.toSl) ?_
 rintro _ h115 ⟨rfl, eh115⟩
 have E116 := E112.trans eh115
 have z117 := eh115.size
 refine s_pq (.tuple #[.int .i64 ((delayWo g97 g100 g101 g102).1), .bool ((delayWo g97 g100 g101 g102).2)]) <| s_pq (.int .i64 ((delayWo g97 g100 g101 g102).1)) <| s_pq (.bool ((delayWo g97 g100 g101 g102).2)) <| s_pq (.int .i64 ((delayWo g97 g100 g101 g102).1)) <| s_pq (.bool ((delayWo g97 g100 g101 g102).2)) <| s_nil <| p_seqN <| v_seq <| v_ops ?_
 have f118 := (bxx111.ext eh115)
 refine s_load (.agg #[r98, r99]) (fun _ q => f118.loadA rfl q) <| s_pq (.int .i64 g100) <| s_pq (.int .i64 g101) <| s_pq (.int .i64 g102) ?_
 have f119 := (f113.ext eh115)
 have f120 := (f114.ext eh115)
 refine s_call [.agg #[r98, r99], .int .i64 g100, .int .i64 g101, .int .i64 g102] rfl (spec_DelayWithout_ok g97 r98 r99 g100 g101 g102 _ f119.toSl f120.toSl) ?_
 rintro _ h121 ⟨rfl, eh121⟩
 have E122 := E116.trans eh121
 have z123 := eh121.size
 refine s_pq (.tuple #[.int .i64 ((delayWo g97 g100 g101 g102).1), .bool ((delayWo g97 g100 g101 g102).2)]) <| s_pq (.int .i64 ((delayWo g97 g100 g101 g102).1)) <| s_pq (.bool ((delayWo g97 g100 g101 g102).2)) <| s_pq (.int .i64 ((delayWo g97 g100 g101 g102).1)) <| s_pq (.bool ((delayWo g97 g100 g101 g102).2)) <| s_nil <| p_seqN ?_
 refine v_seqM1 [(5, .pointer (some ⟨b13, 0, none⟩)), (6, r6), (7, r8), (8, .int .i64 g9), (10, .bool ((waitsOf g2 g5 g7 g9).2)), (11, r33), (15, .int .i64 ((arrivOf g2 g5 g7 g9).1)), (17, .pointer (some ⟨b62, 0, none⟩)), (18, .int .i64 g57), (19, .int .i64 g58), (21, .bool ((matterOf g54 g57 g58).2)), (22, r78), (26, .int .i64 ((firstOf g54 [] g57 g58 0).1))] (fun R125 h126 eh126 => ?_) (fun M124 => ?_)
 ·
  have E127 := E122.trans eh126
  have z128 := eh126.size
  refine v_seq <| v_seq <| v_ops <| s_pq (.bool ((matterOf g54 g57 g58).2)) <| s_nil <| p_seqN ?_
  refine v_cond rfl (fun c129 => ?_) (fun c129 => ?_)
  ·
   have hm : (firstOf g54 [] g57 g58 0).2 = true := matter_flag.symm.trans c129
   have hbk := plain_back hm
   have hbk1 : (firstOf g54 [] g58 g57 0).1 = (firstOf g54 [] g57 g58 0).1 := by rw [hbk]
   have hbk2 : (firstOf g54 [] g58 g57 0).2 = true := by rw [hbk, hm]
   have hp0 := (first_rch hm).2.1
   refine v_seq <| v_ops ?_
   have f130 := (((((((f88.ext eh91).ext eh103).ext eh107).mod mh110 (by simp; omega)).ext eh115).ext eh121).ext eh126)
   refine s_load (.agg #[r55, r56]) (fun _ q => f130.loadA rfl q) <| s_pq (.int .i64 g58) <| s_pq (.int .i64 g57) ?_
   have f131 := (((((((f89.ext eh91).ext eh103).ext eh107).mod mh110 (fun b hb hc => by simp at hc; have := lt_r55 b hb; omega)).ext eh115).ext eh121).ext eh126)
   have f132 := (((((((f90.ext eh91).ext eh103).ext eh107).mod mh110 (fun b hb hc => by simp at hc; have := lt_r56 b hb; omega)).ext eh115).ext eh121).ext eh126)
   refine s_call [.agg #[r55, r56], .int .i64 g58, .int .i64 g57] rfl (impl_PlainDelay_ok g54 r55 r56 g58 g57 _ f131.toSl f132.toSl) ?_
   rintro _ h133 ⟨rfl, eh133⟩
   have E134 := E127.trans eh133
   have z135 := eh133.size
   refine s_pq (.tuple #[.int .i64 ((firstOf g54 [] g58 g57 0).1), .bool ((firstOf g54 [] g58 g57 0).2)]) <| s_pq (.int .i64 ((firstOf g54 [] g58 g57 0).1)) <| s_pq (.bool ((firstOf g54 [] g58 g57 0).2)) <| s_pq (.int .i64 ((firstOf g54 [] g58 g57 0).1)) <| s_pq (.bool ((firstOf g54 [] g58 g57 0).2)) <| s_nil <| p_seqN ?_
   refine v_seqM1 [(5, .pointer (some ⟨b13, 0, none⟩)), (6, r6), (7, r8), (8, .int .i64 g9), (10, .bool ((waitsOf g2 g5 g7 g9).2)), (11, r33), (15, .int .i64 ((arrivOf g2 g5 g7 g9).1)), (17, .pointer (some ⟨b62, 0, none⟩)), (18, .int .i64 g57), (19, .int .i64 g58), (22, r78), (26, .int .i64 ((firstOf g54 [] g57 g58 0).1))] (fun R137 h138 eh138 => ?_) (fun M136 => ?_)
   ·
    have E139 := E134.trans eh138
    have z140 := eh138.size
    refine v_seq <| v_ops <| s_pq (.pointer (some ⟨b62, 1, none⟩)) ?_
    have f141 := ((f130.ext eh133).ext eh138)
    refine s_load r56 (fun _ q => f141.load rfl q) <| s_pure (.int .i64 (g54.links.length : Int)) (fun _ q => f132.lenVC q) <| s_pq (.int .i64 0) <| s_nil <| p_seqN <| v_block ?_
    have nk143 : b13 ∉ blks r3 := (fun hc => by have := lt_r3 _ hc; omega)
    have nk144 : b62 ∉ blks r3 := (fun hc => by have := lt_r3 _ hc; omega)
    have nk145 : b13 ∉ blks r4 := (fun hc => by have := lt_r4 _ hc; omega)
    have nk146 : b62 ∉ blks r4 := (fun hc => by have := lt_r4 _ hc; omega)
    have nk147 : b13 ∉ blks r6 := (fun hc => by have := lt_r6 _ hc; omega)
    have nk148 : b62 ∉ blks r6 := (fun hc => by have := lt_r6 _ hc; omega)
    have nk149 : b13 ∉ blks r8 := (fun hc => by have := lt_r8 _ hc; omega)
    have nk150 : b62 ∉ blks r8 := (fun hc => by have := lt_r8 _ hc; omega)
    have nk151 : b13 ∉ blks r33 := (fun hc => by have := fr_r33 _ hc; omega)
    have nk152 : b62 ∉ blks r33 := (fun hc => by have := lt_r33 _ hc; omega)
    have nk153 : b13 ∉ blks r55 := (fun hc => by have := fr_r55 _ hc; omega)
    have nk154 : b62 ∉ blks r55 := (fun hc => by have := lt_r55 _ hc; omega)
    have nk155 : b13 ∉ blks r56 := (fun hc => by have := fr_r56 _ hc; omega)
    have nk156 : b62 ∉ blks r56 := (fun hc => by have := lt_r56 _ hc; omega)
    have nk157 : b13 ∉ blks r78 := (fun hc => by have := fr_r78 _ hc; omega)
    have nk158 : b62 ∉ blks r78 := (fun hc => by have := fr_r78 _ hc; omega)
    have f159 := ((((((((((((((((f45.ext eh50).ext eh59).ext eh63).mod mh66 (by simp; omega)).ext eh72).ext eh79).ext eh85).ext eh91).ext eh103).ext eh107).mod mh110 (by simp; omega)).ext eh115).ext eh121).ext eh126).ext eh133).ext eh138)
    have f160 := ((((((((((((((((f46.ext eh50).ext eh59).ext eh63).mod mh66 (fun b hb hc => by simp at hc; have := lt_r3 b hb; omega)).ext eh72).ext eh79).ext eh85).ext eh91).ext eh103).ext eh107).mod mh110 (fun b hb hc => by simp at hc; have := lt_r3 b hb; omega)).ext eh115).ext eh121).ext eh126).ext eh133).ext eh138)
    have f161 := ((((((((((((((((f47.ext eh50).ext eh59).ext eh63).mod mh66 (fun b hb hc => by simp at hc; have := lt_r4 b hb; omega)).ext eh72).ext eh79).ext eh85).ext eh91).ext eh103).ext eh107).mod mh110 (fun b hb hc => by simp at hc; have := lt_r4 b hb; omega)).ext eh115).ext eh121).ext eh126).ext eh133).ext eh138)
    have f162 := ((((((((((((((((f48.ext eh50).ext eh59).ext eh63).mod mh66 (fun b hb hc => by simp at hc; have := lt_r6 b hb; omega)).ext eh72).ext eh79).ext eh85).ext eh91).ext eh103).ext eh107).mod mh110 (fun b hb hc => by simp at hc; have := lt_r6 b hb; omega)).ext eh115).ext eh121).ext eh126).ext eh133).ext eh138)
    have f163 := ((((((((((((((((f49.ext eh50).ext eh59).ext eh63).mod mh66 (fun b hb hc => by simp at hc; have := lt_r8 b hb; omega)).ext eh72).ext eh79).ext eh85).ext eh91).ext eh103).ext eh107).mod mh110 (fun b hb hc => by simp at hc; have := lt_r8 b hb; omega)).ext eh115).ext eh121).ext eh126).ext eh133).ext eh138)
    have f164 := (((((((((((((((((s_r33.ext eh42).ext eh50).ext eh59).ext eh63).mod mh66 (fun b hb hc => by simp at hc; have := lt_r33 b hb; omega)).ext eh72).ext eh79).ext eh85).ext eh91).ext eh103).ext eh107).mod mh110 (fun b hb hc => by simp at hc; have := lt_r33 b hb; omega)).ext eh115).ext eh121).ext eh126).ext eh133).ext eh138)
    have f165 := ((f131.ext eh133).ext eh138)
    have f166 := ((f132.ext eh133).ext eh138)
    have f167 := ((((((((((s_r78.ext eh85).ext eh91).ext eh103).ext eh107).mod mh110 (fun b hb hc => by simp at hc; have := lt_r78 b hb; omega)).ext eh115).ext eh121).ext eh126).ext eh133).ext eh138)
    refine v_loop1 (α := Nat) (fun k => [(5, .pointer (some ⟨b13, 0, none⟩)), (6, r6), (7, r8), (8, .int .i64 g9), (10, .bool ((waitsOf g2 g5 g7 g9).2)), (11, r33), (15, .int .i64 ((arrivOf g2 g5 g7 g9).1)), (17, .pointer (some ⟨b62, 0, none⟩)), (18, .int .i64 g57), (19, .int .i64 g58), (22, r78), (26, .int .i64 ((firstOf g54 [] g57 g58 0).1)), (232, .int .i64 (g54.links.length : Int)), (233, .int .i64 (k : Int))]) (fun k hh => Ext h hh ∧ Bx hh b13 [r3, r4] 26 ∧ Bx hh b62 [r55, r56] 26 ∧ SlO hh r3 g2.towers ∧ SlO hh r4 g2.links ∧ SlO hh r6 g5 ∧ SlO hh r8 g7 ∧ SlO hh r33 ((waitsOf g2 g5 g7 g9).1) ∧ SlO hh r55 g54.towers ∧ SlO hh r56 g54.links ∧ SlO hh r78 ((matterOf g54 g57 g58).1) ∧ k ≤ g54.links.length) (fun k => g54.links.length - k) 0 ⟨rfl, rfl, rfl, rfl, rfl, rfl, rfl, rfl, rfl, rfl, rfl, rfl, rfl, rfl⟩ ⟨E139, f159, f141, f160, f161, f162, f163, f164, f165, f166, f167, (by exact Nat.zero_le _)⟩ ?_
    rintro k R168 h142 ⟨Eh, bxb13, bxb62, s_r3, s_r4, s_r6, s_r8, s_r33, s_r55, s_r56, s_r78, hk⟩
    have zEh := Eh.size
    have ltk_r3 := s_r3.lt
    have ltk_r4 := s_r4.lt
    have ltk_r6 := s_r6.lt
    have ltk_r8 := s_r8.lt
    have lbb13 := bxb13.lt
    have ltk_r33 := s_r33.lt
    have ltk_r55 := s_r55.lt
    have ltk_r56 := s_r56.lt
    have lbb62 := bxb62.lt
    have ltk_r78 := s_r78.lt
    have hmm : k < g54.links.length → (((k : Int) ∈ (matterOf g54 g57 g58).1) ↔ ((delayWo g54 (k : Int) g57 g58).2 = false ∨ (delayWo g54 (k : Int) g57 g58).1 > (firstOf g54 [] g57 g58 0).1)) := fun h => matter_mem hm h
    have hws : (delayWo g54 (k : Int) g57 g58).2 = true → (firstOf g54 [] g57 g58 0).1 ≤ (delayWo g54 (k : Int) g57 g58).1 := fun h => (wo_slower h).2
    refine v_seq <| v_ops <| s_pq (.bool (decide ((k : Int) < (g54.links.length : Int)))) <| s_nil <| p_seqN <| v_seq ?_
    refine v_cond rfl (fun c172 => ?_) (fun c172 => ?_)
    ·
     refine v_skip <| p_seqN <| v_seq <| v_block <| v_seq <| v_ops <| s_pq (.int .i64 (k : Int)) <| s_pq (.int .i64 (k : Int)) <| s_nil <| p_seqN <| v_seq <| v_ops <| s_load (.agg #[r55, r56]) (fun _ q => bxb62.loadA rfl q) <| s_pq (.int .i64 (k : Int)) <| s_pq (.int .i64 g57) <| s_pq (.int .i64 g58) <| s_call [.agg #[r55, r56], .int .i64 (k : Int), .int .i64 g57, .int .i64 g58] rfl (impl_DelayWithout_ok g54 r55 r56 (k : Int) g57 g58 _ s_r55.toSl s_r56.toSl) ?_
     rintro _ h173 ⟨rfl, eh173⟩
     have E174 := Eh.trans eh173
     have z175 := eh173.size
     refine s_pq (.tuple #[.int .i64 ((delayWo g54 (k : Int) g57 g58).1), .bool ((delayWo g54 (k : Int) g57 g58).2)]) <| s_pq (.int .i64 ((delayWo g54 (k : Int) g57 g58).1)) <| s_pq (.bool ((delayWo g54 (k : Int) g57 g58).2)) <| s_pq (.int .i64 ((delayWo g54 (k : Int) g57 g58).1)) <| s_pq (.bool ((delayWo g54 (k : Int) g57 g58).2)) <| s_nil <| p_seqN <| v_seq <| v_ops ?_
     have f176 := (bxb62.ext eh173)
     refine s_load (.agg #[r55, r56]) (fun _ q => f176.loadA rfl q) <| s_pq (.int .i64 (k : Int)) <| s_pq (.int .i64 g57) <| s_pq (.int .i64 g58) ?_
     have f177 := (s_r55.ext eh173)
     have f178 := (s_r56.ext eh173)
     refine s_call [.agg #[r55, r56], .int .i64 (k : Int), .int .i64 g57, .int .i64 g58] rfl (spec_DelayWithout_ok g54 r55 r56 (k : Int) g57 g58 _ f177.toSl f178.toSl) ?_
     rintro _ h179 ⟨rfl, eh179⟩
     have E180 := E174.trans eh179
     have z181 := eh179.size
     refine s_pq (.tuple #[.int .i64 ((delayWo g54 (k : Int) g57 g58).1), .bool ((delayWo g54 (k : Int) g57 g58).2)]) <| s_pq (.int .i64 ((delayWo g54 (k : Int) g57 g58).1)) <| s_pq (.bool ((delayWo g54 (k : Int) g57 g58).2)) <| s_pq (.int .i64 ((delayWo g54 (k : Int) g57 g58).1)) <| s_pq (.bool ((delayWo g54 (k : Int) g57 g58).2)) <| s_nil <| p_seqN <| v_seq <| v_ops <| s_pq (.bool ((delayWo g54 (k : Int) g57 g58).2)) <| s_pq (.bool ((delayWo g54 (k : Int) g57 g58).2)) <| s_pq (.bool ((delayWo g54 (k : Int) g57 g58).2 != (delayWo g54 (k : Int) g57 g58).2)) ?_
     refine s_pq (.bool ((delayWo g54 (k : Int) g57 g58).2 != (delayWo g54 (k : Int) g57 g58).2)) <| s_splitN rfl (by first | assumption | omega | (simp [fl94]; done) | (simp [fl95]; done) | (simp [hbk2]; done) | (simp [hbk1]; done) | (simp; done) | (simp; omega) | simp_all) <| s_run rfl <| s_pq (.int .i64 ((delayWo g54 (k : Int) g57 g58).1)) <| s_run rfl <| s_pq (.int .i64 ((delayWo g54 (k : Int) g57 g58).1)) <| s_run rfl <| s_pq (.bool ((delayWo g54 (k : Int) g57 g58).1 != (delayWo g54 (k : Int) g57 g58).1)) ?_
     refine s_pq (.bool ((delayWo g54 (k : Int) g57 g58).1 != (delayWo g54 (k : Int) g57 g58).1)) <| s_pq (.bool ((delayWo g54 (k : Int) g57 g58).1 != (delayWo g54 (k : Int) g57 g58).1)) <| s_splitN rfl (by first | assumption | omega | (simp [fl94]; done) | (simp [fl95]; done) | (simp [hbk2]; done) | (simp [hbk1]; done) | (simp; done) | (simp; omega) | simp_all) <| s_run rfl <| s_pq (.bool ((delayWo g54 (k : Int) g57 g58).2)) <| s_run rfl <| s_pq (.bool ((delayWo g54 (k : Int) g57 g58).2)) ?_
     refine s_splitT rfl (fun c182 => ?_) (fun c182 => ?_)
     ·
      refine s_run rfl <| s_pq (.int .i64 ((delayWo g54 (k : Int) g57 g58).1)) <| s_run rfl <| s_pq (.int .i64 ((firstOf g54 [] g57 g58 0).1)) <| s_run rfl <| s_pq (.bool (decide ((delayWo g54 (k : Int) g57 g58).1 < (firstOf g54 [] g57 g58 0).1))) <| s_run rfl <| s_pq (.bool (decide ((delayWo g54 (k : Int) g57 g58).1 < (firstOf g54 [] g57 g58 0).1))) <| s_pq (.bool (decide ((delayWo g54 (k : Int) g57 g58).1 < (firstOf g54 [] g57 g58 0).1))) <| s_pq (.bool (decide ((delayWo g54 (k : Int) g57 g58).1 < (firstOf g54 [] g57 g58 0).1))) ?_
      refine s_splitT rfl (fun c183 => ?_) (fun c183 => ?_)
      ·
       refine s_pass rfl <| s_pass rfl <| s_pass rfl <| s_pass rfl <| s_pass rfl <| s_pass rfl <| s_splitU rfl <| s_passU rfl <| s_passU rfl <| s_passU rfl <| s_pass rfl <| s_pass rfl <| s_pq (.bool true) <| s_nil <| p_seqN <| v_condY rfl rfl <| v_seq <| v_ops <| s_pq (.bool false) <| s_nil <| p_seqN <| v_ret <| p_blkR <| p_seqR <| p_lpR <| p_blkR <| p_seqR <| p_ret [.bool false] (.bool false) (fun _ q => q) rfl ?_
       have ho : true = false := by first | rfl | exact (decide_eq_true hfinB).symm | (exfalso; first | omega | exact absurd hnowE (by assumption) | (have q_ := waits_pos hal (by assumption); omega) | (have q_ := hws (by assumption); omega) | (have q_ := hmm (by omega); simp_all; done) | (have q_ := hmm (by omega); have r_ := hws; simp_all; omega) | (simp_all; done))
       exact ⟨by first | (rw [ho]; done) | rfl, E180⟩
      refine s_run rfl <| s_pq r78 <| s_run rfl <| s_pq (.int .i64 (k : Int)) <| s_run rfl ?_
      have f184 := ((s_r78.ext eh173).ext eh179)
      refine s_call [r78, .int .i64 (k : Int)] rfl (laws_qHas_ok r78 ((matterOf g54 g57 g58).1) (k : Int) _ f184.toSl) ?_
      rintro _ h185 ⟨rfl, eh185⟩
      have E186 := E180.trans eh185
      have z187 := eh185.size
      refine s_run rfl <| s_pq (.bool ((delayWo g54 (k : Int) g57 g58).2)) <| s_run rfl <| s_pq (.bool (!(delayWo g54 (k : Int) g57 g58).2)) <| s_run rfl <| s_pq (.bool (!(delayWo g54 (k : Int) g57 g58).2)) <| s_splitN rfl (by first | assumption | omega | (simp [fl94]; done) | (simp [fl95]; done) | (simp [hbk2]; done) | (simp [hbk1]; done) | (simp; done) | (simp; omega) | simp_all) <| s_run rfl <| s_pq (.int .i64 ((delayWo g54 (k : Int) g57 g58).1)) <| s_run rfl <| s_pq (.int .i64 ((firstOf g54 [] g57 g58 0).1)) ?_
      refine s_run rfl <| s_pq (.bool (decide ((delayWo g54 (k : Int) g57 g58).1 > (firstOf g54 [] g57 g58 0).1))) <| s_run rfl <| s_pq (.bool (decide ((delayWo g54 (k : Int) g57 g58).1 > (firstOf g54 [] g57 g58 0).1))) <| s_run rfl <| s_pq (.bool ((decide ((k : Int) ∈ ((matterOf g54 g57 g58).1))) != (decide ((delayWo g54 (k : Int) g57 g58).1 > (firstOf g54 [] g57 g58 0).1)))) <| s_pq (.bool ((decide ((k : Int) ∈ ((matterOf g54 g57 g58).1))) != (decide ((delayWo g54 (k : Int) g57 g58).1 > (firstOf g54 [] g57 g58 0).1)))) ?_
      refine s_nil <| p_seqN ?_
      refine v_cond rfl (fun c188 => ?_) (fun c188 => ?_)
      ·
       refine v_seq <| v_ops <| s_pq (.bool false) <| s_nil <| p_seqN <| v_ret <| p_blkR <| p_seqR <| p_lpR <| p_blkR <| p_seqR <| p_ret [.bool false] (.bool false) (fun _ q => q) rfl ?_
       have ho : true = false := by first | rfl | exact (decide_eq_true hfinB).symm | (exfalso; first | omega | exact absurd hnowE (by assumption) | (have q_ := waits_pos hal (by assumption); omega) | (have q_ := hws (by assumption); omega) | (have q_ := hmm (by omega); simp_all; done) | (have q_ := hmm (by omega); have r_ := hws; simp_all; omega) | (simp_all; done))
       exact ⟨by first | (rw [ho]; done) | rfl, E186⟩
      have c188 := Classical.not_not.1 c188
      refine v_skip <| p_blkN <| p_seqN <| v_ops <| s_pure (.int .i64 ((k : Int) + 1)) (fun _ q => ArithVC.mk (by omega) q) <| s_pq (.int .i64 ((k : Int) + 1)) <| s_nil ?_
      have f189 := (((bxb13.ext eh173).ext eh179).ext eh185)
      have f190 := ((f176.ext eh179).ext eh185)
      have f191 := (((s_r3.ext eh173).ext eh179).ext eh185)
      have f192 := (((s_r4.ext eh173).ext eh179).ext eh185)
      have f193 := (((s_r6.ext eh173).ext eh179).ext eh185)
      have f194 := (((s_r8.ext eh173).ext eh179).ext eh185)
      have f195 := (((s_r33.ext eh173).ext eh179).ext eh185)
      have f196 := ((f177.ext eh179).ext eh185)
      have f197 := ((f178.ext eh179).ext eh185)
      have f198 := (f184.ext eh185)
      exact p_lpN ⟨k + 1, ⟨rfl, rfl, rfl, rfl, rfl, rfl, rfl, rfl, rfl, rfl, rfl, rfl, rfl, rfl⟩, ⟨E186, f189, f190, f191, f192, f193, f194, f195, f196, f197, f198, (by omega)⟩, by omega⟩
     refine s_pass rfl <| s_pass rfl <| s_pass rfl <| s_run rfl <| s_pq (.bool false) <| s_pq (.bool false) <| s_pq (.bool false) <| s_splitN rfl (by simp) <| s_run rfl <| s_pq r78 <| s_run rfl <| s_pq (.int .i64 (k : Int)) <| s_run rfl ?_
     have f199 := ((s_r78.ext eh173).ext eh179)
     refine s_call [r78, .int .i64 (k : Int)] rfl (laws_qHas_ok r78 ((matterOf g54 g57 g58).1) (k : Int) _ f199.toSl) ?_
     rintro _ h200 ⟨rfl, eh200⟩
     have E201 := E180.trans eh200
     have z202 := eh200.size
     refine s_run rfl <| s_pq (.bool ((delayWo g54 (k : Int) g57 g58).2)) <| s_run rfl <| s_pq (.bool (!(delayWo g54 (k : Int) g57 g58).2)) <| s_run rfl <| s_pq (.bool (!(delayWo g54 (k : Int) g57 g58).2)) <| s_splitY rfl (by first | assumption | omega | (simp [fl94]; done) | (simp [fl95]; done) | (simp [hbk2]; done) | (simp [hbk1]; done) | (simp; done) | (simp; omega) | simp_all) <| s_pass rfl <| s_pass rfl <| s_pass rfl <| s_run rfl <| s_pq (.bool true) <| s_run rfl <| s_pq (.bool ((decide ((k : Int) ∈ ((matterOf g54 g57 g58).1))) != true)) ?_
     refine s_pq (.bool ((decide ((k : Int) ∈ ((matterOf g54 g57 g58).1))) != true)) <| s_nil <| p_seqN ?_
     refine v_cond rfl (fun c203 => ?_) (fun c203 => ?_)
     ·
      refine v_seq <| v_ops <| s_pq (.bool false) <| s_nil <| p_seqN <| v_ret <| p_blkR <| p_seqR <| p_lpR <| p_blkR <| p_seqR <| p_ret [.bool false] (.bool false) (fun _ q => q) rfl ?_
      have ho : true = false := by first | rfl | exact (decide_eq_true hfinB).symm | (exfalso; first | omega | exact absurd hnowE (by assumption) | (have q_ := waits_pos hal (by assumption); omega) | (have q_ := hws (by assumption); omega) | (have q_ := hmm (by omega); simp_all; done) | (have q_ := hmm (by omega); have r_ := hws; simp_all; omega) | (simp_all; done))
      exact ⟨by first | (rw [ho]; done) | rfl, E201⟩
     have c203 := Classical.not_not.1 c203
     refine v_skip <| p_blkN <| p_seqN <| v_ops <| s_pure (.int .i64 ((k : Int) + 1)) (fun _ q => ArithVC.mk (by omega) q) <| s_pq (.int .i64 ((k : Int) + 1)) <| s_nil ?_
     have f204 := (((bxb13.ext eh173).ext eh179).ext eh200)
     have f205 := ((f176.ext eh179).ext eh200)
     have f206 := (((s_r3.ext eh173).ext eh179).ext eh200)
     have f207 := (((s_r4.ext eh173).ext eh179).ext eh200)
     have f208 := (((s_r6.ext eh173).ext eh179).ext eh200)
     have f209 := (((s_r8.ext eh173).ext eh179).ext eh200)
     have f210 := (((s_r33.ext eh173).ext eh179).ext eh200)
     have f211 := ((f177.ext eh179).ext eh200)
     have f212 := ((f178.ext eh179).ext eh200)
     have f213 := (f199.ext eh200)
     exact p_lpN ⟨k + 1, ⟨rfl, rfl, rfl, rfl, rfl, rfl, rfl, rfl, rfl, rfl, rfl, rfl, rfl, rfl⟩, ⟨E201, f204, f205, f206, f207, f208, f209, f210, f211, f212, f213, (by omega)⟩, by omega⟩
    refine v_exit <| p_seqX <| p_lpX <| p_blkX <| p_seqN <| v_seq <| v_seq <| v_ops <| s_pq (.bool ((waitsOf g2 g5 g7 g9).2)) <| s_pq (.bool (!(waitsOf g2 g5 g7 g9).2)) <| s_nil <| p_seqN ?_
    refine v_cond rfl (fun c214 => ?_) (fun c214 => ?_)
    ·
     refine v_seq <| v_ops <| s_pq (.bool true) <| s_nil <| p_seqN <| v_ret <| p_seqR <| p_ret [.bool true] (.bool true) (fun _ q => q) rfl ?_
     have ho : true = true := by first | rfl | exact (decide_eq_true hfinB).symm | (exfalso; first | omega | exact absurd hnowE (by assumption) | (have q_ := waits_pos hal (by assumption); omega) | (have q_ := hws (by assumption); omega) | (have q_ := hmm (by omega); simp_all; done) | (have q_ := hmm (by omega); have r_ := hws; simp_all; omega) | (simp_all; done))
     exact ⟨by first | (rw [ho]; done) | rfl, Eh⟩
    have c214 := Classical.not_not.1 c214
    obtain ⟨hal, hw1, hw2, hw3⟩ := waits_facts c214
    have hwl := hal.hw.len
    refine v_skip <| p_seqN <| v_seq <| v_seq <| v_ops <| s_pq r33 <| s_pure (.int .i64 (((waitsOf g2 g5 g7 g9).1).length : Int)) (fun _ q => s_r33.lenVC q) <| s_pure (.int .i64 ((((waitsOf g2 g5 g7 g9).1).length : Int) + 1)) (fun _ q => ArithVC.mk (by omega) q) <| s_pq r8 <| s_pure (.int .i64 (g7.length : Int)) (fun _ q => s_r8.lenVC q) <| s_pq (.bool (((((waitsOf g2 g5 g7 g9).1).length : Int) + 1) != (g7.length : Int))) <| s_nil <| p_seqN ?_
    refine v_cond rfl (fun c215 => ?_) (fun c215 => ?_)
    ·
     refine v_seq <| v_ops <| s_pq (.bool false) <| s_nil <| p_seqN <| v_ret <| p_seqR <| p_ret [.bool false] (.bool false) (fun _ q => q) rfl ?_
     have ho : true = false := by first | rfl | exact (decide_eq_true hfinB).symm | (exfalso; first | omega | exact absurd hnowE (by assumption) | (have q_ := waits_pos hal (by assumption); omega) | (have q_ := hws (by assumption); omega) | (have q_ := hmm (by omega); simp_all; done) | (have q_ := hmm (by omega); have r_ := hws; simp_all; omega) | (simp_all; done))
     exact ⟨by first | (rw [ho]; done) | rfl, Eh⟩
    have c215 := Classical.not_not.1 c215
    refine v_skip <| p_seqN <| v_seq <| v_ops <| s_pq (.int .i64 g9) <| s_pq (.int .i64 g9) <| s_nil <| p_seqN <| v_seq <| v_seq <| v_ops <| s_pq (.int .i64 1) <| s_nil <| p_seqN <| v_block <| v_loop2 (α := Int) (β := Int) (fun i now => [(5, .pointer (some ⟨b13, 0, none⟩)), (6, r6), (7, r8), (8, .int .i64 g9), (11, r33), (15, .int .i64 ((arrivOf g2 g5 g7 g9).1)), (43, .int .i64 now), (44, .int .i64 i)]) (fun i now hh => Ext h hh ∧ Bx hh b13 [r3, r4] 26 ∧ SlO hh r3 g2.towers ∧ SlO hh r4 g2.links ∧ SlO hh r6 g5 ∧ SlO hh r8 g7 ∧ SlO hh r33 ((waitsOf g2 g5 g7 g9).1) ∧ 1 ≤ i ∧ i ≤ (g7.length : Int) ∧ now = (alTo g2 g5 ((linksOf g2 g7).take (i - 1).toNat) g9).1) (fun i now => ((g7.length : Int) - i).toNat) 1 g9 ⟨rfl, rfl, rfl, rfl, rfl, rfl, rfl, rfl⟩ ⟨Eh, bxb13, s_r3, s_r4, s_r6, s_r8, s_r33, (by exact ⟨by omega, by omega, rfl⟩)⟩ ?_
    rintro i now R217 h216 ⟨Eh, bxb13, s_r3, s_r4, s_r6, s_r8, s_r33, ⟨hi0, hi1, hnow⟩⟩
    have zEh := Eh.size
    have ltk_r3 := s_r3.lt
    have ltk_r4 := s_r4.lt
    have ltk_r6 := s_r6.lt
    have ltk_r8 := s_r8.lt
    have lbb13 := bxb13.lt
    have ltk_r33 := s_r33.lt
    have hlk : ∀ y x, g7[(i - 1).toNat]? = some y → g7[(i).toNat]? = some x → lbOut g2 y x = (lkI g2 y x, true) ∧ 0 ≤ lkI g2 y x ∧ (lkI g2 y x).toNat < g2.links.length := fun y x h1 h2 => step_facts hal (by omega) h1 h2
    have hst : ∀ y x v z, g7[(i - 1).toNat]? = some y → g7[(i).toNat]? = some x → (waitsOf g2 g5 g7 g9).1[(i - 1).toNat]? = some v → g2.links[((lbOut g2 y x).1).toNat]? = some z → 0 ≤ v ∧ (alTo g2 g5 ((linksOf g2 g7).take (i).toNat) g9).1 = now + (v + z.delay) ∧ 1 ≤ z.delay ∧ z.delay ≤ 60 ∧ 0 ≤ now ∧ (alTo g2 g5 ((linksOf g2 g7).take (i).toNat) g9).1 ≤ 20000 := fun y x v z h1 h2 h3 h4 => by rw [hnow]; exact step_wait hal (by omega) h1 h2 h3 h4
    refine v_seq <| v_seq <| v_ops <| s_pq (.int .i64 i) <| s_pq r8 <| s_pure (.int .i64 (g7.length : Int)) (fun _ q => s_r8.lenVC q) <| s_pq (.bool (decide (i < (g7.length : Int)))) <| s_nil <| p_seqN ?_
    refine v_cond rfl (fun c221 => ?_) (fun c221 => ?_)
    ·
     refine v_skip <| p_seqN <| v_seq <| v_block <| v_seq <| v_drawF <| d_pq r8 <| d_pq (.int .i64 i) <| d_pureT (.int .i64 (i - 1)) (fun _ q => ArithVC.mk (by omega) q) ?_
     have hk222 : ((i - 1)).toNat < g7.length := (by first | omega | (simp; omega))
     obtain ⟨x223, hx223⟩ : ∃ x, g7[((i - 1)).toNat]? = some x := ⟨_, List.getElem?_eq_getElem hk222⟩
     refine d_pureT (.pointer (some ⟨sblk r8, soff r8 + (((i - 1)).toNat) * 1, none⟩)) (fun _ q => s_r8.idx (k := ((i - 1)).toNat) (by omega) hk222 q) <| d_pq r8 <| d_pq (.int .i64 i) ?_
     have hk224 : (i).toNat < g7.length := (by first | omega | (simp; omega))
     obtain ⟨x225, hx225⟩ : ∃ x, g7[(i).toNat]? = some x := ⟨_, List.getElem?_eq_getElem hk224⟩
     refine d_pureT (.pointer (some ⟨sblk r8, soff r8 + ((i).toNat) * 1, none⟩)) (fun _ q => s_r8.idx (k := (i).toNat) (by omega) hk224 q) <| d_loadO (.agg #[r3, r4]) (fun _ q => bxb13.loadA rfl q) <| d_loadO (.int .i64 x223) (fun _ q => s_r8.load1 hx223 rfl q) <| d_loadO (.int .i64 x225) (fun _ q => s_r8.load1 hx225 rfl q) <| d_eff <| s_call [.agg #[r3, r4], .int .i64 x223, .int .i64 x225] rfl (spec_LinkBetween_ok g2 r3 r4 x223 x225 _ s_r3.toSl s_r4.toSl) ?_
     rintro _ h226 ⟨rfl, eh226⟩
     have E227 := Eh.trans eh226
     have z228 := eh226.size
     obtain ⟨lb230a, lb230b, lb230c⟩ := hlk _ _ hx223 hx225
     have lb230d : (lbOut g2 x223 x225).2 = true := by rw [lb230a]
     have lb230e : 0 ≤ (lbOut g2 x223 x225).1 ∧ (lbOut g2 x223 x225).1.toNat < g2.links.length := by rw [lb230a]; exact ⟨lb230b, lb230c⟩
     refine s_nil ⟨fun hl => (by cases hl), ?_⟩
     refine d_pq (.tuple #[.int .i64 ((lbOut g2 x223 x225).1), .bool ((lbOut g2 x223 x225).2)]) <| d_pq (.int .i64 ((lbOut g2 x223 x225).1)) <| d_pq (.bool ((lbOut g2 x223 x225).2)) <| d_pq (.int .i64 ((lbOut g2 x223 x225).1)) <| d_pq (.bool ((lbOut g2 x223 x225).2)) <| d_done <| p_seqN ?_
     refine v_seqM1 [(5, .pointer (some ⟨b13, 0, none⟩)), (6, r6), (7, r8), (8, .int .i64 g9), (11, r33), (15, .int .i64 ((arrivOf g2 g5 g7 g9).1)), (43, .int .i64 now), (44, .int .i64 i), (45, .int .i64 ((lbOut g2 x223 x225).1))] (fun R232 h233 eh233 => ?_) (fun M231 => ?_)
     ·
      have E234 := E227.trans eh233
      have z235 := eh233.size
      refine v_ops <| s_pq (.int .i64 now) <| s_pq r33 <| s_pq (.int .i64 i) <| s_pure (.int .i64 (i - 1)) (fun _ q => ArithVC.mk (by omega) q) ?_
      have f236 := ((s_r33.ext eh226).ext eh233)
      have hk237 : ((i - 1)).toNat < ((waitsOf g2 g5 g7 g9).1).length := (by first | omega | (simp; omega))
      obtain ⟨x238, hx238⟩ : ∃ x, ((waitsOf g2 g5 g7 g9).1)[((i - 1)).toNat]? = some x := ⟨_, List.getElem?_eq_getElem hk237⟩
      refine s_pure (.pointer (some ⟨sblk r33, soff r33 + (((i - 1)).toNat) * 1, none⟩)) (fun _ q => f236.idx (k := ((i - 1)).toNat) (by omega) hk237 q) <| s_pq (.pointer (some ⟨b13, 1, none⟩)) <| s_pq (.int .i64 ((lbOut g2 x223 x225).1)) <| s_load (.int .i64 x238) (fun _ q => f236.load1 hx238 rfl q) ?_
      have f239 := ((bxb13.ext eh226).ext eh233)
      refine s_load r4 (fun _ q => f239.load rfl q) ?_
      have f240 := ((s_r4.ext eh226).ext eh233)
      have hk241 : ((lbOut g2 x223 x225).1).toNat < g2.links.length := (by first | omega | (simp; omega))
      obtain ⟨x242, hx242⟩ : ∃ x, g2.links[((lbOut g2 x223 x225).1).toNat]? = some x := ⟨_, List.getElem?_eq_getElem hk241⟩
      refine s_pure (.pointer (some ⟨sblk r4, soff r4 + (((lbOut g2 x223 x225).1).toNat) * 3, none⟩)) (fun _ q => f240.idx (k := ((lbOut g2 x223 x225).1).toNat) (by omega) hk241 q) <| s_pq (.pointer (some ⟨sblk r4, soff r4 + (((lbOut g2 x223 x225).1).toNat) * 3 + 2, none⟩)) <| s_load (.int .i64 x242.delay) (fun _ q => f240.load hx242 (j := 2) rfl rfl q) <| s_pure (.int .i64 (x238 + x242.delay)) (fun _ q => ArithVC.mk (by (have q_ := hst _ _ _ _ (by assumption) (by assumption) (by assumption) (by assumption)); omega) q) ?_
      refine s_pure (.int .i64 (now + (x238 + x242.delay))) (fun _ q => ArithVC.mk (by (have q_ := hst _ _ _ _ (by assumption) (by assumption) (by assumption) (by assumption)); omega) q) <| s_pq (.int .i64 (now + (x238 + x242.delay))) <| s_nil <| p_blkN <| p_seqN <| v_ops <| s_pq (.int .i64 i) <| s_pure (.int .i64 (i + 1)) (fun _ q => ArithVC.mk (by omega) q) <| s_pq (.int .i64 (i + 1)) <| s_nil ?_
      have f243 := ((s_r3.ext eh226).ext eh233)
      have f244 := ((s_r6.ext eh226).ext eh233)
      have f245 := ((s_r8.ext eh226).ext eh233)
      exact p_lpN ⟨(i + 1), (now + (x238 + x242.delay)), ⟨rfl, rfl, rfl, rfl, rfl, rfl, rfl, rfl⟩, ⟨E234, f239, f243, f240, f244, f245, f236, (by (obtain ⟨q1_, q2_, q3_⟩ := hst _ _ _ _ (by assumption) (by assumption) (by assumption) (by assumption)); exact ⟨by omega, by omega, by rw [show (i + 1 - 1).toNat = (i).toNat by omega, q2_]⟩)⟩, by omega⟩
     refine v_seq <| v_seq <| v_ops <| s_pq (.bool ((lbOut g2 x223 x225).2)) <| s_pq (.bool (!(lbOut g2 x223 x225).2)) <| s_pq (.bool (!(lbOut g2 x223 x225).2)) <| s_splitN rfl (by first | assumption | omega | (simp [fl94]; done) | (simp [fl95]; done) | (simp [hbk2]; done) | (simp [hbk1]; done) | (simp [lb230d]; done) | (simp; done) | (simp; omega) | simp_all) <| s_run rfl <| s_pq r33 <| s_run rfl <| s_pq (.int .i64 i) <| s_run rfl <| s_pure (.int .i64 (i - 1)) (fun _ q => ArithVC.mk (by omega) q) ?_
     refine s_run rfl ?_
     have f246 := (s_r33.ext eh226)
     have hk247 : ((i - 1)).toNat < ((waitsOf g2 g5 g7 g9).1).length := (by first | omega | (simp; omega))
     obtain ⟨x248, hx248⟩ : ∃ x, ((waitsOf g2 g5 g7 g9).1)[((i - 1)).toNat]? = some x := ⟨_, List.getElem?_eq_getElem hk247⟩
     refine s_pure (.pointer (some ⟨sblk r33, soff r33 + (((i - 1)).toNat) * 1, none⟩)) (fun _ q => f246.idx (k := ((i - 1)).toNat) (by omega) hk247 q) <| s_run rfl <| s_load (.int .i64 x248) (fun _ q => f246.load1 hx248 rfl q) <| s_run rfl <| s_pq (.bool (decide (x248 < 0))) <| s_pq (.bool (decide (x248 < 0))) <| s_nil <| p_seqN ?_
     refine v_cond rfl (fun c249 => ?_) (fun c249 => ?_)
     ·
      refine v_seq <| v_ops <| s_pq (.bool false) <| s_nil <| p_seqN <| v_ret <| p_seqR <| p_blkR <| p_seqR <| p_lpR <| p_blkR <| p_seqR <| p_ret [.bool false] (.bool false) (fun _ q => q) rfl ?_
      have ho : true = false := by first | rfl | exact (decide_eq_true hfinB).symm | (exfalso; first | omega | exact absurd hnowE (by assumption) | (have q_ := waits_pos hal (by assumption); omega) | (have q_ := hws (by assumption); omega) | (have q_ := hmm (by omega); simp_all; done) | (have q_ := hmm (by omega); have r_ := hws; simp_all; omega) | (simp_all; done))
      exact ⟨by first | (rw [ho]; done) | rfl, E227⟩
     refine v_skip <| p_seqN ?_
     exact M231 _ _ ⟨rfl, rfl, rfl, rfl, rfl, rfl, rfl, rfl, rfl⟩ (Ext.refl _)
    refine v_exit <| p_seqX <| p_lpX <| p_blkX <| p_seqN <| v_seq <| v_drawF <| d_pq r6 <| d_pq r8 ?_
    have hk250 : 0 < g7.length := (by first | omega | (simp; omega))
    obtain ⟨x251, hx251⟩ : ∃ x, g7[0]? = some x := ⟨_, List.getElem?_eq_getElem hk250⟩
    refine d_pureT (.pointer (some ⟨sblk r8, soff r8 + 0 * 1, none⟩)) (fun _ q => s_r8.idx (k := 0) rfl hk250 q) <| d_pq r8 <| d_pq r8 <| d_pureT (.int .i64 (g7.length : Int)) (fun _ q => s_r8.lenVC q) <| d_pureT (.int .i64 ((g7.length : Int) - 1)) (fun _ q => ArithVC.mk (by omega) q) ?_
    have hk252 : (((g7.length : Int) - 1)).toNat < g7.length := (by first | omega | (simp; omega))
    obtain ⟨x253, hx253⟩ : ∃ x, g7[(((g7.length : Int) - 1)).toNat]? = some x := ⟨_, List.getElem?_eq_getElem hk252⟩
    refine d_pureT (.pointer (some ⟨sblk r8, soff r8 + ((((g7.length : Int) - 1)).toNat) * 1, none⟩)) (fun _ q => s_r8.idx (k := (((g7.length : Int) - 1)).toNat) (by omega) hk252 q) <| d_pq (.int .i64 g9) <| d_loadO (.agg #[r3, r4]) (fun _ q => bxb13.loadA rfl q) <| d_loadO (.int .i64 x251) (fun _ q => s_r8.load1 hx251 rfl q) <| d_loadO (.int .i64 x253) (fun _ q => s_r8.load1 hx253 rfl q) <| d_eff <| s_call [.agg #[r3, r4], r6, .int .i64 x251, .int .i64 x253, .int .i64 g9] rfl (impl_FirstArrival_ok g2 r3 r4 r6 g5 x251 x253 g9 _ s_r3.toSl s_r4.toSl s_r6.toSl) ?_
    rintro _ h254 ⟨rfl, eh254⟩
    have E255 := Eh.trans eh254
    have z256 := eh254.size
    obtain ⟨hfinA, hfinB⟩ := end_facts hal (by omega) hx251 hx253
    have hnowE := now_end hal hnow (by omega)
    refine s_nil ⟨fun hl => (by cases hl), ?_⟩
    refine d_pq (.tuple #[.int .i64 ((firstOf g2 g5 x251 x253 g9).1), .bool ((firstOf g2 g5 x251 x253 g9).2)]) <| d_pq (.int .i64 ((firstOf g2 g5 x251 x253 g9).1)) <| d_pq (.bool ((firstOf g2 g5 x251 x253 g9).2)) <| d_pq (.int .i64 ((firstOf g2 g5 x251 x253 g9).1)) <| d_pq (.bool ((firstOf g2 g5 x251 x253 g9).2)) <| d_done <| p_seqN <| v_seq <| v_ops <| s_pq (.int .i64 now) <| s_pq (.int .i64 ((arrivOf g2 g5 g7 g9).1)) <| s_pq (.bool (now == (arrivOf g2 g5 g7 g9).1)) <| s_pq (.bool (now == (arrivOf g2 g5 g7 g9).1)) ?_
    refine s_splitT rfl (fun c258 => ?_) (fun c258 => ?_)
    ·
     refine s_run rfl <| s_pq (.bool ((firstOf g2 g5 x251 x253 g9).2)) <| s_pq (.bool ((firstOf g2 g5 x251 x253 g9).2)) <| s_pq (.bool ((firstOf g2 g5 x251 x253 g9).2)) <| s_splitY rfl (by first | assumption | omega | (simp [fl94]; done) | (simp [fl95]; done) | (simp [hbk2]; done) | (simp [hbk1]; done) | (simp [hfinA]; done) | (simp; done) | (simp; omega) | simp_all) <| s_run rfl <| s_pq (.int .i64 ((firstOf g2 g5 x251 x253 g9).1)) <| s_run rfl <| s_pq (.int .i64 ((arrivOf g2 g5 g7 g9).1)) <| s_run rfl ?_
     refine s_pq (.bool (decide ((firstOf g2 g5 x251 x253 g9).1 ≤ (arrivOf g2 g5 g7 g9).1))) <| s_pq (.bool (decide ((firstOf g2 g5 x251 x253 g9).1 ≤ (arrivOf g2 g5 g7 g9).1))) <| s_pq (.bool (decide ((firstOf g2 g5 x251 x253 g9).1 ≤ (arrivOf g2 g5 g7 g9).1))) <| s_nil <| p_seqN <| v_ret <| p_ret [.bool (decide ((firstOf g2 g5 x251 x253 g9).1 ≤ (arrivOf g2 g5 g7 g9).1))] (.bool (decide ((firstOf g2 g5 x251 x253 g9).1 ≤ (arrivOf g2 g5 g7 g9).1))) (fun _ q => q) rfl ?_
     have ho : true = (decide ((firstOf g2 g5 x251 x253 g9).1 ≤ (arrivOf g2 g5 g7 g9).1)) := by first | rfl | exact (decide_eq_true hfinB).symm | (exfalso; first | omega | exact absurd hnowE (by assumption) | (have q_ := waits_pos hal (by assumption); omega) | (have q_ := hws (by assumption); omega) | (have q_ := hmm (by omega); simp_all; done) | (have q_ := hmm (by omega); have r_ := hws; simp_all; omega) | (simp_all; done))
     exact ⟨by first | (rw [ho]; done) | rfl, E255⟩
    refine s_pass rfl <| s_pq (.bool false) <| s_pq (.bool false) <| s_splitN rfl (by simp) <| s_pass rfl <| s_pass rfl <| s_pass rfl <| s_pq (.bool false) <| s_pq (.bool false) <| s_nil <| p_seqN <| v_ret <| p_ret [.bool false] (.bool false) (fun _ q => q) rfl ?_
    have ho : true = false := by first | rfl | exact (decide_eq_true hfinB).symm | (exfalso; first | omega | exact absurd hnowE (by assumption) | (have q_ := waits_pos hal (by assumption); omega) | (have q_ := hws (by assumption); omega) | (have q_ := hmm (by omega); simp_all; done) | (have q_ := hmm (by omega); have r_ := hws; simp_all; omega) | (simp_all; done))
    exact ⟨by first | (rw [ho]; done) | rfl, E255⟩
   refine v_seq <| v_seq <| v_ops <| s_pq (.bool ((firstOf g54 [] g58 g57 0).2)) <| s_pq (.bool (!(firstOf g54 [] g58 g57 0).2)) <| s_pq (.bool (!(firstOf g54 [] g58 g57 0).2)) <| s_splitN rfl (by first | assumption | omega | (simp [fl94]; done) | (simp [fl95]; done) | (simp [hbk2]; done) | (simp [hbk1]; done) | (simp; done) | (simp; omega) | simp_all) <| s_run rfl <| s_pq (.int .i64 ((firstOf g54 [] g58 g57 0).1)) <| s_run rfl <| s_pq (.int .i64 ((firstOf g54 [] g57 g58 0).1)) <| s_run rfl <| s_pq (.bool ((firstOf g54 [] g58 g57 0).1 != (firstOf g54 [] g57 g58 0).1)) ?_
   refine s_pq (.bool ((firstOf g54 [] g58 g57 0).1 != (firstOf g54 [] g57 g58 0).1)) <| s_pq (.bool ((firstOf g54 [] g58 g57 0).1 != (firstOf g54 [] g57 g58 0).1)) <| s_splitN rfl (by first | assumption | omega | (simp [fl94]; done) | (simp [fl95]; done) | (simp [hbk2]; done) | (simp [hbk1]; done) | (simp; done) | (simp; omega) | simp_all) <| s_run rfl <| s_pq (.int .i64 ((firstOf g54 [] g57 g58 0).1)) <| s_run rfl <| s_pq (.bool (decide ((firstOf g54 [] g57 g58 0).1 < 0))) <| s_pq (.bool (decide ((firstOf g54 [] g57 g58 0).1 < 0))) ?_
   refine s_nil <| p_seqN <| v_condN rfl (by first | assumption | omega | (simp [fl94]; done) | (simp [fl95]; done) | (simp [hbk2]; done) | (simp [hbk1]; done) | (simp; done) | (simp; omega) | simp_all) <| v_skip <| p_seqN ?_
   exact M136 _ _ ⟨rfl, rfl, rfl, rfl, rfl, rfl, rfl, rfl, rfl, rfl, rfl, rfl⟩ (Ext.refl _)
  refine v_skip <| p_seqN <| v_seq <| v_seq <| v_ops <| s_pq (.bool ((waitsOf g2 g5 g7 g9).2)) <| s_pq (.bool (!(waitsOf g2 g5 g7 g9).2)) <| s_nil <| p_seqN ?_
  refine v_cond rfl (fun c259 => ?_) (fun c259 => ?_)
  ·
   refine v_seq <| v_ops <| s_pq (.bool true) <| s_nil <| p_seqN <| v_ret <| p_seqR <| p_ret [.bool true] (.bool true) (fun _ q => q) rfl ?_
   have ho : true = true := by first | rfl | exact (decide_eq_true hfinB).symm | (exfalso; first | omega | exact absurd hnowE (by assumption) | (have q_ := waits_pos hal (by assumption); omega) | (have q_ := hws (by assumption); omega) | (have q_ := hmm (by omega); simp_all; done) | (have q_ := hmm (by omega); have r_ := hws; simp_all; omega) | (simp_all; done))
   exact ⟨by first | (rw [ho]; done) | rfl, E127⟩
  have c259 := Classical.not_not.1 c259
  obtain ⟨hal, hw1, hw2, hw3⟩ := waits_facts c259
  have hwl := hal.hw.len
  refine v_skip <| p_seqN <| v_seq <| v_seq <| v_ops <| s_pq r33 <| s_pure (.int .i64 (((waitsOf g2 g5 g7 g9).1).length : Int)) (fun _ q => s_r33.lenVC q) <| s_pure (.int .i64 ((((waitsOf g2 g5 g7 g9).1).length : Int) + 1)) (fun _ q => ArithVC.mk (by omega) q) <| s_pq r8 <| s_pure (.int .i64 (g7.length : Int)) (fun _ q => f49.lenVC q) <| s_pq (.bool (((((waitsOf g2 g5 g7 g9).1).length : Int) + 1) != (g7.length : Int))) <| s_nil <| p_seqN ?_
  refine v_cond rfl (fun c260 => ?_) (fun c260 => ?_)
  ·
   refine v_seq <| v_ops <| s_pq (.bool false) <| s_nil <| p_seqN <| v_ret <| p_seqR <| p_ret [.bool false] (.bool false) (fun _ q => q) rfl ?_
   have ho : true = false := by first | rfl | exact (decide_eq_true hfinB).symm | (exfalso; first | omega | exact absurd hnowE (by assumption) | (have q_ := waits_pos hal (by assumption); omega) | (have q_ := hws (by assumption); omega) | (have q_ := hmm (by omega); simp_all; done) | (have q_ := hmm (by omega); have r_ := hws; simp_all; omega) | (simp_all; done))
   exact ⟨by first | (rw [ho]; done) | rfl, E127⟩
  have c260 := Classical.not_not.1 c260
  refine v_skip <| p_seqN <| v_seq <| v_ops <| s_pq (.int .i64 g9) <| s_pq (.int .i64 g9) <| s_nil <| p_seqN <| v_seq <| v_seq <| v_ops <| s_pq (.int .i64 1) <| s_nil <| p_seqN <| v_block ?_
  have nk262 : b13 ∉ blks r3 := (fun hc => by have := lt_r3 _ hc; omega)
  have nk263 : b13 ∉ blks r4 := (fun hc => by have := lt_r4 _ hc; omega)
  have nk264 : b13 ∉ blks r6 := (fun hc => by have := lt_r6 _ hc; omega)
  have nk265 : b13 ∉ blks r8 := (fun hc => by have := lt_r8 _ hc; omega)
  have nk266 : b13 ∉ blks r33 := (fun hc => by have := fr_r33 _ hc; omega)
  have f267 := ((((((((((((((f45.ext eh50).ext eh59).ext eh63).mod mh66 (by simp; omega)).ext eh72).ext eh79).ext eh85).ext eh91).ext eh103).ext eh107).mod mh110 (by simp; omega)).ext eh115).ext eh121).ext eh126)
  have f268 := ((((((((((((((f46.ext eh50).ext eh59).ext eh63).mod mh66 (fun b hb hc => by simp at hc; have := lt_r3 b hb; omega)).ext eh72).ext eh79).ext eh85).ext eh91).ext eh103).ext eh107).mod mh110 (fun b hb hc => by simp at hc; have := lt_r3 b hb; omega)).ext eh115).ext eh121).ext eh126)
  have f269 := ((((((((((((((f47.ext eh50).ext eh59).ext eh63).mod mh66 (fun b hb hc => by simp at hc; have := lt_r4 b hb; omega)).ext eh72).ext eh79).ext eh85).ext eh91).ext eh103).ext eh107).mod mh110 (fun b hb hc => by simp at hc; have := lt_r4 b hb; omega)).ext eh115).ext eh121).ext eh126)
  have f270 := ((((((((((((((f48.ext eh50).ext eh59).ext eh63).mod mh66 (fun b hb hc => by simp at hc; have := lt_r6 b hb; omega)).ext eh72).ext eh79).ext eh85).ext eh91).ext eh103).ext eh107).mod mh110 (fun b hb hc => by simp at hc; have := lt_r6 b hb; omega)).ext eh115).ext eh121).ext eh126)
  have f271 := ((((((((((((((f49.ext eh50).ext eh59).ext eh63).mod mh66 (fun b hb hc => by simp at hc; have := lt_r8 b hb; omega)).ext eh72).ext eh79).ext eh85).ext eh91).ext eh103).ext eh107).mod mh110 (fun b hb hc => by simp at hc; have := lt_r8 b hb; omega)).ext eh115).ext eh121).ext eh126)
  have f272 := (((((((((((((((s_r33.ext eh42).ext eh50).ext eh59).ext eh63).mod mh66 (fun b hb hc => by simp at hc; have := lt_r33 b hb; omega)).ext eh72).ext eh79).ext eh85).ext eh91).ext eh103).ext eh107).mod mh110 (fun b hb hc => by simp at hc; have := lt_r33 b hb; omega)).ext eh115).ext eh121).ext eh126)
  refine v_loop2 (α := Int) (β := Int) (fun i now => [(5, .pointer (some ⟨b13, 0, none⟩)), (6, r6), (7, r8), (8, .int .i64 g9), (11, r33), (15, .int .i64 ((arrivOf g2 g5 g7 g9).1)), (43, .int .i64 now), (44, .int .i64 i)]) (fun i now hh => Ext h hh ∧ Bx hh b13 [r3, r4] 26 ∧ SlO hh r3 g2.towers ∧ SlO hh r4 g2.links ∧ SlO hh r6 g5 ∧ SlO hh r8 g7 ∧ SlO hh r33 ((waitsOf g2 g5 g7 g9).1) ∧ 1 ≤ i ∧ i ≤ (g7.length : Int) ∧ now = (alTo g2 g5 ((linksOf g2 g7).take (i - 1).toNat) g9).1) (fun i now => ((g7.length : Int) - i).toNat) 1 g9 ⟨rfl, rfl, rfl, rfl, rfl, rfl, rfl, rfl⟩ ⟨E127, f267, f268, f269, f270, f271, f272, (by exact ⟨by omega, by omega, rfl⟩)⟩ ?_
  rintro i now R273 h261 ⟨Eh, bxb13, s_r3, s_r4, s_r6, s_r8, s_r33, ⟨hi0, hi1, hnow⟩⟩
  have zEh := Eh.size
  have ltk_r3 := s_r3.lt
  have ltk_r4 := s_r4.lt
  have ltk_r6 := s_r6.lt
  have ltk_r8 := s_r8.lt
  have lbb13 := bxb13.lt
  have ltk_r33 := s_r33.lt
  have hlk : ∀ y x, g7[(i - 1).toNat]? = some y → g7[(i).toNat]? = some x → lbOut g2 y x = (lkI g2 y x, true) ∧ 0 ≤ lkI g2 y x ∧ (lkI g2 y x).toNat < g2.links.length := fun y x h1 h2 => step_facts hal (by omega) h1 h2
  have hst : ∀ y x v z, g7[(i - 1).toNat]? = some y → g7[(i).toNat]? = some x → (waitsOf g2 g5 g7 g9).1[(i - 1).toNat]? = some v → g2.links[((lbOut g2 y x).1).toNat]? = some z → 0 ≤ v ∧ (alTo g2 g5 ((linksOf g2 g7).take (i).toNat) g9).1 = now + (v + z.delay) ∧ 1 ≤ z.delay ∧ z.delay ≤ 60 ∧ 0 ≤ now ∧ (alTo g2 g5 ((linksOf g2 g7).take (i).toNat) g9).1 ≤ 20000 := fun y x v z h1 h2 h3 h4 => by rw [hnow]; exact step_wait hal (by omega) h1 h2 h3 h4
  refine v_seq <| v_seq <| v_ops <| s_pq (.int .i64 i) <| s_pq r8 <| s_pure (.int .i64 (g7.length : Int)) (fun _ q => s_r8.lenVC q) <| s_pq (.bool (decide (i < (g7.length : Int)))) <| s_nil <| p_seqN ?_
  refine v_cond rfl (fun c277 => ?_) (fun c277 => ?_)
  ·
   refine v_skip <| p_seqN <| v_seq <| v_block <| v_seq <| v_drawF <| d_pq r8 <| d_pq (.int .i64 i) <| d_pureT (.int .i64 (i - 1)) (fun _ q => ArithVC.mk (by omega) q) ?_
   have hk278 : ((i - 1)).toNat < g7.length := (by first | omega | (simp; omega))
   obtain ⟨x279, hx279⟩ : ∃ x, g7[((i - 1)).toNat]? = some x := ⟨_, List.getElem?_eq_getElem hk278⟩
   refine d_pureT (.pointer (some ⟨sblk r8, soff r8 + (((i - 1)).toNat) * 1, none⟩)) (fun _ q => s_r8.idx (k := ((i - 1)).toNat) (by omega) hk278 q) <| d_pq r8 <| d_pq (.int .i64 i) ?_
   have hk280 : (i).toNat < g7.length := (by first | omega | (simp; omega))
   obtain ⟨x281, hx281⟩ : ∃ x, g7[(i).toNat]? = some x := ⟨_, List.getElem?_eq_getElem hk280⟩
   refine d_pureT (.pointer (some ⟨sblk r8, soff r8 + ((i).toNat) * 1, none⟩)) (fun _ q => s_r8.idx (k := (i).toNat) (by omega) hk280 q) <| d_loadO (.agg #[r3, r4]) (fun _ q => bxb13.loadA rfl q) <| d_loadO (.int .i64 x279) (fun _ q => s_r8.load1 hx279 rfl q) <| d_loadO (.int .i64 x281) (fun _ q => s_r8.load1 hx281 rfl q) <| d_eff <| s_call [.agg #[r3, r4], .int .i64 x279, .int .i64 x281] rfl (spec_LinkBetween_ok g2 r3 r4 x279 x281 _ s_r3.toSl s_r4.toSl) ?_
   rintro _ h282 ⟨rfl, eh282⟩
   have E283 := Eh.trans eh282
   have z284 := eh282.size
   obtain ⟨lb286a, lb286b, lb286c⟩ := hlk _ _ hx279 hx281
   have lb286d : (lbOut g2 x279 x281).2 = true := by rw [lb286a]
   have lb286e : 0 ≤ (lbOut g2 x279 x281).1 ∧ (lbOut g2 x279 x281).1.toNat < g2.links.length := by rw [lb286a]; exact ⟨lb286b, lb286c⟩
   refine s_nil ⟨fun hl => (by cases hl), ?_⟩
   refine d_pq (.tuple #[.int .i64 ((lbOut g2 x279 x281).1), .bool ((lbOut g2 x279 x281).2)]) <| d_pq (.int .i64 ((lbOut g2 x279 x281).1)) <| d_pq (.bool ((lbOut g2 x279 x281).2)) <| d_pq (.int .i64 ((lbOut g2 x279 x281).1)) <| d_pq (.bool ((lbOut g2 x279 x281).2)) <| d_done <| p_seqN ?_
   refine v_seqM1 [(5, .pointer (some ⟨b13, 0, none⟩)), (6, r6), (7, r8), (8, .int .i64 g9), (11, r33), (15, .int .i64 ((arrivOf g2 g5 g7 g9).1)), (43, .int .i64 now), (44, .int .i64 i), (45, .int .i64 ((lbOut g2 x279 x281).1))] (fun R288 h289 eh289 => ?_) (fun M287 => ?_)
   ·
    have E290 := E283.trans eh289
    have z291 := eh289.size
    refine v_ops <| s_pq (.int .i64 now) <| s_pq r33 <| s_pq (.int .i64 i) <| s_pure (.int .i64 (i - 1)) (fun _ q => ArithVC.mk (by omega) q) ?_
    have f292 := ((s_r33.ext eh282).ext eh289)
    have hk293 : ((i - 1)).toNat < ((waitsOf g2 g5 g7 g9).1).length := (by first | omega | (simp; omega))
    obtain ⟨x294, hx294⟩ : ∃ x, ((waitsOf g2 g5 g7 g9).1)[((i - 1)).toNat]? = some x := ⟨_, List.getElem?_eq_getElem hk293⟩
    refine s_pure (.pointer (some ⟨sblk r33, soff r33 + (((i - 1)).toNat) * 1, none⟩)) (fun _ q => f292.idx (k := ((i - 1)).toNat) (by omega) hk293 q) <| s_pq (.pointer (some ⟨b13, 1, none⟩)) <| s_pq (.int .i64 ((lbOut g2 x279 x281).1)) <| s_load (.int .i64 x294) (fun _ q => f292.load1 hx294 rfl q) ?_
    have f295 := ((bxb13.ext eh282).ext eh289)
    refine s_load r4 (fun _ q => f295.load rfl q) ?_
    have f296 := ((s_r4.ext eh282).ext eh289)
    have hk297 : ((lbOut g2 x279 x281).1).toNat < g2.links.length := (by first | omega | (simp; omega))
    obtain ⟨x298, hx298⟩ : ∃ x, g2.links[((lbOut g2 x279 x281).1).toNat]? = some x := ⟨_, List.getElem?_eq_getElem hk297⟩
    refine s_pure (.pointer (some ⟨sblk r4, soff r4 + (((lbOut g2 x279 x281).1).toNat) * 3, none⟩)) (fun _ q => f296.idx (k := ((lbOut g2 x279 x281).1).toNat) (by omega) hk297 q) <| s_pq (.pointer (some ⟨sblk r4, soff r4 + (((lbOut g2 x279 x281).1).toNat) * 3 + 2, none⟩)) <| s_load (.int .i64 x298.delay) (fun _ q => f296.load hx298 (j := 2) rfl rfl q) <| s_pure (.int .i64 (x294 + x298.delay)) (fun _ q => ArithVC.mk (by (have q_ := hst _ _ _ _ (by assumption) (by assumption) (by assumption) (by assumption)); omega) q) ?_
    refine s_pure (.int .i64 (now + (x294 + x298.delay))) (fun _ q => ArithVC.mk (by (have q_ := hst _ _ _ _ (by assumption) (by assumption) (by assumption) (by assumption)); omega) q) <| s_pq (.int .i64 (now + (x294 + x298.delay))) <| s_nil <| p_blkN <| p_seqN <| v_ops <| s_pq (.int .i64 i) <| s_pure (.int .i64 (i + 1)) (fun _ q => ArithVC.mk (by omega) q) <| s_pq (.int .i64 (i + 1)) <| s_nil ?_
    have f299 := ((s_r3.ext eh282).ext eh289)
    have f300 := ((s_r6.ext eh282).ext eh289)
    have f301 := ((s_r8.ext eh282).ext eh289)
    exact p_lpN ⟨(i + 1), (now + (x294 + x298.delay)), ⟨rfl, rfl, rfl, rfl, rfl, rfl, rfl, rfl⟩, ⟨E290, f295, f299, f296, f300, f301, f292, (by (obtain ⟨q1_, q2_, q3_⟩ := hst _ _ _ _ (by assumption) (by assumption) (by assumption) (by assumption)); exact ⟨by omega, by omega, by rw [show (i + 1 - 1).toNat = (i).toNat by omega, q2_]⟩)⟩, by omega⟩
   refine v_seq <| v_seq <| v_ops <| s_pq (.bool ((lbOut g2 x279 x281).2)) <| s_pq (.bool (!(lbOut g2 x279 x281).2)) <| s_pq (.bool (!(lbOut g2 x279 x281).2)) <| s_splitN rfl (by first | assumption | omega | (simp [fl94]; done) | (simp [fl95]; done) | (simp [lb286d]; done) | (simp; done) | (simp; omega) | simp_all) <| s_run rfl <| s_pq r33 <| s_run rfl <| s_pq (.int .i64 i) <| s_run rfl <| s_pure (.int .i64 (i - 1)) (fun _ q => ArithVC.mk (by omega) q) <| s_run rfl ?_
   have f302 := (s_r33.ext eh282)
   have hk303 : ((i - 1)).toNat < ((waitsOf g2 g5 g7 g9).1).length := (by first | omega | (simp; omega))
   obtain ⟨x304, hx304⟩ : ∃ x, ((waitsOf g2 g5 g7 g9).1)[((i - 1)).toNat]? = some x := ⟨_, List.getElem?_eq_getElem hk303⟩
   refine s_pure (.pointer (some ⟨sblk r33, soff r33 + (((i - 1)).toNat) * 1, none⟩)) (fun _ q => f302.idx (k := ((i - 1)).toNat) (by omega) hk303 q) <| s_run rfl <| s_load (.int .i64 x304) (fun _ q => f302.load1 hx304 rfl q) <| s_run rfl <| s_pq (.bool (decide (x304 < 0))) <| s_pq (.bool (decide (x304 < 0))) <| s_nil <| p_seqN ?_
   refine v_cond rfl (fun c305 => ?_) (fun c305 => ?_)
   ·
    refine v_seq <| v_ops <| s_pq (.bool false) <| s_nil <| p_seqN <| v_ret <| p_seqR <| p_blkR <| p_seqR <| p_lpR <| p_blkR <| p_seqR <| p_ret [.bool false] (.bool false) (fun _ q => q) rfl ?_
    have ho : true = false := by first | rfl | exact (decide_eq_true hfinB).symm | (exfalso; first | omega | exact absurd hnowE (by assumption) | (have q_ := waits_pos hal (by assumption); omega) | (have q_ := hws (by assumption); omega) | (have q_ := hmm (by omega); simp_all; done) | (have q_ := hmm (by omega); have r_ := hws; simp_all; omega) | (simp_all; done))
    exact ⟨by first | (rw [ho]; done) | rfl, E283⟩
   refine v_skip <| p_seqN ?_
   exact M287 _ _ ⟨rfl, rfl, rfl, rfl, rfl, rfl, rfl, rfl, rfl⟩ (Ext.refl _)
  refine v_exit <| p_seqX <| p_lpX <| p_blkX <| p_seqN <| v_seq <| v_drawF <| d_pq r6 <| d_pq r8 ?_
  have hk306 : 0 < g7.length := (by first | omega | (simp; omega))
  obtain ⟨x307, hx307⟩ : ∃ x, g7[0]? = some x := ⟨_, List.getElem?_eq_getElem hk306⟩
  refine d_pureT (.pointer (some ⟨sblk r8, soff r8 + 0 * 1, none⟩)) (fun _ q => s_r8.idx (k := 0) rfl hk306 q) <| d_pq r8 <| d_pq r8 <| d_pureT (.int .i64 (g7.length : Int)) (fun _ q => s_r8.lenVC q) <| d_pureT (.int .i64 ((g7.length : Int) - 1)) (fun _ q => ArithVC.mk (by omega) q) ?_
  have hk308 : (((g7.length : Int) - 1)).toNat < g7.length := (by first | omega | (simp; omega))
  obtain ⟨x309, hx309⟩ : ∃ x, g7[(((g7.length : Int) - 1)).toNat]? = some x := ⟨_, List.getElem?_eq_getElem hk308⟩
  refine d_pureT (.pointer (some ⟨sblk r8, soff r8 + ((((g7.length : Int) - 1)).toNat) * 1, none⟩)) (fun _ q => s_r8.idx (k := (((g7.length : Int) - 1)).toNat) (by omega) hk308 q) <| d_pq (.int .i64 g9) <| d_loadO (.agg #[r3, r4]) (fun _ q => bxb13.loadA rfl q) <| d_loadO (.int .i64 x307) (fun _ q => s_r8.load1 hx307 rfl q) <| d_loadO (.int .i64 x309) (fun _ q => s_r8.load1 hx309 rfl q) <| d_eff <| s_call [.agg #[r3, r4], r6, .int .i64 x307, .int .i64 x309, .int .i64 g9] rfl (impl_FirstArrival_ok g2 r3 r4 r6 g5 x307 x309 g9 _ s_r3.toSl s_r4.toSl s_r6.toSl) ?_
  rintro _ h310 ⟨rfl, eh310⟩
  have E311 := Eh.trans eh310
  have z312 := eh310.size
  obtain ⟨hfinA, hfinB⟩ := end_facts hal (by omega) hx307 hx309
  have hnowE := now_end hal hnow (by omega)
  refine s_nil ⟨fun hl => (by cases hl), ?_⟩
  refine d_pq (.tuple #[.int .i64 ((firstOf g2 g5 x307 x309 g9).1), .bool ((firstOf g2 g5 x307 x309 g9).2)]) <| d_pq (.int .i64 ((firstOf g2 g5 x307 x309 g9).1)) <| d_pq (.bool ((firstOf g2 g5 x307 x309 g9).2)) <| d_pq (.int .i64 ((firstOf g2 g5 x307 x309 g9).1)) <| d_pq (.bool ((firstOf g2 g5 x307 x309 g9).2)) <| d_done <| p_seqN <| v_seq <| v_ops <| s_pq (.int .i64 now) <| s_pq (.int .i64 ((arrivOf g2 g5 g7 g9).1)) <| s_pq (.bool (now == (arrivOf g2 g5 g7 g9).1)) <| s_pq (.bool (now == (arrivOf g2 g5 g7 g9).1)) ?_
  refine s_splitT rfl (fun c314 => ?_) (fun c314 => ?_)
  ·
   refine s_run rfl <| s_pq (.bool ((firstOf g2 g5 x307 x309 g9).2)) <| s_pq (.bool ((firstOf g2 g5 x307 x309 g9).2)) <| s_pq (.bool ((firstOf g2 g5 x307 x309 g9).2)) <| s_splitY rfl (by first | assumption | omega | (simp [fl94]; done) | (simp [fl95]; done) | (simp [hfinA]; done) | (simp; done) | (simp; omega) | simp_all) <| s_run rfl <| s_pq (.int .i64 ((firstOf g2 g5 x307 x309 g9).1)) <| s_run rfl <| s_pq (.int .i64 ((arrivOf g2 g5 g7 g9).1)) <| s_run rfl <| s_pq (.bool (decide ((firstOf g2 g5 x307 x309 g9).1 ≤ (arrivOf g2 g5 g7 g9).1))) ?_
   refine s_pq (.bool (decide ((firstOf g2 g5 x307 x309 g9).1 ≤ (arrivOf g2 g5 g7 g9).1))) <| s_pq (.bool (decide ((firstOf g2 g5 x307 x309 g9).1 ≤ (arrivOf g2 g5 g7 g9).1))) <| s_nil <| p_seqN <| v_ret <| p_ret [.bool (decide ((firstOf g2 g5 x307 x309 g9).1 ≤ (arrivOf g2 g5 g7 g9).1))] (.bool (decide ((firstOf g2 g5 x307 x309 g9).1 ≤ (arrivOf g2 g5 g7 g9).1))) (fun _ q => q) rfl ?_
   have ho : true = (decide ((firstOf g2 g5 x307 x309 g9).1 ≤ (arrivOf g2 g5 g7 g9).1)) := by first | rfl | exact (decide_eq_true hfinB).symm | (exfalso; first | omega | exact absurd hnowE (by assumption) | (have q_ := waits_pos hal (by assumption); omega) | (have q_ := hws (by assumption); omega) | (have q_ := hmm (by omega); simp_all; done) | (have q_ := hmm (by omega); have r_ := hws; simp_all; omega) | (simp_all; done))
   exact ⟨by first | (rw [ho]; done) | rfl, E311⟩
  refine s_pass rfl <| s_pq (.bool false) <| s_pq (.bool false) <| s_splitN rfl (by simp) <| s_pass rfl <| s_pass rfl <| s_pass rfl <| s_pq (.bool false) <| s_pq (.bool false) <| s_nil <| p_seqN <| v_ret <| p_ret [.bool false] (.bool false) (fun _ q => q) rfl ?_
  have ho : true = false := by first | rfl | exact (decide_eq_true hfinB).symm | (exfalso; first | omega | exact absurd hnowE (by assumption) | (have q_ := waits_pos hal (by assumption); omega) | (have q_ := hws (by assumption); omega) | (have q_ := hmm (by omega); simp_all; done) | (have q_ := hmm (by omega); have r_ := hws; simp_all; omega) | (simp_all; done))
  exact ⟨by first | (rw [ho]; done) | rfl, E311⟩
 refine v_seq <| v_seq <| v_ops <| s_pq (.bool ((waitsOf g2 g5 g7 g9).2)) <| s_pq (.bool ((waitsOf g2 g5 g7 g9).2)) <| s_pq (.bool ((waitsOf g2 g5 g7 g9).2 != (waitsOf g2 g5 g7 g9).2)) <| s_pq (.bool ((waitsOf g2 g5 g7 g9).2 != (waitsOf g2 g5 g7 g9).2)) <| s_splitN rfl (by first | assumption | omega | (simp [fl94]; done) | (simp [fl95]; done) | (simp; done) | (simp; omega) | simp_all) <| s_run rfl <| s_pq r24 <| s_run rfl <| s_pq r33 <| s_run rfl ?_
 have f316 := (((((((((((((((s_r24.ext eh34).ext eh42).ext eh50).ext eh59).ext eh63).mod mh66 (fun b hb hc => by simp at hc; have := lt_r24 b hb; omega)).ext eh72).ext eh79).ext eh85).ext eh91).ext eh103).ext eh107).mod mh110 (fun b hb hc => by simp at hc; have := lt_r24 b hb; omega)).ext eh115).ext eh121)
 have f317 := ((((((((((((((s_r33.ext eh42).ext eh50).ext eh59).ext eh63).mod mh66 (fun b hb hc => by simp at hc; have := lt_r33 b hb; omega)).ext eh72).ext eh79).ext eh85).ext eh91).ext eh103).ext eh107).mod mh110 (fun b hb hc => by simp at hc; have := lt_r33 b hb; omega)).ext eh115).ext eh121)
 refine s_call [r24, r33] rfl (laws_qInts_ok r24 ((waitsOf g2 g5 g7 g9).1) r33 ((waitsOf g2 g5 g7 g9).1) _ f316.toSl f317.toSl) ?_
 rintro vh315 h315 ⟨hvh315, eh315⟩
 obtain rfl : vh315 = .bool true := hvh315.trans (by rw [decide_eq_true rfl])
 have z319 := eh315.size
 refine s_run rfl <| s_pq (.bool false) <| s_pq (.bool false) <| s_pq (.bool false) <| s_splitN rfl (by simp) <| s_run rfl <| s_pq (.bool ((arrivOf g2 g5 g7 g9).2)) <| s_run rfl <| s_pq (.bool ((arrivOf g2 g5 g7 g9).2)) <| s_run rfl <| s_pq (.bool ((arrivOf g2 g5 g7 g9).2 != (arrivOf g2 g5 g7 g9).2)) <| s_pq (.bool ((arrivOf g2 g5 g7 g9).2 != (arrivOf g2 g5 g7 g9).2)) <| s_pq (.bool ((arrivOf g2 g5 g7 g9).2 != (arrivOf g2 g5 g7 g9).2)) <| s_splitN rfl (by first | assumption | omega | (simp [fl94]; done) | (simp [fl95]; done) | (simp; done) | (simp; omega) | simp_all) ?_
 refine s_run rfl <| s_pq (.int .i64 ((arrivOf g2 g5 g7 g9).1)) <| s_run rfl <| s_pq (.int .i64 ((arrivOf g2 g5 g7 g9).1)) <| s_run rfl <| s_pq (.bool ((arrivOf g2 g5 g7 g9).1 != (arrivOf g2 g5 g7 g9).1)) <| s_pq (.bool ((arrivOf g2 g5 g7 g9).1 != (arrivOf g2 g5 g7 g9).1)) <| s_pq (.bool ((arrivOf g2 g5 g7 g9).1 != (arrivOf g2 g5 g7 g9).1)) <| s_splitN rfl (by first | assumption | omega | (simp [fl94]; done) | (simp [fl95]; done) | (simp; done) | (simp; omega) | simp_all) <| s_run rfl <| s_pq (.bool ((matterOf g54 g57 g58).2)) ?_
 refine s_run rfl <| s_pq (.bool ((matterOf g54 g57 g58).2)) <| s_run rfl <| s_pq (.bool ((matterOf g54 g57 g58).2 != (matterOf g54 g57 g58).2)) <| s_pq (.bool ((matterOf g54 g57 g58).2 != (matterOf g54 g57 g58).2)) <| s_pq (.bool ((matterOf g54 g57 g58).2 != (matterOf g54 g57 g58).2)) <| s_splitN rfl (by first | assumption | omega | (simp [fl94]; done) | (simp [fl95]; done) | (simp; done) | (simp; omega) | simp_all) <| s_run rfl <| s_pq r71 <| s_run rfl <| s_pq r78 <| s_run rfl ?_
 have f321 := (((((((((s_r71.ext eh79).ext eh85).ext eh91).ext eh103).ext eh107).mod mh110 (fun b hb hc => by simp at hc; have := lt_r71 b hb; omega)).ext eh115).ext eh121).ext eh315)
 have f322 := ((((((((s_r78.ext eh85).ext eh91).ext eh103).ext eh107).mod mh110 (fun b hb hc => by simp at hc; have := lt_r78 b hb; omega)).ext eh115).ext eh121).ext eh315)
 refine s_call [r71, r78] rfl (laws_qInts_ok r71 ((matterOf g54 g57 g58).1) r78 ((matterOf g54 g57 g58).1) _ f321.toSl f322.toSl) ?_
 rintro vh320 h320 ⟨hvh320, eh320⟩
 obtain rfl : vh320 = .bool true := hvh320.trans (by rw [decide_eq_true rfl])
 have z324 := eh320.size
 refine s_run rfl <| s_pq (.bool false) <| s_pq (.bool false) <| s_pq (.bool false) <| s_splitN rfl (by simp) <| s_run rfl <| s_pq (.bool ((firstOf g54 [] g57 g58 0).2)) <| s_run rfl <| s_pq (.bool ((firstOf g54 [] g57 g58 0).2)) <| s_run rfl <| s_pq (.bool ((firstOf g54 [] g57 g58 0).2 != (firstOf g54 [] g57 g58 0).2)) <| s_pq (.bool ((firstOf g54 [] g57 g58 0).2 != (firstOf g54 [] g57 g58 0).2)) <| s_pq (.bool ((firstOf g54 [] g57 g58 0).2 != (firstOf g54 [] g57 g58 0).2)) <| s_splitN rfl (by first | assumption | omega | (simp [fl94]; done) | (simp [fl95]; done) | (simp; done) | (simp; omega) | simp_all) ?_
 refine s_run rfl <| s_pq (.int .i64 ((firstOf g54 [] g57 g58 0).1)) <| s_run rfl <| s_pq (.int .i64 ((firstOf g54 [] g57 g58 0).1)) <| s_run rfl <| s_pq (.bool ((firstOf g54 [] g57 g58 0).1 != (firstOf g54 [] g57 g58 0).1)) <| s_pq (.bool ((firstOf g54 [] g57 g58 0).1 != (firstOf g54 [] g57 g58 0).1)) <| s_pq (.bool ((firstOf g54 [] g57 g58 0).1 != (firstOf g54 [] g57 g58 0).1)) <| s_splitN rfl (by first | assumption | omega | (simp [fl94]; done) | (simp [fl95]; done) | (simp; done) | (simp; omega) | simp_all) ?_
 refine s_run rfl <| s_pq (.bool ((delayWo g97 g100 g101 g102).2)) <| s_run rfl <| s_pq (.bool ((delayWo g97 g100 g101 g102).2)) <| s_run rfl <| s_pq (.bool ((delayWo g97 g100 g101 g102).2 != (delayWo g97 g100 g101 g102).2)) <| s_pq (.bool ((delayWo g97 g100 g101 g102).2 != (delayWo g97 g100 g101 g102).2)) <| s_pq (.bool ((delayWo g97 g100 g101 g102).2 != (delayWo g97 g100 g101 g102).2)) <| s_splitN rfl (by first | assumption | omega | (simp [fl94]; done) | (simp [fl95]; done) | (simp; done) | (simp; omega) | simp_all) ?_
 refine s_run rfl <| s_pq (.int .i64 ((delayWo g97 g100 g101 g102).1)) <| s_run rfl <| s_pq (.int .i64 ((delayWo g97 g100 g101 g102).1)) <| s_run rfl <| s_pq (.bool ((delayWo g97 g100 g101 g102).1 != (delayWo g97 g100 g101 g102).1)) <| s_pq (.bool ((delayWo g97 g100 g101 g102).1 != (delayWo g97 g100 g101 g102).1)) <| s_pq (.bool ((delayWo g97 g100 g101 g102).1 != (delayWo g97 g100 g101 g102).1)) <| s_splitN rfl (by first | assumption | omega | (simp [fl94]; done) | (simp [fl95]; done) | (simp; done) | (simp; omega) | simp_all) ?_
 refine s_run rfl <| s_pq (.bool ((arrivOf g2 g5 g7 g9).2)) <| s_run rfl <| s_pq (.bool ((waitsOf g2 g5 g7 g9).2)) <| s_run rfl <| s_pq (.bool ((arrivOf g2 g5 g7 g9).2 != (waitsOf g2 g5 g7 g9).2)) <| s_pq (.bool ((arrivOf g2 g5 g7 g9).2 != (waitsOf g2 g5 g7 g9).2)) <| s_pq (.bool ((arrivOf g2 g5 g7 g9).2 != (waitsOf g2 g5 g7 g9).2)) <| s_splitN rfl (by first | assumption | omega | (simp [fl94]; done) | (simp [fl95]; done) | (simp; done) | (simp; omega) | simp_all) <| s_run rfl <| s_pq (.bool ((matterOf g54 g57 g58).2)) ?_
 refine s_run rfl <| s_pq (.bool ((firstOf g54 [] g57 g58 0).2)) <| s_run rfl <| s_pq (.bool ((matterOf g54 g57 g58).2 != (firstOf g54 [] g57 g58 0).2)) <| s_pq (.bool ((matterOf g54 g57 g58).2 != (firstOf g54 [] g57 g58 0).2)) <| s_nil <| p_seqN <| v_condN rfl (by first | assumption | omega | (simp [fl94]; done) | (simp [fl95]; done) | (simp; done) | (simp; omega) | simp_all) <| v_skip <| p_seqN ?_
 exact M124 _ _ ⟨rfl, rfl, rfl, rfl, rfl, rfl, rfl, rfl, rfl, rfl, rfl, rfl, rfl⟩ (((Ext.refl _).trans eh315).trans eh320)

theorem law_ok (h : Heap) (v0 : Value) (x0 : List By) (s0 : Sl h v0 x0) (w0 : ∀ y ∈ x0, (0 ≤ y.n ∧ y.n ≤ 255)) (lx0 : x0.length ≤ 140737488351232) (v1 : Value) (x1 : List By) (s1 : Sl h v1 x1) (w1 : ∀ y ∈ x1, (0 ≤ y.n ∧ y.n ≤ 255)) (lx1 : x1.length ≤ 140737488351232) : Cn f_laws_FnWays [v0, v1] h fun v h' => v = .bool true ∧ Ext h h' := laws_FnWays_ok v0 x0 v1 x1 h s0 s1 w0 w1 lx0 lx1
end Go.Proofs.Ytgbaonaopkdlpaa.finFnWays

