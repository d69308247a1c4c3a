/- LawFnFogs. Condition: none. -/
import Derived.Test.YtloicopmcagikaaMgH
/- The law FnFogs: its text returns true. Condition: none. Printed by a program. -/
namespace Go.Proofs.Ytloicopmcagikaa.finFnFogs
open Go.Vc
set_option linter.all false
set_option maxRecDepth 100000
set_option maxHeartbeats 4000000
set_option maxRecDepth 10000 in
set_option maxHeartbeats 4000000 in
theorem laws_FnFogs_ok (v_code : Value) (code : List By) (v_more : Value) (more : List By) (h : Heap) (s_code : Sl h v_code code) (s_more : Sl h v_more more) (hb0 : ∀ y ∈ code, 0 ≤ y.n ∧ y.n ≤ 255) (hb1 : ∀ y ∈ more, 0 ≤ y.n ∧ y.n ≤ 255) : Cn f_laws_FnFogs [v_code, v_more] h fun v h' => v = .bool true ∧ Ext h h' := by
 have l63_code := s_code.len63
 have lt_more := s_more.lt
 have l63_more := s_more.len63
 refine calls_of r_laws_FnFogs ?_
 refine v_seq <| v_ops <| s_pq (.bool false) <| s_nil <| p_seqN <| v_seq <| v_seq <| v_ops <| s_pq v_code <| s_pq v_more <| s_call [v_code, v_more] rfl (laws_big_ok v_code code v_more more _ s_code s_more) ?_
 rintro _ h1 ⟨rfl, eh1⟩
 have E2 := (Ext.refl h).trans eh1
 have z3 := eh1.size
 refine s_nil <| p_seqN ?_
 refine v_cond rfl (fun c4 => ?_) (fun c4 => ?_)
 ·
  refine v_seq <| v_ops <| s_pq (.bool true) <| s_nil <| p_seqN <| v_ret <| p_seqR <| p_ret [.bool true] (.bool true) (fun _ q => q) rfl ?_
  have ho : true = true := by first | rfl | (exfalso; first | omega | (have q_ := hw2 _ _ (by assumption) (by assumption); omega) | (have q_ := hwe (by omega); omega) | (simp_all; done))
  exact ⟨by first | (rw [ho]; done) | rfl, E2⟩
 have hbig : code.length ≤ 1048576 ∧ more.length ≤ 1048576 := by omega
 refine v_skip <| p_seqN <| v_seq <| v_ops <| s_pq v_code ?_
 have f5 := (s_code.ext eh1)
 refine s_call [v_code] rfl (spec_DrawClearWindows_ok v_code code _ f5 (by first | omega | assumption | (simp; done) | (simp; omega)) (by first | omega | assumption | (simp; done) | (simp; omega))) ?_
 rintro _ h14 ⟨g6, g9, g11, g12, g13, r7, r8, r10, rfl, s_r7, fr_r7, s_r8, fr_r8, s_r10, fr_r10, ap_r7_r8, ap_r7_r10, ap_r8_r10, qh14, eh14⟩
 have E15 := E2.trans eh14
 have z16 := eh14.size
 have lt_r7 := s_r7.lt
 have lt_r8 := s_r8.lt
 have lt_r10 := s_r10.lt
 refine s_pq (.tuple #[.agg #[r7, r8], r10, .int .i64 g11, .int .i64 g12, .int .i64 g13]) <| s_pq (.agg #[r7, r8]) <| s_pq r10 <| s_pq (.int .i64 g11) <| s_pq (.int .i64 g12) <| s_pq (.int .i64 g13) ?_
 refine s_new (fun h18 b17 hbb17 hzb17 eh18 bxb17 => ?_)
 have E19 := E15.trans eh18
 have z20 := eh18.size
 have lbb17 := bxb17.lt
 refine s_stBx (.agg #[r7, r8]) [r7, r8] [r7, r8] bxb17 rfl rfl rfl rfl (by simp) (all_cons s_r7.one1 (all_cons s_r8.one1 all_nil)) rfl (fun h21 mh21 sh21 bxx22 => ?_)
 have E23 := E19.mod mh21 (fun b hb => by simp at hb; omega)
 refine s_pq r10 <| s_pq (.int .i64 g11) <| s_pq (.int .i64 g12) <| s_pq (.int .i64 g13) <| s_nil <| p_seqN <| v_seq <| v_ops <| s_load (.agg #[r7, r8]) (fun _ q => bxx22.loadA rfl q) <| s_pq r10 <| s_pq (.int .i64 g11) <| s_pq (.int .i64 g12) <| s_pq (.int .i64 g13) ?_
 have f24 := ((s_r7.ext eh18).mod mh21 (fun b hb hc => by simp at hc; have := lt_r7 b hb; omega))
 have f25 := ((s_r8.ext eh18).mod mh21 (fun b hb hc => by simp at hc; have := lt_r8 b hb; omega))
 have f26 := ((s_r10.ext eh18).mod mh21 (fun b hb hc => by simp at hc; have := lt_r10 b hb; omega))
 refine s_call [.agg #[r7, r8], r10, .int .i64 g11, .int .i64 g12, .int .i64 g13] rfl (impl_ClearWindows_ok g6 r7 r8 r10 g9 g11 g12 g13 _ f24.toSl f25.toSl f26.toSl) ?_
 rintro _ h28 ⟨r27, qr27, rfl, s_r27, dq_r27, eh28⟩
 have E29 := E23.trans eh28
 have z30 := eh28.size
 refine s_pq (.tuple #[r27, .bool ((cwOut g6 g9 g11 g12 g13).2)]) <| s_pq r27 <| s_pq (.bool ((cwOut g6 g9 g11 g12 g13).2)) <| s_pq r27 <| s_pq (.bool ((cwOut g6 g9 g11 g12 g13).2)) <| s_nil <| p_seqN <| v_seq <| v_ops ?_
 have f31 := (bxx22.ext eh28)
 refine s_load (.agg #[r7, r8]) (fun _ q => f31.loadA rfl q) <| s_pq r10 <| s_pq (.int .i64 g11) <| s_pq (.int .i64 g12) <| s_pq (.int .i64 g13) ?_
 have f32 := (f24.ext eh28)
 have f33 := (f25.ext eh28)
 have f34 := (f26.ext eh28)
 refine s_call [.agg #[r7, r8], r10, .int .i64 g11, .int .i64 g12, .int .i64 g13] rfl (spec_ClearWindows_ok g6 r7 r8 r10 g9 g11 g12 g13 _ f32.toSl f33.toSl f34.toSl) ?_
 rintro _ h36 ⟨r35, qr35, rfl, s_r35, dq_r35, eh36⟩
 have E37 := E29.trans eh36
 have z38 := eh36.size
 have fr_r35 := s_r35.fr
 refine s_pq (.tuple #[r35, .bool ((cwOut g6 g9 g11 g12 g13).2)]) <| s_pq r35 <| s_pq (.bool ((cwOut g6 g9 g11 g12 g13).2)) <| s_pq r35 <| s_pq (.bool ((cwOut g6 g9 g11 g12 g13).2)) <| s_nil <| p_seqN <| v_seq <| v_ops ?_
 have f39 := (f31.ext eh36)
 refine s_load (.agg #[r7, r8]) (fun _ q => f39.loadA rfl q) <| s_pq r10 <| s_pq (.int .i64 g11) <| s_pq (.int .i64 g12) <| s_pq (.int .i64 g13) ?_
 have f40 := (f32.ext eh36)
 have f41 := (f33.ext eh36)
 have f42 := (f34.ext eh36)
 refine s_call [.agg #[r7, r8], r10, .int .i64 g11, .int .i64 g12, .int .i64 g13] rfl (impl_FogSeconds_ok g6 r7 r8 r10 g9 g11 g12 g13 _ f40.toSl f41.toSl f42.toSl) ?_
 rintro _ h43 ⟨rfl, eh43⟩
 have E44 := E37.trans eh43
 have z45 := eh43.size
 have fl46 := fs_flag g6 g9 g11 g12 g13
 refine s_pq (.tuple #[.int .i64 ((fsOut g6 g9 g11 g12 g13).1), .bool ((fsOut g6 g9 g11 g12 g13).2)]) <| s_pq (.int .i64 ((fsOut g6 g9 g11 g12 g13).1)) <| s_pq (.bool ((fsOut g6 g9 g11 g12 g13).2)) <| s_pq (.int .i64 ((fsOut g6 g9 g11 g12 g13).1)) <| s_pq (.bool ((fsOut g6 g9 g11 g12 g13).2)) <| s_nil <| p_seqN <| v_seq <| v_ops ?_
 have f47 := (f39.ext eh43)
 refine s_load (.agg #[r7, r8]) (fun _ q => f47.loadA rfl q) <| s_pq r10 <| s_pq (.int .i64 g11) <| s_pq (.int .i64 g12) <| s_pq (.int .i64 g13) ?_
 have f48 := (f40.ext eh43)
 have f49 := (f41.ext eh43)
 have f50 := (f42.ext eh43)
 refine s_call [.agg #[r7, r8], r10, .int .i64 g11, .int .i64 g12, .int .i64 g13] rfl (spec_FogSeconds_ok g6 r7 r8 r10 g9 g11 g12 g13 _ f48.toSl f49.toSl f50.toSl) ?_
 rintro _ h51 ⟨rfl, eh51⟩
 have E52 := E44.trans eh51
 have z53 := eh51.size
 refine s_pq (.tuple #[.int .i64 ((fsOut g6 g9 g11 g12 g13).1), .bool ((fsOut g6 g9 g11 g12 g13).2)]) <| s_pq (.int .i64 ((fsOut g6 g9 g11 g12 g13).1)) <| s_pq (.bool ((fsOut g6 g9 g11 g12 g13).2)) <| s_pq (.int .i64 ((fsOut g6 g9 g11 g12 g13).1)) <| s_pq (.bool ((fsOut g6 g9 g11 g12 g13).2)) <| s_nil <| p_seqN ?_
 refine v_seqM1 [(1, v_more), (5, .pointer (some ⟨b17, 0, none⟩)), (6, r10), (7, .int .i64 g11), (8, .int .i64 g12), (9, .int .i64 g13), (11, .bool ((cwOut g6 g9 g11 g12 g13).2)), (12, r35), (16, .int .i64 ((fsOut g6 g9 g11 g12 g13).1))] (fun R55 h56 eh56 => ?_) (fun M54 => ?_)
 ·
  have E57 := E52.trans eh56
  have z58 := eh56.size
  refine v_seqM1 [(1, v_more)] (fun R60 h61 eh61 => ?_) (fun M59 => ?_)
  ·
   have E62 := E57.trans eh61
   have z63 := eh61.size
   refine v_seq <| v_ops <| s_pq v_more ?_
   have f64 := ((((((((((s_more.ext eh1).ext eh14).ext eh18).mod mh21 (fun b hb hc => by simp at hc; have := lt_more b hb; omega)).ext eh28).ext eh36).ext eh43).ext eh51).ext eh56).ext eh61)
   refine s_call [v_more] rfl (spec_DrawNextClear_ok v_more more _ f64 (by first | omega | assumption | (simp; done) | (simp; omega)) (by first | omega | assumption | (simp; done) | (simp; omega))) ?_
   rintro _ h72 ⟨g65, g68, g70, g71, r66, r67, r69, rfl, s_r66, fr_r66, s_r67, fr_r67, s_r69, fr_r69, ap_r66_r67, ap_r66_r69, ap_r67_r69, qh72, eh72⟩
   have E73 := E62.trans eh72
   have z74 := eh72.size
   have lt_r66 := s_r66.lt
   have lt_r67 := s_r67.lt
   have lt_r69 := s_r69.lt
   refine s_pq (.tuple #[.agg #[r66, r67], r69, .int .i64 g70, .int .i64 g71]) <| s_pq (.agg #[r66, r67]) <| s_pq r69 <| s_pq (.int .i64 g70) <| s_pq (.int .i64 g71) ?_
   refine s_new (fun h76 b75 hbb75 hzb75 eh76 bxb75 => ?_)
   have E77 := E73.trans eh76
   have z78 := eh76.size
   have lbb75 := bxb75.lt
   refine s_stBx (.agg #[r66, r67]) [r66, r67] [r66, r67] bxb75 rfl rfl rfl rfl (by simp) (all_cons s_r66.one1 (all_cons s_r67.one1 all_nil)) rfl (fun h79 mh79 sh79 bxx80 => ?_)
   have E81 := E77.mod mh79 (fun b hb => by simp at hb; omega)
   refine s_pq r69 <| s_pq (.int .i64 g70) <| s_pq (.int .i64 g71) <| s_nil <| p_seqN <| v_seq <| v_ops <| s_load (.agg #[r66, r67]) (fun _ q => bxx80.loadA rfl q) <| s_pq r69 <| s_pq (.int .i64 g70) <| s_pq (.int .i64 g71) ?_
   have f82 := ((s_r66.ext eh76).mod mh79 (fun b hb hc => by simp at hc; have := lt_r66 b hb; omega))
   have f83 := ((s_r67.ext eh76).mod mh79 (fun b hb hc => by simp at hc; have := lt_r67 b hb; omega))
   have f84 := ((s_r69.ext eh76).mod mh79 (fun b hb hc => by simp at hc; have := lt_r69 b hb; omega))
   refine s_call [.agg #[r66, r67], r69, .int .i64 g70, .int .i64 g71] rfl (impl_NextClear_ok g65 r66 r67 r69 g68 g70 g71 _ f82.toSl f83.toSl f84.toSl) ?_
   rintro _ h85 ⟨rfl, eh85⟩
   have E86 := E81.trans eh85
   have z87 := eh85.size
   refine s_pq (.tuple #[.int .i64 ((nxOut g65 g68 g70 g71).1), .bool ((nxOut g65 g68 g70 g71).2)]) <| s_pq (.int .i64 ((nxOut g65 g68 g70 g71).1)) <| s_pq (.bool ((nxOut g65 g68 g70 g71).2)) <| s_pq (.int .i64 ((nxOut g65 g68 g70 g71).1)) <| s_pq (.bool ((nxOut g65 g68 g70 g71).2)) <| s_nil <| p_seqN <| v_seq <| v_ops ?_
   have f88 := (bxx80.ext eh85)
   refine s_load (.agg #[r66, r67]) (fun _ q => f88.loadA rfl q) <| s_pq r69 <| s_pq (.int .i64 g70) <| s_pq (.int .i64 g71) ?_
   have f89 := (f82.ext eh85)
   have f90 := (f83.ext eh85)
   have f91 := (f84.ext eh85)
   refine s_call [.agg #[r66, r67], r69, .int .i64 g70, .int .i64 g71] rfl (spec_NextClear_ok g65 r66 r67 r69 g68 g70 g71 _ f89.toSl f90.toSl f91.toSl) ?_
   rintro _ h92 ⟨rfl, eh92⟩
   have E93 := E86.trans eh92
   have z94 := eh92.size
   refine s_pq (.tuple #[.int .i64 ((nxOut g65 g68 g70 g71).1), .bool ((nxOut g65 g68 g70 g71).2)]) <| s_pq (.int .i64 ((nxOut g65 g68 g70 g71).1)) <| s_pq (.bool ((nxOut g65 g68 g70 g71).2)) <| s_pq (.int .i64 ((nxOut g65 g68 g70 g71).1)) <| s_pq (.bool ((nxOut g65 g68 g70 g71).2)) <| s_nil <| p_seqN <| v_seq <| v_ops ?_
   have f95 := (f88.ext eh92)
   refine s_load (.agg #[r66, r67]) (fun _ q => f95.loadA rfl q) <| s_pq r69 <| s_pq (.int .i64 g70) <| s_pq (.int .i64 g71) ?_
   have f96 := (f89.ext eh92)
   have f97 := (f90.ext eh92)
   have f98 := (f91.ext eh92)
   refine s_call [.agg #[r66, r67], r69, .int .i64 g70, .int .i64 g71] rfl (impl_IsClear_ok g65 r66 r67 r69 g68 g70 g71 _ f96.toSl f97.toSl f98.toSl) ?_
   rintro _ h99 ⟨rfl, eh99⟩
   have E100 := E93.trans eh99
   have z101 := eh99.size
   refine s_pq (.tuple #[.bool ((clOut g65 g68 g70 g71).1), .bool ((clOut g65 g68 g70 g71).2)]) <| s_pq (.bool ((clOut g65 g68 g70 g71).1)) <| s_pq (.bool ((clOut g65 g68 g70 g71).2)) <| s_pq (.bool ((clOut g65 g68 g70 g71).1)) <| s_pq (.bool ((clOut g65 g68 g70 g71).2)) <| s_nil <| p_seqN <| v_seq <| v_ops ?_
   have f103 := (f95.ext eh99)
   refine s_load (.agg #[r66, r67]) (fun _ q => f103.loadA rfl q) <| s_pq r69 <| s_pq (.int .i64 g70) <| s_pq (.int .i64 g71) ?_
   have f104 := (f96.ext eh99)
   have f105 := (f97.ext eh99)
   have f106 := (f98.ext eh99)
   refine s_call [.agg #[r66, r67], r69, .int .i64 g70, .int .i64 g71] rfl (spec_IsClear_ok g65 r66 r67 r69 g68 g70 g71 _ f104.toSl f105.toSl f106.toSl) ?_
   rintro _ h107 ⟨rfl, eh107⟩
   have E108 := E100.trans eh107
   have z109 := eh107.size
   have fl110 := nx_flag g65 g68 g70 g71
   refine s_pq (.tuple #[.bool ((clOut g65 g68 g70 g71).1), .bool ((clOut g65 g68 g70 g71).2)]) <| s_pq (.bool ((clOut g65 g68 g70 g71).1)) <| s_pq (.bool ((clOut g65 g68 g70 g71).2)) <| s_pq (.bool ((clOut g65 g68 g70 g71).1)) <| s_pq (.bool ((clOut g65 g68 g70 g71).2)) <| s_nil <| p_seqN ?_
   refine v_seqM1 [(1, v_more), (26, .pointer (some ⟨b75, 0, none⟩)), (27, r69), (28, .int .i64 g70), (31, .bool ((nxOut g65 g68 g70 g71).2)), (32, .int .i64 ((nxOut g65 g68 g70 g71).1))] (fun R112 h113 eh113 => ?_) (fun M111 => ?_)
   ·
    have E114 := E108.trans eh113
    have z115 := eh113.size
    refine v_seqM1 [(1, v_more)] (fun R117 h118 eh118 => ?_) (fun M116 => ?_)
    ·
     have E119 := E114.trans eh118
     have z120 := eh118.size
     refine v_seq <| v_ops <| s_pq v_more ?_
     have f121 := (((((((((f64.ext eh72).ext eh76).mod mh79 (fun b hb hc => by simp at hc; have := lt_more b hb; omega)).ext eh85).ext eh92).ext eh99).ext eh107).ext eh113).ext eh118)
     refine s_call [v_more] rfl (spec_DrawAddFog_ok v_more more _ f121 (by first | omega | assumption | (simp; done) | (simp; omega)) (by first | omega | assumption | (simp; done) | (simp; omega))) ?_
     rintro _ h128 ⟨g122, g125, g127, r123, r124, r126, rfl, s_r123, fr_r123, s_r124, fr_r124, s_r126, fr_r126, ap_r123_r124, ap_r123_r126, ap_r124_r126, qh128, eh128⟩
     have E129 := E119.trans eh128
     have z130 := eh128.size
     have lt_r123 := s_r123.lt
     have lt_r124 := s_r124.lt
     have lt_r126 := s_r126.lt
     refine s_pq (.tuple #[.agg #[r123, r124], r126, .agg #[.int .i64 g127.link, .int .i64 g127.fr, .int .i64 g127.til]]) <| s_pq (.agg #[r123, r124]) <| s_pq r126 <| s_pq (.agg #[.int .i64 g127.link, .int .i64 g127.fr, .int .i64 g127.til]) ?_
     refine s_new (fun h132 b131 hbb131 hzb131 eh132 bxb131 => ?_)
     have E133 := E129.trans eh132
     have z134 := eh132.size
     have lbb131 := bxb131.lt
     refine s_new (fun h136 b135 hbb135 hzb135 eh136 bxb135 => ?_)
     have E137 := E133.trans eh136
     have z138 := eh136.size
     have lbb135 := bxb135.lt
     have f139 := (bxb131.ext eh136)
     refine s_stBx (.agg #[r123, r124]) [r123, r124] [r123, r124] f139 rfl rfl rfl rfl (by simp) (all_cons s_r123.one1 (all_cons s_r124.one1 all_nil)) rfl (fun h140 mh140 sh140 bxx141 => ?_)
     have E142 := E137.mod mh140 (fun b hb => by simp at hb; omega)
     refine s_pq r126 ?_
     have f143 := (bxb135.mod mh140 (by simp; omega))
     refine s_stBx (.agg #[.int .i64 g127.link, .int .i64 g127.fr, .int .i64 g127.til]) [.int .i64 g127.link, .int .i64 g127.fr, .int .i64 g127.til] [.int .i64 g127.link, .int .i64 g127.fr, .int .i64 g127.til] f143 rfl rfl rfl rfl (by simp) (all_cons rfl (all_cons rfl (all_cons rfl all_nil))) rfl (fun h144 mh144 sh144 bxx145 => ?_)
     have E146 := E142.mod mh144 (fun b hb => by simp at hb; omega)
     refine s_nil <| p_seqN <| v_seq <| v_ops ?_
     have f147 := (bxx141.mod mh144 (by simp; omega))
     refine s_load (.agg #[r123, r124]) (fun _ q => f147.loadA rfl q) <| s_pq r126 <| s_load (.agg #[.int .i64 g127.link, .int .i64 g127.fr, .int .i64 g127.til]) (fun _ q => bxx145.loadA rfl q) ?_
     have f148 := ((((s_r123.ext eh132).ext eh136).mod mh140 (fun b hb hc => by simp at hc; have := lt_r123 b hb; omega)).mod mh144 (fun b hb hc => by simp at hc; have := lt_r123 b hb; omega))
     have f149 := ((((s_r124.ext eh132).ext eh136).mod mh140 (fun b hb hc => by simp at hc; have := lt_r124 b hb; omega)).mod mh144 (fun b hb hc => by simp at hc; have := lt_r124 b hb; omega))
     have f150 := ((((s_r126.ext eh132).ext eh136).mod mh140 (fun b hb hc => by simp at hc; have := lt_r126 b hb; omega)).mod mh144 (fun b hb hc => by simp at hc; have := lt_r126 b hb; omega))
     refine s_call [.agg #[r123, r124], r126, .agg #[.int .i64 g127.link, .int .i64 g127.fr, .int .i64 g127.til]] rfl (impl_AddFog_ok g122 r123 r124 r126 g125 g127 _ f148.toSl f149.toSl f150.toSl) ?_
     rintro _ h152 ⟨r151, rfl, s_r151, fr_r151, eh152⟩
     have E153 := E146.trans eh152
     have z154 := eh152.size
     refine s_pq (.tuple #[r151, .bool ((addOut g122 g125 g127).2)]) <| s_pq r151 <| s_pq (.bool ((addOut g122 g125 g127).2)) <| s_pq r151 <| s_pq (.bool ((addOut g122 g125 g127).2)) <| s_nil <| p_seqN <| v_seq <| v_ops ?_
     have f155 := (f147.ext eh152)
     refine s_load (.agg #[r123, r124]) (fun _ q => f155.loadA rfl q) <| s_pq r126 ?_
     have f156 := (bxx145.ext eh152)
     refine s_load (.agg #[.int .i64 g127.link, .int .i64 g127.fr, .int .i64 g127.til]) (fun _ q => f156.loadA rfl q) ?_
     have f157 := (f148.ext eh152)
     have f158 := (f149.ext eh152)
     have f159 := (f150.ext eh152)
     refine s_call [.agg #[r123, r124], r126, .agg #[.int .i64 g127.link, .int .i64 g127.fr, .int .i64 g127.til]] rfl (spec_AddFog_ok g122 r123 r124 r126 g125 g127 _ f157.toSl f158.toSl f159.toSl) ?_
     rintro _ h161 ⟨r160, rfl, s_r160, fr_r160, eh161⟩
     have E162 := E153.trans eh161
     have z163 := eh161.size
     refine s_pq (.tuple #[r160, .bool ((addOut g122 g125 g127).2)]) <| s_pq r160 <| s_pq (.bool ((addOut g122 g125 g127).2)) <| s_pq r160 <| s_pq (.bool ((addOut g122 g125 g127).2)) <| s_nil <| p_seqN ?_
     refine v_seqM1 [(40, .pointer (some ⟨b131, 0, none⟩)), (42, .pointer (some ⟨b135, 0, none⟩)), (43, r151), (44, .bool ((addOut g122 g125 g127).2))] (fun R165 h166 eh166 => ?_) (fun M164 => ?_)
     ·
      have E167 := E162.trans eh166
      have z168 := eh166.size
      refine v_seqM1 [] (fun R170 h171 eh171 => ?_) (fun M169 => ?_)
      ·
       have E172 := E167.trans eh171
       have z173 := eh171.size
       refine v_seq <| v_ops <| s_pq (.bool true) <| s_nil <| p_seqN <| v_ret <| p_ret [.bool true] (.bool true) (fun _ q => q) rfl ?_
       have ho : true = true := by first | rfl | (exfalso; first | omega | (have q_ := hw2 _ _ (by assumption) (by assumption); omega) | (have q_ := hwe (by omega); omega) | (simp_all; done))
       exact ⟨by first | (rw [ho]; done) | rfl, E172⟩
      refine v_seq <| v_seq <| v_ops <| s_pq (.bool ((addOut g122 g125 g127).2)) <| s_nil <| p_seqN ?_
      refine v_cond rfl (fun c174 => ?_) (fun c174 => ?_)
      ·
       obtain ⟨had1, had2, had3, had4, had5⟩ := add_facts c174
       refine v_seq <| v_ops ?_
       have f175 := ((f155.ext eh161).ext eh166)
       refine s_load (.agg #[r123, r124]) (fun _ q => f175.loadA rfl q) <| s_pq r151 <| s_pq (.pointer (some ⟨b135, 0, none⟩)) ?_
       have f176 := ((f156.ext eh161).ext eh166)
       refine s_load (.int .i64 g127.link) (fun _ q => f176.load rfl q) <| s_pq (.pointer (some ⟨b135, 1, none⟩)) <| s_load (.int .i64 g127.fr) (fun _ q => f176.load rfl q) <| s_pq (.pointer (some ⟨b135, 2, none⟩)) <| s_load (.int .i64 g127.til) (fun _ q => f176.load rfl q) ?_
       have f177 := ((f157.ext eh161).ext eh166)
       have f178 := ((f158.ext eh161).ext eh166)
       have f179 := ((s_r151.ext eh161).ext eh166)
       refine s_call [.agg #[r123, r124], r151, .int .i64 g127.link, .int .i64 g127.fr, .int .i64 g127.til] rfl (impl_FogSeconds_ok g122 r123 r124 r151 ((addOut g122 g125 g127).1) g127.link g127.fr g127.til _ f177.toSl f178.toSl f179.toSl) ?_
       rintro _ h180 ⟨rfl, eh180⟩
       have z182 := eh180.size
       have fl183 := fs_flag g122 (addOut g122 g125 g127).1 g127.link g127.fr g127.til
       have ad184 : (fsOut g122 ((addOut g122 g125 g127).1) g127.link g127.fr g127.til).2 = true := by rw [had1]
       have ad184v : (fsOut g122 ((addOut g122 g125 g127).1) g127.link g127.fr g127.til).1 = g127.til - g127.fr := by rw [had1]
       refine s_pq (.tuple #[.int .i64 ((fsOut g122 ((addOut g122 g125 g127).1) g127.link g127.fr g127.til).1), .bool ((fsOut g122 ((addOut g122 g125 g127).1) g127.link g127.fr g127.til).2)]) <| s_pq (.int .i64 ((fsOut g122 ((addOut g122 g125 g127).1) g127.link g127.fr g127.til).1)) <| s_pq (.bool ((fsOut g122 ((addOut g122 g125 g127).1) g127.link g127.fr g127.til).2)) <| s_pq (.int .i64 ((fsOut g122 ((addOut g122 g125 g127).1) g127.link g127.fr g127.til).1)) <| s_pq (.bool ((fsOut g122 ((addOut g122 g125 g127).1) g127.link g127.fr g127.til).2)) ?_
       refine s_nil <| p_seqN <| v_seq <| v_ops ?_
       have f185 := (f175.ext eh180)
       refine s_load (.agg #[r123, r124]) (fun _ q => f185.loadA rfl q) <| s_pq r151 ?_
       have f186 := (f177.ext eh180)
       have f187 := (f178.ext eh180)
       have f188 := (f179.ext eh180)
       refine s_call [.agg #[r123, r124], r151] rfl (impl_AreFogs_ok g122 r123 r124 r151 ((addOut g122 g125 g127).1) _ f186.toSl f187.toSl f188.toSl) ?_
       rintro _ h189 ⟨rfl, eh189⟩
       have z191 := eh189.size
       have af192 : (afOut g122 ((addOut g122 g125 g127).1)).2 = true := by rw [had2]
       have af192v : (afOut g122 ((addOut g122 g125 g127).1)).1 = true := by rw [had2]
       refine s_pq (.tuple #[.bool ((afOut g122 ((addOut g122 g125 g127).1)).1), .bool ((afOut g122 ((addOut g122 g125 g127).1)).2)]) <| s_pq (.bool ((afOut g122 ((addOut g122 g125 g127).1)).1)) <| s_pq (.bool ((afOut g122 ((addOut g122 g125 g127).1)).2)) <| s_pq (.bool ((afOut g122 ((addOut g122 g125 g127).1)).1)) <| s_pq (.bool ((afOut g122 ((addOut g122 g125 g127).1)).2)) <| s_nil <| p_seqN <| v_seq <| v_ops <| s_pq (.bool ((fsOut g122 ((addOut g122 g125 g127).1) g127.link g127.fr g127.til).2)) ?_
       refine s_pq (.bool (!(fsOut g122 ((addOut g122 g125 g127).1) g127.link g127.fr g127.til).2)) <| s_pq (.bool (!(fsOut g122 ((addOut g122 g125 g127).1) g127.link g127.fr g127.til).2)) <| s_splitN rfl (by first | assumption | omega | (simp [fl46]; done) | (simp [fl110]; done) | (simp [fl183]; done) | (simp [ad184]; done) | (simp [ad184v]; done) | (simp [af192]; done) | (simp [af192v]; done) | (simp; done) | (simp; omega) | simp_all) <| s_run rfl <| s_pq (.int .i64 ((fsOut g122 ((addOut g122 g125 g127).1) g127.link g127.fr g127.til).1)) ?_
       refine s_run rfl <| s_pq (.pointer (some ⟨b135, 2, none⟩)) <| s_run rfl ?_
       have f193 := ((f176.ext eh180).ext eh189)
       refine s_load (.int .i64 g127.til) (fun _ q => f193.load rfl q) <| s_run rfl <| s_pq (.pointer (some ⟨b135, 1, none⟩)) <| s_run rfl <| s_load (.int .i64 g127.fr) (fun _ q => f193.load rfl q) <| s_run rfl <| s_pure (.int .i64 (g127.til - g127.fr)) (fun _ q => ArithVC.mk (by omega) q) <| s_run rfl <| s_pq (.bool ((fsOut g122 ((addOut g122 g125 g127).1) g127.link g127.fr g127.til).1 != (g127.til - g127.fr))) <| s_pq (.bool ((fsOut g122 ((addOut g122 g125 g127).1) g127.link g127.fr g127.til).1 != (g127.til - g127.fr))) ?_
       refine s_pq (.bool ((fsOut g122 ((addOut g122 g125 g127).1) g127.link g127.fr g127.til).1 != (g127.til - g127.fr))) <| s_splitN rfl (by first | assumption | omega | (simp [fl46]; done) | (simp [fl110]; done) | (simp [fl183]; done) | (simp [ad184]; done) | (simp [ad184v]; done) | (simp [af192]; done) | (simp [af192v]; done) | (simp; done) | (simp; omega) | simp_all) <| s_run rfl <| s_pq (.bool ((afOut g122 ((addOut g122 g125 g127).1)).2)) <| s_run rfl <| s_pq (.bool (!(afOut g122 ((addOut g122 g125 g127).1)).2)) ?_
       refine s_pq (.bool (!(afOut g122 ((addOut g122 g125 g127).1)).2)) <| s_pq (.bool (!(afOut g122 ((addOut g122 g125 g127).1)).2)) <| s_splitN rfl (by first | assumption | omega | (simp [fl46]; done) | (simp [fl110]; done) | (simp [fl183]; done) | (simp [ad184]; done) | (simp [ad184v]; done) | (simp [af192]; done) | (simp [af192v]; done) | (simp; done) | (simp; omega) | simp_all) <| s_run rfl <| s_pq (.bool ((afOut g122 ((addOut g122 g125 g127).1)).1)) <| s_run rfl <| s_pq (.bool (!(afOut g122 ((addOut g122 g125 g127).1)).1)) ?_
       refine s_pq (.bool (!(afOut g122 ((addOut g122 g125 g127).1)).1)) <| s_nil <| p_seqN <| v_condN rfl (by first | assumption | omega | (simp [fl46]; done) | (simp [fl110]; done) | (simp [fl183]; done) | (simp [ad184]; done) | (simp [ad184v]; done) | (simp [af192]; done) | (simp [af192v]; done) | (simp; done) | (simp; omega) | simp_all) <| v_skip <| p_seqN ?_
       exact M169 _ _ trivial (((Ext.refl _).trans eh180).trans eh189)
      refine v_skip <| p_seqN ?_
      exact M169 _ _ trivial (Ext.refl _)
     refine v_seq <| v_seq <| v_ops <| s_pq (.bool ((addOut g122 g125 g127).2)) <| s_pq (.bool ((addOut g122 g125 g127).2)) <| s_pq (.bool ((addOut g122 g125 g127).2 != (addOut g122 g125 g127).2)) <| s_pq (.bool ((addOut g122 g125 g127).2 != (addOut g122 g125 g127).2)) <| s_splitN rfl (by first | assumption | omega | (simp [fl46]; done) | (simp [fl110]; done) | (simp; done) | (simp; omega) | simp_all) <| s_run rfl <| s_pq r151 <| s_run rfl <| s_pq r160 <| s_run rfl ?_
     have f195 := (s_r151.ext eh161)
     refine s_call [r151, r160] rfl (laws_pSameFogs_ok r151 ((addOut g122 g125 g127).1) r160 ((addOut g122 g125 g127).1) _ f195.toSl s_r160.toSl) ?_
     rintro vh194 h194 ⟨hvh194, eh194⟩
     obtain rfl : vh194 = .bool true := hvh194.trans (by rw [decide_eq_true rfl])
     have z197 := eh194.size
     refine s_run rfl <| s_pq (.bool false) <| s_pq (.bool false) <| s_nil <| p_seqN <| v_condN rfl (by simp) <| v_skip <| p_seqN ?_
     exact M164 _ _ ⟨rfl, rfl, rfl, rfl⟩ ((Ext.refl _).trans eh194)
    refine v_seq <| v_seq <| v_ops <| s_pq (.bool ((nxOut g65 g68 g70 g71).2)) <| s_pq (.bool ((nxOut g65 g68 g70 g71).2)) ?_
    refine s_splitT rfl (fun c198 => ?_) (fun c198 => ?_)
    ·
     obtain ⟨hnx1, hnx2, hnx3⟩ := nx_facts c198
     refine s_run rfl <| s_pq (.int .i64 ((nxOut g65 g68 g70 g71).1)) <| s_run rfl <| s_pq (.bool (decide ((nxOut g65 g68 g70 g71).1 ≤ 10000))) <| s_pq (.bool (decide ((nxOut g65 g68 g70 g71).1 ≤ 10000))) <| s_nil <| p_seqN ?_
     refine v_cond rfl (fun c199 => ?_) (fun c199 => ?_)
     ·
      refine v_seq <| v_ops ?_
      have f200 := ((f103.ext eh107).ext eh113)
      refine s_load (.agg #[r66, r67]) (fun _ q => f200.loadA rfl q) <| s_pq r69 <| s_pq (.int .i64 g70) <| s_pq (.int .i64 ((nxOut g65 g68 g70 g71).1)) ?_
      have f201 := ((f104.ext eh107).ext eh113)
      have f202 := ((f105.ext eh107).ext eh113)
      have f203 := ((f106.ext eh107).ext eh113)
      refine s_call [.agg #[r66, r67], r69, .int .i64 g70, .int .i64 ((nxOut g65 g68 g70 g71).1)] rfl (impl_IsClear_ok g65 r66 r67 r69 g68 g70 ((nxOut g65 g68 g70 g71).1) _ f201.toSl f202.toSl f203.toSl) ?_
      rintro _ h204 ⟨rfl, eh204⟩
      have z206 := eh204.size
      have cl207 := hnx3 (by assumption)
      have cl207a : (clOut g65 g68 g70 ((nxOut g65 g68 g70 g71).1)).2 = true := by rw [cl207]
      have cl207b : (clOut g65 g68 g70 ((nxOut g65 g68 g70 g71).1)).1 = true := by rw [cl207]
      refine s_pq (.tuple #[.bool ((clOut g65 g68 g70 ((nxOut g65 g68 g70 g71).1)).1), .bool ((clOut g65 g68 g70 ((nxOut g65 g68 g70 g71).1)).2)]) <| s_pq (.bool ((clOut g65 g68 g70 ((nxOut g65 g68 g70 g71).1)).1)) <| s_pq (.bool ((clOut g65 g68 g70 ((nxOut g65 g68 g70 g71).1)).2)) <| s_pq (.bool ((clOut g65 g68 g70 ((nxOut g65 g68 g70 g71).1)).1)) <| s_pq (.bool ((clOut g65 g68 g70 ((nxOut g65 g68 g70 g71).1)).2)) <| s_nil <| p_seqN <| v_seq <| v_ops <| s_pq (.bool ((clOut g65 g68 g70 ((nxOut g65 g68 g70 g71).1)).2)) ?_
      refine s_pq (.bool (!(clOut g65 g68 g70 ((nxOut g65 g68 g70 g71).1)).2)) <| s_pq (.bool (!(clOut g65 g68 g70 ((nxOut g65 g68 g70 g71).1)).2)) <| s_splitN rfl (by first | assumption | omega | (simp [fl46]; done) | (simp [fl110]; done) | (simp [hnx2]; done) | (simp [cl207a]; done) | (simp [cl207b]; done) | (simp; done) | (simp; omega) | simp_all) <| s_run rfl <| s_pq (.bool ((clOut g65 g68 g70 ((nxOut g65 g68 g70 g71).1)).1)) <| s_run rfl <| s_pq (.bool (!(clOut g65 g68 g70 ((nxOut g65 g68 g70 g71).1)).1)) ?_
      refine s_pq (.bool (!(clOut g65 g68 g70 ((nxOut g65 g68 g70 g71).1)).1)) <| s_nil <| p_seqN <| v_condN rfl (by first | assumption | omega | (simp [fl46]; done) | (simp [fl110]; done) | (simp [hnx2]; done) | (simp [cl207a]; done) | (simp [cl207b]; done) | (simp; done) | (simp; omega) | simp_all) <| v_skip <| p_seqN ?_
      exact M116 _ _ rfl ((Ext.refl _).trans eh204)
     refine v_skip <| p_seqN ?_
     exact M116 _ _ rfl (Ext.refl _)
    refine s_pass rfl <| s_pass rfl <| s_pq (.bool false) <| s_nil <| p_seqN <| v_condN rfl (by simp) <| v_skip <| p_seqN ?_
    exact M116 _ _ rfl (Ext.refl _)
   refine v_seq <| v_seq <| v_ops <| s_pq (.bool ((nxOut g65 g68 g70 g71).2)) <| s_pq (.bool ((nxOut g65 g68 g70 g71).2)) <| s_pq (.bool ((nxOut g65 g68 g70 g71).2 != (nxOut g65 g68 g70 g71).2)) <| s_pq (.bool ((nxOut g65 g68 g70 g71).2 != (nxOut g65 g68 g70 g71).2)) <| s_splitN rfl (by first | assumption | omega | (simp [fl46]; done) | (simp [fl110]; done) | (simp; done) | (simp; omega) | simp_all) <| s_run rfl <| s_pq (.int .i64 ((nxOut g65 g68 g70 g71).1)) <| s_run rfl <| s_pq (.int .i64 ((nxOut g65 g68 g70 g71).1)) ?_
   refine s_run rfl <| s_pq (.bool ((nxOut g65 g68 g70 g71).1 != (nxOut g65 g68 g70 g71).1)) <| s_pq (.bool ((nxOut g65 g68 g70 g71).1 != (nxOut g65 g68 g70 g71).1)) <| s_pq (.bool ((nxOut g65 g68 g70 g71).1 != (nxOut g65 g68 g70 g71).1)) <| s_splitN rfl (by first | assumption | omega | (simp [fl46]; done) | (simp [fl110]; done) | (simp; done) | (simp; omega) | simp_all) <| s_run rfl <| s_pq (.bool ((clOut g65 g68 g70 g71).2)) <| s_run rfl <| s_pq (.bool ((clOut g65 g68 g70 g71).2)) <| s_run rfl ?_
   refine s_pq (.bool ((clOut g65 g68 g70 g71).2 != (clOut g65 g68 g70 g71).2)) <| s_pq (.bool ((clOut g65 g68 g70 g71).2 != (clOut g65 g68 g70 g71).2)) <| s_pq (.bool ((clOut g65 g68 g70 g71).2 != (clOut g65 g68 g70 g71).2)) <| s_splitN rfl (by first | assumption | omega | (simp [fl46]; done) | (simp [fl110]; done) | (simp; done) | (simp; omega) | simp_all) <| s_run rfl <| s_pq (.bool ((clOut g65 g68 g70 g71).1)) <| s_run rfl <| s_pq (.bool ((clOut g65 g68 g70 g71).1)) <| s_run rfl <| s_pq (.bool ((clOut g65 g68 g70 g71).1 != (clOut g65 g68 g70 g71).1)) ?_
   refine s_pq (.bool ((clOut g65 g68 g70 g71).1 != (clOut g65 g68 g70 g71).1)) <| s_pq (.bool ((clOut g65 g68 g70 g71).1 != (clOut g65 g68 g70 g71).1)) <| s_splitN rfl (by first | assumption | omega | (simp [fl46]; done) | (simp [fl110]; done) | (simp; done) | (simp; omega) | simp_all) <| s_run rfl <| s_pq (.bool ((nxOut g65 g68 g70 g71).2)) <| s_run rfl <| s_pq (.bool ((clOut g65 g68 g70 g71).2)) <| s_run rfl <| s_pq (.bool ((nxOut g65 g68 g70 g71).2 != (clOut g65 g68 g70 g71).2)) <| s_pq (.bool ((nxOut g65 g68 g70 g71).2 != (clOut g65 g68 g70 g71).2)) ?_
   refine s_pq (.bool ((nxOut g65 g68 g70 g71).2 != (clOut g65 g68 g70 g71).2)) <| s_splitN rfl (by first | assumption | omega | (simp [fl46]; done) | (simp [fl110]; done) | (simp; done) | (simp; omega) | simp_all) <| s_run rfl <| s_pq (.bool ((nxOut g65 g68 g70 g71).2)) <| s_run rfl <| s_pq (.bool ((nxOut g65 g68 g70 g71).2)) ?_
   refine s_splitT rfl (fun c208 => ?_) (fun c208 => ?_)
   ·
    obtain ⟨hnx1, hnx2, hnx3⟩ := nx_facts c208
    refine s_run rfl <| s_pq (.int .i64 ((nxOut g65 g68 g70 g71).1)) <| s_run rfl <| s_pq (.int .i64 g71) <| s_run rfl <| s_pq (.bool (decide ((nxOut g65 g68 g70 g71).1 < g71))) <| s_run rfl <| s_pq (.bool (decide ((nxOut g65 g68 g70 g71).1 < g71))) <| s_splitN rfl (by first | assumption | omega | (simp [fl46]; done) | (simp [fl110]; done) | (simp [hnx2]; done) | (simp; done) | (simp; omega) | simp_all) <| s_run rfl <| s_pq (.bool ((clOut g65 g68 g70 g71).1)) <| s_run rfl <| s_pq (.int .i64 ((nxOut g65 g68 g70 g71).1)) ?_
    refine s_run rfl <| s_pq (.int .i64 g71) <| s_run rfl <| s_pq (.bool ((nxOut g65 g68 g70 g71).1 == g71)) <| s_run rfl <| s_pq (.bool ((clOut g65 g68 g70 g71).1 != ((nxOut g65 g68 g70 g71).1 == g71))) <| s_run rfl <| s_pq (.bool ((clOut g65 g68 g70 g71).1 != ((nxOut g65 g68 g70 g71).1 == g71))) <| s_run rfl <| s_pq (.bool ((clOut g65 g68 g70 g71).1 != ((nxOut g65 g68 g70 g71).1 == g71))) <| s_pq (.bool ((clOut g65 g68 g70 g71).1 != ((nxOut g65 g68 g70 g71).1 == g71))) <| s_nil <| p_seqN <| v_condN rfl (by first | assumption | omega | (simp [fl46]; done) | (simp [fl110]; done) | (simp [hnx2]; done) | (simp; done) | (simp; omega) | simp_all) ?_
    refine v_skip <| p_seqN ?_
    exact M111 _ _ ⟨rfl, rfl, rfl, rfl, rfl, rfl⟩ (Ext.refl _)
   refine s_pass rfl <| s_pass rfl <| s_pass rfl <| s_pass rfl <| s_splitU rfl <| s_passU rfl <| s_passU rfl <| s_passU rfl <| s_passU rfl <| s_passU rfl <| s_pass rfl <| s_run rfl <| s_pq (.bool false) <| s_pq (.bool false) <| s_nil <| p_seqN <| v_condN rfl (by simp) <| v_skip <| p_seqN ?_
   exact M111 _ _ ⟨rfl, rfl, rfl, rfl, rfl, rfl⟩ (Ext.refl _)
  refine v_seq <| v_seq <| v_ops <| s_pq (.bool ((cwOut g6 g9 g11 g12 g13).2)) <| s_nil <| p_seqN ?_
  refine v_cond rfl (fun c209 => ?_) (fun c209 => ?_)
  ·
   obtain ⟨hAk, hfs, hfs0, hfs1⟩ := cw_ask c209
   have haK := hAk.ha
   have habK := hAk.hab
   have hbK := hAk.hb
   refine v_seq <| v_ops <| s_pq (.int .i64 g12) <| s_pure (.int .i64 (g12 - 1)) (fun _ q => ArithVC.mk (by omega) q) <| s_pq (.int .i64 0) <| s_pq (.int .i64 (g12 - 1)) <| s_nil <| p_seqN <| v_seq <| v_seq <| v_ops <| s_pq r35 <| s_pure (.int .i64 (qr35.length : Int)) (fun _ q => s_r35.row.lenVC q) <| s_pq (.int .i64 0) <| s_nil <| p_seqN <| v_block ?_
   have h61 := q_len61 dq_r35
   have nk211 : b17 ∉ blks r7 := (fun hc => by have := lt_r7 _ hc; omega)
   have nk212 : b17 ∉ blks r8 := (fun hc => by have := lt_r8 _ hc; omega)
   have nk213 : b17 ∉ blks r10 := (fun hc => by have := lt_r10 _ hc; omega)
   have nk214 : b17 ∉ fpts r35 qr35 := (fun hc => by have := fr_r35 _ hc; omega)
   have f215 := ((f47.ext eh51).ext eh56)
   have f216 := ((f48.ext eh51).ext eh56)
   have f217 := ((f49.ext eh51).ext eh56)
   have f218 := ((f50.ext eh51).ext eh56)
   have f219 := (((s_r35.ext eh43).ext eh51).ext eh56)
   refine v_loop3 (α := Nat) (β := Int) (γ := Int) (fun k cl la => [(1, v_more), (5, .pointer (some ⟨b17, 0, none⟩)), (6, r10), (7, .int .i64 g11), (8, .int .i64 g12), (9, .int .i64 g13), (16, .int .i64 ((fsOut g6 g9 g11 g12 g13).1)), (18, .int .i64 cl), (19, .int .i64 la), (125, r35), (126, .int .i64 (qr35.length : Int)), (127, .int .i64 (k : Int))]) (fun k cl la hh => Ext h hh ∧ Ext h56 hh ∧ Bx hh b17 [r7, r8] 27 ∧ SlO hh r7 g6.towers ∧ SlO hh r8 g6.links ∧ SlO hh r10 g9 ∧ DeepO hh r35 qr35 h.size ∧ k ≤ qr35.length ∧ (cl, la) = wTo g12 ((cwOut g6 g9 g11 g12 g13).1.take k) ∧ 0 ≤ cl ∧ cl ≤ 10000 * (k : Int)) (fun k cl la => qr35.length - k) 0 0 (g12 - 1) ⟨rfl, rfl, rfl, rfl, rfl, rfl, rfl, rfl, rfl, rfl, rfl, rfl⟩ ⟨E57, (Ext.refl _), f215, f216, f217, f218, (f219.mono (by omega)), (by exact ⟨Nat.zero_le _, rfl, by omega, by omega⟩)⟩ ?_
   rintro k cl la R220 h210 ⟨Eh, Em0, bxb17, s_r7, s_r8, s_r10, s_r35, ⟨hk, hwt, hcl0, hcl1⟩⟩
   have zEh := Eh.size
   have ltk_r7 := s_r7.lt
   have ltk_r8 := s_r8.lt
   have ltk_r10 := s_r10.lt
   have lbb17 := bxb17.lt
   have ltk_r35 := s_r35.lt
   have hwy := fun (x : RowI) (hx : qr35[k]? = some x) => win_y hAk dq_r35 hwt hx
   have hwe : qr35.length ≤ k → _ := fun h => win_end hAk dq_r35 hwt h
   refine v_seq <| v_ops <| s_pq (.bool (decide ((k : Int) < (qr35.length : Int)))) <| s_nil <| p_seqN <| v_seq ?_
   refine v_cond rfl (fun c224 => ?_) (fun c224 => ?_)
   ·
    refine v_skip <| p_seqN <| v_seq <| v_block <| v_seq <| v_ops ?_
    have hk225 : k < qr35.length := (by first | omega | (simp; omega))
    obtain ⟨x226, hx226⟩ : ∃ x, qr35[k]? = some x := ⟨_, List.getElem?_eq_getElem hk225⟩
    refine s_pure (.pointer (some ⟨sblk r35, soff r35 + k * 1, none⟩)) (fun _ q => s_r35.row.idx (k := k) rfl hk225 q) ?_
    have s227 := s_r35.insL x226 (List.mem_of_getElem? hx226)
    refine s_load x226.sv.v (fun _ q => s_r35.row.load1 hx226 rfl q) <| s_pq x226.sv.v <| s_nil <| p_seqN <| v_seq <| v_drawF <| d_pq r10 <| d_pq (.int .i64 g11) <| d_pq x226.sv.v ?_
    have hk228 : 0 < x226.sig.length := (by have q_ := (hwy _ (by assumption)).1; omega)
    obtain ⟨x229, hx229⟩ : ∃ x, x226.sig[0]? = some x := ⟨_, List.getElem?_eq_getElem hk228⟩
    refine d_pureT (.pointer (some ⟨sblk x226.sv.v, soff x226.sv.v + 0 * 1, none⟩)) (fun _ q => s227.idx (k := 0) rfl hk228 q) <| d_loadO (.agg #[r7, r8]) (fun _ q => bxb17.loadA rfl q) <| d_loadO (.int .i64 x229) (fun _ q => s227.load1 hx229 rfl q) <| d_eff <| s_call [.agg #[r7, r8], r10, .int .i64 g11, .int .i64 x229] rfl (impl_IsClear_ok g6 r7 r8 r10 g9 g11 x229 _ s_r7.toSl s_r8.toSl s_r10.toSl) ?_
    rintro _ h230 ⟨rfl, eh230⟩
    have E231 := Eh.trans eh230
    have z232 := eh230.size
    obtain ⟨hwl, hw0, hw1, hw2⟩ := hwy _ (by assumption)
    have cl234 := hw0 _ hx229
    have cl234a : (clOut g6 g9 g11 x229).2 = true := by rw [cl234]
    have cl234b : (clOut g6 g9 g11 x229).1 = true := by rw [cl234]
    refine s_nil ⟨fun hl => (by cases hl), ?_⟩
    refine d_pq (.tuple #[.bool ((clOut g6 g9 g11 x229).1), .bool ((clOut g6 g9 g11 x229).2)]) <| d_pq (.bool ((clOut g6 g9 g11 x229).1)) <| d_pq (.bool ((clOut g6 g9 g11 x229).2)) <| d_pq (.bool ((clOut g6 g9 g11 x229).1)) <| d_pq (.bool ((clOut g6 g9 g11 x229).2)) <| d_done <| p_seqN <| v_seq <| v_drawF <| d_pq r10 <| d_pq (.int .i64 g11) <| d_pq x226.sv.v ?_
    have f235 := (s227.ext eh230)
    have hk236 : 1 < x226.sig.length := (by have q_ := (hwy _ (by assumption)).1; omega)
    obtain ⟨x237, hx237⟩ : ∃ x, x226.sig[1]? = some x := ⟨_, List.getElem?_eq_getElem hk236⟩
    refine d_pureT (.pointer (some ⟨sblk x226.sv.v, soff x226.sv.v + 1 * 1, none⟩)) (fun _ q => f235.idx (k := 1) rfl hk236 q) ?_
    have f238 := (bxb17.ext eh230)
    refine d_loadO (.agg #[r7, r8]) (fun _ q => f238.loadA rfl q) <| d_loadO (.int .i64 x237) (fun _ q => f235.load1 hx237 rfl q) <| d_pureT (.int .i64 (x237 - 1)) (fun _ q => ArithVC.mk (by have q_ := (hw1 _ (by assumption)).2; omega) q) <| d_eff ?_
    have f239 := (s_r7.ext eh230)
    have f240 := (s_r8.ext eh230)
    have f241 := (s_r10.ext eh230)
    refine s_call [.agg #[r7, r8], r10, .int .i64 g11, .int .i64 (x237 - 1)] rfl (impl_IsClear_ok g6 r7 r8 r10 g9 g11 (x237 - 1) _ f239.toSl f240.toSl f241.toSl) ?_
    rintro _ h242 ⟨rfl, eh242⟩
    have E243 := E231.trans eh242
    have z244 := eh242.size
    have cl246 := (hw1 _ hx237).1
    have cl246a : (clOut g6 g9 g11 (x237 - 1)).2 = true := by rw [cl246]
    have cl246b : (clOut g6 g9 g11 (x237 - 1)).1 = true := by rw [cl246]
    refine s_nil ⟨fun hl => (by cases hl), ?_⟩
    refine d_pq (.tuple #[.bool ((clOut g6 g9 g11 (x237 - 1)).1), .bool ((clOut g6 g9 g11 (x237 - 1)).2)]) <| d_pq (.bool ((clOut g6 g9 g11 (x237 - 1)).1)) <| d_pq (.bool ((clOut g6 g9 g11 (x237 - 1)).2)) <| d_pq (.bool ((clOut g6 g9 g11 (x237 - 1)).1)) <| d_pq (.bool ((clOut g6 g9 g11 (x237 - 1)).2)) <| d_done <| p_seqN ?_
    refine v_seqM1 [(1, v_more), (5, .pointer (some ⟨b17, 0, none⟩)), (6, r10), (7, .int .i64 g11), (8, .int .i64 g12), (9, .int .i64 g13), (16, .int .i64 ((fsOut g6 g9 g11 g12 g13).1)), (18, .int .i64 cl), (21, x226.sv.v), (125, r35), (126, .int .i64 (qr35.length : Int)), (127, .int .i64 (k : Int))] (fun R248 h249 eh249 => ?_) (fun M247 => ?_)
    ·
     have E250 := E243.trans eh249
     have z251 := eh249.size
     refine v_seq <| v_ops <| s_pq (.int .i64 cl) <| s_pq x226.sv.v ?_
     have f252 := ((f235.ext eh242).ext eh249)
     refine s_pure (.pointer (some ⟨sblk x226.sv.v, soff x226.sv.v + 1 * 1, none⟩)) (fun _ q => f252.idx (k := 1) rfl hk236 q) <| s_pq x226.sv.v <| s_pure (.pointer (some ⟨sblk x226.sv.v, soff x226.sv.v + 0 * 1, none⟩)) (fun _ q => f252.idx (k := 0) rfl hk228 q) <| s_load (.int .i64 x237) (fun _ q => f252.load1 hx237 rfl q) <| s_load (.int .i64 x229) (fun _ q => f252.load1 hx229 rfl q) <| s_pure (.int .i64 (x237 - x229)) (fun _ q => ArithVC.mk (by have q_ := hw2 _ _ (by assumption) (by assumption); omega) q) ?_
     refine s_pure (.int .i64 (cl + (x237 - x229))) (fun _ q => ArithVC.mk (by have q_ := hw2 _ _ (by assumption) (by assumption); omega) q) <| s_pq (.int .i64 (cl + (x237 - x229))) <| s_nil <| p_seqN <| v_ops <| s_pq x226.sv.v <| s_pure (.pointer (some ⟨sblk x226.sv.v, soff x226.sv.v + 1 * 1, none⟩)) (fun _ q => f252.idx (k := 1) rfl hk236 q) <| s_load (.int .i64 x237) (fun _ q => f252.load1 hx237 rfl q) <| s_pq (.int .i64 x237) <| s_nil <| p_blkN <| p_seqN <| v_ops <| s_pure (.int .i64 ((k : Int) + 1)) (fun _ q => ArithVC.mk (by omega) q) ?_
     refine s_pq (.int .i64 ((k : Int) + 1)) <| s_nil ?_
     have f253 := ((f238.ext eh242).ext eh249)
     have f254 := ((f239.ext eh242).ext eh249)
     have f255 := ((f240.ext eh242).ext eh249)
     have f256 := ((f241.ext eh242).ext eh249)
     have f257 := (((s_r35.ext eh230).ext eh242).ext eh249)
     exact p_lpN ⟨k + 1, (cl + (x237 - x229)), x237, ⟨rfl, rfl, rfl, rfl, rfl, rfl, rfl, rfl, rfl, rfl, rfl, rfl⟩, ⟨E250, (((Em0.trans eh230).trans eh242).trans eh249), f253, f254, f255, f256, (f257.mono (by omega)), (by (obtain ⟨q1_, q2_, q3_, q4_, q5_, q6_⟩ := hw2 _ _ (by assumption) (by assumption)); exact ⟨by omega, q6_, by omega, by omega⟩)⟩, by omega⟩
    refine v_seq <| v_seq <| v_ops <| s_pq (.bool ((clOut g6 g9 g11 x229).2)) <| s_pq (.bool (!(clOut g6 g9 g11 x229).2)) <| s_pq (.bool (!(clOut g6 g9 g11 x229).2)) <| s_splitN rfl (by first | assumption | omega | (simp [fl46]; done) | (simp [cl234a]; done) | (simp [cl234b]; done) | (simp [cl246a]; done) | (simp [cl246b]; done) | (simp; done) | (simp; omega) | simp_all) <| s_run rfl <| s_pq (.bool ((clOut g6 g9 g11 x229).1)) <| s_run rfl <| s_pq (.bool (!(clOut g6 g9 g11 x229).1)) <| s_pq (.bool (!(clOut g6 g9 g11 x229).1)) ?_
    refine s_pq (.bool (!(clOut g6 g9 g11 x229).1)) <| s_splitN rfl (by first | assumption | omega | (simp [fl46]; done) | (simp [cl234a]; done) | (simp [cl234b]; done) | (simp [cl246a]; done) | (simp [cl246b]; done) | (simp; done) | (simp; omega) | simp_all) <| s_run rfl <| s_pq (.bool ((clOut g6 g9 g11 (x237 - 1)).2)) <| s_run rfl <| s_pq (.bool (!(clOut g6 g9 g11 (x237 - 1)).2)) <| s_pq (.bool (!(clOut g6 g9 g11 (x237 - 1)).2)) <| s_pq (.bool (!(clOut g6 g9 g11 (x237 - 1)).2)) <| s_splitN rfl (by first | assumption | omega | (simp [fl46]; done) | (simp [cl234a]; done) | (simp [cl234b]; done) | (simp [cl246a]; done) | (simp [cl246b]; done) | (simp; done) | (simp; omega) | simp_all) ?_
    refine s_run rfl <| s_pq (.bool ((clOut g6 g9 g11 (x237 - 1)).1)) <| s_run rfl <| s_pq (.bool (!(clOut g6 g9 g11 (x237 - 1)).1)) <| s_pq (.bool (!(clOut g6 g9 g11 (x237 - 1)).1)) <| s_pq (.bool (!(clOut g6 g9 g11 (x237 - 1)).1)) <| s_splitN rfl (by first | assumption | omega | (simp [fl46]; done) | (simp [cl234a]; done) | (simp [cl234b]; done) | (simp [cl246a]; done) | (simp [cl246b]; done) | (simp; done) | (simp; omega) | simp_all) <| s_run rfl <| s_pq x226.sv.v <| s_run rfl ?_
    have f258 := (f235.ext eh242)
    refine s_pure (.pointer (some ⟨sblk x226.sv.v, soff x226.sv.v + 0 * 1, none⟩)) (fun _ q => f258.idx (k := 0) rfl hk228 q) <| s_run rfl <| s_pq (.int .i64 la) <| s_run rfl <| s_load (.int .i64 x229) (fun _ q => f258.load1 hx229 rfl q) <| s_run rfl <| s_pq (.bool (decide (x229 ≤ la))) <| s_pq (.bool (decide (x229 ≤ la))) <| s_pq (.bool (decide (x229 ≤ la))) ?_
    refine s_splitT rfl (fun c259 => ?_) (fun c259 => ?_)
    ·
     refine s_pass rfl <| s_pass rfl <| s_pass rfl <| s_pass rfl <| s_pass rfl <| s_pass rfl <| s_pass rfl <| s_pq (.bool true) <| s_pq (.bool true) <| s_splitY rfl rfl <| s_pass rfl <| s_pass rfl <| s_pass rfl <| s_pass rfl <| s_pass rfl <| s_pq (.bool true) <| s_nil <| p_seqN <| v_condY rfl rfl <| v_seq <| v_ops <| s_pq (.bool false) <| s_nil <| p_seqN <| v_ret <| p_seqR <| p_blkR <| p_seqR <| p_lpR <| p_blkR <| p_seqR <| p_seqR <| p_ret [.bool false] (.bool false) (fun _ q => q) rfl ?_
     have ho : true = false := by first | rfl | (exfalso; first | omega | (have q_ := hw2 _ _ (by assumption) (by assumption); omega) | (have q_ := hwe (by omega); omega) | (simp_all; done))
     exact ⟨by first | (rw [ho]; done) | rfl, E243⟩
    refine s_run rfl <| s_pq x226.sv.v <| s_run rfl <| s_pure (.pointer (some ⟨sblk x226.sv.v, soff x226.sv.v + 0 * 1, none⟩)) (fun _ q => f258.idx (k := 0) rfl hk228 q) <| s_run rfl <| s_pq x226.sv.v <| s_run rfl <| s_pure (.pointer (some ⟨sblk x226.sv.v, soff x226.sv.v + 1 * 1, none⟩)) (fun _ q => f258.idx (k := 1) rfl hk236 q) <| s_run rfl <| s_load (.int .i64 x229) (fun _ q => f258.load1 hx229 rfl q) <| s_run rfl <| s_load (.int .i64 x237) (fun _ q => f258.load1 hx237 rfl q) <| s_run rfl <| s_pq (.bool (decide (x229 ≥ x237))) ?_
    refine s_pq (.bool (decide (x229 ≥ x237))) <| s_pq (.bool (decide (x229 ≥ x237))) ?_
    refine s_splitT rfl (fun c260 => ?_) (fun c260 => ?_)
    ·
     refine s_pass rfl <| s_pass rfl <| s_pass rfl <| s_pass rfl <| s_pass rfl <| s_pq (.bool true) <| s_nil <| p_seqN <| v_condY rfl rfl <| v_seq <| v_ops <| s_pq (.bool false) <| s_nil <| p_seqN <| v_ret <| p_seqR <| p_blkR <| p_seqR <| p_lpR <| p_blkR <| p_seqR <| p_seqR <| p_ret [.bool false] (.bool false) (fun _ q => q) rfl ?_
     have ho : true = false := by first | rfl | (exfalso; first | omega | (have q_ := hw2 _ _ (by assumption) (by assumption); omega) | (have q_ := hwe (by omega); omega) | (simp_all; done))
     exact ⟨by first | (rw [ho]; done) | rfl, E243⟩
    refine s_run rfl <| s_pq x226.sv.v <| s_run rfl <| s_pure (.pointer (some ⟨sblk x226.sv.v, soff x226.sv.v + 1 * 1, none⟩)) (fun _ q => f258.idx (k := 1) rfl hk236 q) <| s_run rfl <| s_pq (.int .i64 g13) <| s_run rfl <| s_load (.int .i64 x237) (fun _ q => f258.load1 hx237 rfl q) <| s_run rfl <| s_pq (.bool (decide (x237 > g13))) <| s_pq (.bool (decide (x237 > g13))) <| s_nil <| p_seqN ?_
    refine v_cond rfl (fun c261 => ?_) (fun c261 => ?_)
    ·
     refine v_seq <| v_ops <| s_pq (.bool false) <| s_nil <| p_seqN <| v_ret <| p_seqR <| p_blkR <| p_seqR <| p_lpR <| p_blkR <| p_seqR <| p_seqR <| p_ret [.bool false] (.bool false) (fun _ q => q) rfl ?_
     have ho : true = false := by first | rfl | (exfalso; first | omega | (have q_ := hw2 _ _ (by assumption) (by assumption); omega) | (have q_ := hwe (by omega); omega) | (simp_all; done))
     exact ⟨by first | (rw [ho]; done) | rfl, E243⟩
    refine v_skip <| p_seqN ?_
    exact M247 _ _ ⟨rfl, rfl, rfl, rfl, rfl, rfl, rfl, rfl, rfl, rfl, rfl, rfl⟩ (Ext.refl _)
   refine v_exit <| p_seqX <| p_lpX <| p_blkX <| p_seqN <| v_seq <| v_ops <| s_pq (.int .i64 cl) <| s_pq (.int .i64 ((fsOut g6 g9 g11 g12 g13).1)) <| s_pure (.int .i64 (cl + (fsOut g6 g9 g11 g12 g13).1)) (fun _ q => ArithVC.mk (by omega) q) <| s_pq (.int .i64 g13) <| s_pq (.int .i64 g12) <| s_pure (.int .i64 (g13 - g12)) (fun _ q => ArithVC.mk (by omega) q) <| s_pq (.bool ((cl + (fsOut g6 g9 g11 g12 g13).1) != (g13 - g12))) <| s_nil <| p_seqN ?_
   refine v_cond rfl (fun c262 => ?_) (fun c262 => ?_)
   ·
    refine v_seq <| v_ops <| s_pq (.bool false) <| s_nil <| p_seqN <| v_ret <| p_seqR <| p_ret [.bool false] (.bool false) (fun _ q => q) rfl ?_
    have ho : true = false := by first | rfl | (exfalso; first | omega | (have q_ := hw2 _ _ (by assumption) (by assumption); omega) | (have q_ := hwe (by omega); omega) | (simp_all; done))
    exact ⟨by first | (rw [ho]; done) | rfl, Eh⟩
   have c262 := Classical.not_not.1 c262
   refine v_skip <| p_seqN ?_
   exact M59 _ _ rfl Em0
  refine v_skip <| p_seqN ?_
  exact M59 _ _ rfl (Ext.refl _)
 refine v_seq <| v_seq <| v_ops <| s_pq (.bool ((cwOut g6 g9 g11 g12 g13).2)) <| s_pq (.bool ((cwOut g6 g9 g11 g12 g13).2)) <| s_pq (.bool ((cwOut g6 g9 g11 g12 g13).2 != (cwOut g6 g9 g11 g12 g13).2)) <| s_pq (.bool ((cwOut g6 g9 g11 g12 g13).2 != (cwOut g6 g9 g11 g12 g13).2)) <| s_splitN rfl (by first | assumption | omega | (simp [fl46]; done) | (simp; done) | (simp; omega) | simp_all) <| s_run rfl <| s_pq r27 <| s_run rfl <| s_pq r35 <| s_run rfl ?_
 have f263 := (((s_r27.ext eh36).ext eh43).ext eh51)
 have f264 := ((s_r35.ext eh43).ext eh51)
 refine s_call [r27, r35] rfl (laws_sameLists_ok r27 qr27 ((cwOut g6 g9 g11 g12 g13).1) r35 qr35 ((cwOut g6 g9 g11 g12 g13).1) _ f263.row.toSl f263.insL dq_r27 f264.row.toSl f264.insL dq_r35) ?_
 rintro _ h265 ⟨rfl, eh265⟩
 have z267 := eh265.size
 refine s_run rfl <| s_pq (.bool (!(decide (((cwOut g6 g9 g11 g12 g13).1) = ((cwOut g6 g9 g11 g12 g13).1))))) <| s_pq (.bool (!(decide (((cwOut g6 g9 g11 g12 g13).1) = ((cwOut g6 g9 g11 g12 g13).1))))) <| s_pq (.bool (!(decide (((cwOut g6 g9 g11 g12 g13).1) = ((cwOut g6 g9 g11 g12 g13).1))))) <| s_splitN rfl (by first | assumption | omega | (simp [fl46]; done) | (simp; done) | (simp; omega) | simp_all) <| s_run rfl <| s_pq (.bool ((fsOut g6 g9 g11 g12 g13).2)) <| s_run rfl <| s_pq (.bool ((fsOut g6 g9 g11 g12 g13).2)) ?_
 refine s_run rfl <| s_pq (.bool ((fsOut g6 g9 g11 g12 g13).2 != (fsOut g6 g9 g11 g12 g13).2)) <| s_pq (.bool ((fsOut g6 g9 g11 g12 g13).2 != (fsOut g6 g9 g11 g12 g13).2)) <| s_pq (.bool ((fsOut g6 g9 g11 g12 g13).2 != (fsOut g6 g9 g11 g12 g13).2)) <| s_splitN rfl (by first | assumption | omega | (simp [fl46]; done) | (simp; done) | (simp; omega) | simp_all) <| s_run rfl <| s_pq (.int .i64 ((fsOut g6 g9 g11 g12 g13).1)) <| s_run rfl <| s_pq (.int .i64 ((fsOut g6 g9 g11 g12 g13).1)) <| s_run rfl ?_
 refine s_pq (.bool ((fsOut g6 g9 g11 g12 g13).1 != (fsOut g6 g9 g11 g12 g13).1)) <| s_pq (.bool ((fsOut g6 g9 g11 g12 g13).1 != (fsOut g6 g9 g11 g12 g13).1)) <| s_pq (.bool ((fsOut g6 g9 g11 g12 g13).1 != (fsOut g6 g9 g11 g12 g13).1)) <| s_splitN rfl (by first | assumption | omega | (simp [fl46]; done) | (simp; done) | (simp; omega) | simp_all) <| s_run rfl <| s_pq (.bool ((fsOut g6 g9 g11 g12 g13).2)) <| s_run rfl <| s_pq (.bool ((cwOut g6 g9 g11 g12 g13).2)) <| s_run rfl <| s_pq (.bool ((fsOut g6 g9 g11 g12 g13).2 != (cwOut g6 g9 g11 g12 g13).2)) ?_
 refine s_pq (.bool ((fsOut g6 g9 g11 g12 g13).2 != (cwOut g6 g9 g11 g12 g13).2)) <| s_nil <| p_seqN <| v_condN rfl (by first | assumption | omega | (simp [fl46]; done) | (simp; done) | (simp; omega) | simp_all) <| v_skip <| p_seqN ?_
 exact M54 _ _ ⟨rfl, rfl, rfl, rfl, rfl, rfl, rfl, rfl, rfl⟩ ((Ext.refl _).trans eh265)

theorem law_ok (h : Heap) (v0 : Value) (x0 : List By) (s0 : Sl h v0 x0) (w0 : ∀ y ∈ x0, (0 ≤ y.n ∧ y.n ≤ 255)) (v1 : Value) (x1 : List By) (s1 : Sl h v1 x1) (w1 : ∀ y ∈ x1, (0 ≤ y.n ∧ y.n ≤ 255)) : Cn f_laws_FnFogs [v0, v1] h fun v h' => v = .bool true ∧ Ext h h' := laws_FnFogs_ok v0 x0 v1 x1 h s0 s1 w0 w1
end Go.Proofs.Ytloicopmcagikaa.finFnFogs

