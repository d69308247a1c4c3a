/- LawFnClearTimes. Condition: none. -/
import Derived.Test.YtloicopmcagikaaMgI
/- The law FnClearTimes: its text returns true. Condition: none. Printed by a program. -/
namespace Go.Proofs.Ytloicopmcagikaa.finFnClearTimes
open Go.Vc
set_option linter.all false
set_option maxRecDepth 100000
set_option maxHeartbeats 4000000
set_option maxRecDepth 10000 in
set_option maxHeartbeats 4000000 in
theorem laws_FnClearTimes_ok (v_code : Value) (code : List By) (v_more : Value) (more : List By) (h : Heap) (s_code : Sl h v_code code) (s_more : Sl h v_more more) (hb0 : ∀ y ∈ code, 0 ≤ y.n ∧ y.n ≤ 255) (hb1 : ∀ y ∈ more, 0 ≤ y.n ∧ y.n ≤ 255) : Cn f_laws_FnClearTimes [v_code, v_more] h fun v h' => v = .bool true ∧ Ext h h' := by
 have l63_code := s_code.len63
 have lt_more := s_more.lt
 have l63_more := s_more.len63
 refine calls_of r_laws_FnClearTimes ?_
 refine v_seq <| v_ops <| s_pq (.bool false) <| s_nil <| p_seqN <| v_seq <| v_seq <| v_ops <| s_pq v_code <| s_pq v_more <| s_call [v_code, v_more] rfl (laws_big_ok v_code code v_more more _ s_code s_more) ?_
 rintro _ h1 ⟨rfl, eh1⟩
 have E2 := (Ext.refl h).trans eh1
 have z3 := eh1.size
 refine s_nil <| p_seqN ?_
 refine v_cond rfl (fun c4 => ?_) (fun c4 => ?_)
 ·
  refine v_seq <| v_ops <| s_pq (.bool true) <| s_nil <| p_seqN <| v_ret <| p_seqR <| p_ret [.bool true] (.bool true) (fun _ q => q) rfl ?_
  have ho : true = true := by first | rfl | (simp; done) | (exfalso; first | omega | (simp_all; done))
  exact ⟨by first | (rw [ho]; done) | rfl, E2⟩
 have hbig : code.length ≤ 1048576 ∧ more.length ≤ 1048576 := by omega
 refine v_skip <| p_seqN <| v_seq <| v_ops <| s_pq v_code ?_
 have f5 := (s_code.ext eh1)
 refine s_call [v_code] rfl (spec_DrawEarliestStart_ok v_code code _ f5 (by first | omega | assumption | (simp; done) | (simp; omega)) (by first | omega | assumption | (simp; done) | (simp; omega))) ?_
 rintro _ h14 ⟨g6, g9, g11, g12, g13, r7, r8, r10, rfl, s_r7, fr_r7, s_r8, fr_r8, s_r10, fr_r10, ap_r7_r8, ap_r7_r10, ap_r8_r10, qh14, eh14⟩
 have E15 := E2.trans eh14
 have z16 := eh14.size
 have lt_r7 := s_r7.lt
 have lt_r8 := s_r8.lt
 have lt_r10 := s_r10.lt
 refine s_pq (.tuple #[.agg #[r7, r8], r10, .int .i64 g11, .int .i64 g12, .int .i64 g13]) <| s_pq (.agg #[r7, r8]) <| s_pq r10 <| s_pq (.int .i64 g11) <| s_pq (.int .i64 g12) <| s_pq (.int .i64 g13) ?_
 refine s_new (fun h18 b17 hbb17 hzb17 eh18 bxb17 => ?_)
 have E19 := E15.trans eh18
 have z20 := eh18.size
 have lbb17 := bxb17.lt
 refine s_stBx (.agg #[r7, r8]) [r7, r8] [r7, r8] bxb17 rfl rfl rfl rfl (by simp) (all_cons s_r7.one1 (all_cons s_r8.one1 all_nil)) rfl (fun h21 mh21 sh21 bxx22 => ?_)
 have E23 := E19.mod mh21 (fun b hb => by simp at hb; omega)
 refine s_pq r10 <| s_pq (.int .i64 g11) <| s_pq (.int .i64 g12) <| s_pq (.int .i64 g13) <| s_nil <| p_seqN <| v_seq <| v_ops <| s_load (.agg #[r7, r8]) (fun _ q => bxx22.loadA rfl q) <| s_pq r10 <| s_pq (.int .i64 g11) <| s_pq (.int .i64 g12) <| s_pq (.int .i64 g13) ?_
 have f24 := ((s_r7.ext eh18).mod mh21 (fun b hb hc => by simp at hc; have := lt_r7 b hb; omega))
 have f25 := ((s_r8.ext eh18).mod mh21 (fun b hb hc => by simp at hc; have := lt_r8 b hb; omega))
 have f26 := ((s_r10.ext eh18).mod mh21 (fun b hb hc => by simp at hc; have := lt_r10 b hb; omega))
 refine s_call [.agg #[r7, r8], r10, .int .i64 g11, .int .i64 g12, .int .i64 g13] rfl (impl_EarliestStart_ok g6 r7 r8 r10 g9 g11 g12 g13 _ f24.toSl f25.toSl f26.toSl) ?_
 rintro _ h27 ⟨rfl, eh27⟩
 have E28 := E23.trans eh27
 have z29 := eh27.size
 refine s_pq (.tuple #[.int .i64 ((esOut g6 g9 g11 g12 g13).1), .bool ((esOut g6 g9 g11 g12 g13).2)]) <| s_pq (.int .i64 ((esOut g6 g9 g11 g12 g13).1)) <| s_pq (.bool ((esOut g6 g9 g11 g12 g13).2)) <| s_pq (.int .i64 ((esOut g6 g9 g11 g12 g13).1)) <| s_pq (.bool ((esOut g6 g9 g11 g12 g13).2)) <| s_nil <| p_seqN <| v_seq <| v_ops ?_
 have f30 := (bxx22.ext eh27)
 refine s_load (.agg #[r7, r8]) (fun _ q => f30.loadA rfl q) <| s_pq r10 <| s_pq (.int .i64 g11) <| s_pq (.int .i64 g12) <| s_pq (.int .i64 g13) ?_
 have f31 := (f24.ext eh27)
 have f32 := (f25.ext eh27)
 have f33 := (f26.ext eh27)
 refine s_call [.agg #[r7, r8], r10, .int .i64 g11, .int .i64 g12, .int .i64 g13] rfl (spec_EarliestStart_ok g6 r7 r8 r10 g9 g11 g12 g13 _ f31.toSl f32.toSl f33.toSl) ?_
 rintro _ h34 ⟨rfl, eh34⟩
 have E35 := E28.trans eh34
 have z36 := eh34.size
 refine s_pq (.tuple #[.int .i64 ((esOut g6 g9 g11 g12 g13).1), .bool ((esOut g6 g9 g11 g12 g13).2)]) <| s_pq (.int .i64 ((esOut g6 g9 g11 g12 g13).1)) <| s_pq (.bool ((esOut g6 g9 g11 g12 g13).2)) <| s_pq (.int .i64 ((esOut g6 g9 g11 g12 g13).1)) <| s_pq (.bool ((esOut g6 g9 g11 g12 g13).2)) <| s_nil <| p_seqN ?_
 refine v_seqM1 [(1, v_more), (5, .pointer (some ⟨b17, 0, none⟩)), (6, r10), (7, .int .i64 g11), (8, .int .i64 g12), (9, .int .i64 g13), (11, .bool ((esOut g6 g9 g11 g12 g13).2)), (12, .int .i64 ((esOut g6 g9 g11 g12 g13).1))] (fun R38 h39 eh39 => ?_) (fun M37 => ?_)
 ·
  have E40 := E35.trans eh39
  have z41 := eh39.size
  refine v_seqM1 [(1, v_more)] (fun R43 h44 eh44 => ?_) (fun M42 => ?_)
  ·
   have E45 := E40.trans eh44
   have z46 := eh44.size
   refine v_seq <| v_ops <| s_pq v_more ?_
   have f47 := ((((((((s_more.ext eh1).ext eh14).ext eh18).mod mh21 (fun b hb hc => by simp at hc; have := lt_more b hb; omega)).ext eh27).ext eh34).ext eh39).ext eh44)
   refine s_call [v_more] rfl (spec_DrawFoggyLinks_ok v_more more _ f47 (by first | omega | assumption | (simp; done) | (simp; omega)) (by first | omega | assumption | (simp; done) | (simp; omega))) ?_
   rintro _ h54 ⟨g48, g51, g53, r49, r50, r52, rfl, s_r49, fr_r49, s_r50, fr_r50, s_r52, fr_r52, ap_r49_r50, ap_r49_r52, ap_r50_r52, qh54, eh54⟩
   have E55 := E45.trans eh54
   have z56 := eh54.size
   have lt_r49 := s_r49.lt
   have lt_r50 := s_r50.lt
   have lt_r52 := s_r52.lt
   refine s_pq (.tuple #[.agg #[r49, r50], r52, .int .i64 g53]) <| s_pq (.agg #[r49, r50]) <| s_pq r52 <| s_pq (.int .i64 g53) ?_
   refine s_new (fun h58 b57 hbb57 hzb57 eh58 bxb57 => ?_)
   have E59 := E55.trans eh58
   have z60 := eh58.size
   have lbb57 := bxb57.lt
   refine s_stBx (.agg #[r49, r50]) [r49, r50] [r49, r50] bxb57 rfl rfl rfl rfl (by simp) (all_cons s_r49.one1 (all_cons s_r50.one1 all_nil)) rfl (fun h61 mh61 sh61 bxx62 => ?_)
   have E63 := E59.mod mh61 (fun b hb => by simp at hb; omega)
   refine s_pq r52 <| s_pq (.int .i64 g53) <| s_nil <| p_seqN <| v_seq <| v_ops <| s_load (.agg #[r49, r50]) (fun _ q => bxx62.loadA rfl q) <| s_pq r52 <| s_pq (.int .i64 g53) ?_
   have f64 := ((s_r49.ext eh58).mod mh61 (fun b hb hc => by simp at hc; have := lt_r49 b hb; omega))
   have f65 := ((s_r50.ext eh58).mod mh61 (fun b hb hc => by simp at hc; have := lt_r50 b hb; omega))
   have f66 := ((s_r52.ext eh58).mod mh61 (fun b hb hc => by simp at hc; have := lt_r52 b hb; omega))
   refine s_call [.agg #[r49, r50], r52, .int .i64 g53] rfl (impl_FoggyLinks_ok g48 r49 r50 r52 g51 g53 _ f64.toSl f65.toSl f66.toSl) ?_
   rintro _ h68 ⟨r67, rfl, s_r67, fr_r67, eh68⟩
   have E69 := E63.trans eh68
   have z70 := eh68.size
   refine s_pq (.tuple #[r67, .bool ((flOut g48 g51 g53).2)]) <| s_pq r67 <| s_pq (.bool ((flOut g48 g51 g53).2)) <| s_pq r67 <| s_pq (.bool ((flOut g48 g51 g53).2)) <| s_nil <| p_seqN <| v_seq <| v_ops ?_
   have f71 := (bxx62.ext eh68)
   refine s_load (.agg #[r49, r50]) (fun _ q => f71.loadA rfl q) <| s_pq r52 <| s_pq (.int .i64 g53) ?_
   have f72 := (f64.ext eh68)
   have f73 := (f65.ext eh68)
   have f74 := (f66.ext eh68)
   refine s_call [.agg #[r49, r50], r52, .int .i64 g53] rfl (spec_FoggyLinks_ok g48 r49 r50 r52 g51 g53 _ f72.toSl f73.toSl f74.toSl) ?_
   rintro _ h76 ⟨r75, rfl, s_r75, fr_r75, eh76⟩
   have E77 := E69.trans eh76
   have z78 := eh76.size
   refine s_pq (.tuple #[r75, .bool ((flOut g48 g51 g53).2)]) <| s_pq r75 <| s_pq (.bool ((flOut g48 g51 g53).2)) <| s_pq r75 <| s_pq (.bool ((flOut g48 g51 g53).2)) <| s_nil <| p_seqN <| v_seq <| v_ops ?_
   have f79 := (f71.ext eh76)
   refine s_load (.agg #[r49, r50]) (fun _ q => f79.loadA rfl q) <| s_pq r52 <| s_pq (.int .i64 g53) ?_
   have f80 := (f72.ext eh76)
   have f81 := (f73.ext eh76)
   have f82 := (f74.ext eh76)
   refine s_call [.agg #[r49, r50], r52, .int .i64 g53] rfl (impl_JoinedAt_ok g48 r49 r50 r52 g51 g53 _ f80.toSl f81.toSl f82.toSl) ?_
   rintro _ h83 ⟨rfl, eh83⟩
   have E84 := E77.trans eh83
   have z85 := eh83.size
   refine s_pq (.tuple #[.bool ((jnOut g48 g51 g53).1), .bool ((jnOut g48 g51 g53).2)]) <| s_pq (.bool ((jnOut g48 g51 g53).1)) <| s_pq (.bool ((jnOut g48 g51 g53).2)) <| s_pq (.bool ((jnOut g48 g51 g53).1)) <| s_pq (.bool ((jnOut g48 g51 g53).2)) <| s_nil <| p_seqN <| v_seq <| v_ops ?_
   have f86 := (f79.ext eh83)
   refine s_load (.agg #[r49, r50]) (fun _ q => f86.loadA rfl q) <| s_pq r52 <| s_pq (.int .i64 g53) ?_
   have f87 := (f80.ext eh83)
   have f88 := (f81.ext eh83)
   have f89 := (f82.ext eh83)
   refine s_call [.agg #[r49, r50], r52, .int .i64 g53] rfl (spec_JoinedAt_ok g48 r49 r50 r52 g51 g53 _ f87.toSl f88.toSl f89.toSl) ?_
   rintro _ h90 ⟨rfl, eh90⟩
   have E91 := E84.trans eh90
   have z92 := eh90.size
   have fl93 := jn_flag g48 g51 g53
   refine s_pq (.tuple #[.bool ((jnOut g48 g51 g53).1), .bool ((jnOut g48 g51 g53).2)]) <| s_pq (.bool ((jnOut g48 g51 g53).1)) <| s_pq (.bool ((jnOut g48 g51 g53).2)) <| s_pq (.bool ((jnOut g48 g51 g53).1)) <| s_pq (.bool ((jnOut g48 g51 g53).2)) <| s_nil <| p_seqN ?_
   refine v_seqM1 [(1, v_more), (18, .pointer (some ⟨b57, 0, none⟩)), (19, r52), (20, .int .i64 g53), (22, .bool ((flOut g48 g51 g53).2)), (23, r75), (27, .bool ((jnOut g48 g51 g53).1))] (fun R95 h96 eh96 => ?_) (fun M94 => ?_)
   ·
    have E97 := E91.trans eh96
    have z98 := eh96.size
    refine v_seqM1 [(1, v_more)] (fun R100 h101 eh101 => ?_) (fun M99 => ?_)
    ·
     have E102 := E97.trans eh101
     have z103 := eh101.size
     refine v_seq <| v_ops <| s_pq v_more ?_
     have f104 := (((((((((f47.ext eh54).ext eh58).mod mh61 (fun b hb hc => by simp at hc; have := lt_more b hb; omega)).ext eh68).ext eh76).ext eh83).ext eh90).ext eh96).ext eh101)
     refine s_call [v_more] rfl (spec_DrawFoggiestLink_ok v_more more _ f104 (by first | omega | assumption | (simp; done) | (simp; omega)) (by first | omega | assumption | (simp; done) | (simp; omega))) ?_
     rintro _ h110 ⟨g105, g108, r106, r107, r109, rfl, s_r106, fr_r106, s_r107, fr_r107, s_r109, fr_r109, ap_r106_r107, ap_r106_r109, ap_r107_r109, qh110, eh110⟩
     have E111 := E102.trans eh110
     have z112 := eh110.size
     have lt_r106 := s_r106.lt
     have lt_r107 := s_r107.lt
     have lt_r109 := s_r109.lt
     refine s_pq (.tuple #[.agg #[r106, r107], r109]) <| s_pq (.agg #[r106, r107]) <| s_pq r109 ?_
     refine s_new (fun h114 b113 hbb113 hzb113 eh114 bxb113 => ?_)
     have E115 := E111.trans eh114
     have z116 := eh114.size
     have lbb113 := bxb113.lt
     refine s_stBx (.agg #[r106, r107]) [r106, r107] [r106, r107] bxb113 rfl rfl rfl rfl (by simp) (all_cons s_r106.one1 (all_cons s_r107.one1 all_nil)) rfl (fun h117 mh117 sh117 bxx118 => ?_)
     have E119 := E115.mod mh117 (fun b hb => by simp at hb; omega)
     refine s_pq r109 <| s_nil <| p_seqN <| v_seq <| v_ops <| s_load (.agg #[r106, r107]) (fun _ q => bxx118.loadA rfl q) <| s_pq r109 ?_
     have f120 := ((s_r106.ext eh114).mod mh117 (fun b hb hc => by simp at hc; have := lt_r106 b hb; omega))
     have f121 := ((s_r107.ext eh114).mod mh117 (fun b hb hc => by simp at hc; have := lt_r107 b hb; omega))
     have f122 := ((s_r109.ext eh114).mod mh117 (fun b hb hc => by simp at hc; have := lt_r109 b hb; omega))
     refine s_call [.agg #[r106, r107], r109] rfl (impl_FoggiestLink_ok g105 r106 r107 r109 g108 _ f120.toSl f121.toSl f122.toSl) ?_
     rintro _ h123 ⟨rfl, eh123⟩
     have E124 := E119.trans eh123
     have z125 := eh123.size
     refine s_pq (.tuple #[.int .i64 ((fgtOut g105 g108).1), .int .i64 ((fgtOut g105 g108).2.1), .bool ((fgtOut g105 g108).2.2)]) <| s_pq (.int .i64 ((fgtOut g105 g108).1)) <| s_pq (.int .i64 ((fgtOut g105 g108).2.1)) <| s_pq (.bool ((fgtOut g105 g108).2.2)) <| s_pq (.int .i64 ((fgtOut g105 g108).1)) <| s_pq (.int .i64 ((fgtOut g105 g108).2.1)) <| s_pq (.bool ((fgtOut g105 g108).2.2)) <| s_nil <| p_seqN <| v_seq <| v_ops ?_
     have f126 := (bxx118.ext eh123)
     refine s_load (.agg #[r106, r107]) (fun _ q => f126.loadA rfl q) <| s_pq r109 ?_
     have f127 := (f120.ext eh123)
     have f128 := (f121.ext eh123)
     have f129 := (f122.ext eh123)
     refine s_call [.agg #[r106, r107], r109] rfl (spec_FoggiestLink_ok g105 r106 r107 r109 g108 _ f127.toSl f128.toSl f129.toSl) ?_
     rintro _ h130 ⟨rfl, eh130⟩
     have E131 := E124.trans eh130
     have z132 := eh130.size
     refine s_pq (.tuple #[.int .i64 ((fgtOut g105 g108).1), .int .i64 ((fgtOut g105 g108).2.1), .bool ((fgtOut g105 g108).2.2)]) <| s_pq (.int .i64 ((fgtOut g105 g108).1)) <| s_pq (.int .i64 ((fgtOut g105 g108).2.1)) <| s_pq (.bool ((fgtOut g105 g108).2.2)) <| s_pq (.int .i64 ((fgtOut g105 g108).1)) <| s_pq (.int .i64 ((fgtOut g105 g108).2.1)) <| s_pq (.bool ((fgtOut g105 g108).2.2)) <| s_nil <| p_seqN ?_
     refine v_seqM1 [(1, v_more), (34, .pointer (some ⟨b113, 0, none⟩)), (35, r109), (38, .bool ((fgtOut g105 g108).2.2)), (39, .int .i64 ((fgtOut g105 g108).1)), (40, .int .i64 ((fgtOut g105 g108).2.1))] (fun R134 h135 eh135 => ?_) (fun M133 => ?_)
     ·
      have E136 := E131.trans eh135
      have z137 := eh135.size
      refine v_seqM1 [(1, v_more)] (fun R139 h140 eh140 => ?_) (fun M138 => ?_)
      ·
       have E141 := E136.trans eh140
       have z142 := eh140.size
       refine v_seq <| v_ops <| s_pq v_more ?_
       have f143 := (((((((f104.ext eh110).ext eh114).mod mh117 (fun b hb hc => by simp at hc; have := lt_more b hb; omega)).ext eh123).ext eh130).ext eh135).ext eh140)
       refine s_call [v_more] rfl (spec_DrawAreFogs_ok v_more more _ f143 (by first | omega | assumption | (simp; done) | (simp; omega)) (by first | omega | assumption | (simp; done) | (simp; omega))) ?_
       rintro _ h149 ⟨g144, g147, r145, r146, r148, rfl, s_r145, fr_r145, s_r146, fr_r146, s_r148, fr_r148, ap_r145_r146, ap_r145_r148, ap_r146_r148, qh149, eh149⟩
       have E150 := E141.trans eh149
       have z151 := eh149.size
       have lt_r145 := s_r145.lt
       have lt_r146 := s_r146.lt
       have lt_r148 := s_r148.lt
       refine s_pq (.tuple #[.agg #[r145, r146], r148]) <| s_pq (.agg #[r145, r146]) <| s_pq r148 ?_
       refine s_new (fun h153 b152 hbb152 hzb152 eh153 bxb152 => ?_)
       have E154 := E150.trans eh153
       have z155 := eh153.size
       have lbb152 := bxb152.lt
       refine s_stBx (.agg #[r145, r146]) [r145, r146] [r145, r146] bxb152 rfl rfl rfl rfl (by simp) (all_cons s_r145.one1 (all_cons s_r146.one1 all_nil)) rfl (fun h156 mh156 sh156 bxx157 => ?_)
       have E158 := E154.mod mh156 (fun b hb => by simp at hb; omega)
       refine s_pq r148 <| s_nil <| p_seqN <| v_seq <| v_ops <| s_load (.agg #[r145, r146]) (fun _ q => bxx157.loadA rfl q) <| s_pq r148 ?_
       have f159 := ((s_r145.ext eh153).mod mh156 (fun b hb hc => by simp at hc; have := lt_r145 b hb; omega))
       have f160 := ((s_r146.ext eh153).mod mh156 (fun b hb hc => by simp at hc; have := lt_r146 b hb; omega))
       have f161 := ((s_r148.ext eh153).mod mh156 (fun b hb hc => by simp at hc; have := lt_r148 b hb; omega))
       refine s_call [.agg #[r145, r146], r148] rfl (impl_AreFogs_ok g144 r145 r146 r148 g147 _ f159.toSl f160.toSl f161.toSl) ?_
       rintro _ h162 ⟨rfl, eh162⟩
       have E163 := E158.trans eh162
       have z164 := eh162.size
       refine s_pq (.tuple #[.bool ((afOut g144 g147).1), .bool ((afOut g144 g147).2)]) <| s_pq (.bool ((afOut g144 g147).1)) <| s_pq (.bool ((afOut g144 g147).2)) <| s_pq (.bool ((afOut g144 g147).1)) <| s_pq (.bool ((afOut g144 g147).2)) <| s_nil <| p_seqN <| v_seq <| v_ops ?_
       have f165 := (bxx157.ext eh162)
       refine s_load (.agg #[r145, r146]) (fun _ q => f165.loadA rfl q) <| s_pq r148 ?_
       have f166 := (f159.ext eh162)
       have f167 := (f160.ext eh162)
       have f168 := (f161.ext eh162)
       refine s_call [.agg #[r145, r146], r148] rfl (spec_AreFogs_ok g144 r145 r146 r148 g147 _ f166.toSl f167.toSl f168.toSl) ?_
       rintro _ h169 ⟨rfl, eh169⟩
       have E170 := E163.trans eh169
       have z171 := eh169.size
       refine s_pq (.tuple #[.bool ((afOut g144 g147).1), .bool ((afOut g144 g147).2)]) <| s_pq (.bool ((afOut g144 g147).1)) <| s_pq (.bool ((afOut g144 g147).2)) <| s_pq (.bool ((afOut g144 g147).1)) <| s_pq (.bool ((afOut g144 g147).2)) <| s_nil <| p_seqN <| v_seq <| v_ops <| s_pq (.bool ((afOut g144 g147).2)) <| s_pq (.bool ((afOut g144 g147).2)) <| s_pq (.bool ((afOut g144 g147).2 == (afOut g144 g147).2)) <| s_pq (.bool ((afOut g144 g147).2 == (afOut g144 g147).2)) <| s_splitY rfl (by first | assumption | omega | (simp [fl93]; done) | (simp; done) | (simp; omega) | simp_all) ?_
       refine s_run rfl <| s_pq (.bool ((afOut g144 g147).1)) <| s_run rfl <| s_pq (.bool ((afOut g144 g147).1)) <| s_run rfl <| s_pq (.bool ((afOut g144 g147).1 == (afOut g144 g147).1)) <| s_pq (.bool ((afOut g144 g147).1 == (afOut g144 g147).1)) <| s_pq (.bool ((afOut g144 g147).1 == (afOut g144 g147).1)) <| s_nil <| p_seqN <| v_ret <| p_ret [.bool ((afOut g144 g147).1 == (afOut g144 g147).1)] (.bool ((afOut g144 g147).1 == (afOut g144 g147).1)) (fun _ q => q) rfl ?_
       have ho : true = ((afOut g144 g147).1 == (afOut g144 g147).1) := by first | rfl | (simp; done) | (exfalso; first | omega | (simp_all; done))
       exact ⟨by first | (rw [ho]; done) | rfl, E170⟩
      refine v_seq <| v_seq <| v_ops <| s_pq (.bool ((fgtOut g105 g108).2.2)) <| s_nil <| p_seqN ?_
      refine v_cond rfl (fun c172 => ?_) (fun c172 => ?_)
      ·
       have hfg := fgt_facts c172
       refine v_seq <| v_ops <| s_pq (.pointer (some ⟨b113, 1, none⟩)) ?_
       have f173 := ((f126.ext eh130).ext eh135)
       refine s_load r107 (fun _ q => f173.load rfl q) <| s_pure (.int .i64 (g105.links.length : Int)) (fun _ q => f128.lenVC q) <| s_pq (.int .i64 0) <| s_nil <| p_seqN <| v_block ?_
       have nk175 : b113 ∉ blks r106 := (fun hc => by have := lt_r106 _ hc; omega)
       have nk176 : b113 ∉ blks r107 := (fun hc => by have := lt_r107 _ hc; omega)
       have nk177 : b113 ∉ blks r109 := (fun hc => by have := lt_r109 _ hc; omega)
       have f178 := ((f127.ext eh130).ext eh135)
       have f179 := ((f128.ext eh130).ext eh135)
       have f180 := ((f129.ext eh130).ext eh135)
       refine v_loop1 (α := Nat) (fun k => [(1, v_more), (34, .pointer (some ⟨b113, 0, none⟩)), (35, r109), (39, .int .i64 ((fgtOut g105 g108).1)), (40, .int .i64 ((fgtOut g105 g108).2.1)), (284, .int .i64 (g105.links.length : Int)), (285, .int .i64 (k : Int))]) (fun k hh => Ext h hh ∧ Ext h135 hh ∧ Bx hh b113 [r106, r107] 27 ∧ SlO hh r106 g105.towers ∧ SlO hh r107 g105.links ∧ SlO hh r109 g108 ∧ k ≤ g105.links.length) (fun k => g105.links.length - k) 0 ⟨rfl, rfl, rfl, rfl, rfl, rfl, rfl⟩ ⟨E136, (Ext.refl _), f173, f178, f179, f180, (by exact Nat.zero_le _)⟩ ?_
       rintro k R181 h174 ⟨Eh, Em0, bxb113, s_r106, s_r107, s_r109, hk⟩
       have zEh := Eh.size
       have ltk_r106 := s_r106.lt
       have ltk_r107 := s_r107.lt
       have ltk_r109 := s_r109.lt
       have lbb113 := bxb113.lt
       refine v_seq <| v_ops <| s_pq (.bool (decide ((k : Int) < (g105.links.length : Int)))) <| s_nil <| p_seqN <| v_seq ?_
       refine v_cond rfl (fun c185 => ?_) (fun c185 => ?_)
       ·
        refine v_skip <| p_seqN <| v_seq <| v_block <| v_seq <| v_ops <| s_pq (.int .i64 (k : Int)) <| s_pq (.int .i64 (k : Int)) <| s_nil <| p_seqN <| v_seq <| v_ops <| s_load (.agg #[r106, r107]) (fun _ q => bxb113.loadA rfl q) <| s_pq r109 <| s_pq (.int .i64 (k : Int)) <| s_call [.agg #[r106, r107], r109, .int .i64 (k : Int), .int .i64 0, .int .i64 10000] rfl (impl_FogSeconds_ok g105 r106 r107 r109 g108 (k : Int) 0 10000 _ s_r106.toSl s_r107.toSl s_r109.toSl) ?_
        rintro _ h186 ⟨rfl, eh186⟩
        have E187 := Eh.trans eh186
        have z188 := eh186.size
        obtain ⟨fs189a, fs189b, fs189c⟩ := hfg k (by omega)
        refine s_pq (.tuple #[.int .i64 ((fsOut g105 g108 (k : Int) 0 10000).1), .bool ((fsOut g105 g108 (k : Int) 0 10000).2)]) <| s_pq (.int .i64 ((fsOut g105 g108 (k : Int) 0 10000).1)) <| s_pq (.bool ((fsOut g105 g108 (k : Int) 0 10000).2)) <| s_pq (.int .i64 ((fsOut g105 g108 (k : Int) 0 10000).1)) <| s_pq (.bool ((fsOut g105 g108 (k : Int) 0 10000).2)) <| s_nil <| p_seqN <| v_seq <| v_ops <| s_pq (.bool ((fsOut g105 g108 (k : Int) 0 10000).2)) <| s_pq (.bool (!(fsOut g105 g108 (k : Int) 0 10000).2)) ?_
        refine s_pq (.bool (!(fsOut g105 g108 (k : Int) 0 10000).2)) <| s_splitN rfl (by first | assumption | omega | (simp [fl93]; done) | (simp [fs189a]; done) | (simp; done) | (simp; omega) | simp_all) <| s_run rfl <| s_pq (.int .i64 ((fsOut g105 g108 (k : Int) 0 10000).1)) <| s_run rfl <| s_pq (.int .i64 ((fgtOut g105 g108).2.1)) <| s_run rfl <| s_pq (.bool (decide ((fsOut g105 g108 (k : Int) 0 10000).1 > (fgtOut g105 g108).2.1))) <| s_pq (.bool (decide ((fsOut g105 g108 (k : Int) 0 10000).1 > (fgtOut g105 g108).2.1))) ?_
        refine s_pq (.bool (decide ((fsOut g105 g108 (k : Int) 0 10000).1 > (fgtOut g105 g108).2.1))) <| s_splitN rfl (by first | assumption | omega | (simp [fl93]; done) | (simp [fs189a]; done) | (simp; done) | (simp; omega) | simp_all) <| s_run rfl <| s_pq (.int .i64 ((fsOut g105 g108 (k : Int) 0 10000).1)) <| s_run rfl <| s_pq (.int .i64 ((fgtOut g105 g108).2.1)) <| s_run rfl <| s_pq (.bool ((fsOut g105 g108 (k : Int) 0 10000).1 == (fgtOut g105 g108).2.1)) <| s_run rfl <| s_pq (.bool ((fsOut g105 g108 (k : Int) 0 10000).1 == (fgtOut g105 g108).2.1)) ?_
        refine s_splitT rfl (fun c190 => ?_) (fun c190 => ?_)
        ·
         have fg191 := fs189c c190
         refine s_run rfl <| s_pq (.int .i64 (k : Int)) <| s_run rfl <| s_pq (.int .i64 ((fgtOut g105 g108).1)) <| s_run rfl <| s_pq (.bool (decide ((k : Int) < (fgtOut g105 g108).1))) <| s_run rfl <| s_pq (.bool (decide ((k : Int) < (fgtOut g105 g108).1))) <| s_pq (.bool (decide ((k : Int) < (fgtOut g105 g108).1))) <| s_nil <| p_seqN <| v_condN rfl (by first | assumption | omega | (simp [fl93]; done) | (simp [fs189a]; done) | (simp; done) | (simp; omega) | simp_all) <| v_skip <| p_blkN <| p_seqN <| v_ops ?_
         refine s_pure (.int .i64 ((k : Int) + 1)) (fun _ q => ArithVC.mk (by omega) q) <| s_pq (.int .i64 ((k : Int) + 1)) <| s_nil ?_
         have f192 := (bxb113.ext eh186)
         have f193 := (s_r106.ext eh186)
         have f194 := (s_r107.ext eh186)
         have f195 := (s_r109.ext eh186)
         exact p_lpN ⟨k + 1, ⟨rfl, rfl, rfl, rfl, rfl, rfl, rfl⟩, ⟨E187, (Em0.trans eh186), f192, f193, f194, f195, (by omega)⟩, by omega⟩
        refine s_pass rfl <| s_pass rfl <| s_pass rfl <| s_run rfl <| s_pq (.bool false) <| s_pq (.bool false) <| s_nil <| p_seqN <| v_condN rfl (by simp) <| v_skip <| p_blkN <| p_seqN <| v_ops <| s_pure (.int .i64 ((k : Int) + 1)) (fun _ q => ArithVC.mk (by omega) q) <| s_pq (.int .i64 ((k : Int) + 1)) <| s_nil ?_
        have f196 := (bxb113.ext eh186)
        have f197 := (s_r106.ext eh186)
        have f198 := (s_r107.ext eh186)
        have f199 := (s_r109.ext eh186)
        exact p_lpN ⟨k + 1, ⟨rfl, rfl, rfl, rfl, rfl, rfl, rfl⟩, ⟨E187, (Em0.trans eh186), f196, f197, f198, f199, (by omega)⟩, by omega⟩
       refine v_exit <| p_seqX <| p_lpX <| p_blkX <| p_seqN ?_
       exact M138 _ _ rfl Em0
      refine v_skip <| p_seqN ?_
      exact M138 _ _ rfl (Ext.refl _)
     refine v_seq <| v_seq <| v_ops <| s_pq (.bool ((fgtOut g105 g108).2.2)) <| s_pq (.bool ((fgtOut g105 g108).2.2)) <| s_pq (.bool ((fgtOut g105 g108).2.2 != (fgtOut g105 g108).2.2)) <| s_pq (.bool ((fgtOut g105 g108).2.2 != (fgtOut g105 g108).2.2)) <| s_splitN rfl (by first | assumption | omega | (simp [fl93]; done) | (simp; done) | (simp; omega) | simp_all) <| s_run rfl <| s_pq (.int .i64 ((fgtOut g105 g108).1)) <| s_run rfl <| s_pq (.int .i64 ((fgtOut g105 g108).1)) <| s_run rfl <| s_pq (.bool ((fgtOut g105 g108).1 != (fgtOut g105 g108).1)) ?_
     refine s_pq (.bool ((fgtOut g105 g108).1 != (fgtOut g105 g108).1)) <| s_pq (.bool ((fgtOut g105 g108).1 != (fgtOut g105 g108).1)) <| s_splitN rfl (by first | assumption | omega | (simp [fl93]; done) | (simp; done) | (simp; omega) | simp_all) <| s_run rfl <| s_pq (.int .i64 ((fgtOut g105 g108).2.1)) <| s_run rfl <| s_pq (.int .i64 ((fgtOut g105 g108).2.1)) <| s_run rfl <| s_pq (.bool ((fgtOut g105 g108).2.1 != (fgtOut g105 g108).2.1)) <| s_pq (.bool ((fgtOut g105 g108).2.1 != (fgtOut g105 g108).2.1)) ?_
     refine s_nil <| p_seqN <| v_condN rfl (by first | assumption | omega | (simp [fl93]; done) | (simp; done) | (simp; omega) | simp_all) <| v_skip <| p_seqN ?_
     exact M133 _ _ ⟨rfl, rfl, rfl, rfl, rfl, rfl⟩ (Ext.refl _)
    refine v_seq <| v_seq <| v_ops <| s_pq (.bool ((flOut g48 g51 g53).2)) <| s_nil <| p_seqN ?_
    refine v_cond rfl (fun c200 => ?_) (fun c200 => ?_)
    ·
     obtain ⟨hfl1, hfl2, hfl3, hfl4⟩ := fl_facts c200
     refine v_seq <| v_ops ?_
     have f201 := ((f86.ext eh90).ext eh96)
     refine s_load (.agg #[r49, r50]) (fun _ q => f201.loadA rfl q) ?_
     have f202 := ((f87.ext eh90).ext eh96)
     have f203 := ((f88.ext eh90).ext eh96)
     refine s_call [.agg #[r49, r50]] rfl (impl_IsJoined_ok g48 r49 r50 _ f202.toSl f203.toSl) ?_
     rintro _ h204 ⟨rfl, eh204⟩
     have E205 := E97.trans eh204
     have z206 := eh204.size
     refine s_pq (.tuple #[.bool ((ijOut g48).1), .bool ((ijOut g48).2)]) <| s_pq (.bool ((ijOut g48).1)) <| s_pq (.bool ((ijOut g48).2)) <| s_pq (.bool ((ijOut g48).1)) <| s_pq (.bool ((ijOut g48).2)) <| s_nil <| p_seqN ?_
     refine v_seqM1 [(1, v_more), (18, .pointer (some ⟨b57, 0, none⟩)), (19, r52), (20, .int .i64 g53), (23, r75)] (fun R208 h209 eh209 => ?_) (fun M207 => ?_)
     ·
      have E210 := E205.trans eh209
      have z211 := eh209.size
      refine v_seq <| v_ops <| s_pq (.pointer (some ⟨b57, 1, none⟩)) ?_
      have f212 := ((f201.ext eh204).ext eh209)
      refine s_load r50 (fun _ q => f212.load rfl q) <| s_pure (.int .i64 (g48.links.length : Int)) (fun _ q => f203.lenVC q) <| s_pq (.int .i64 0) <| s_nil <| p_seqN <| v_block ?_
      have nk214 : b57 ∉ blks r49 := (fun hc => by have := lt_r49 _ hc; omega)
      have nk215 : b57 ∉ blks r50 := (fun hc => by have := lt_r50 _ hc; omega)
      have nk216 : b57 ∉ blks r52 := (fun hc => by have := lt_r52 _ hc; omega)
      have nk217 : b57 ∉ blks r75 := (fun hc => by have := fr_r75 _ hc; omega)
      have f218 := ((f202.ext eh204).ext eh209)
      have f219 := ((f203.ext eh204).ext eh209)
      have f220 := ((((f89.ext eh90).ext eh96).ext eh204).ext eh209)
      have f221 := (((((s_r75.ext eh83).ext eh90).ext eh96).ext eh204).ext eh209)
      refine v_loop1 (α := Nat) (fun k => [(1, v_more), (18, .pointer (some ⟨b57, 0, none⟩)), (19, r52), (20, .int .i64 g53), (23, r75), (227, .int .i64 (g48.links.length : Int)), (228, .int .i64 (k : Int))]) (fun k hh => Ext h hh ∧ Ext h96 hh ∧ Bx hh b57 [r49, r50] 27 ∧ SlO hh r49 g48.towers ∧ SlO hh r50 g48.links ∧ SlO hh r52 g51 ∧ SlO hh r75 ((flOut g48 g51 g53).1) ∧ k ≤ g48.links.length) (fun k => g48.links.length - k) 0 ⟨rfl, rfl, rfl, rfl, rfl, rfl, rfl⟩ ⟨E210, (((Ext.refl _).trans eh204).trans eh209), f212, f218, f219, f220, f221, (by exact Nat.zero_le _)⟩ ?_
      rintro k R222 h213 ⟨Eh, Em0, bxb57, s_r49, s_r50, s_r52, s_r75, hk⟩
      have zEh := Eh.size
      have ltk_r49 := s_r49.lt
      have ltk_r50 := s_r50.lt
      have ltk_r52 := s_r52.lt
      have lbb57 := bxb57.lt
      have ltk_r75 := s_r75.lt
      refine v_seq <| v_ops <| s_pq (.bool (decide ((k : Int) < (g48.links.length : Int)))) <| s_nil <| p_seqN <| v_seq ?_
      refine v_cond rfl (fun c226 => ?_) (fun c226 => ?_)
      ·
       refine v_skip <| p_seqN <| v_seq <| v_block <| v_seq <| v_ops <| s_pq (.int .i64 (k : Int)) <| s_pq (.int .i64 (k : Int)) <| s_nil <| p_seqN <| v_seq <| v_ops <| s_load (.agg #[r49, r50]) (fun _ q => bxb57.loadA rfl q) <| s_pq r52 <| s_pq (.int .i64 (k : Int)) <| s_pq (.int .i64 g53) <| s_call [.agg #[r49, r50], r52, .int .i64 (k : Int), .int .i64 g53] rfl (impl_IsClear_ok g48 r49 r50 r52 g51 (k : Int) g53 _ s_r49.toSl s_r50.toSl s_r52.toSl) ?_
       rintro _ h227 ⟨rfl, eh227⟩
       have E228 := Eh.trans eh227
       have z229 := eh227.size
       obtain ⟨cl230a, cl230b⟩ := hfl4 k (by omega)
       have cl230c : ¬ ((clOut g48 g51 (k : Int) g53).1 = decide ((k : Int) ∈ (flOut g48 g51 g53).1)) := by rw [cl230b]; cases decide ((k : Int) ∈ (flOut g48 g51 g53).1) <;> simp
       refine s_pq (.tuple #[.bool ((clOut g48 g51 (k : Int) g53).1), .bool ((clOut g48 g51 (k : Int) g53).2)]) <| s_pq (.bool ((clOut g48 g51 (k : Int) g53).1)) <| s_pq (.bool ((clOut g48 g51 (k : Int) g53).2)) <| s_pq (.bool ((clOut g48 g51 (k : Int) g53).1)) <| s_pq (.bool ((clOut g48 g51 (k : Int) g53).2)) <| s_nil <| p_seqN <| v_seq <| v_ops <| s_pq (.bool ((clOut g48 g51 (k : Int) g53).2)) <| s_pq (.bool (!(clOut g48 g51 (k : Int) g53).2)) <| s_pq (.bool (!(clOut g48 g51 (k : Int) g53).2)) ?_
       refine s_splitN rfl (by first | assumption | omega | (simp [fl93]; done) | (simp [hfl1]; done) | (simp [cl230a]; done) | (simp [cl230c]; done) | (simp [cl230c]; done) | (simp; done) | (simp; omega) | simp_all) <| s_run rfl <| s_pq (.bool ((clOut g48 g51 (k : Int) g53).1)) <| s_run rfl <| s_pq r75 <| s_run rfl <| s_pq (.int .i64 (k : Int)) <| s_run rfl ?_
       have f231 := (s_r75.ext eh227)
       refine s_call [r75, .int .i64 (k : Int)] rfl (laws_pIn_ok r75 ((flOut g48 g51 g53).1) (k : Int) _ f231.toSl) ?_
       rintro _ h232 ⟨rfl, eh232⟩
       have E233 := E228.trans eh232
       have z234 := eh232.size
       refine s_run rfl <| s_pq (.bool ((clOut g48 g51 (k : Int) g53).1 == (decide ((k : Int) ∈ ((flOut g48 g51 g53).1))))) <| s_pq (.bool ((clOut g48 g51 (k : Int) g53).1 == (decide ((k : Int) ∈ ((flOut g48 g51 g53).1))))) <| s_nil <| p_seqN <| v_condN rfl (by first | assumption | omega | (simp [fl93]; done) | (simp [hfl1]; done) | (simp [cl230a]; done) | (simp [cl230c]; done) | (simp [cl230c]; done) | (simp; done) | (simp; omega) | simp_all) <| v_skip <| p_blkN <| p_seqN <| v_ops <| s_pure (.int .i64 ((k : Int) + 1)) (fun _ q => ArithVC.mk (by omega) q) ?_
       refine s_pq (.int .i64 ((k : Int) + 1)) <| s_nil ?_
       have f235 := ((bxb57.ext eh227).ext eh232)
       have f236 := ((s_r49.ext eh227).ext eh232)
       have f237 := ((s_r50.ext eh227).ext eh232)
       have f238 := ((s_r52.ext eh227).ext eh232)
       have f239 := (f231.ext eh232)
       exact p_lpN ⟨k + 1, ⟨rfl, rfl, rfl, rfl, rfl, rfl, rfl⟩, ⟨E233, ((Em0.trans eh227).trans eh232), f235, f236, f237, f238, f239, (by omega)⟩, by omega⟩
      refine v_exit <| p_seqX <| p_lpX <| p_blkX <| p_seqN ?_
      exact M99 _ _ rfl Em0
     refine v_seq <| v_seq <| v_ops <| s_pq (.bool ((ijOut g48).2)) <| s_pq (.bool (!(ijOut g48).2)) <| s_pq (.bool (!(ijOut g48).2)) <| s_splitN rfl (by first | assumption | omega | (simp [fl93]; done) | (simp [hfl1]; done) | (simp; done) | (simp; omega) | simp_all) <| s_run rfl <| s_pq (.bool ((jnOut g48 g51 g53).1)) <| s_run rfl <| s_pq (.bool ((jnOut g48 g51 g53).1)) ?_
     refine s_splitT rfl (fun c240 => ?_) (fun c240 => ?_)
     ·
      have jn241 := hfl2 c240
      refine s_run rfl <| s_pq (.bool ((ijOut g48).1)) <| s_run rfl <| s_pq (.bool (!(ijOut g48).1)) <| s_run rfl <| s_pq (.bool (!(ijOut g48).1)) <| s_pq (.bool (!(ijOut g48).1)) <| s_pq (.bool (!(ijOut g48).1)) <| s_splitN rfl (by first | assumption | omega | (simp [fl93]; done) | (simp [hfl1]; done) | (simp [jn241]; done) | (simp; done) | (simp; omega) | simp_all) <| s_run rfl <| s_pq r75 <| s_run rfl <| s_pure (.int .i64 (((flOut g48 g51 g53).1).length : Int)) (fun _ q => s_r75.lenVC q) <| s_run rfl ?_
      refine s_pq (.bool ((((flOut g48 g51 g53).1).length : Int) == 0)) <| s_run rfl <| s_pq (.bool ((((flOut g48 g51 g53).1).length : Int) == 0)) ?_
      refine s_splitT rfl (fun c242 => ?_) (fun c242 => ?_)
      ·
       have jn243 := hfl3 c242
       refine s_run rfl <| s_pq (.bool ((ijOut g48).1)) <| s_run rfl <| s_pq (.bool ((jnOut g48 g51 g53).1)) <| s_run rfl <| s_pq (.bool ((ijOut g48).1 != (jnOut g48 g51 g53).1)) <| s_run rfl <| s_pq (.bool ((ijOut g48).1 != (jnOut g48 g51 g53).1)) <| s_pq (.bool ((ijOut g48).1 != (jnOut g48 g51 g53).1)) <| s_nil <| p_seqN <| v_condN rfl (by first | assumption | omega | (simp [fl93]; done) | (simp [hfl1]; done) | (simp [jn241]; done) | (simp [jn243]; done) | (simp; done) | (simp; omega) | simp_all) ?_
       refine v_skip <| p_seqN ?_
       exact M207 _ _ ⟨rfl, rfl, rfl, rfl, rfl⟩ (Ext.refl _)
      refine s_pass rfl <| s_pass rfl <| s_pass rfl <| s_run rfl <| s_pq (.bool false) <| s_pq (.bool false) <| s_nil <| p_seqN <| v_condN rfl (by simp) <| v_skip <| p_seqN ?_
      exact M207 _ _ ⟨rfl, rfl, rfl, rfl, rfl⟩ (Ext.refl _)
     refine s_pass rfl <| s_pass rfl <| s_run rfl <| s_pq (.bool false) <| s_pq (.bool false) <| s_pq (.bool false) <| s_splitN rfl (by simp) <| s_run rfl <| s_pq r75 <| s_run rfl <| s_pure (.int .i64 (((flOut g48 g51 g53).1).length : Int)) (fun _ q => s_r75.lenVC q) <| s_run rfl <| s_pq (.bool ((((flOut g48 g51 g53).1).length : Int) == 0)) <| s_run rfl <| s_pq (.bool ((((flOut g48 g51 g53).1).length : Int) == 0)) ?_
     refine s_splitT rfl (fun c244 => ?_) (fun c244 => ?_)
     ·
      have jn245 := hfl3 c244
      refine s_run rfl <| s_pq (.bool ((ijOut g48).1)) <| s_run rfl <| s_pq (.bool ((jnOut g48 g51 g53).1)) <| s_run rfl <| s_pq (.bool ((ijOut g48).1 != (jnOut g48 g51 g53).1)) <| s_run rfl <| s_pq (.bool ((ijOut g48).1 != (jnOut g48 g51 g53).1)) <| s_pq (.bool ((ijOut g48).1 != (jnOut g48 g51 g53).1)) <| s_nil <| p_seqN <| v_condN rfl (by first | assumption | omega | (simp [fl93]; done) | (simp [hfl1]; done) | (simp [jn245]; done) | (simp; done) | (simp; omega) | simp_all) <| v_skip <| p_seqN ?_
      exact M207 _ _ ⟨rfl, rfl, rfl, rfl, rfl⟩ (Ext.refl _)
     refine s_pass rfl <| s_pass rfl <| s_pass rfl <| s_run rfl <| s_pq (.bool false) <| s_pq (.bool false) <| s_nil <| p_seqN <| v_condN rfl (by simp) <| v_skip <| p_seqN ?_
     exact M207 _ _ ⟨rfl, rfl, rfl, rfl, rfl⟩ (Ext.refl _)
    refine v_skip <| p_seqN ?_
    exact M99 _ _ rfl (Ext.refl _)
   refine v_seq <| v_seq <| v_ops <| s_pq (.bool ((flOut g48 g51 g53).2)) <| s_pq (.bool ((flOut g48 g51 g53).2)) <| s_pq (.bool ((flOut g48 g51 g53).2 != (flOut g48 g51 g53).2)) <| s_pq (.bool ((flOut g48 g51 g53).2 != (flOut g48 g51 g53).2)) <| s_splitN rfl (by first | assumption | omega | (simp [fl93]; done) | (simp; done) | (simp; omega) | simp_all) <| s_run rfl <| s_pq r67 <| s_run rfl <| s_pq r75 <| s_run rfl ?_
   have f247 := (((s_r67.ext eh76).ext eh83).ext eh90)
   have f248 := ((s_r75.ext eh83).ext eh90)
   refine s_call [r67, r75] rfl (laws_sameInts_ok r67 ((flOut g48 g51 g53).1) r75 ((flOut g48 g51 g53).1) _ f247.toSl f248.toSl) ?_
   rintro vh246 h246 ⟨hvh246, eh246⟩
   obtain rfl : vh246 = .bool true := hvh246.trans (by rw [decide_eq_true rfl])
   have z250 := eh246.size
   refine s_run rfl <| s_pq (.bool false) <| s_pq (.bool false) <| s_pq (.bool false) <| s_splitN rfl (by simp) <| s_run rfl <| s_pq (.bool ((jnOut g48 g51 g53).2)) <| s_run rfl <| s_pq (.bool ((jnOut g48 g51 g53).2)) <| s_run rfl <| s_pq (.bool ((jnOut g48 g51 g53).2 != (jnOut g48 g51 g53).2)) <| s_pq (.bool ((jnOut g48 g51 g53).2 != (jnOut g48 g51 g53).2)) <| s_pq (.bool ((jnOut g48 g51 g53).2 != (jnOut g48 g51 g53).2)) <| s_splitN rfl (by first | assumption | omega | (simp [fl93]; done) | (simp; done) | (simp; omega) | simp_all) ?_
   refine s_run rfl <| s_pq (.bool ((jnOut g48 g51 g53).1)) <| s_run rfl <| s_pq (.bool ((jnOut g48 g51 g53).1)) <| s_run rfl <| s_pq (.bool ((jnOut g48 g51 g53).1 != (jnOut g48 g51 g53).1)) <| s_pq (.bool ((jnOut g48 g51 g53).1 != (jnOut g48 g51 g53).1)) <| s_pq (.bool ((jnOut g48 g51 g53).1 != (jnOut g48 g51 g53).1)) <| s_splitN rfl (by first | assumption | omega | (simp [fl93]; done) | (simp; done) | (simp; omega) | simp_all) <| s_run rfl <| s_pq (.bool ((jnOut g48 g51 g53).2)) <| s_run rfl ?_
   refine s_pq (.bool ((flOut g48 g51 g53).2)) <| s_run rfl <| s_pq (.bool ((jnOut g48 g51 g53).2 != (flOut g48 g51 g53).2)) <| s_pq (.bool ((jnOut g48 g51 g53).2 != (flOut g48 g51 g53).2)) <| s_nil <| p_seqN <| v_condN rfl (by first | assumption | omega | (simp [fl93]; done) | (simp; done) | (simp; omega) | simp_all) <| v_skip <| p_seqN ?_
   exact M94 _ _ ⟨rfl, rfl, rfl, rfl, rfl, rfl, rfl⟩ ((Ext.refl _).trans eh246)
  refine v_seq <| v_seq <| v_ops <| s_pq (.bool ((esOut g6 g9 g11 g12 g13).2)) <| s_pq (.bool ((esOut g6 g9 g11 g12 g13).2)) ?_
  refine s_splitT rfl (fun c251 => ?_) (fun c251 => ?_)
  ·
   obtain ⟨hes1, hes2, hes3, hes4, hes5, hes6⟩ := es_facts c251
   refine s_run rfl <| s_pq (.int .i64 ((esOut g6 g9 g11 g12 g13).1)) <| s_run rfl <| s_pq (.int .i64 g13) <| s_run rfl <| s_pure (.int .i64 ((esOut g6 g9 g11 g12 g13).1 + g13)) (fun _ q => ArithVC.mk (by omega) q) <| s_run rfl <| s_pq (.bool (decide (((esOut g6 g9 g11 g12 g13).1 + g13) ≤ 10000))) <| s_pq (.bool (decide (((esOut g6 g9 g11 g12 g13).1 + g13) ≤ 10000))) <| s_nil <| p_seqN ?_
   refine v_cond rfl (fun c252 => ?_) (fun c252 => ?_)
   ·
    refine v_seq <| v_ops ?_
    have f253 := ((f30.ext eh34).ext eh39)
    refine s_load (.agg #[r7, r8]) (fun _ q => f253.loadA rfl q) <| s_pq r10 <| s_pq (.int .i64 g11) <| s_pq (.int .i64 ((esOut g6 g9 g11 g12 g13).1)) <| s_pq (.int .i64 ((esOut g6 g9 g11 g12 g13).1)) <| s_pq (.int .i64 g13) <| s_pure (.int .i64 ((esOut g6 g9 g11 g12 g13).1 + g13)) (fun _ q => ArithVC.mk (by omega) q) ?_
    have f254 := ((f31.ext eh34).ext eh39)
    have f255 := ((f32.ext eh34).ext eh39)
    have f256 := ((f33.ext eh34).ext eh39)
    refine s_call [.agg #[r7, r8], r10, .int .i64 g11, .int .i64 ((esOut g6 g9 g11 g12 g13).1), .int .i64 ((esOut g6 g9 g11 g12 g13).1 + g13)] rfl (impl_FogSeconds_ok g6 r7 r8 r10 g9 g11 ((esOut g6 g9 g11 g12 g13).1) ((esOut g6 g9 g11 g12 g13).1 + g13) _ f254.toSl f255.toSl f256.toSl) ?_
    rintro _ h257 ⟨rfl, eh257⟩
    have z259 := eh257.size
    have fs260 := (hes6 (by assumption)).1
    have fs260a : (fsOut g6 g9 g11 ((esOut g6 g9 g11 g12 g13).1) ((esOut g6 g9 g11 g12 g13).1 + g13)).2 = true := by rw [fs260]
    have fs260b : (fsOut g6 g9 g11 ((esOut g6 g9 g11 g12 g13).1) ((esOut g6 g9 g11 g12 g13).1 + g13)).1 = 0 := by rw [fs260]
    refine s_pq (.tuple #[.int .i64 ((fsOut g6 g9 g11 ((esOut g6 g9 g11 g12 g13).1) ((esOut g6 g9 g11 g12 g13).1 + g13)).1), .bool ((fsOut g6 g9 g11 ((esOut g6 g9 g11 g12 g13).1) ((esOut g6 g9 g11 g12 g13).1 + g13)).2)]) <| s_pq (.int .i64 ((fsOut g6 g9 g11 ((esOut g6 g9 g11 g12 g13).1) ((esOut g6 g9 g11 g12 g13).1 + g13)).1)) <| s_pq (.bool ((fsOut g6 g9 g11 ((esOut g6 g9 g11 g12 g13).1) ((esOut g6 g9 g11 g12 g13).1 + g13)).2)) <| s_pq (.int .i64 ((fsOut g6 g9 g11 ((esOut g6 g9 g11 g12 g13).1) ((esOut g6 g9 g11 g12 g13).1 + g13)).1)) ?_
    refine s_pq (.bool ((fsOut g6 g9 g11 ((esOut g6 g9 g11 g12 g13).1) ((esOut g6 g9 g11 g12 g13).1 + g13)).2)) <| s_nil <| p_seqN ?_
    refine v_seqM1 [(1, v_more), (5, .pointer (some ⟨b17, 0, none⟩)), (6, r10), (7, .int .i64 g11), (8, .int .i64 g12), (9, .int .i64 g13), (12, .int .i64 ((esOut g6 g9 g11 g12 g13).1))] (fun R262 h263 eh263 => ?_) (fun M261 => ?_)
    ·
     have z265 := eh263.size
     refine v_seq <| v_ops <| s_pq (.int .i64 ((esOut g6 g9 g11 g12 g13).1)) <| s_pq (.int .i64 g12) <| s_pq (.bool (decide ((esOut g6 g9 g11 g12 g13).1 > g12))) <| s_nil <| p_seqN ?_
     refine v_cond rfl (fun c266 => ?_) (fun c266 => ?_)
     ·
      refine v_seq <| v_ops ?_
      have f267 := ((f253.ext eh257).ext eh263)
      refine s_load (.agg #[r7, r8]) (fun _ q => f267.loadA rfl q) <| s_pq r10 <| s_pq (.int .i64 g11) <| s_pq (.int .i64 ((esOut g6 g9 g11 g12 g13).1)) <| s_pure (.int .i64 ((esOut g6 g9 g11 g12 g13).1 - 1)) (fun _ q => ArithVC.mk (by omega) q) <| s_pq (.int .i64 ((esOut g6 g9 g11 g12 g13).1)) <| s_pure (.int .i64 ((esOut g6 g9 g11 g12 g13).1 - 1)) (fun _ q => ArithVC.mk (by omega) q) <| s_pq (.int .i64 g13) <| s_pure (.int .i64 (((esOut g6 g9 g11 g12 g13).1 - 1) + g13)) (fun _ q => ArithVC.mk (by omega) q) ?_
      have f268 := ((f254.ext eh257).ext eh263)
      have f269 := ((f255.ext eh257).ext eh263)
      have f270 := ((f256.ext eh257).ext eh263)
      refine s_call [.agg #[r7, r8], r10, .int .i64 g11, .int .i64 ((esOut g6 g9 g11 g12 g13).1 - 1), .int .i64 (((esOut g6 g9 g11 g12 g13).1 - 1) + g13)] rfl (impl_FogSeconds_ok g6 r7 r8 r10 g9 g11 ((esOut g6 g9 g11 g12 g13).1 - 1) (((esOut g6 g9 g11 g12 g13).1 - 1) + g13) _ f268.toSl f269.toSl f270.toSl) ?_
      rintro _ h271 ⟨rfl, eh271⟩
      have z273 := eh271.size
      obtain ⟨fs274a, fs274b⟩ := (hes6 (by assumption)).2 (by assumption)
      refine s_pq (.tuple #[.int .i64 ((fsOut g6 g9 g11 ((esOut g6 g9 g11 g12 g13).1 - 1) (((esOut g6 g9 g11 g12 g13).1 - 1) + g13)).1), .bool ((fsOut g6 g9 g11 ((esOut g6 g9 g11 g12 g13).1 - 1) (((esOut g6 g9 g11 g12 g13).1 - 1) + g13)).2)]) <| s_pq (.int .i64 ((fsOut g6 g9 g11 ((esOut g6 g9 g11 g12 g13).1 - 1) (((esOut g6 g9 g11 g12 g13).1 - 1) + g13)).1)) <| s_pq (.bool ((fsOut g6 g9 g11 ((esOut g6 g9 g11 g12 g13).1 - 1) (((esOut g6 g9 g11 g12 g13).1 - 1) + g13)).2)) <| s_pq (.int .i64 ((fsOut g6 g9 g11 ((esOut g6 g9 g11 g12 g13).1 - 1) (((esOut g6 g9 g11 g12 g13).1 - 1) + g13)).1)) ?_
      refine s_pq (.bool ((fsOut g6 g9 g11 ((esOut g6 g9 g11 g12 g13).1 - 1) (((esOut g6 g9 g11 g12 g13).1 - 1) + g13)).2)) <| s_nil <| p_seqN <| v_seq <| v_ops <| s_pq (.bool ((fsOut g6 g9 g11 ((esOut g6 g9 g11 g12 g13).1 - 1) (((esOut g6 g9 g11 g12 g13).1 - 1) + g13)).2)) <| s_pq (.bool (!(fsOut g6 g9 g11 ((esOut g6 g9 g11 g12 g13).1 - 1) (((esOut g6 g9 g11 g12 g13).1 - 1) + g13)).2)) <| s_pq (.bool (!(fsOut g6 g9 g11 ((esOut g6 g9 g11 g12 g13).1 - 1) (((esOut g6 g9 g11 g12 g13).1 - 1) + g13)).2)) ?_
      refine s_splitN rfl (by first | assumption | omega | (simp [fs260a]; done) | (simp [fs260b]; done) | (simp [fs274a]; done) | (simp [fs274b]; done) | (simp; done) | (simp; omega) | simp_all) <| s_run rfl <| s_pq (.int .i64 ((fsOut g6 g9 g11 ((esOut g6 g9 g11 g12 g13).1 - 1) (((esOut g6 g9 g11 g12 g13).1 - 1) + g13)).1)) <| s_run rfl <| s_pq (.bool ((fsOut g6 g9 g11 ((esOut g6 g9 g11 g12 g13).1 - 1) (((esOut g6 g9 g11 g12 g13).1 - 1) + g13)).1 == 0)) <| s_pq (.bool ((fsOut g6 g9 g11 ((esOut g6 g9 g11 g12 g13).1 - 1) (((esOut g6 g9 g11 g12 g13).1 - 1) + g13)).1 == 0)) ?_
      refine s_nil <| p_seqN <| v_condN rfl (by first | assumption | omega | (simp [fs260a]; done) | (simp [fs260b]; done) | (simp [fs274a]; done) | (simp [fs274b]; done) | (simp; done) | (simp; omega) | simp_all) <| v_skip <| p_seqN ?_
      exact M42 _ _ rfl ((((Ext.refl _).trans eh257).trans eh263).trans eh271)
     refine v_skip <| p_seqN ?_
     exact M42 _ _ rfl (((Ext.refl _).trans eh257).trans eh263)
    refine v_seq <| v_seq <| v_ops <| s_pq (.bool ((fsOut g6 g9 g11 ((esOut g6 g9 g11 g12 g13).1) ((esOut g6 g9 g11 g12 g13).1 + g13)).2)) <| s_pq (.bool (!(fsOut g6 g9 g11 ((esOut g6 g9 g11 g12 g13).1) ((esOut g6 g9 g11 g12 g13).1 + g13)).2)) <| s_pq (.bool (!(fsOut g6 g9 g11 ((esOut g6 g9 g11 g12 g13).1) ((esOut g6 g9 g11 g12 g13).1 + g13)).2)) <| s_splitN rfl (by first | assumption | omega | (simp [fs260a]; done) | (simp [fs260b]; done) | (simp; done) | (simp; omega) | simp_all) <| s_run rfl ?_
    refine s_pq (.int .i64 ((fsOut g6 g9 g11 ((esOut g6 g9 g11 g12 g13).1) ((esOut g6 g9 g11 g12 g13).1 + g13)).1)) <| s_run rfl <| s_pq (.bool ((fsOut g6 g9 g11 ((esOut g6 g9 g11 g12 g13).1) ((esOut g6 g9 g11 g12 g13).1 + g13)).1 != 0)) <| s_pq (.bool ((fsOut g6 g9 g11 ((esOut g6 g9 g11 g12 g13).1) ((esOut g6 g9 g11 g12 g13).1 + g13)).1 != 0)) <| s_nil <| p_seqN <| v_condN rfl (by first | assumption | omega | (simp [fs260a]; done) | (simp [fs260b]; done) | (simp; done) | (simp; omega) | simp_all) ?_
    refine v_skip <| p_seqN ?_
    exact M261 _ _ ⟨rfl, rfl, rfl, rfl, rfl, rfl, rfl⟩ (Ext.refl _)
   refine v_skip <| p_seqN ?_
   exact M42 _ _ rfl (Ext.refl _)
  refine s_pass rfl <| s_pass rfl <| s_pass rfl <| s_pass rfl <| s_pq (.bool false) <| s_nil <| p_seqN <| v_condN rfl (by simp) <| v_skip <| p_seqN ?_
  exact M42 _ _ rfl (Ext.refl _)
 refine v_seq <| v_seq <| v_ops <| s_pq (.bool ((esOut g6 g9 g11 g12 g13).2)) <| s_pq (.bool ((esOut g6 g9 g11 g12 g13).2)) <| s_pq (.bool ((esOut g6 g9 g11 g12 g13).2 != (esOut g6 g9 g11 g12 g13).2)) <| s_pq (.bool ((esOut g6 g9 g11 g12 g13).2 != (esOut g6 g9 g11 g12 g13).2)) <| s_splitN rfl (by first | assumption | omega | (simp; done) | (simp; omega) | simp_all) <| s_run rfl <| s_pq (.int .i64 ((esOut g6 g9 g11 g12 g13).1)) <| s_run rfl <| s_pq (.int .i64 ((esOut g6 g9 g11 g12 g13).1)) <| s_run rfl ?_
 refine s_pq (.bool ((esOut g6 g9 g11 g12 g13).1 != (esOut g6 g9 g11 g12 g13).1)) <| s_pq (.bool ((esOut g6 g9 g11 g12 g13).1 != (esOut g6 g9 g11 g12 g13).1)) <| s_pq (.bool ((esOut g6 g9 g11 g12 g13).1 != (esOut g6 g9 g11 g12 g13).1)) <| s_splitN rfl (by first | assumption | omega | (simp; done) | (simp; omega) | simp_all) <| s_run rfl <| s_pq (.bool ((esOut g6 g9 g11 g12 g13).2)) <| s_run rfl <| s_pq (.bool ((esOut g6 g9 g11 g12 g13).2)) ?_
 refine s_splitT rfl (fun c275 => ?_) (fun c275 => ?_)
 ·
  obtain ⟨hes1, hes2, hes3, hes4, hes5, hes6⟩ := es_facts c275
  refine s_run rfl <| s_pq (.int .i64 ((esOut g6 g9 g11 g12 g13).1)) <| s_run rfl <| s_pq (.int .i64 g12) <| s_run rfl <| s_pq (.bool (decide ((esOut g6 g9 g11 g12 g13).1 < g12))) <| s_run rfl <| s_pq (.bool (decide ((esOut g6 g9 g11 g12 g13).1 < g12))) <| s_pq (.bool (decide ((esOut g6 g9 g11 g12 g13).1 < g12))) <| s_nil <| p_seqN <| v_condN rfl (by first | assumption | omega | (simp; done) | (simp; omega) | simp_all) <| v_skip <| p_seqN ?_
  exact M37 _ _ ⟨rfl, rfl, rfl, rfl, rfl, rfl, rfl, rfl⟩ (Ext.refl _)
 refine s_pass rfl <| s_pass rfl <| s_pass rfl <| s_run rfl <| s_pq (.bool false) <| s_pq (.bool false) <| s_nil <| p_seqN <| v_condN rfl (by simp) <| v_skip <| p_seqN ?_
 exact M37 _ _ ⟨rfl, rfl, rfl, rfl, rfl, rfl, rfl, rfl⟩ (Ext.refl _)

theorem law_ok (h : Heap) (v0 : Value) (x0 : List By) (s0 : Sl h v0 x0) (w0 : ∀ y ∈ x0, (0 ≤ y.n ∧ y.n ≤ 255)) (v1 : Value) (x1 : List By) (s1 : Sl h v1 x1) (w1 : ∀ y ∈ x1, (0 ≤ y.n ∧ y.n ≤ 255)) : Cn f_laws_FnClearTimes [v0, v1] h fun v h' => v = .bool true ∧ Ext h h' := laws_FnClearTimes_ok v0 x0 v1 x1 h s0 s1 w0 w1
end Go.Proofs.Ytloicopmcagikaa.finFnClearTimes

