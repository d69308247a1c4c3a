/- Wy5, Wy6, Wy7. Condition: none. -/
import Derived.Test.YtgbaonaopkdlpaaMgF
import Derived.Test.YtgbaonaopkdlpaaMgD
/- What is drawn for the laws of ways. Condition: none. Printed in part by a program. -/
namespace Go.Proofs.Ytgbaonaopkdlpaa
open Go.Vc
set_option linter.all false
theorem spec_DrawFirstArrival_ok (v_code : Value) (code : List By) (h : Heap) (s_code : Sl h v_code code) (hby : ∀ y ∈ code, 0 ≤ y.n ∧ y.n ≤ 255) (hsz : code.length ≤ 2000000) : Cn f_spec_DrawFirstArrival [v_code] h fun v h' => ∃ g0 : NetP, ∃ g1 : List FogD, ∃ g2 : Int, ∃ g3 : Int, ∃ g4 : Int, ∃ r0 : Value, ∃ r1 : Value, ∃ r2 : Value, v = .tuple #[.agg #[r0, r1], r2, .int .i64 g2, .int .i64 g3, .int .i64 g4] ∧ SlO h' r0 g0.towers ∧ Fr h.size r0 ∧ SlO h' r1 g0.links ∧ Fr h.size r1 ∧ SlO h' r2 g1 ∧ Fr h.size r2 ∧ (∀ b ∈ blks r0, b ∉ blks r1) ∧ (∀ b ∈ blks r0, b ∉ blks r2) ∧ (∀ b ∈ blks r1, b ∉ blks r2) ∧ (g0.towers.length ≤ 20 ∧ g0.links.length ≤ 50 ∧ g1.length ≤ 61) ∧ Ext h h' := by
 have lt_code := s_code.lt
 have l63_code := s_code.len63
 refine calls_of r_spec_DrawFirstArrival ?_
 refine v_seq <| v_ops ?_
 refine s_new (fun h2 b1 hbb1 hzb1 eh2 bxb1 => ?_)
 have E3 := (Ext.refl h).trans eh2
 have z4 := eh2.size
 have lbb1 := bxb1.lt
 refine s_pq (.slice none 0 0) <| s_pq (.int .i64 0) <| s_pq (.int .i64 0) <| s_pq (.int .i64 0) <| s_nil <| p_seqN <| v_seq <| v_ops <| s_pq v_code <| s_pure (.agg #[v_code, .int .i64 0, .int .u64 0]) (fun _ q => w_build (seg_sl s_code rfl (seg_nil q))) ?_
 refine s_box [v_code, .int .i64 0, .int .u64 0] rfl (fun h6 b5 hbb5 hzb5 eh6 bxb5 => ?_)
 have E7 := E3.trans eh6
 have z8 := eh6.size
 have lbb5 := bxb5.lt
 refine s_pq (.pointer (some ⟨b5, 0, none⟩)) <| s_nil <| p_seqN <| v_seq <| v_ops <| s_pq (.pointer (some ⟨b5, 0, none⟩)) ?_
 have f9 := ((s_code.ext eh2).ext eh6)
 have C10 : Cur h6 b5 68 0 h.size := Cur.mk2 bxb5 f9 lt_code hby (by omega) (by omega)
 refine s_call [.pointer (some ⟨b5, 0, none⟩)] rfl (spec_l1Cur_foggy_ok b5 68 0 h.size _ C10 (by omega)) ?_
 rintro _ h16 ⟨g11, g14, r12, r13, r15, rfl, s_r12, fr_r12, s_r13, fr_r13, s_r15, fr_r15, ap_r12_r13, ap_r12_r15, ap_r13_r15, qh16, Ch16, mh16⟩
 have zh16 := mh16.size
 have E17 := E7.mod mh16 (fun b hb => by simp at hb; omega)
 have lt_r12 := s_r12.lt
 have lt_r13 := s_r13.lt
 have lt_r15 := s_r15.lt
 refine s_pq (.tuple #[.agg #[r12, r13], r15]) <| s_pq (.agg #[r12, r13]) <| s_pq r15 ?_
 refine s_new (fun h19 b18 hbb18 hzb18 eh19 bxb18 => ?_)
 have E20 := E17.trans eh19
 have z21 := eh19.size
 have lbb18 := bxb18.lt
 refine s_stBx (.agg #[r12, r13]) [r12, r13] [r12, r13] bxb18 rfl rfl rfl rfl (by simp) (all_cons s_r12.one1 (all_cons s_r13.one1 all_nil)) rfl (fun h22 mh22 sh22 bxx23 => ?_)
 have E24 := E20.mod mh22 (fun b hb => by simp at hb; omega)
 refine s_pq r15 <| s_nil <| p_seqN <| v_seq ?_
 refine v_draw (DrawVC.hold ([b18]) ?_)
 refine d_pq r15 <| d_pq (.pointer (some ⟨b5, 0, none⟩)) <| d_pq (.pointer (some ⟨b5, 0, none⟩)) <| d_pq (.pointer (some ⟨b5, 0, none⟩)) <| d_loadO (.agg #[r12, r13]) (fun _ q => bxx23.loadA rfl q) <| d_loadT (.agg #[r12, r13]) (fun _ q => bxx23.takeA (by simp) rfl q) <| d_loadT (.agg #[r12, r13]) (fun _ q => bxx23.takeA (by simp) rfl q) <| d_eff ?_
 have f25 := ((Ch16.ext eh19).mod mh22 (by simp; omega) (fun b hb => by simp at hb; omega))
 have f26 := ((s_r12.ext eh19).mod mh22 (fun b hb hc => by simp at hc; have := lt_r12 b hb; omega))
 have f27 := ((s_r13.ext eh19).mod mh22 (fun b hb hc => by simp at hc; have := lt_r13 b hb; omega))
 refine s_call [.pointer (some ⟨b5, 0, none⟩), .agg #[r12, r13]] rfl (spec_l1Cur_tower_ok b5 68 (0 + 12000) h.size g11 r12 r13 _ f25 f26.toSl (fun b hb hc => by simp at hc; have := fr_r12 b hb; omega) f27.toSl (fun b hb hc => by simp at hc; have := fr_r13 b hb; omega) (by omega) (by first | omega | assumption | (simp; done) | (simp; omega))) ?_
 rintro _ h29 ⟨g28, rfl, qh29, Ch29, mh29⟩
 have zh29 := mh29.size
 have E30 := E24.mod mh29 (fun b hb => by simp at hb; omega)
 have G31 := gmod1 (b := b18) (h := h22) (h0 := h22) mh29 (by omega) (by simp; omega) (fun _ _ => rfl)
 refine s_nil ⟨fun _ x hx => G31 x hx, ?_⟩
 refine d_eff ?_
 have f32 := (f26.mod mh29 (fun b hb hc => by simp at hc; have := fr_r12 b hb; omega))
 have f33 := (f27.mod mh29 (fun b hb hc => by simp at hc; have := fr_r13 b hb; omega))
 refine s_call [.pointer (some ⟨b5, 0, none⟩), .agg #[r12, r13]] rfl (spec_l1Cur_tower_ok b5 68 ((0 + 12000) + 20) h.size g11 r12 r13 _ Ch29 f32.toSl (fun b hb hc => by simp at hc; have := fr_r12 b hb; omega) f33.toSl (fun b hb hc => by simp at hc; have := fr_r13 b hb; omega) (by omega) (by first | omega | assumption | (simp; done) | (simp; omega))) ?_
 rintro _ h35 ⟨g34, rfl, qh35, Ch35, mh35⟩
 have zh35 := mh35.size
 have E36 := E30.mod mh35 (fun b hb => by simp at hb; omega)
 have G37 := gmod1 (b := b18) (h := h29) (h0 := h22) mh35 (by omega) (by simp; omega) G31
 refine s_nil ⟨fun _ x hx => G37 x hx, ?_⟩
 refine d_eff <| s_call [.pointer (some ⟨b5, 0, none⟩)] rfl (spec_l1Cur_second_ok b5 68 (((0 + 12000) + 20) + 20) h.size _ Ch35 (by omega)) ?_
 rintro _ h39 ⟨g38, rfl, qh39, Ch39, mh39⟩
 have zh39 := mh39.size
 have E40 := E36.mod mh39 (fun b hb => by simp at hb; omega)
 have G41 := gmod1 (b := b18) (h := h35) (h0 := h22) mh39 (by omega) (by simp; omega) G37
 refine s_nil ⟨fun _ x hx => G41 x hx, ?_⟩
 refine d_eff ?_
 have f42 := (((((((bxb1.ext eh6).mod mh16 (by simp; omega)).ext eh19).mod mh22 (by simp; omega)).mod mh29 (by simp; omega)).mod mh35 (by simp; omega)).mod mh39 (by simp; omega))
 refine s_stBx (.agg #[r12, r13]) [r12, r13] [r12, r13] f42 rfl rfl rfl rfl (by simp) (all_cons f32.one1 (all_cons f33.one1 all_nil)) rfl (fun h43 mh43 sh43 bxx44 => ?_)
 have E45 := E40.mod mh43 (fun b hb => by simp at hb; omega)
 refine s_nil ⟨fun hl => (by cases hl), ?_⟩
 refine d_pq r15 <| d_pq (.int .i64 g28) <| d_pq (.int .i64 g34) <| d_pq (.int .i64 g38) <| d_done <| p_seqN <| v_ret <| p_ret [.agg #[r12, r13], r15, .int .i64 g28, .int .i64 g34, .int .i64 g38] (.tuple #[.agg #[r12, r13], r15, .int .i64 g28, .int .i64 g34, .int .i64 g38]) (fun _ q => (bxx44.loadA rfl q)) rfl ?_
 have f46 := (((f32.mod mh35 (fun b hb hc => by simp at hc; have := fr_r12 b hb; omega)).mod mh39 (fun b hb hc => by simp at hc; have := fr_r12 b hb; omega)).mod mh43 (fun b hb hc => by simp at hc; have := fr_r12 b hb; omega))
 have f47 := (((f33.mod mh35 (fun b hb hc => by simp at hc; have := fr_r13 b hb; omega)).mod mh39 (fun b hb hc => by simp at hc; have := fr_r13 b hb; omega)).mod mh43 (fun b hb hc => by simp at hc; have := fr_r13 b hb; omega))
 have f48 := ((((((s_r15.ext eh19).mod mh22 (fun b hb hc => by simp at hc; have := lt_r15 b hb; omega)).mod mh29 (fun b hb hc => by simp at hc; have := fr_r15 b hb; omega)).mod mh35 (fun b hb hc => by simp at hc; have := fr_r15 b hb; omega)).mod mh39 (fun b hb hc => by simp at hc; have := fr_r15 b hb; omega)).mod mh43 (fun b hb hc => by simp at hc; have := fr_r15 b hb; omega))
 exact ⟨⟨g11.towers, g11.links⟩, g14, g28, g34, g38, r12, r13, r15, rfl, f46, (fr_r12.mono (by omega)), f47, (fr_r13.mono (by omega)), f48, (fr_r15.mono (by omega)), ap_r12_r13, ap_r12_r15, ap_r13_r15, (by (try simp only); first | omega | exact ⟨by omega, by omega⟩ | exact ⟨by omega, by omega, by omega⟩), E45⟩

theorem spec_DrawWayThrough_ok (v_code : Value) (code : List By) (h : Heap) (s_code : Sl h v_code code) (hby : ∀ y ∈ code, 0 ≤ y.n ∧ y.n ≤ 255) (hsz : code.length ≤ 2000000) : Cn f_spec_DrawWayThrough [v_code] h fun v h' => ∃ g0 : NetP, ∃ g1 : List FogD, ∃ g2 : Int, ∃ g3 : Int, ∃ g4 : Int, ∃ r0 : Value, ∃ r1 : Value, ∃ r2 : Value, v = .tuple #[.agg #[r0, r1], r2, .int .i64 g2, .int .i64 g3, .int .i64 g4] ∧ SlO h' r0 g0.towers ∧ Fr h.size r0 ∧ SlO h' r1 g0.links ∧ Fr h.size r1 ∧ SlO h' r2 g1 ∧ Fr h.size r2 ∧ (∀ b ∈ blks r0, b ∉ blks r1) ∧ (∀ b ∈ blks r0, b ∉ blks r2) ∧ (∀ b ∈ blks r1, b ∉ blks r2) ∧ (g0.towers.length ≤ 20 ∧ g0.links.length ≤ 50 ∧ g1.length ≤ 61) ∧ Ext h h' := by
 have l63_code := s_code.len63
 refine calls_of r_spec_DrawWayThrough ?_
 refine v_seq <| v_ops ?_
 refine s_new (fun h2 b1 hbb1 hzb1 eh2 bxb1 => ?_)
 have E3 := (Ext.refl h).trans eh2
 have z4 := eh2.size
 have lbb1 := bxb1.lt
 refine s_pq (.slice none 0 0) <| s_pq (.int .i64 0) <| s_pq (.int .i64 0) <| s_pq (.int .i64 0) <| s_nil <| p_seqN <| v_seq <| v_ops <| s_pq v_code ?_
 have f5 := (s_code.ext eh2)
 refine s_call [v_code] rfl (spec_DrawFirstArrival_ok v_code code _ f5 (by first | omega | assumption | (simp; done) | (simp; omega)) (by first | omega | assumption | (simp; done) | (simp; omega))) ?_
 rintro _ h14 ⟨g6, g9, g11, g12, g13, r7, r8, r10, rfl, s_r7, fr_r7, s_r8, fr_r8, s_r10, fr_r10, ap_r7_r8, ap_r7_r10, ap_r8_r10, qh14, eh14⟩
 have E15 := E3.trans eh14
 have z16 := eh14.size
 refine s_pq (.agg #[r7, r8]) <| s_pq r10 <| s_pq (.int .i64 g11) <| s_pq (.int .i64 g12) <| s_pq (.int .i64 g13) ?_
 have f17 := (bxb1.ext eh14)
 refine s_stBx (.agg #[r7, r8]) [r7, r8] [r7, r8] f17 rfl rfl rfl rfl (by simp) (all_cons s_r7.one1 (all_cons s_r8.one1 all_nil)) rfl (fun h18 mh18 sh18 bxx19 => ?_)
 have E20 := E15.mod mh18 (fun b hb => by simp at hb; omega)
 refine s_pq r10 <| s_pq (.int .i64 g11) <| s_pq (.int .i64 g12) <| s_pq (.int .i64 g13) <| s_nil <| p_seqN <| v_ret <| p_ret [.agg #[r7, r8], r10, .int .i64 g11, .int .i64 g12, .int .i64 g13] (.tuple #[.agg #[r7, r8], r10, .int .i64 g11, .int .i64 g12, .int .i64 g13]) (fun _ q => (bxx19.loadA rfl q)) rfl ?_
 have f21 := (s_r7.mod mh18 (fun b hb hc => by simp at hc; have := fr_r7 b hb; omega))
 have f22 := (s_r8.mod mh18 (fun b hb hc => by simp at hc; have := fr_r8 b hb; omega))
 have f23 := (s_r10.mod mh18 (fun b hb hc => by simp at hc; have := fr_r10 b hb; omega))
 exact ⟨⟨g6.towers, g6.links⟩, g9, g11, g12, g13, r7, r8, r10, rfl, f21, (fr_r7.mono (by omega)), f22, (fr_r8.mono (by omega)), f23, (fr_r10.mono (by omega)), ap_r7_r8, ap_r7_r10, ap_r8_r10, (by (try simp only); first | omega | exact ⟨by omega, by omega⟩ | exact ⟨by omega, by omega, by omega⟩), E20⟩

theorem spec_DrawLatestStart_ok (v_code : Value) (code : List By) (h : Heap) (s_code : Sl h v_code code) (hby : ∀ y ∈ code, 0 ≤ y.n ∧ y.n ≤ 255) (hsz : code.length ≤ 2000000) : Cn f_spec_DrawLatestStart [v_code] h fun v h' => ∃ g0 : NetP, ∃ g1 : List FogD, ∃ g2 : Int, ∃ g3 : Int, ∃ g4 : Int, ∃ r0 : Value, ∃ r1 : Value, ∃ r2 : Value, v = .tuple #[.agg #[r0, r1], r2, .int .i64 g2, .int .i64 g3, .int .i64 g4] ∧ SlO h' r0 g0.towers ∧ Fr h.size r0 ∧ SlO h' r1 g0.links ∧ Fr h.size r1 ∧ SlO h' r2 g1 ∧ Fr h.size r2 ∧ (∀ b ∈ blks r0, b ∉ blks r1) ∧ (∀ b ∈ blks r0, b ∉ blks r2) ∧ (∀ b ∈ blks r1, b ∉ blks r2) ∧ (g0.towers.length ≤ 20 ∧ g0.links.length ≤ 50 ∧ g1.length ≤ 61) ∧ Ext h h' := by
 have lt_code := s_code.lt
 have l63_code := s_code.len63
 refine calls_of r_spec_DrawLatestStart ?_
 refine v_seq <| v_ops ?_
 refine s_new (fun h2 b1 hbb1 hzb1 eh2 bxb1 => ?_)
 have E3 := (Ext.refl h).trans eh2
 have z4 := eh2.size
 have lbb1 := bxb1.lt
 refine s_pq (.slice none 0 0) <| s_pq (.int .i64 0) <| s_pq (.int .i64 0) <| s_pq (.int .i64 0) <| s_nil <| p_seqN <| v_seq <| v_ops <| s_pq v_code ?_
 have f5 := (s_code.ext eh2)
 refine s_call [v_code] rfl (spec_DrawFirstArrival_ok v_code code _ f5 (by first | omega | assumption | (simp; done) | (simp; omega)) (by first | omega | assumption | (simp; done) | (simp; omega))) ?_
 rintro _ h14 ⟨g6, g9, g11, g12, g13, r7, r8, r10, rfl, s_r7, fr_r7, s_r8, fr_r8, s_r10, fr_r10, ap_r7_r8, ap_r7_r10, ap_r8_r10, qh14, eh14⟩
 have E15 := E3.trans eh14
 have z16 := eh14.size
 have lt_r7 := s_r7.lt
 have lt_r8 := s_r8.lt
 have lt_r10 := s_r10.lt
 refine s_pq (.tuple #[.agg #[r7, r8], r10, .int .i64 g11, .int .i64 g12, .int .i64 g13]) <| s_pq (.agg #[r7, r8]) <| s_pq r10 <| s_pq (.int .i64 g11) <| s_pq (.int .i64 g12) <| s_pq (.int .i64 g13) ?_
 refine s_new (fun h18 b17 hbb17 hzb17 eh18 bxb17 => ?_)
 have E19 := E15.trans eh18
 have z20 := eh18.size
 have lbb17 := bxb17.lt
 refine s_stBx (.agg #[r7, r8]) [r7, r8] [r7, r8] bxb17 rfl rfl rfl rfl (by simp) (all_cons s_r7.one1 (all_cons s_r8.one1 all_nil)) rfl (fun h21 mh21 sh21 bxx22 => ?_)
 have E23 := E19.mod mh21 (fun b hb => by simp at hb; omega)
 refine s_pq r10 <| s_pq (.int .i64 g11) <| s_pq (.int .i64 g12) <| s_pq (.int .i64 g13) <| s_nil <| p_seqN <| v_seq <| v_ops <| s_pq v_code <| s_pure (.agg #[v_code, .int .i64 0, .int .u64 0]) (fun _ q => w_build (seg_sl f5 rfl (seg_nil q))) ?_
 refine s_box [v_code, .int .i64 0, .int .u64 0] rfl (fun h25 b24 hbb24 hzb24 eh25 bxb24 => ?_)
 have E26 := E23.trans eh25
 have z27 := eh25.size
 have lbb24 := bxb24.lt
 refine s_pq (.pointer (some ⟨b24, 0, none⟩)) <| s_nil <| p_seqN <| v_seq <| v_seq <| v_ops <| s_pq (.pointer (some ⟨b24, 0, none⟩)) ?_
 have f28 := ((((f5.ext eh14).ext eh18).mod mh21 (fun b hb hc => by simp at hc; have := lt_code b hb; omega)).ext eh25)
 have C29 : Cur h25 b24 68 0 h.size := Cur.mk2 bxb24 f28 lt_code hby (by omega) (by omega)
 refine s_call [.pointer (some ⟨b24, 0, none⟩), .int .i64 3] rfl (spec_l1Cur_one_ok b24 68 0 h.size 3 _ C29 (by omega)) ?_
 rintro _ h31 ⟨g30, rfl, Ch31, mh31⟩
 have zh31 := mh31.size
 have E32 := E26.mod mh31 (fun b hb => by simp at hb; omega)
 refine s_nil <| p_seqN ?_
 refine v_cond rfl (fun c33 => ?_) (fun c33 => ?_)
 ·
  refine v_ops <| s_pq (.pointer (some ⟨b24, 0, none⟩)) <| s_call [.pointer (some ⟨b24, 0, none⟩), .int .i64 200] rfl (spec_l1Cur_pick_ok b24 68 (0 + 2) h.size 200 _ Ch31 (by omega)) ?_
  rintro _ h35 ⟨g34, rfl, qh35, Ch35, mh35⟩
  have zh35 := mh35.size
  have E36 := E32.mod mh35 (fun b hb => by simp at hb; omega)
  refine s_pq (.int .i64 g34) <| s_nil <| p_seqN <| v_seq <| v_ops ?_
  have f37 := (((bxx22.ext eh25).mod mh31 (by simp; omega)).mod mh35 (by simp; omega))
  refine s_load (.agg #[r7, r8]) (fun _ q => f37.loadA rfl q) <| s_pq r10 <| s_pq (.int .i64 g11) <| s_pq (.int .i64 g12) <| s_pq (.int .i64 g34) ?_
  have f38 := ((((((bxb1.ext eh14).ext eh18).mod mh21 (by simp; omega)).ext eh25).mod mh31 (by simp; omega)).mod mh35 (by simp; omega))
  refine s_stBx (.agg #[r7, r8]) [r7, r8] [r7, r8] f38 rfl rfl rfl rfl (by simp) (all_cons s_r7.one1 (all_cons s_r8.one1 all_nil)) rfl (fun h39 mh39 sh39 bxx40 => ?_)
  have E41 := E36.mod mh39 (fun b hb => by simp at hb; omega)
  refine s_pq r10 <| s_pq (.int .i64 g11) <| s_pq (.int .i64 g12) <| s_pq (.int .i64 g34) <| s_nil <| p_seqN <| v_ret <| p_ret [.agg #[r7, r8], r10, .int .i64 g11, .int .i64 g12, .int .i64 g34] (.tuple #[.agg #[r7, r8], r10, .int .i64 g11, .int .i64 g12, .int .i64 g34]) (fun _ q => (bxx40.loadA rfl q)) rfl ?_
  have f42 := ((((((s_r7.ext eh18).mod mh21 (fun b hb hc => by simp at hc; have := lt_r7 b hb; omega)).ext eh25).mod mh31 (fun b hb hc => by simp at hc; have := lt_r7 b hb; omega)).mod mh35 (fun b hb hc => by simp at hc; have := lt_r7 b hb; omega)).mod mh39 (fun b hb hc => by simp at hc; have := fr_r7 b hb; omega))
  have f43 := ((((((s_r8.ext eh18).mod mh21 (fun b hb hc => by simp at hc; have := lt_r8 b hb; omega)).ext eh25).mod mh31 (fun b hb hc => by simp at hc; have := lt_r8 b hb; omega)).mod mh35 (fun b hb hc => by simp at hc; have := lt_r8 b hb; omega)).mod mh39 (fun b hb hc => by simp at hc; have := fr_r8 b hb; omega))
  have f44 := ((((((s_r10.ext eh18).mod mh21 (fun b hb hc => by simp at hc; have := lt_r10 b hb; omega)).ext eh25).mod mh31 (fun b hb hc => by simp at hc; have := lt_r10 b hb; omega)).mod mh35 (fun b hb hc => by simp at hc; have := lt_r10 b hb; omega)).mod mh39 (fun b hb hc => by simp at hc; have := fr_r10 b hb; omega))
  exact ⟨⟨g6.towers, g6.links⟩, g9, g11, g12, g34, r7, r8, r10, rfl, f42, (fr_r7.mono (by omega)), f43, (fr_r8.mono (by omega)), f44, (fr_r10.mono (by omega)), ap_r7_r8, ap_r7_r10, ap_r8_r10, (by (try simp only); first | omega | exact ⟨by omega, by omega⟩ | exact ⟨by omega, by omega, by omega⟩), E41⟩
 refine v_skip <| p_seqN <| v_seq <| v_ops ?_
 have f45 := ((bxx22.ext eh25).mod mh31 (by simp; omega))
 refine s_load (.agg #[r7, r8]) (fun _ q => f45.loadA rfl q) <| s_pq r10 <| s_pq (.int .i64 g11) <| s_pq (.int .i64 g12) <| s_pq (.int .i64 g13) ?_
 have f46 := (((((bxb1.ext eh14).ext eh18).mod mh21 (by simp; omega)).ext eh25).mod mh31 (by simp; omega))
 refine s_stBx (.agg #[r7, r8]) [r7, r8] [r7, r8] f46 rfl rfl rfl rfl (by simp) (all_cons s_r7.one1 (all_cons s_r8.one1 all_nil)) rfl (fun h47 mh47 sh47 bxx48 => ?_)
 have E49 := E32.mod mh47 (fun b hb => by simp at hb; omega)
 refine s_pq r10 <| s_pq (.int .i64 g11) <| s_pq (.int .i64 g12) <| s_pq (.int .i64 g13) <| s_nil <| p_seqN <| v_ret <| p_ret [.agg #[r7, r8], r10, .int .i64 g11, .int .i64 g12, .int .i64 g13] (.tuple #[.agg #[r7, r8], r10, .int .i64 g11, .int .i64 g12, .int .i64 g13]) (fun _ q => (bxx48.loadA rfl q)) rfl ?_
 have f50 := (((((s_r7.ext eh18).mod mh21 (fun b hb hc => by simp at hc; have := lt_r7 b hb; omega)).ext eh25).mod mh31 (fun b hb hc => by simp at hc; have := lt_r7 b hb; omega)).mod mh47 (fun b hb hc => by simp at hc; have := fr_r7 b hb; omega))
 have f51 := (((((s_r8.ext eh18).mod mh21 (fun b hb hc => by simp at hc; have := lt_r8 b hb; omega)).ext eh25).mod mh31 (fun b hb hc => by simp at hc; have := lt_r8 b hb; omega)).mod mh47 (fun b hb hc => by simp at hc; have := fr_r8 b hb; omega))
 have f52 := (((((s_r10.ext eh18).mod mh21 (fun b hb hc => by simp at hc; have := lt_r10 b hb; omega)).ext eh25).mod mh31 (fun b hb hc => by simp at hc; have := lt_r10 b hb; omega)).mod mh47 (fun b hb hc => by simp at hc; have := fr_r10 b hb; omega))
 exact ⟨⟨g6.towers, g6.links⟩, g9, g11, g12, g13, r7, r8, r10, rfl, f50, (fr_r7.mono (by omega)), f51, (fr_r8.mono (by omega)), f52, (fr_r10.mono (by omega)), ap_r7_r8, ap_r7_r10, ap_r8_r10, (by (try simp only); first | omega | exact ⟨by omega, by omega⟩ | exact ⟨by omega, by omega, by omega⟩), E49⟩

theorem spec_DrawArrivalsFrom_ok (v_code : Value) (code : List By) (h : Heap) (s_code : Sl h v_code code) (hby : ∀ y ∈ code, 0 ≤ y.n ∧ y.n ≤ 255) (hsz : code.length ≤ 2000000) : Cn f_spec_DrawArrivalsFrom [v_code] h fun v h' => ∃ g0 : NetP, ∃ g1 : List FogD, ∃ g2 : Int, ∃ g3 : Int, ∃ r0 : Value, ∃ r1 : Value, ∃ r2 : Value, v = .tuple #[.agg #[r0, r1], r2, .int .i64 g2, .int .i64 g3] ∧ SlO h' r0 g0.towers ∧ Fr h.size r0 ∧ SlO h' r1 g0.links ∧ Fr h.size r1 ∧ SlO h' r2 g1 ∧ Fr h.size r2 ∧ (∀ b ∈ blks r0, b ∉ blks r1) ∧ (∀ b ∈ blks r0, b ∉ blks r2) ∧ (∀ b ∈ blks r1, b ∉ blks r2) ∧ (g0.towers.length ≤ 20 ∧ g0.links.length ≤ 50 ∧ g1.length ≤ 61) ∧ Ext h h' := by
 have lt_code := s_code.lt
 have l63_code := s_code.len63
 refine calls_of r_spec_DrawArrivalsFrom ?_
 refine v_seq <| v_ops ?_
 refine s_new (fun h2 b1 hbb1 hzb1 eh2 bxb1 => ?_)
 have E3 := (Ext.refl h).trans eh2
 have z4 := eh2.size
 have lbb1 := bxb1.lt
 refine s_pq (.slice none 0 0) <| s_pq (.int .i64 0) <| s_pq (.int .i64 0) <| s_nil <| p_seqN <| v_seq <| v_ops <| s_pq v_code <| s_pure (.agg #[v_code, .int .i64 0, .int .u64 0]) (fun _ q => w_build (seg_sl s_code rfl (seg_nil q))) ?_
 refine s_box [v_code, .int .i64 0, .int .u64 0] rfl (fun h6 b5 hbb5 hzb5 eh6 bxb5 => ?_)
 have E7 := E3.trans eh6
 have z8 := eh6.size
 have lbb5 := bxb5.lt
 refine s_pq (.pointer (some ⟨b5, 0, none⟩)) <| s_nil <| p_seqN <| v_seq <| v_ops <| s_pq (.pointer (some ⟨b5, 0, none⟩)) ?_
 have f9 := ((s_code.ext eh2).ext eh6)
 have C10 : Cur h6 b5 68 0 h.size := Cur.mk2 bxb5 f9 lt_code hby (by omega) (by omega)
 refine s_call [.pointer (some ⟨b5, 0, none⟩)] rfl (spec_l1Cur_foggy_ok b5 68 0 h.size _ C10 (by omega)) ?_
 rintro _ h16 ⟨g11, g14, r12, r13, r15, rfl, s_r12, fr_r12, s_r13, fr_r13, s_r15, fr_r15, ap_r12_r13, ap_r12_r15, ap_r13_r15, qh16, Ch16, mh16⟩
 have zh16 := mh16.size
 have E17 := E7.mod mh16 (fun b hb => by simp at hb; omega)
 have lt_r12 := s_r12.lt
 have lt_r13 := s_r13.lt
 have lt_r15 := s_r15.lt
 refine s_pq (.tuple #[.agg #[r12, r13], r15]) <| s_pq (.agg #[r12, r13]) <| s_pq r15 ?_
 refine s_new (fun h19 b18 hbb18 hzb18 eh19 bxb18 => ?_)
 have E20 := E17.trans eh19
 have z21 := eh19.size
 have lbb18 := bxb18.lt
 refine s_stBx (.agg #[r12, r13]) [r12, r13] [r12, r13] bxb18 rfl rfl rfl rfl (by simp) (all_cons s_r12.one1 (all_cons s_r13.one1 all_nil)) rfl (fun h22 mh22 sh22 bxx23 => ?_)
 have E24 := E20.mod mh22 (fun b hb => by simp at hb; omega)
 refine s_pq r15 <| s_nil <| p_seqN <| v_seq ?_
 refine v_draw (DrawVC.hold ([b18]) ?_)
 refine d_pq r15 <| d_pq (.pointer (some ⟨b5, 0, none⟩)) <| d_pq (.pointer (some ⟨b5, 0, none⟩)) <| d_loadO (.agg #[r12, r13]) (fun _ q => bxx23.loadA rfl q) <| d_loadT (.agg #[r12, r13]) (fun _ q => bxx23.takeA (by simp) rfl q) <| d_eff ?_
 have f25 := ((Ch16.ext eh19).mod mh22 (by simp; omega) (fun b hb => by simp at hb; omega))
 have f26 := ((s_r12.ext eh19).mod mh22 (fun b hb hc => by simp at hc; have := lt_r12 b hb; omega))
 have f27 := ((s_r13.ext eh19).mod mh22 (fun b hb hc => by simp at hc; have := lt_r13 b hb; omega))
 refine s_call [.pointer (some ⟨b5, 0, none⟩), .agg #[r12, r13]] rfl (spec_l1Cur_tower_ok b5 68 (0 + 12000) h.size g11 r12 r13 _ f25 f26.toSl (fun b hb hc => by simp at hc; have := fr_r12 b hb; omega) f27.toSl (fun b hb hc => by simp at hc; have := fr_r13 b hb; omega) (by omega) (by first | omega | assumption | (simp; done) | (simp; omega))) ?_
 rintro _ h29 ⟨g28, rfl, qh29, Ch29, mh29⟩
 have zh29 := mh29.size
 have E30 := E24.mod mh29 (fun b hb => by simp at hb; omega)
 have G31 := gmod1 (b := b18) (h := h22) (h0 := h22) mh29 (by omega) (by simp; omega) (fun _ _ => rfl)
 refine s_nil ⟨fun _ x hx => G31 x hx, ?_⟩
 refine d_eff <| s_call [.pointer (some ⟨b5, 0, none⟩)] rfl (spec_l1Cur_second_ok b5 68 ((0 + 12000) + 20) h.size _ Ch29 (by omega)) ?_
 rintro _ h33 ⟨g32, rfl, qh33, Ch33, mh33⟩
 have zh33 := mh33.size
 have E34 := E30.mod mh33 (fun b hb => by simp at hb; omega)
 have G35 := gmod1 (b := b18) (h := h29) (h0 := h22) mh33 (by omega) (by simp; omega) G31
 refine s_nil ⟨fun _ x hx => G35 x hx, ?_⟩
 refine d_eff ?_
 have f36 := ((((((bxb1.ext eh6).mod mh16 (by simp; omega)).ext eh19).mod mh22 (by simp; omega)).mod mh29 (by simp; omega)).mod mh33 (by simp; omega))
 refine s_stBx (.agg #[r12, r13]) [r12, r13] [r12, r13] f36 rfl rfl rfl rfl (by simp) (all_cons f26.one1 (all_cons f27.one1 all_nil)) rfl (fun h37 mh37 sh37 bxx38 => ?_)
 have E39 := E34.mod mh37 (fun b hb => by simp at hb; omega)
 refine s_nil ⟨fun hl => (by cases hl), ?_⟩
 refine d_pq r15 <| d_pq (.int .i64 g28) <| d_pq (.int .i64 g32) <| d_done <| p_seqN <| v_ret <| p_ret [.agg #[r12, r13], r15, .int .i64 g28, .int .i64 g32] (.tuple #[.agg #[r12, r13], r15, .int .i64 g28, .int .i64 g32]) (fun _ q => (bxx38.loadA rfl q)) rfl ?_
 have f40 := (((f26.mod mh29 (fun b hb hc => by simp at hc; have := fr_r12 b hb; omega)).mod mh33 (fun b hb hc => by simp at hc; have := fr_r12 b hb; omega)).mod mh37 (fun b hb hc => by simp at hc; have := fr_r12 b hb; omega))
 have f41 := (((f27.mod mh29 (fun b hb hc => by simp at hc; have := fr_r13 b hb; omega)).mod mh33 (fun b hb hc => by simp at hc; have := fr_r13 b hb; omega)).mod mh37 (fun b hb hc => by simp at hc; have := fr_r13 b hb; omega))
 have f42 := (((((s_r15.ext eh19).mod mh22 (fun b hb hc => by simp at hc; have := lt_r15 b hb; omega)).mod mh29 (fun b hb hc => by simp at hc; have := fr_r15 b hb; omega)).mod mh33 (fun b hb hc => by simp at hc; have := fr_r15 b hb; omega)).mod mh37 (fun b hb hc => by simp at hc; have := fr_r15 b hb; omega))
 exact ⟨⟨g11.towers, g11.links⟩, g14, g28, g32, r12, r13, r15, rfl, f40, (fr_r12.mono (by omega)), f41, (fr_r13.mono (by omega)), f42, (fr_r15.mono (by omega)), ap_r12_r13, ap_r12_r15, ap_r13_r15, (by (try simp only); first | omega | exact ⟨by omega, by omega⟩ | exact ⟨by omega, by omega, by omega⟩), E39⟩

end Go.Proofs.Ytgbaonaopkdlpaa


/- Contracts wanted by the laws of ways. Condition: none. Printed in part by a program. -/
namespace Go.Proofs.Ytgbaonaopkdlpaa
open Go.Vc
set_option linter.all false

theorem q_step {α : Type} {a b : List α} {k : Nat} {x y : α} (h : a.take k = b.take k) (hx : a[k]? = some x) (hy : b[k]? = some y) (e : x = y) : a.take (k + 1) = b.take (k + 1) := by
 rw [List.take_add_one, List.take_add_one, h, hx, hy, e]
theorem q_done {α : Type} {a b : List α} {k : Nat} (h : a.take k = b.take k) (hk : ¬ (k : Int) < (a.length : Int)) (hl : (a.length : Int) = (b.length : Int)) : a = b := by
 rw [List.take_of_length_le (by omega), List.take_of_length_le (by omega)] at h; exact h
theorem q_ne {α : Type} {a b : List α} {k : Nat} {x y : α} (hx : a[k]? = some x) (hy : b[k]? = some y) (h : ¬ x = y) : a ≠ b := fun e => by
 subst e; rw [hx] at hy; exact h (Option.some.inj hy)
noncomputable def lbOut (n : NetP) (a b : Int) : Int × Bool := if (NetOk n ∧ (0 ≤ a ∧ a ≤ (n.towers.length : Int) - 1)) ∧ (NetOk n ∧ (0 ≤ b ∧ b ≤ (n.towers.length : Int) - 1)) ∧ 0 ≤ lkI n a b then (lkI n a b, true) else (0, false)
/-- one step along a way -/
theorem step_facts {n : NetP} {l : List FogD} {way : List Int} {t : Int} (h : AlongAsk n l way t) {k j : Nat} (hj : j = k + 1) {y x : Int} (hy : way[k]? = some y) (hx : way[j]? = some x) : lbOut n y x = (lkI n y x, true) ∧ 0 ≤ lkI n y x ∧ (lkI n y x).toNat < n.links.length := by
 subst hj
 have h0 := h.hw.link hy hx
 have hb := lkI_bd h.hn y x
 refine ⟨by rw [lbOut, if_pos ⟨⟨h.hn, h.hw.all _ (List.mem_of_getElem? hy)⟩, ⟨h.hn, h.hw.all _ (List.mem_of_getElem? hx)⟩, h0⟩], h0, by omega⟩
theorem step_wait {n : NetP} {l : List FogD} {way : List Int} {t : Int} (h : AlongAsk n l way t) {k j : Nat} (hj : j = k + 1) {y x w : Int} {z : LinkD} (hy : way[k]? = some y) (hx : way[j]? = some x) (hw : (waitsOf n l way t).1[k]? = some w) (hz : n.links[((lbOut n y x).1).toNat]? = some z) :
  0 ≤ w ∧ (alTo n l ((linksOf n way).take j) t).1 = (alTo n l ((linksOf n way).take k) t).1 + (w + z.delay) ∧ 1 ≤ z.delay ∧ z.delay ≤ 60 ∧ 0 ≤ (alTo n l ((linksOf n way).take k) t).1 ∧ (alTo n l ((linksOf n way).take j) t).1 ≤ 20000 := by
 obtain ⟨e1, e2, e3⟩ := step_facts h hj hy hx
 subst hj
 rw [e1] at hz
 simp only at hz
 have hz2 : lk n (lkI n y x) = z := by
  have := lk_get hz
  rw [show (((lkI n y x).toNat : Nat) : Int) = lkI n y x by omega] at this; exact this
 have hW : (waitsOf n l way t).1 = (alTo n l (linksOf n way) t).2 := by rw [waitsOf, along_yes h]
 rw [hW] at hw
 obtain ⟨a1, a2⟩ := along_wait hy hx hw
 rw [hz2] at a2
 have hok := h.hn.at hz
 have hl := h.hw.len
 have hk := (List.getElem?_eq_some_iff.1 hx).1
 have b1 := alTo_bd h.hn h.hf h.hw h.ht k (by rw [linksOf, linksTo_len]; omega)
 have b2 := alTo_bd h.hn h.hf h.hw h.ht (k + 1) (by rw [linksOf, linksTo_len]; omega)
 have ht := h.ht
 exact ⟨a1, a2, hok.2.2.2.1, hok.2.2.2.2, by omega, by omega⟩
theorem waits_pos {n : NetP} {l : List FogD} {way : List Int} {t : Int} (h : AlongAsk n l way t) {k : Nat} {w : Int} (hw : (waitsOf n l way t).1[k]? = some w) : 0 ≤ w := by
 have hW : (waitsOf n l way t).1 = (alTo n l (linksOf n way) t).2 := by rw [waitsOf, along_yes h]
 rw [hW] at hw
 have hk := (List.getElem?_eq_some_iff.1 hw).1
 rw [alTo_len, linksOf, linksTo_len] at hk
 exact (along_wait (List.getElem?_eq_getElem (show k < way.length by omega)) (List.getElem?_eq_getElem (show k + 1 < way.length by omega)) hw).1
theorem laws_qInts_ok (v_a : Value) (a : List Int) (v_b : Value) (b : List Int) (h : Heap) (s_a : Sl h v_a a) (s_b : Sl h v_b b) : Cn f_laws_qInts [v_a, v_b] h fun v h' => v = .bool (decide (a = b)) ∧ Ext h h' := by
 have l63_a := s_a.len63
 have l63_b := s_b.len63
 refine calls_of r_laws_qInts ?_
 refine v_seq <| v_ops <| s_pq (.bool false) <| s_nil <| p_seqN <| v_seq <| v_seq <| v_ops <| s_pq v_a <| s_pure (.int .i64 (a.length : Int)) (fun _ q => s_a.lenVC q) <| s_pq v_b <| s_pure (.int .i64 (b.length : Int)) (fun _ q => s_b.lenVC q) <| s_pq (.bool ((a.length : Int) != (b.length : Int))) <| s_nil <| p_seqN ?_
 refine v_cond rfl (fun c1 => ?_) (fun c1 => ?_)
 ·
  refine v_seq <| v_ops <| s_pq (.bool false) <| s_nil <| p_seqN <| v_ret <| p_seqR <| p_ret [.bool false] (.bool false) (fun _ q => q) rfl ?_
  have ho : (decide (a = b)) = false := by first | exact decide_eq_true (q_done hab (by assumption) (by assumption)) | exact decide_eq_false (q_ne (by assumption) (by assumption) (by assumption)) | exact decide_eq_false (fun hc => by subst hc; omega)
  exact ⟨by first | (rw [ho]; done) | rfl, (Ext.refl h)⟩
 have c1 := Classical.not_not.1 c1
 refine v_skip <| p_seqN <| v_seq <| v_seq <| v_ops <| s_pq v_a <| s_pure (.int .i64 (a.length : Int)) (fun _ q => s_a.lenVC q) <| s_pq (.int .i64 0) <| s_nil <| p_seqN <| v_block <| v_loop1 (α := Nat) (fun k => [(0, v_a), (1, v_b), (12, .int .i64 (a.length : Int)), (13, .int .i64 (k : Int))]) (fun k hh => Ext h hh ∧ k ≤ a.length ∧ a.take k = b.take k) (fun k => a.length - k) 0 ⟨rfl, rfl, rfl, rfl⟩ ⟨(Ext.refl h), (by simp)⟩ ?_
 rintro k R3 h2 ⟨Eh, ⟨hk, hab⟩⟩
 have zEh := Eh.size
 have f5 := s_a.ext Eh
 have f6 := s_b.ext Eh
 refine v_seq <| v_ops <| s_pq (.bool (decide ((k : Int) < (a.length : Int)))) <| s_nil <| p_seqN <| v_seq ?_
 refine v_cond rfl (fun c7 => ?_) (fun c7 => ?_)
 ·
  refine v_skip <| p_seqN <| v_seq <| v_block <| v_seq <| v_ops <| s_pq (.int .i64 (k : Int)) <| s_pq (.int .i64 (k : Int)) <| s_nil <| p_seqN <| v_seq <| v_ops <| s_pq v_a <| s_pq (.int .i64 (k : Int)) ?_
  have hk8 : k < a.length := (by first | omega | (simp; omega))
  obtain ⟨x9, hx9⟩ : ∃ x, a[k]? = some x := ⟨_, List.getElem?_eq_getElem hk8⟩
  refine s_pure (.pointer (some ⟨sblk v_a, soff v_a + k * 1, none⟩)) (fun _ q => f5.idx (k := k) rfl hk8 q) <| s_pq v_b <| s_pq (.int .i64 (k : Int)) ?_
  have hk10 : k < b.length := (by first | omega | (simp; omega))
  obtain ⟨x11, hx11⟩ : ∃ x, b[k]? = some x := ⟨_, List.getElem?_eq_getElem hk10⟩
  refine s_pure (.pointer (some ⟨sblk v_b, soff v_b + k * 1, none⟩)) (fun _ q => f6.idx (k := k) rfl hk10 q) <| s_load (.int .i64 x9) (fun _ q => f5.load1 hx9 rfl q) <| s_load (.int .i64 x11) (fun _ q => f6.load1 hx11 rfl q) <| s_pq (.bool (x9 != x11)) <| s_nil <| p_seqN ?_
  refine v_cond rfl (fun c12 => ?_) (fun c12 => ?_)
  ·
   refine v_seq <| v_ops <| s_pq (.bool false) <| s_nil <| p_seqN <| v_ret <| p_blkR <| p_seqR <| p_lpR <| p_blkR <| p_seqR <| p_ret [.bool false] (.bool false) (fun _ q => q) rfl ?_
   have ho : (decide (a = b)) = false := by first | exact decide_eq_true (q_done hab (by assumption) (by assumption)) | exact decide_eq_false (q_ne (by assumption) (by assumption) (by assumption)) | exact decide_eq_false (fun hc => by subst hc; omega)
   exact ⟨by first | (rw [ho]; done) | rfl, Eh⟩
  have c12 := Classical.not_not.1 c12
  refine v_skip <| p_blkN <| p_seqN <| v_ops <| s_pure (.int .i64 ((k : Int) + 1)) (fun _ q => ArithVC.mk (by omega) q) <| s_pq (.int .i64 ((k : Int) + 1)) <| s_nil ?_
  exact p_lpN ⟨k + 1, ⟨rfl, rfl, rfl, rfl⟩, ⟨Eh, (by exact ⟨by omega, q_step hab (by assumption) (by assumption) (by first | assumption | (simp_all; done))⟩)⟩, by omega⟩
 refine v_exit <| p_seqX <| p_lpX <| p_blkX <| p_seqN <| v_seq <| v_ops <| s_pq (.bool true) <| s_nil <| p_seqN <| v_ret <| p_ret [.bool true] (.bool true) (fun _ q => q) rfl ?_
 have ho : (decide (a = b)) = true := by first | exact decide_eq_true (q_done hab (by assumption) (by assumption)) | exact decide_eq_false (q_ne (by assumption) (by assumption) (by assumption)) | exact decide_eq_false (fun hc => by subst hc; omega)
 exact ⟨by first | (rw [ho]; done) | rfl, Eh⟩

theorem laws_qSum_ok (v_l : Value) (l : List Int) (h : Heap) (s_l : Sl h v_l l) (hb : ∀ x ∈ l, 0 ≤ x ∧ x ≤ 1000000) (hl : l.length ≤ 1000000) : Cn f_laws_qSum [v_l] h fun v h' => v = .int .i64 l.sum ∧ Ext h h' := by
 have l63_l := s_l.len63
 refine calls_of r_laws_qSum ?_
 refine v_seq <| v_ops <| s_pq (.int .i64 0) <| s_nil <| p_seqN <| v_seq <| v_ops <| s_pq (.int .i64 0) <| s_nil <| p_seqN <| v_seq <| v_seq <| v_ops <| s_pq v_l <| s_pure (.int .i64 (l.length : Int)) (fun _ q => s_l.lenVC q) <| s_pq (.int .i64 0) <| s_nil <| p_seqN <| v_block <| v_loop2 (α := Nat) (β := Int) (fun k n => [(3, .int .i64 n), (6, v_l), (7, .int .i64 (l.length : Int)), (8, .int .i64 (k : Int))]) (fun k n hh => Ext h hh ∧ k ≤ l.length ∧ n = (l.take k).sum ∧ 0 ≤ n ∧ n ≤ 1000000 * (k : Int)) (fun k n => l.length - k) 0 0 ⟨rfl, rfl, rfl, rfl⟩ ⟨(Ext.refl h), (by simp)⟩ ?_
 rintro k n R2 h1 ⟨Eh, ⟨hk, hn, hn0, hn1⟩⟩
 have zEh := Eh.size
 have f4 := s_l.ext Eh
 refine v_seq <| v_ops <| s_pq (.bool (decide ((k : Int) < (l.length : Int)))) <| s_nil <| p_seqN <| v_seq ?_
 refine v_cond rfl (fun c5 => ?_) (fun c5 => ?_)
 ·
  refine v_skip <| p_seqN <| v_seq <| v_block <| v_seq <| v_ops ?_
  have hk6 : k < l.length := (by first | omega | (simp; omega))
  obtain ⟨x7, hx7⟩ : ∃ x, l[k]? = some x := ⟨_, List.getElem?_eq_getElem hk6⟩
  refine s_pure (.pointer (some ⟨sblk v_l, soff v_l + k * 1, none⟩)) (fun _ q => f4.idx (k := k) rfl hk6 q) <| s_load (.int .i64 x7) (fun _ q => f4.load1 hx7 rfl q) <| s_pq (.int .i64 x7) <| s_nil <| p_seqN <| v_ops <| s_pq (.int .i64 n) <| s_pq (.int .i64 x7) <| s_pure (.int .i64 (n + x7)) (fun _ q => ArithVC.mk (by (have hx_ := hb _ (List.mem_of_getElem? hx7)); omega) q) <| s_pq (.int .i64 (n + x7)) <| s_nil <| p_blkN <| p_seqN <| v_ops <| s_pure (.int .i64 ((k : Int) + 1)) (fun _ q => ArithVC.mk (by omega) q) ?_
  refine s_pq (.int .i64 ((k : Int) + 1)) <| s_nil ?_
  exact p_lpN ⟨k + 1, (n + x7), ⟨rfl, rfl, rfl, rfl⟩, ⟨Eh, (by (have hx_ := hb _ (List.mem_of_getElem? hx7)); exact ⟨by omega, by rw [List.take_add_one, hx7]; simp [hn], by omega, by omega⟩)⟩, by omega⟩
 refine v_exit <| p_seqX <| p_lpX <| p_blkX <| p_seqN <| v_seq <| v_ops <| s_pq (.int .i64 n) <| s_pq (.int .i64 n) <| s_nil <| p_seqN <| v_ret <| p_ret [.int .i64 n] (.int .i64 n) (fun _ q => q) rfl ?_
 have ho : l.sum = n := by rw [hn, List.take_of_length_le (by omega)]
 exact ⟨by first | (rw [ho]; done) | rfl, Eh⟩

set_option maxRecDepth 10000 in
set_option maxHeartbeats 4000000 in
theorem spec_LinkBetween_ok (n : NetP) (v_n_towers : Value) (v_n_links : Value) (a : Int) (b : Int) (h : Heap) (s_n_towers : Sl h v_n_towers n.towers) (s_n_links : Sl h v_n_links n.links) : Cn f_spec_LinkBetween [.agg #[v_n_towers, v_n_links], .int .i64 a, .int .i64 b] h fun v h' => v = .tuple #[.int .i64 ((lbOut n a b).1), .bool ((lbOut n a b).2)] ∧ Ext h h' := by
 have l63_n_towers := s_n_towers.len63
 have l63_n_links := s_n_links.len63
 refine calls_of r_spec_LinkBetween ?_
 refine v_seq <| v_ops ?_
 refine s_box [v_n_towers, v_n_links] rfl (fun h2 b1 hbb1 hzb1 eh2 bxb1 => ?_)
 have E3 := (Ext.refl h).trans eh2
 have z4 := eh2.size
 have lbb1 := bxb1.lt
 refine s_pq (.int .i64 0) <| s_pq (.bool false) <| s_nil <| p_seqN <| v_seq <| v_seq <| v_ops <| s_load (.agg #[v_n_towers, v_n_links]) (fun _ q => bxb1.loadA rfl q) <| s_pq (.int .i64 a) ?_
 have f5 := (s_n_towers.ext eh2)
 have f6 := (s_n_links.ext eh2)
 refine s_call [.agg #[v_n_towers, v_n_links], .int .i64 a] rfl (spec_neHas_ok n v_n_towers v_n_links a _ f5 f6) ?_
 rintro _ h7 ⟨rfl, eh7⟩
 have E8 := E3.trans eh7
 have z9 := eh7.size
 refine s_pq (.bool (!(decide (NetOk n ∧ (0 ≤ a ∧ a ≤ (n.towers.length : Int) - 1))))) <| s_pq (.bool (!(decide (NetOk n ∧ (0 ≤ a ∧ a ≤ (n.towers.length : Int) - 1))))) ?_
 refine s_splitT rfl (fun c10 => ?_) (fun c10 => ?_)
 ·
  refine s_pass rfl <| s_pass rfl <| s_pass rfl <| s_pass rfl <| s_pq (.bool true) <| s_pq (.bool true) <| s_splitY rfl rfl <| s_pass rfl <| s_pass rfl <| s_pass rfl <| s_pass rfl <| s_pass rfl <| s_pq (.bool true) <| s_nil <| p_seqN <| v_condY rfl rfl <| v_seq <| v_ops <| s_pq (.int .i64 0) <| s_pq (.bool false) <| s_nil <| p_seqN <| v_ret <| p_seqR <| p_ret [.int .i64 0, .bool false] (.tuple #[.int .i64 0, .bool false]) (fun _ q => q) rfl ?_
  have ho : lbOut n a b = (0, false) := by first | (rw [lbOut, if_pos ⟨by assumption, by assumption, by omega⟩]; done) | (rw [lbOut, if_neg (fun hc => by first | exact absurd hc.1 (by assumption) | exact absurd hc.2.1 (by assumption) | (have := hc.2.2; omega))]; done)
  exact ⟨by first | (rw [ho]; done) | rfl, E8⟩
 have c10 := Classical.not_not.1 c10
 refine s_run rfl ?_
 have f11 := (bxb1.ext eh7)
 refine s_load (.agg #[v_n_towers, v_n_links]) (fun _ q => f11.loadA rfl q) <| s_run rfl <| s_pq (.int .i64 b) <| s_run rfl ?_
 have f12 := (f5.ext eh7)
 have f13 := (f6.ext eh7)
 refine s_call [.agg #[v_n_towers, v_n_links], .int .i64 b] rfl (spec_neHas_ok n v_n_towers v_n_links b _ f12 f13) ?_
 rintro _ h14 ⟨rfl, eh14⟩
 have E15 := E8.trans eh14
 have z16 := eh14.size
 refine s_run rfl <| s_pq (.bool (!(decide (NetOk n ∧ (0 ≤ b ∧ b ≤ (n.towers.length : Int) - 1))))) <| s_pq (.bool (!(decide (NetOk n ∧ (0 ≤ b ∧ b ≤ (n.towers.length : Int) - 1))))) <| s_pq (.bool (!(decide (NetOk n ∧ (0 ≤ b ∧ b ≤ (n.towers.length : Int) - 1))))) ?_
 refine s_splitT rfl (fun c17 => ?_) (fun c17 => ?_)
 ·
  refine s_pass rfl <| s_pass rfl <| s_pass rfl <| s_pass rfl <| s_pass rfl <| s_pq (.bool true) <| s_nil <| p_seqN <| v_condY rfl rfl <| v_seq <| v_ops <| s_pq (.int .i64 0) <| s_pq (.bool false) <| s_nil <| p_seqN <| v_ret <| p_seqR <| p_ret [.int .i64 0, .bool false] (.tuple #[.int .i64 0, .bool false]) (fun _ q => q) rfl ?_
  have ho : lbOut n a b = (0, false) := by first | (rw [lbOut, if_pos ⟨by assumption, by assumption, by omega⟩]; done) | (rw [lbOut, if_neg (fun hc => by first | exact absurd hc.1 (by assumption) | exact absurd hc.2.1 (by assumption) | (have := hc.2.2; omega))]; done)
  exact ⟨by first | (rw [ho]; done) | rfl, E15⟩
 have c17 := Classical.not_not.1 c17
 refine s_run rfl ?_
 have f18 := (f11.ext eh14)
 refine s_load (.agg #[v_n_towers, v_n_links]) (fun _ q => f18.loadA rfl q) <| s_run rfl <| s_pq (.int .i64 a) <| s_run rfl <| s_pq (.int .i64 b) <| s_run rfl ?_
 have f19 := (f12.ext eh14)
 have f20 := (f13.ext eh14)
 refine s_call [.agg #[v_n_towers, v_n_links], .int .i64 a, .int .i64 b] rfl (spec_neLink_ok n v_n_towers v_n_links a b _ f19 f20) ?_
 rintro _ h21 ⟨rfl, eh21⟩
 have E22 := E15.trans eh21
 have z23 := eh21.size
 refine s_run rfl <| s_pq (.bool (decide ((lkI n a b) < 0))) <| s_pq (.bool (decide ((lkI n a b) < 0))) <| s_nil <| p_seqN ?_
 refine v_cond rfl (fun c24 => ?_) (fun c24 => ?_)
 ·
  refine v_seq <| v_ops <| s_pq (.int .i64 0) <| s_pq (.bool false) <| s_nil <| p_seqN <| v_ret <| p_seqR <| p_ret [.int .i64 0, .bool false] (.tuple #[.int .i64 0, .bool false]) (fun _ q => q) rfl ?_
  have ho : lbOut n a b = (0, false) := by first | (rw [lbOut, if_pos ⟨by assumption, by assumption, by omega⟩]; done) | (rw [lbOut, if_neg (fun hc => by first | exact absurd hc.1 (by assumption) | exact absurd hc.2.1 (by assumption) | (have := hc.2.2; omega))]; done)
  exact ⟨by first | (rw [ho]; done) | rfl, E22⟩
 refine v_skip <| p_seqN <| v_seq <| v_ops ?_
 have f25 := (f18.ext eh21)
 refine s_load (.agg #[v_n_towers, v_n_links]) (fun _ q => f25.loadA rfl q) <| s_pq (.int .i64 a) <| s_pq (.int .i64 b) ?_
 have f26 := (f19.ext eh21)
 have f27 := (f20.ext eh21)
 refine s_call [.agg #[v_n_towers, v_n_links], .int .i64 a, .int .i64 b] rfl (spec_neLink_ok n v_n_towers v_n_links a b _ f26 f27) ?_
 rintro _ h28 ⟨rfl, eh28⟩
 have E29 := E22.trans eh28
 have z30 := eh28.size
 refine s_pq (.int .i64 (lkI n a b)) <| s_pq (.bool true) <| s_nil <| p_seqN <| v_ret <| p_ret [.int .i64 (lkI n a b), .bool true] (.tuple #[.int .i64 (lkI n a b), .bool true]) (fun _ q => q) rfl ?_
 have ho : lbOut n a b = ((lkI n a b), true) := by first | (rw [lbOut, if_pos ⟨by assumption, by assumption, by omega⟩]; done) | (rw [lbOut, if_neg (fun hc => by first | exact absurd hc.1 (by assumption) | exact absurd hc.2.1 (by assumption) | (have := hc.2.2; omega))]; done)
 exact ⟨by first | (rw [ho]; done) | rfl, E29⟩

end Go.Proofs.Ytgbaonaopkdlpaa


/- Facts for the law of first arrivals. Condition: none. Printed in part by a program. -/
namespace Go.Proofs.Ytgbaonaopkdlpaa
open Go.Vc
set_option linter.all false

theorem arr_all {n : NetP} {l : List FogD} {a t : Int} {i : Nat} {x : Int} (h : (arrsFrom n l a t).2 = true) (hx : (arrsFrom n l a t).1[i]? = some x) :
    (firstOf n l a (i : Int) t).2 = decide (x ≥ 0) ∧ ((firstOf n l a (i : Int) t).2 = true → (firstOf n l a (i : Int) t).1 = x ∧ t ≤ x) ∧ ((i : Int) = a → x = t) := by
  obtain ⟨h1, h2, h3, h4⟩ := arrs_at h hx
  by_cases c : 0 ≤ x
  · rw [h1 c]; exact ⟨(decide_eq_true c).symm, fun _ => ⟨rfl, h3 c⟩, h4⟩
  · rw [h2 (by omega)]; exact ⟨(decide_eq_false c).symm, (fun hc => by cases hc), h4⟩
theorem way_along {n : NetP} {l : List FogD} {way : List Int} {t : Int} (h : AlongAsk n l way t) : (arrivOf n l way t).2 = true ∧ (waitsOf n l way t).2 = true ∧ (arrivOf n l way t).1 = (alTo n l (linksOf n way) t).1 ∧ (waitsOf n l way t).1.length + 1 = way.length := by
 have hl := h.hw.len
 have hW : waitsOf n l way t = ((alTo n l (linksOf n way) t).2, true) := by rw [waitsOf, along_yes h]
 have hA : arrivOf n l way t = ((alTo n l (linksOf n way) t).1, true) := by rw [arrivOf, along_yes h]
 refine ⟨by rw [hA], by rw [hW], by rw [hA], ?_⟩
 rw [hW]
 simp only
 rw [alTo_len, linksOf, linksTo_len]; omega
theorem waits_bd {n : NetP} {l : List FogD} {way : List Int} {t : Int} (h : AlongAsk n l way t) : ∀ w ∈ (waitsOf n l way t).1, 0 ≤ w ∧ w ≤ 1000000 := by
 intro w hw
 obtain ⟨k, hk, e⟩ := List.getElem_of_mem hw
 have hx : (waitsOf n l way t).1[k]? = some w := by rw [List.getElem?_eq_getElem hk, e]
 refine ⟨waits_pos h hx, ?_⟩
 have hl := (way_along h).2.2.2
 have hy : way[k]? = some way[k] := List.getElem?_eq_getElem (by omega)
 have hz : way[k + 1]? = some way[k + 1] := List.getElem?_eq_getElem (by omega)
 obtain ⟨e1, e2, e3⟩ := step_facts h rfl hy hz
 obtain ⟨z, hg⟩ : ∃ z, n.links[((lbOut n way[k] way[k + 1]).1).toNat]? = some z := by
  rw [e1]; exact ⟨_, List.getElem?_eq_getElem e3⟩
 have := step_wait h rfl hy hz hx hg
 omega


theorem sum_step {n : NetP} {l : List FogD} {way : List Int} {t : Int} (h : AlongAsk n l way t) {k j : Nat} (hj : j = k + 1) {y x s : Int} {z : LinkD} (hy : way[k]? = some y) (hx : way[j]? = some x) (hz : n.links[((lbOut n y x).1).toNat]? = some z)
  (hs : (alTo n l ((linksOf n way).take k) t).1 = t + s + ((waitsOf n l way t).1.take k).sum) : (alTo n l ((linksOf n way).take j) t).1 = t + (s + z.delay) + ((waitsOf n l way t).1.take j).sum ∧ 1 ≤ z.delay ∧ z.delay ≤ 60 := by
 have hl := (way_along h).2.2.2
 have hj2 := (List.getElem?_eq_some_iff.1 hx).1
 have hw : (waitsOf n l way t).1[k]? = some (waitsOf n l way t).1[k] := List.getElem?_eq_getElem (by omega)
 obtain ⟨_, e, d1, d2, _⟩ := step_wait h hj hy hx hw hz
 refine ⟨?_, d1, d2⟩
 subst hj
 rw [e, hs, List.take_add_one, hw]
 simp only [Option.toList_some, List.sum_append, List.sum_cons, List.sum_nil]
 omega
theorem sum_end {n : NetP} {l : List FogD} {way : List Int} {t : Int} (h : AlongAsk n l way t) {k : Nat} {s : Int} (hk : way.length ≤ k + 1)
  (hs : (alTo n l ((linksOf n way).take k) t).1 = t + s + ((waitsOf n l way t).1.take k).sum) : (alTo n l (linksOf n way) t).1 = t + s + (waitsOf n l way t).1.sum := by
 have hl := (way_along h).2.2.2
 rw [along_all (l := l) (t := t) hk, List.take_of_length_le (by omega)] at hs; exact hs
theorem along_bd {n : NetP} {l : List FogD} {way : List Int} {t : Int} (h : AlongAsk n l way t) : t ≤ (alTo n l (linksOf n way) t).1 ∧ (alTo n l (linksOf n way) t).1 ≤ 20000 ∧ 0 ≤ t ∧ t ≤ 10000 ∧ way.length ≤ 16 := by
 have hl := h.hw.len
 have b := alTo_bd h.hn h.hf h.hw h.ht (linksOf n way).length (Nat.le_refl _)
 rw [List.take_length] at b
 have e : (linksOf n way).length ≤ 16 := by rw [linksOf, linksTo_len]; omega
 have ht := h.ht
 exact ⟨b.1, by omega, ht.1, ht.2, hl.2⟩

end Go.Proofs.Ytgbaonaopkdlpaa

