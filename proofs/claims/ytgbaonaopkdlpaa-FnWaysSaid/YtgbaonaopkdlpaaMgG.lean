/- Wy5, Wy6. Condition: none. -/
import Derived.Test.YtgbaonaopkdlpaaMgF
import Derived.Test.YtgbaonaopkdlpaaMgD
/- What is drawn for the laws of ways. Condition: none. Printed in part by a program. -/
namespace Go.Proofs.Ytgbaonaopkdlpaa
open Go.Vc
set_option linter.all false
theorem spec_DrawPlainDelay_ok (v_code : Value) (code : List By) (h : Heap) (s_code : Sl h v_code code) (hby : ∀ y ∈ code, 0 ≤ y.n ∧ y.n ≤ 255) (hsz : code.length ≤ 2000000) : Cn f_spec_DrawPlainDelay [v_code] h fun v h' => ∃ g0 : NetP, ∃ g1 : Int, ∃ g2 : Int, ∃ r0 : Value, ∃ r1 : Value, v = .tuple #[.agg #[r0, r1], .int .i64 g1, .int .i64 g2] ∧ SlO h' r0 g0.towers ∧ Fr h.size r0 ∧ SlO h' r1 g0.links ∧ Fr h.size r1 ∧ (∀ b ∈ blks r0, b ∉ blks r1) ∧ (g0.towers.length ≤ 20 ∧ g0.links.length ≤ 50) ∧ Ext h h' := by
 have lt_code := s_code.lt
 have l63_code := s_code.len63
 refine calls_of r_spec_DrawPlainDelay ?_
 refine v_seq <| v_ops ?_
 refine s_new (fun h2 b1 hbb1 hzb1 eh2 bxb1 => ?_)
 have E3 := (Ext.refl h).trans eh2
 have z4 := eh2.size
 have lbb1 := bxb1.lt
 refine s_pq (.int .i64 0) <| s_pq (.int .i64 0) <| s_nil <| p_seqN <| v_seq <| v_ops <| s_pq v_code <| s_pure (.agg #[v_code, .int .i64 0, .int .u64 0]) (fun _ q => w_build (seg_sl s_code rfl (seg_nil q))) ?_
 refine s_box [v_code, .int .i64 0, .int .u64 0] rfl (fun h6 b5 hbb5 hzb5 eh6 bxb5 => ?_)
 have E7 := E3.trans eh6
 have z8 := eh6.size
 have lbb5 := bxb5.lt
 refine s_pq (.pointer (some ⟨b5, 0, none⟩)) <| s_nil <| p_seqN <| v_seq <| v_ops <| s_pq (.pointer (some ⟨b5, 0, none⟩)) ?_
 have f9 := ((s_code.ext eh2).ext eh6)
 have C10 : Cur h6 b5 68 0 h.size := Cur.mk2 bxb5 f9 lt_code hby (by omega) (by omega)
 refine s_call [.pointer (some ⟨b5, 0, none⟩)] rfl (spec_l1Cur_anyNet_ok b5 68 0 h.size _ C10 (by omega)) ?_
 rintro _ h14 ⟨g11, r12, r13, rfl, s_r12, fr_r12, s_r13, fr_r13, ap_r12_r13, qh14, Ch14, mh14⟩
 have zh14 := mh14.size
 have E15 := E7.mod mh14 (fun b hb => by simp at hb; omega)
 have lt_r12 := s_r12.lt
 have lt_r13 := s_r13.lt
 refine s_new (fun h17 b16 hbb16 hzb16 eh17 bxb16 => ?_)
 have E18 := E15.trans eh17
 have z19 := eh17.size
 have lbb16 := bxb16.lt
 refine s_stBx (.agg #[r12, r13]) [r12, r13] [r12, r13] bxb16 rfl rfl rfl rfl (by simp) (all_cons s_r12.one1 (all_cons s_r13.one1 all_nil)) rfl (fun h20 mh20 sh20 bxx21 => ?_)
 have E22 := E18.mod mh20 (fun b hb => by simp at hb; omega)
 refine s_nil <| p_seqN <| v_seq ?_
 refine v_draw (DrawVC.hold ([b16]) ?_)
 refine d_pq (.pointer (some ⟨b5, 0, none⟩)) <| d_pq (.pointer (some ⟨b5, 0, none⟩)) <| d_loadO (.agg #[r12, r13]) (fun _ q => bxx21.loadA rfl q) <| d_loadT (.agg #[r12, r13]) (fun _ q => bxx21.takeA (by simp) rfl q) <| d_loadT (.agg #[r12, r13]) (fun _ q => bxx21.takeA (by simp) rfl q) <| d_eff ?_
 have f23 := ((Ch14.ext eh17).mod mh20 (by simp; omega) (fun b hb => by simp at hb; omega))
 have f24 := ((s_r12.ext eh17).mod mh20 (fun b hb hc => by simp at hc; have := lt_r12 b hb; omega))
 have f25 := ((s_r13.ext eh17).mod mh20 (fun b hb hc => by simp at hc; have := lt_r13 b hb; omega))
 refine s_call [.pointer (some ⟨b5, 0, none⟩), .agg #[r12, r13]] rfl (spec_l1Cur_tower_ok b5 68 (0 + 5000) h.size g11 r12 r13 _ f23 f24.toSl (fun b hb hc => by simp at hc; have := fr_r12 b hb; omega) f25.toSl (fun b hb hc => by simp at hc; have := fr_r13 b hb; omega) (by omega) (by first | omega | assumption | (simp; done) | (simp; omega))) ?_
 rintro _ h27 ⟨g26, rfl, qh27, Ch27, mh27⟩
 have zh27 := mh27.size
 have E28 := E22.mod mh27 (fun b hb => by simp at hb; omega)
 have G29 := gmod1 (b := b16) (h := h20) (h0 := h20) mh27 (by omega) (by simp; omega) (fun _ _ => rfl)
 refine s_nil ⟨fun _ x hx => G29 x hx, ?_⟩
 refine d_eff ?_
 have f30 := (f24.mod mh27 (fun b hb hc => by simp at hc; have := fr_r12 b hb; omega))
 have f31 := (f25.mod mh27 (fun b hb hc => by simp at hc; have := fr_r13 b hb; omega))
 refine s_call [.pointer (some ⟨b5, 0, none⟩), .agg #[r12, r13]] rfl (spec_l1Cur_tower_ok b5 68 ((0 + 5000) + 20) h.size g11 r12 r13 _ Ch27 f30.toSl (fun b hb hc => by simp at hc; have := fr_r12 b hb; omega) f31.toSl (fun b hb hc => by simp at hc; have := fr_r13 b hb; omega) (by omega) (by first | omega | assumption | (simp; done) | (simp; omega))) ?_
 rintro _ h33 ⟨g32, rfl, qh33, Ch33, mh33⟩
 have zh33 := mh33.size
 have E34 := E28.mod mh33 (fun b hb => by simp at hb; omega)
 have G35 := gmod1 (b := b16) (h := h27) (h0 := h20) mh33 (by omega) (by simp; omega) G29
 refine s_nil ⟨fun _ x hx => G35 x hx, ?_⟩
 refine d_eff ?_
 have f36 := ((((((bxb1.ext eh6).mod mh14 (by simp; omega)).ext eh17).mod mh20 (by simp; omega)).mod mh27 (by simp; omega)).mod mh33 (by simp; omega))
 refine s_stBx (.agg #[r12, r13]) [r12, r13] [r12, r13] f36 rfl rfl rfl rfl (by simp) (all_cons f30.one1 (all_cons f31.one1 all_nil)) rfl (fun h37 mh37 sh37 bxx38 => ?_)
 have E39 := E34.mod mh37 (fun b hb => by simp at hb; omega)
 refine s_nil ⟨fun hl => (by cases hl), ?_⟩
 refine d_pq (.int .i64 g26) <| d_pq (.int .i64 g32) <| d_done <| p_seqN <| v_ret <| p_ret [.agg #[r12, r13], .int .i64 g26, .int .i64 g32] (.tuple #[.agg #[r12, r13], .int .i64 g26, .int .i64 g32]) (fun _ q => (bxx38.loadA rfl q)) rfl ?_
 have f40 := ((f30.mod mh33 (fun b hb hc => by simp at hc; have := fr_r12 b hb; omega)).mod mh37 (fun b hb hc => by simp at hc; have := fr_r12 b hb; omega))
 have f41 := ((f31.mod mh33 (fun b hb hc => by simp at hc; have := fr_r13 b hb; omega)).mod mh37 (fun b hb hc => by simp at hc; have := fr_r13 b hb; omega))
 exact ⟨⟨g11.towers, g11.links⟩, g26, g32, r12, r13, rfl, f40, (fr_r12.mono (by omega)), f41, (fr_r13.mono (by omega)), ap_r12_r13, (by (try simp only); first | omega | exact ⟨by omega, by omega⟩ | exact ⟨by omega, by omega, by omega⟩), E39⟩

theorem spec_DrawLinksThatMatter_ok (v_code : Value) (code : List By) (h : Heap) (s_code : Sl h v_code code) (hby : ∀ y ∈ code, 0 ≤ y.n ∧ y.n ≤ 255) (hsz : code.length ≤ 2000000) : Cn f_spec_DrawLinksThatMatter [v_code] h fun v h' => ∃ g0 : NetP, ∃ g1 : Int, ∃ g2 : Int, ∃ r0 : Value, ∃ r1 : Value, v = .tuple #[.agg #[r0, r1], .int .i64 g1, .int .i64 g2] ∧ SlO h' r0 g0.towers ∧ Fr h.size r0 ∧ SlO h' r1 g0.links ∧ Fr h.size r1 ∧ (∀ b ∈ blks r0, b ∉ blks r1) ∧ (g0.towers.length ≤ 20 ∧ g0.links.length ≤ 50) ∧ Ext h h' := by
 have l63_code := s_code.len63
 refine calls_of r_spec_DrawLinksThatMatter ?_
 refine v_seq <| v_ops ?_
 refine s_new (fun h2 b1 hbb1 hzb1 eh2 bxb1 => ?_)
 have E3 := (Ext.refl h).trans eh2
 have z4 := eh2.size
 have lbb1 := bxb1.lt
 refine s_pq (.int .i64 0) <| s_pq (.int .i64 0) <| s_nil <| p_seqN <| v_seq <| v_ops <| s_pq v_code ?_
 have f5 := (s_code.ext eh2)
 refine s_call [v_code] rfl (spec_DrawPlainDelay_ok v_code code _ f5 (by first | omega | assumption | (simp; done) | (simp; omega)) (by first | omega | assumption | (simp; done) | (simp; omega))) ?_
 rintro _ h11 ⟨g6, g9, g10, r7, r8, rfl, s_r7, fr_r7, s_r8, fr_r8, ap_r7_r8, qh11, eh11⟩
 have E12 := E3.trans eh11
 have z13 := eh11.size
 refine s_pq (.agg #[r7, r8]) <| s_pq (.int .i64 g9) <| s_pq (.int .i64 g10) ?_
 have f14 := (bxb1.ext eh11)
 refine s_stBx (.agg #[r7, r8]) [r7, r8] [r7, r8] f14 rfl rfl rfl rfl (by simp) (all_cons s_r7.one1 (all_cons s_r8.one1 all_nil)) rfl (fun h15 mh15 sh15 bxx16 => ?_)
 have E17 := E12.mod mh15 (fun b hb => by simp at hb; omega)
 refine s_pq (.int .i64 g9) <| s_pq (.int .i64 g10) <| s_nil <| p_seqN <| v_ret <| p_ret [.agg #[r7, r8], .int .i64 g9, .int .i64 g10] (.tuple #[.agg #[r7, r8], .int .i64 g9, .int .i64 g10]) (fun _ q => (bxx16.loadA rfl q)) rfl ?_
 have f18 := (s_r7.mod mh15 (fun b hb hc => by simp at hc; have := fr_r7 b hb; omega))
 have f19 := (s_r8.mod mh15 (fun b hb hc => by simp at hc; have := fr_r8 b hb; omega))
 exact ⟨⟨g6.towers, g6.links⟩, g9, g10, r7, r8, rfl, f18, (fr_r7.mono (by omega)), f19, (fr_r8.mono (by omega)), ap_r7_r8, (by (try simp only); first | omega | exact ⟨by omega, by omega⟩ | exact ⟨by omega, by omega, by omega⟩), E17⟩

theorem spec_DrawDelayWithout_ok (v_code : Value) (code : List By) (h : Heap) (s_code : Sl h v_code code) (hby : ∀ y ∈ code, 0 ≤ y.n ∧ y.n ≤ 255) (hsz : code.length ≤ 2000000) : Cn f_spec_DrawDelayWithout [v_code] h fun v h' => ∃ g0 : NetP, ∃ g1 : Int, ∃ g2 : Int, ∃ g3 : Int, ∃ r0 : Value, ∃ r1 : Value, v = .tuple #[.agg #[r0, r1], .int .i64 g1, .int .i64 g2, .int .i64 g3] ∧ SlO h' r0 g0.towers ∧ Fr h.size r0 ∧ SlO h' r1 g0.links ∧ Fr h.size r1 ∧ (∀ b ∈ blks r0, b ∉ blks r1) ∧ (g0.towers.length ≤ 20 ∧ g0.links.length ≤ 50) ∧ Ext h h' := by
 have lt_code := s_code.lt
 have l63_code := s_code.len63
 refine calls_of r_spec_DrawDelayWithout ?_
 refine v_seq <| v_ops ?_
 refine s_new (fun h2 b1 hbb1 hzb1 eh2 bxb1 => ?_)
 have E3 := (Ext.refl h).trans eh2
 have z4 := eh2.size
 have lbb1 := bxb1.lt
 refine s_pq (.int .i64 0) <| s_pq (.int .i64 0) <| s_pq (.int .i64 0) <| s_nil <| p_seqN <| v_seq <| v_ops <| s_pq v_code <| s_pure (.agg #[v_code, .int .i64 0, .int .u64 0]) (fun _ q => w_build (seg_sl s_code rfl (seg_nil q))) ?_
 refine s_box [v_code, .int .i64 0, .int .u64 0] rfl (fun h6 b5 hbb5 hzb5 eh6 bxb5 => ?_)
 have E7 := E3.trans eh6
 have z8 := eh6.size
 have lbb5 := bxb5.lt
 refine s_pq (.pointer (some ⟨b5, 0, none⟩)) <| s_nil <| p_seqN <| v_seq <| v_ops <| s_pq (.pointer (some ⟨b5, 0, none⟩)) ?_
 have f9 := ((s_code.ext eh2).ext eh6)
 have C10 : Cur h6 b5 68 0 h.size := Cur.mk2 bxb5 f9 lt_code hby (by omega) (by omega)
 refine s_call [.pointer (some ⟨b5, 0, none⟩)] rfl (spec_l1Cur_anyNet_ok b5 68 0 h.size _ C10 (by omega)) ?_
 rintro _ h14 ⟨g11, r12, r13, rfl, s_r12, fr_r12, s_r13, fr_r13, ap_r12_r13, qh14, Ch14, mh14⟩
 have zh14 := mh14.size
 have E15 := E7.mod mh14 (fun b hb => by simp at hb; omega)
 have lt_r12 := s_r12.lt
 have lt_r13 := s_r13.lt
 refine s_new (fun h17 b16 hbb16 hzb16 eh17 bxb16 => ?_)
 have E18 := E15.trans eh17
 have z19 := eh17.size
 have lbb16 := bxb16.lt
 refine s_stBx (.agg #[r12, r13]) [r12, r13] [r12, r13] bxb16 rfl rfl rfl rfl (by simp) (all_cons s_r12.one1 (all_cons s_r13.one1 all_nil)) rfl (fun h20 mh20 sh20 bxx21 => ?_)
 have E22 := E18.mod mh20 (fun b hb => by simp at hb; omega)
 refine s_nil <| p_seqN <| v_seq ?_
 refine v_draw (DrawVC.hold ([b16]) ?_)
 refine d_pq (.pointer (some ⟨b5, 0, none⟩)) <| d_pq (.pointer (some ⟨b5, 0, none⟩)) <| d_pq (.pointer (some ⟨b5, 0, none⟩)) <| d_loadO (.agg #[r12, r13]) (fun _ q => bxx21.loadA rfl q) <| d_loadT (.agg #[r12, r13]) (fun _ q => bxx21.takeA (by simp) rfl q) <| d_loadT (.agg #[r12, r13]) (fun _ q => bxx21.takeA (by simp) rfl q) <| d_loadT (.agg #[r12, r13]) (fun _ q => bxx21.takeA (by simp) rfl q) <| d_eff ?_
 have f23 := ((Ch14.ext eh17).mod mh20 (by simp; omega) (fun b hb => by simp at hb; omega))
 have f24 := ((s_r12.ext eh17).mod mh20 (fun b hb hc => by simp at hc; have := lt_r12 b hb; omega))
 have f25 := ((s_r13.ext eh17).mod mh20 (fun b hb hc => by simp at hc; have := lt_r13 b hb; omega))
 refine s_call [.pointer (some ⟨b5, 0, none⟩), .agg #[r12, r13]] rfl (spec_l1Cur_link_ok b5 68 (0 + 5000) h.size g11 r12 r13 _ f23 f24.toSl (fun b hb hc => by simp at hc; have := fr_r12 b hb; omega) f25.toSl (fun b hb hc => by simp at hc; have := fr_r13 b hb; omega) (by omega) (by first | omega | assumption | (simp; done) | (simp; omega))) ?_
 rintro _ h27 ⟨g26, rfl, qh27, Ch27, mh27⟩
 have zh27 := mh27.size
 have E28 := E22.mod mh27 (fun b hb => by simp at hb; omega)
 have G29 := gmod1 (b := b16) (h := h20) (h0 := h20) mh27 (by omega) (by simp; omega) (fun _ _ => rfl)
 refine s_nil ⟨fun _ x hx => G29 x hx, ?_⟩
 refine d_eff ?_
 have f30 := (f24.mod mh27 (fun b hb hc => by simp at hc; have := fr_r12 b hb; omega))
 have f31 := (f25.mod mh27 (fun b hb hc => by simp at hc; have := fr_r13 b hb; omega))
 refine s_call [.pointer (some ⟨b5, 0, none⟩), .agg #[r12, r13]] rfl (spec_l1Cur_tower_ok b5 68 ((0 + 5000) + 20) h.size g11 r12 r13 _ Ch27 f30.toSl (fun b hb hc => by simp at hc; have := fr_r12 b hb; omega) f31.toSl (fun b hb hc => by simp at hc; have := fr_r13 b hb; omega) (by omega) (by first | omega | assumption | (simp; done) | (simp; omega))) ?_
 rintro _ h33 ⟨g32, rfl, qh33, Ch33, mh33⟩
 have zh33 := mh33.size
 have E34 := E28.mod mh33 (fun b hb => by simp at hb; omega)
 have G35 := gmod1 (b := b16) (h := h27) (h0 := h20) mh33 (by omega) (by simp; omega) G29
 refine s_nil ⟨fun _ x hx => G35 x hx, ?_⟩
 refine d_eff ?_
 have f36 := (f30.mod mh33 (fun b hb hc => by simp at hc; have := fr_r12 b hb; omega))
 have f37 := (f31.mod mh33 (fun b hb hc => by simp at hc; have := fr_r13 b hb; omega))
 refine s_call [.pointer (some ⟨b5, 0, none⟩), .agg #[r12, r13]] rfl (spec_l1Cur_tower_ok b5 68 (((0 + 5000) + 20) + 20) h.size g11 r12 r13 _ Ch33 f36.toSl (fun b hb hc => by simp at hc; have := fr_r12 b hb; omega) f37.toSl (fun b hb hc => by simp at hc; have := fr_r13 b hb; omega) (by omega) (by first | omega | assumption | (simp; done) | (simp; omega))) ?_
 rintro _ h39 ⟨g38, rfl, qh39, Ch39, mh39⟩
 have zh39 := mh39.size
 have E40 := E34.mod mh39 (fun b hb => by simp at hb; omega)
 have G41 := gmod1 (b := b16) (h := h33) (h0 := h20) mh39 (by omega) (by simp; omega) G35
 refine s_nil ⟨fun _ x hx => G41 x hx, ?_⟩
 refine d_eff ?_
 have f42 := (((((((bxb1.ext eh6).mod mh14 (by simp; omega)).ext eh17).mod mh20 (by simp; omega)).mod mh27 (by simp; omega)).mod mh33 (by simp; omega)).mod mh39 (by simp; omega))
 refine s_stBx (.agg #[r12, r13]) [r12, r13] [r12, r13] f42 rfl rfl rfl rfl (by simp) (all_cons f36.one1 (all_cons f37.one1 all_nil)) rfl (fun h43 mh43 sh43 bxx44 => ?_)
 have E45 := E40.mod mh43 (fun b hb => by simp at hb; omega)
 refine s_nil ⟨fun hl => (by cases hl), ?_⟩
 refine d_pq (.int .i64 g26) <| d_pq (.int .i64 g32) <| d_pq (.int .i64 g38) <| d_done <| p_seqN <| v_ret <| p_ret [.agg #[r12, r13], .int .i64 g26, .int .i64 g32, .int .i64 g38] (.tuple #[.agg #[r12, r13], .int .i64 g26, .int .i64 g32, .int .i64 g38]) (fun _ q => (bxx44.loadA rfl q)) rfl ?_
 have f46 := ((f36.mod mh39 (fun b hb hc => by simp at hc; have := fr_r12 b hb; omega)).mod mh43 (fun b hb hc => by simp at hc; have := fr_r12 b hb; omega))
 have f47 := ((f37.mod mh39 (fun b hb hc => by simp at hc; have := fr_r13 b hb; omega)).mod mh43 (fun b hb hc => by simp at hc; have := fr_r13 b hb; omega))
 exact ⟨⟨g11.towers, g11.links⟩, g26, g32, g38, r12, r13, rfl, f46, (fr_r12.mono (by omega)), f47, (fr_r13.mono (by omega)), ap_r12_r13, (by (try simp only); first | omega | exact ⟨by omega, by omega⟩ | exact ⟨by omega, by omega, by omega⟩), E45⟩

set_option maxRecDepth 10000 in
set_option maxHeartbeats 4000000 in
theorem spec_DrawArrivalAlong_ok (v_code : Value) (code : List By) (h : Heap) (s_code : Sl h v_code code) (hby : ∀ y ∈ code, 0 ≤ y.n ∧ y.n ≤ 255) (hsz : code.length ≤ 2000000) : Cn f_spec_DrawArrivalAlong [v_code] h fun v h' => ∃ g0 : NetP, ∃ g1 : List FogD, ∃ g2 : List Int, ∃ g3 : Int, ∃ r0 : Value, ∃ r1 : Value, ∃ r2 : Value, ∃ r3 : Value, v = .tuple #[.agg #[r0, r1], r2, r3, .int .i64 g3] ∧ SlO h' r0 g0.towers ∧ Fr h.size r0 ∧ SlO h' r1 g0.links ∧ Fr h.size r1 ∧ SlO h' r2 g1 ∧ Fr h.size r2 ∧ SlO h' r3 g2 ∧ Fr h.size r3 ∧ (∀ b ∈ blks r0, b ∉ blks r1) ∧ (∀ b ∈ blks r0, b ∉ blks r2) ∧ (∀ b ∈ blks r0, b ∉ blks r3) ∧ (∀ b ∈ blks r1, b ∉ blks r2) ∧ (∀ b ∈ blks r1, b ∉ blks r3) ∧ (∀ b ∈ blks r2, b ∉ blks r3) ∧ (g0.towers.length ≤ 20 ∧ g0.links.length ≤ 50 ∧ g1.length ≤ 61) ∧ Ext h h' := by
 have lt_code := s_code.lt
 have l63_code := s_code.len63
 refine calls_of r_spec_DrawArrivalAlong ?_
 refine v_seq <| v_ops ?_
 refine s_new (fun h2 b1 hbb1 hzb1 eh2 bxb1 => ?_)
 have E3 := (Ext.refl h).trans eh2
 have z4 := eh2.size
 have lbb1 := bxb1.lt
 refine s_pq (.slice none 0 0) <| s_pq (.slice none 0 0) <| s_pq (.int .i64 0) <| s_nil <| p_seqN <| v_seq <| v_ops <| s_pq v_code <| s_pure (.agg #[v_code, .int .i64 0, .int .u64 0]) (fun _ q => w_build (seg_sl s_code rfl (seg_nil q))) ?_
 refine s_box [v_code, .int .i64 0, .int .u64 0] rfl (fun h6 b5 hbb5 hzb5 eh6 bxb5 => ?_)
 have E7 := E3.trans eh6
 have z8 := eh6.size
 have lbb5 := bxb5.lt
 refine s_pq (.pointer (some ⟨b5, 0, none⟩)) <| s_nil <| p_seqN <| v_seq <| v_ops <| s_pq (.pointer (some ⟨b5, 0, none⟩)) ?_
 have f9 := ((s_code.ext eh2).ext eh6)
 have C10 : Cur h6 b5 68 0 h.size := Cur.mk2 bxb5 f9 lt_code hby (by omega) (by omega)
 refine s_call [.pointer (some ⟨b5, 0, none⟩)] rfl (spec_l1Cur_foggy_ok b5 68 0 h.size _ C10 (by omega)) ?_
 rintro _ h16 ⟨g11, g14, r12, r13, r15, rfl, s_r12, fr_r12, s_r13, fr_r13, s_r15, fr_r15, ap_r12_r13, ap_r12_r15, ap_r13_r15, qh16, Ch16, mh16⟩
 have zh16 := mh16.size
 have E17 := E7.mod mh16 (fun b hb => by simp at hb; omega)
 have lt_r12 := s_r12.lt
 have lt_r13 := s_r13.lt
 have lt_r15 := s_r15.lt
 refine s_pq (.tuple #[.agg #[r12, r13], r15]) <| s_pq (.agg #[r12, r13]) <| s_pq r15 ?_
 refine s_new (fun h19 b18 hbb18 hzb18 eh19 bxb18 => ?_)
 have E20 := E17.trans eh19
 have z21 := eh19.size
 have lbb18 := bxb18.lt
 refine s_stBx (.agg #[r12, r13]) [r12, r13] [r12, r13] bxb18 rfl rfl rfl rfl (by simp) (all_cons s_r12.one1 (all_cons s_r13.one1 all_nil)) rfl (fun h22 mh22 sh22 bxx23 => ?_)
 have E24 := E20.mod mh22 (fun b hb => by simp at hb; omega)
 refine s_pq r15 <| s_nil <| p_seqN <| v_seq <| v_ops <| s_pq (.pointer (some ⟨b5, 0, none⟩)) ?_
 have f25 := ((Ch16.ext eh19).mod mh22 (by simp; omega) (fun b hb => by simp at hb; omega))
 refine s_call [.pointer (some ⟨b5, 0, none⟩)] rfl (spec_l1Cur_second_ok b5 68 (0 + 12000) h.size _ f25 (by omega)) ?_
 rintro _ h27 ⟨g26, rfl, qh27, Ch27, mh27⟩
 have zh27 := mh27.size
 have E28 := E24.mod mh27 (fun b hb => by simp at hb; omega)
 refine s_pq (.int .i64 g26) <| s_nil <| p_seqN <| v_seq <| v_seq <| v_ops ?_
 have f29 := (bxx23.mod mh27 (by simp; omega))
 refine s_load (.agg #[r12, r13]) (fun _ q => f29.loadA rfl q) <| s_pq r15 ?_
 have f30 := (((s_r12.ext eh19).mod mh22 (fun b hb hc => by simp at hc; have := lt_r12 b hb; omega)).mod mh27 (fun b hb hc => by simp at hc; have := fr_r12 b hb; omega))
 have f31 := (((s_r13.ext eh19).mod mh22 (fun b hb hc => by simp at hc; have := lt_r13 b hb; omega)).mod mh27 (fun b hb hc => by simp at hc; have := fr_r13 b hb; omega))
 have f32 := (((s_r15.ext eh19).mod mh22 (fun b hb hc => by simp at hc; have := lt_r15 b hb; omega)).mod mh27 (fun b hb hc => by simp at hc; have := fr_r15 b hb; omega))
 refine s_call [.agg #[r12, r13], r15, .int .i64 0] rfl (spec_roGood_ok g11 r12 r13 r15 g14 0 _ f30.toSl f31.toSl f32.toSl) ?_
 rintro _ h33 ⟨rfl, eh33⟩
 have E34 := E28.trans eh33
 have z35 := eh33.size
 refine s_pure (.bool (!(decide (NetOk g11 ∧ FogsOk g11.links.length g14 ∧ (0 ≤ 0 ∧ 0 ≤ 10000))))) (fun _ q => q) <| s_nil <| p_seqN ?_
 refine v_cond rfl (fun c36 => ?_) (fun c36 => ?_)
 ·
  refine v_seq <| v_ops ?_
  have f37 := (f29.ext eh33)
  refine s_load (.agg #[r12, r13]) (fun _ q => f37.loadA rfl q) <| s_pq r15 ?_
  refine s_row (α := Int) [0] (fun _ q => seg_i rfl (seg_nil q)) rfl (by simp [maxLen]) (fun r38 h39 eh39 zh39 s_r38 fr_r38 => ?_)
  have E40 := E34.trans eh39
  have z41 := eh39.size
  refine s_pq (.int .i64 g26) ?_
  have f42 := (((((((bxb1.ext eh6).mod mh16 (by simp; omega)).ext eh19).mod mh22 (by simp; omega)).mod mh27 (by simp; omega)).ext eh33).ext eh39)
  refine s_stBx (.agg #[r12, r13]) [r12, r13] [r12, r13] f42 rfl rfl rfl rfl (by simp) (all_cons f30.one1 (all_cons f31.one1 all_nil)) rfl (fun h43 mh43 sh43 bxx44 => ?_)
  have E45 := E40.mod mh43 (fun b hb => by simp at hb; omega)
  refine s_pq r15 <| s_pq r38 <| s_pq (.int .i64 g26) <| s_nil <| p_seqN <| v_ret <| p_seqR <| p_ret [.agg #[r12, r13], r15, r38, .int .i64 g26] (.tuple #[.agg #[r12, r13], r15, r38, .int .i64 g26]) (fun _ q => (bxx44.loadA rfl q)) rfl ?_
  have f46 := (((f30.ext eh33).ext eh39).mod mh43 (fun b hb hc => by simp at hc; have := fr_r12 b hb; omega))
  have f47 := (((f31.ext eh33).ext eh39).mod mh43 (fun b hb hc => by simp at hc; have := fr_r13 b hb; omega))
  have f48 := (((f32.ext eh33).ext eh39).mod mh43 (fun b hb hc => by simp at hc; have := fr_r15 b hb; omega))
  have f49 := (s_r38.mod mh43 (fun b hb hc => by simp at hc; have := fr_r38 b hb; omega))
  exact ⟨⟨g11.towers, g11.links⟩, g14, [0], g26, r12, r13, r15, r38, rfl, f46, (fr_r12.mono (by omega)), f47, (fr_r13.mono (by omega)), f48, (fr_r15.mono (by omega)), f49, (fr_r38.mono (by omega)), ap_r12_r13, ap_r12_r15, (fun b hb hc => by have := lt_r12 b hb; have := fr_r38 b hc; omega), ap_r13_r15, (fun b hb hc => by have := lt_r13 b hb; have := fr_r38 b hc; omega), (fun b hb hc => by have := lt_r15 b hb; have := fr_r38 b hc; omega), (by (try simp only); first | omega | exact ⟨by omega, by omega⟩ | exact ⟨by omega, by omega, by omega⟩), E45⟩
 have c36 := Classical.not_not.1 c36
 refine v_skip <| p_seqN <| v_seq <| v_ops <| s_pq (.pointer (some ⟨b5, 0, none⟩)) <| s_pq (.pointer (some ⟨b18, 0, none⟩)) ?_
 have f50 := (f29.ext eh33)
 refine s_load r12 (fun _ q => f50.load rfl q) <| s_pure (.int .i64 (g11.towers.length : Int)) (fun _ q => f30.lenVC q) ?_
 have f51 := (Ch27.ext eh33)
 refine s_call [.pointer (some ⟨b5, 0, none⟩), .int .i64 (g11.towers.length : Int)] rfl (spec_l1Cur_pick_ok b5 68 ((0 + 12000) + 20) h.size (g11.towers.length : Int) _ f51 (by omega)) ?_
 rintro _ h53 ⟨g52, rfl, qh53, Ch53, mh53⟩
 have zh53 := mh53.size
 have E54 := E34.mod mh53 (fun b hb => by simp at hb; omega)
 refine s_row (α := Int) [g52] (fun _ q => seg_i rfl (seg_nil q)) rfl (by simp [maxLen]) (fun r55 h56 eh56 zh56 s_r55 fr_r55 => ?_)
 have E57 := E54.trans eh56
 have z58 := eh56.size
 refine s_pq r55 <| s_nil <| p_seqN <| v_seq <| v_seq <| v_ops <| s_pq (.pointer (some ⟨b5, 0, none⟩)) ?_
 have f59 := (Ch53.ext eh56)
 refine s_call [.pointer (some ⟨b5, 0, none⟩), .int .i64 5] rfl (spec_l1Cur_pick_ok b5 68 (((0 + 12000) + 20) + 2) h.size 5 _ f59 (by omega)) ?_
 rintro _ h61 ⟨g60, rfl, qh61, Ch61, mh61⟩
 have zh61 := mh61.size
 have E62 := E57.mod mh61 (fun b hb => by simp at hb; omega)
 refine s_pq (.int .i64 g60) <| s_nil <| p_seqN <| v_block ?_
 have nk64 : b1 ∉ blks r12 := (fun hc => by have := fr_r12 _ hc; omega)
 have nk65 : b5 ∉ blks r12 := (fun hc => by have := fr_r12 _ hc; omega)
 have nk66 : b18 ∉ blks r12 := (fun hc => by have := lt_r12 _ hc; omega)
 have nk67 : b1 ∉ blks r13 := (fun hc => by have := fr_r13 _ hc; omega)
 have nk68 : b5 ∉ blks r13 := (fun hc => by have := fr_r13 _ hc; omega)
 have nk69 : b18 ∉ blks r13 := (fun hc => by have := lt_r13 _ hc; omega)
 have nk70 : b1 ∉ blks r15 := (fun hc => by have := fr_r15 _ hc; omega)
 have nk71 : b5 ∉ blks r15 := (fun hc => by have := fr_r15 _ hc; omega)
 have nk72 : b18 ∉ blks r15 := (fun hc => by have := lt_r15 _ hc; omega)
 have f73 := (((((((((bxb1.ext eh6).mod mh16 (by simp; omega)).ext eh19).mod mh22 (by simp; omega)).mod mh27 (by simp; omega)).ext eh33).mod mh53 (by simp; omega)).ext eh56).mod mh61 (by simp; omega))
 have f74 := (((f50.mod mh53 (by simp; omega)).ext eh56).mod mh61 (by simp; omega))
 have f75 := ((((f30.ext eh33).mod mh53 (fun b hb hc => by simp at hc; have := fr_r12 b hb; omega)).ext eh56).mod mh61 (fun b hb hc => by simp at hc; have := fr_r12 b hb; omega))
 have f76 := ((((f31.ext eh33).mod mh53 (fun b hb hc => by simp at hc; have := fr_r13 b hb; omega)).ext eh56).mod mh61 (fun b hb hc => by simp at hc; have := fr_r13 b hb; omega))
 have f77 := ((((f32.ext eh33).mod mh53 (fun b hb hc => by simp at hc; have := fr_r15 b hb; omega)).ext eh56).mod mh61 (fun b hb hc => by simp at hc; have := fr_r15 b hb; omega))
 have f78 := (s_r55.mod mh61 (fun b hb hc => by simp at hc; have := fr_r55 b hb; omega))
 refine v_loop3 (α := Int) (β := List Int) (γ := Value) (fun j w o0 => [(2, .pointer (some ⟨b1, 0, none⟩)), (6, .pointer (some ⟨b5, 0, none⟩)), (7, .pointer (some ⟨b18, 0, none⟩)), (8, r15), (9, .int .i64 g26), (10, o0), (11, .int .i64 j)]) (fun j w o0 hh => Ext h hh ∧ Bx hh b1 [.slice none 0 0, .slice none 0 0] 26 ∧ Cur hh b5 68 (12100 + 300 * (4 - j)) h.size ∧ Bx hh b18 [r12, r13] 26 ∧ SlO hh r12 g11.towers ∧ SlO hh r13 g11.links ∧ SlO hh r15 g14 ∧ SlO hh o0 w ∧ Fr h.size o0 ∧ b1 ∉ blks o0 ∧ b5 ∉ blks o0 ∧ b18 ∉ blks o0 ∧ (∀ b ∈ blks r12, b ∉ blks o0) ∧ (∀ b ∈ blks r13, b ∉ blks o0) ∧ (∀ b ∈ blks r15, b ∉ blks o0) ∧ 0 ≤ j ∧ j ≤ 4 ∧ 1 ≤ w.length ∧ (w.length : Int) + j ≤ 5) (fun j w o0 => j.toNat) g60 [g52] r55 ⟨rfl, rfl, rfl, rfl, rfl, rfl, rfl⟩ ⟨E62, f73, (Ch61.le (by first | omega | (simp; done) | (simp; omega))), f74, f75, f76, f77, (sl_eq f78 (by simp)), (fr_r55.mono (by omega)), (fun hc => by have := fr_r55 _ hc; omega), (fun hc => by have := fr_r55 _ hc; omega), (fun hc => by have := fr_r55 _ hc; omega), (fun b hb hc => by have := lt_r12 b hb; have := fr_r55 b hc; omega), (fun b hb hc => by have := lt_r13 b hb; have := fr_r55 b hc; omega), (fun b hb hc => by have := lt_r15 b hb; have := fr_r55 b hc; omega), (by exact ⟨by omega, by omega, by first | omega | simp, by first | omega | (simp; omega)⟩)⟩ ?_
 rintro j w o0 R79 h63 ⟨Eh, bxb1, bxb5, bxb18, s_r12, s_r13, s_r15, s_o0, fr_o0, np_b1_o0, np_b5_o0, np_b18_o0, np_r12_o0, np_r13_o0, np_r15_o0, ⟨hj0, hj1, hw0, hw1⟩⟩
 have zEh := Eh.size
 have lbb1 := bxb1.lt
 have lbb5 := bxb5.lt
 have ltk_r12 := s_r12.lt
 have ltk_r13 := s_r13.lt
 have ltk_r15 := s_r15.lt
 have lbb18 := bxb18.lt
 have lt_o0 := s_o0.lt
 refine v_seq <| v_seq <| v_ops <| s_pq (.int .i64 j) <| s_pq (.bool (decide (j > 0))) <| s_nil <| p_seqN ?_
 refine v_cond rfl (fun c82 => ?_) (fun c82 => ?_)
 ·
  refine v_skip <| p_seqN <| v_seq <| v_block <| v_seq <| v_ops <| s_pq (.slice none 0 0) <| s_nil <| p_seqN <| v_seq <| v_seq <| v_ops <| s_pq (.pointer (some ⟨b18, 1, none⟩)) <| s_load r13 (fun _ q => bxb18.load rfl q) <| s_pure (.int .i64 (g11.links.length : Int)) (fun _ q => s_r13.lenVC q) <| s_pq (.int .i64 0) <| s_nil <| p_seqN <| v_block <| v_loop3 (α := Nat) (β := List Int) (γ := Value) (fun k nx o2 => [(2, .pointer (some ⟨b1, 0, none⟩)), (6, .pointer (some ⟨b5, 0, none⟩)), (7, .pointer (some ⟨b18, 0, none⟩)), (8, r15), (9, .int .i64 g26), (10, o0), (11, .int .i64 j), (12, o2), (47, r13), (48, .int .i64 (g11.links.length : Int)), (49, .int .i64 (k : Int))]) (fun k nx o2 hh => Ext h hh ∧ Bx hh b1 [.slice none 0 0, .slice none 0 0] 26 ∧ Cur hh b5 68 (12100 + 300 * (4 - j) + 4 * (k : Int)) h.size ∧ Bx hh b18 [r12, r13] 26 ∧ SlO hh r12 g11.towers ∧ SlO hh r13 g11.links ∧ SlO hh r15 g14 ∧ SlO hh o0 w ∧ SlO hh o2 nx ∧ Fr h.size o2 ∧ b1 ∉ blks o2 ∧ b5 ∉ blks o2 ∧ b18 ∉ blks o2 ∧ (∀ b ∈ blks r12, b ∉ blks o2) ∧ (∀ b ∈ blks r13, b ∉ blks o2) ∧ (∀ b ∈ blks r15, b ∉ blks o2) ∧ (∀ b ∈ blks o0, b ∉ blks o2) ∧ k ≤ g11.links.length ∧ nx.length ≤ k) (fun k nx o2 => g11.links.length - k) 0 [] (.slice none 0 0) ⟨rfl, rfl, rfl, rfl, rfl, rfl, rfl, rfl, rfl, rfl, rfl⟩ ⟨Eh, bxb1, (bxb5.le (by first | omega | (simp; done) | (simp; omega))), bxb18, s_r12, s_r13, s_r15, s_o0, (sl_eq (SlX.nil (α := Int) true h63) (by simp)), (Fr.nil _), (by simp [blks, fpts]), (by simp [blks, fpts]), (by simp [blks, fpts]), (fun b hb hc => by simp [blks, fpts] at hc), (fun b hb hc => by simp [blks, fpts] at hc), (fun b hb hc => by simp [blks, fpts] at hc), (fun b hb hc => by simp [blks, fpts] at hc), (by exact ⟨by omega, by simp⟩)⟩ ?_
  rintro k nx o2 R84 h83 ⟨Eh, bxb1, bxb5, bxb18, s_r12, s_r13, s_r15, s_o0, s_o2, fr_o2, np_b1_o2, np_b5_o2, np_b18_o2, np_r12_o2, np_r13_o2, np_r15_o2, np_o0_o2, ⟨hk, hnx⟩⟩
  have zEh := Eh.size
  have lbb1 := bxb1.lt
  have lbb5 := bxb5.lt
  have ltk_r12 := s_r12.lt
  have ltk_r13 := s_r13.lt
  have ltk_r15 := s_r15.lt
  have lbb18 := bxb18.lt
  have ltk_o0 := s_o0.lt
  have lt_o2 := s_o2.lt
  refine v_seq <| v_ops <| s_pq (.bool (decide ((k : Int) < (g11.links.length : Int)))) <| s_nil <| p_seqN <| v_seq ?_
  refine v_cond rfl (fun c87 => ?_) (fun c87 => ?_)
  ·
   refine v_skip <| p_seqN <| v_seq <| v_block <| v_seq <| v_ops ?_
   have hk88 : k < g11.links.length := (by first | omega | (simp; omega))
   obtain ⟨x89, hx89⟩ : ∃ x, g11.links[k]? = some x := ⟨_, List.getElem?_eq_getElem hk88⟩
   refine s_pure (.pointer (some ⟨sblk r13, soff r13 + k * 3, none⟩)) (fun _ q => s_r13.idx (k := k) rfl hk88 q) <| s_load (.agg #[.int .i64 x89.a, .int .i64 x89.b, .int .i64 x89.delay]) (fun _ q => s_r13.loadN hx89 rfl q) ?_
   refine s_new (fun h91 b90 hbb90 hzb90 eh91 bxb90 => ?_)
   have E92 := Eh.trans eh91
   have z93 := eh91.size
   have lbb90 := bxb90.lt
   refine s_stBx (.agg #[.int .i64 x89.a, .int .i64 x89.b, .int .i64 x89.delay]) [.int .i64 x89.a, .int .i64 x89.b, .int .i64 x89.delay] [.int .i64 x89.a, .int .i64 x89.b, .int .i64 x89.delay] bxb90 rfl rfl rfl rfl (by simp) (all_cons rfl (all_cons rfl (all_cons rfl all_nil))) rfl (fun h94 mh94 sh94 bxx95 => ?_)
   have E96 := E92.mod mh94 (fun b hb => by simp at hb; omega)
   refine s_nil <| p_seqN <| v_seq <| v_drawF <| d_pq o0 <| d_pq o0 <| d_pureT (.int .i64 (w.length : Int)) (fun _ q => s_o0.lenVC q) <| d_pureT (.int .i64 ((w.length : Int) - 1)) (fun _ q => ArithVC.mk (by omega) q) ?_
   have f97 := ((s_o0.ext eh91).mod mh94 (fun b hb hc => by simp at hc; have := ltk_o0 b hb; have := lt_o0 b hb; omega))
   have hk98 : (((w.length : Int) - 1)).toNat < w.length := (by first | omega | (simp; omega))
   obtain ⟨x99, hx99⟩ : ∃ x, w[(((w.length : Int) - 1)).toNat]? = some x := ⟨_, List.getElem?_eq_getElem hk98⟩
   refine d_pureT (.pointer (some ⟨sblk o0, soff o0 + ((((w.length : Int) - 1)).toNat) * 1, none⟩)) (fun _ q => f97.idx (k := (((w.length : Int) - 1)).toNat) (by omega) hk98 q) <| d_loadO (.agg #[.int .i64 x89.a, .int .i64 x89.b, .int .i64 x89.delay]) (fun _ q => bxx95.loadA rfl q) <| d_loadO (.int .i64 x99) (fun _ q => f97.load1 hx99 rfl q) <| d_eff <| s_call [.agg #[.int .i64 x89.a, .int .i64 x89.b, .int .i64 x89.delay], .int .i64 x99] rfl (spec_roOther_ok x89 x99 _ ) ?_
   rintro _ h100 ⟨rfl, eh100⟩
   have E101 := E96.trans eh100
   have z102 := eh100.size
   refine s_nil ⟨fun hl => (by cases hl), ?_⟩
   refine d_pq (.int .i64 (othr x89 x99)) <| d_done <| p_seqN <| v_seq <| v_ops <| s_pq (.int .i64 (othr x89 x99)) <| s_pq (.bool (decide ((othr x89 x99) ≥ 0))) <| s_pq (.bool (decide ((othr x89 x99) ≥ 0))) ?_
   refine s_splitT rfl (fun c104 => ?_) (fun c104 => ?_)
   ·
    refine s_run rfl <| s_pq o0 <| s_run rfl <| s_pq (.int .i64 (othr x89 x99)) <| s_run rfl ?_
    have f105 := (f97.ext eh100)
    refine s_call [o0, .int .i64 (othr x89 x99)] rfl (spec_l1Has_ok o0 w (othr x89 x99) _ f105.toSl) ?_
    rintro _ h106 ⟨rfl, eh106⟩
    have E107 := E101.trans eh106
    have z108 := eh106.size
    refine s_run rfl <| s_pq (.bool (!(decide ((othr x89 x99) ∈ w)))) <| s_run rfl <| s_pq (.bool (!(decide ((othr x89 x99) ∈ w)))) ?_
    refine s_splitT rfl (fun c109 => ?_) (fun c109 => ?_)
    ·
     refine s_pass rfl <| s_pass rfl <| s_run rfl <| s_pq (.bool true) <| s_pq (.bool true) <| s_nil <| p_seqN <| v_condY rfl rfl <| v_ops <| s_pq o2 <| s_pq (.int .i64 (othr x89 x99)) ?_
     refine s_row (α := Int) [(othr x89 x99)] (fun _ q => seg_i rfl (seg_nil q)) rfl (by simp [maxLen]) (fun r110 h111 eh111 zh111 s_r110 fr_r110 => ?_)
     have E112 := E107.trans eh111
     have z113 := eh111.size
     have f114 := (((((s_o2.ext eh91).mod mh94 (fun b hb hc => by simp at hc; have := lt_o2 b hb; omega)).ext eh100).ext eh106).ext eh111)
     refine s_app f114 s_r110 rfl rfl rfl (by first | (simp [maxLen]; done) | (simp [maxLen]; omega)) (by first | (simp; done) | (simp; omega)) (fun r115 h116 mh116 zh116 s_r115 ab_r115 => ?_)
     have E117 := E112.mod mh116 (fun b hb => by have := fr_o2 b hb; omega)
     have fr_r115 := fr_o2.app ab_r115 (by omega)
     have np118 : b1 ∉ blks r115 := fun hc => (ab_r115 _ hc).elim np_b1_o2 (fun hc => by omega)
     have np119 : b5 ∉ blks r115 := fun hc => (ab_r115 _ hc).elim np_b5_o2 (fun hc => by omega)
     have np120 : b18 ∉ blks r115 := fun hc => (ab_r115 _ hc).elim np_b18_o2 (fun hc => by omega)
     have np122 : ∀ b ∈ blks r12, b ∉ blks r115 := fun b hb hc => (ab_r115 _ hc).elim ((np_r12_o2 : ∀ b ∈ blks r12, b ∉ blks o2) b hb) (fun hc => by have := ltk_r12 b hb; omega)
     have np124 : ∀ b ∈ blks r13, b ∉ blks r115 := fun b hb hc => (ab_r115 _ hc).elim ((np_r13_o2 : ∀ b ∈ blks r13, b ∉ blks o2) b hb) (fun hc => by have := ltk_r13 b hb; omega)
     have np126 : ∀ b ∈ blks r15, b ∉ blks r115 := fun b hb hc => (ab_r115 _ hc).elim ((np_r15_o2 : ∀ b ∈ blks r15, b ∉ blks o2) b hb) (fun hc => by have := ltk_r15 b hb; omega)
     have np128 : ∀ b ∈ blks o0, b ∉ blks r115 := fun b hb hc => (ab_r115 _ hc).elim ((np_o0_o2 : ∀ b ∈ blks o0, b ∉ blks o2) b hb) (fun hc => by have := ltk_o0 b hb; omega)
     refine s_pq r115 <| s_nil <| p_blkN <| p_seqN <| v_ops <| s_pure (.int .i64 ((k : Int) + 1)) (fun _ q => ArithVC.mk (by omega) q) <| s_pq (.int .i64 ((k : Int) + 1)) <| s_nil ?_
     have f131 := ((((((bxb1.ext eh91).mod mh94 (by simp; omega)).ext eh100).ext eh106).ext eh111).mod mh116 np_b1_o2)
     have f132 := ((((((bxb5.ext eh91).mod mh94 (by simp; omega) (fun b hb => by simp at hb; omega)).ext eh100).ext eh106).ext eh111).mod mh116 np_b5_o2 (fun b hb => by have := fr_o2 b hb; omega))
     have f133 := ((((((bxb18.ext eh91).mod mh94 (by simp; omega)).ext eh100).ext eh106).ext eh111).mod mh116 np_b18_o2)
     have f134 := ((((((s_r12.ext eh91).mod mh94 (fun b hb hc => by simp at hc; have := ltk_r12 b hb; have := lt_r12 b hb; omega)).ext eh100).ext eh106).ext eh111).mod mh116 np_r12_o2)
     have f135 := ((((((s_r13.ext eh91).mod mh94 (fun b hb hc => by simp at hc; have := ltk_r13 b hb; have := lt_r13 b hb; omega)).ext eh100).ext eh106).ext eh111).mod mh116 np_r13_o2)
     have f136 := ((((((s_r15.ext eh91).mod mh94 (fun b hb hc => by simp at hc; have := ltk_r15 b hb; have := lt_r15 b hb; omega)).ext eh100).ext eh106).ext eh111).mod mh116 np_r15_o2)
     have f137 := (((f105.ext eh106).ext eh111).mod mh116 np_o0_o2)
     exact p_lpN ⟨k + 1, (nx ++ [(othr x89 x99)]), r115, ⟨rfl, rfl, rfl, rfl, rfl, rfl, rfl, rfl, rfl, rfl, rfl⟩, ⟨E117, f131, (f132.le (by first | omega | (simp; done) | (simp; omega))), f133, f134, f135, f136, f137, (sl_eq s_r115 (by simp)), (fr_r115.mono (by omega)), np118, np119, np120, np122, np124, np126, np128, (by exact ⟨by omega, by first | omega | (simp; omega)⟩)⟩, by first | omega | (simp; done) | (simp; omega)⟩
    have c109 := Classical.not_not.1 c109
    refine s_run rfl <| s_pq (.pointer (some ⟨b5, 0, none⟩)) <| s_run rfl ?_
    have f138 := ((((bxb5.ext eh91).mod mh94 (by simp; omega) (fun b hb => by simp at hb; omega)).ext eh100).ext eh106)
    refine s_call [.pointer (some ⟨b5, 0, none⟩), .int .i64 16] rfl (spec_l1Cur_one_ok b5 68 (12100 + 300 * (4 - j) + 4 * (k : Int)) h.size 16 _ f138 (by omega)) ?_
    rintro _ h140 ⟨g139, rfl, Ch140, mh140⟩
    have zh140 := mh140.size
    have E141 := E107.mod mh140 (fun b hb => by simp at hb; omega)
    refine s_run rfl <| s_pq (.bool g139) <| s_pq (.bool g139) <| s_nil <| p_seqN ?_
    refine v_cond rfl (fun c142 => ?_) (fun c142 => ?_)
    ·
     refine v_ops <| s_pq o2 <| s_pq (.int .i64 (othr x89 x99)) ?_
     refine s_row (α := Int) [(othr x89 x99)] (fun _ q => seg_i rfl (seg_nil q)) rfl (by simp [maxLen]) (fun r143 h144 eh144 zh144 s_r143 fr_r143 => ?_)
     have E145 := E141.trans eh144
     have z146 := eh144.size
     have f147 := ((((((s_o2.ext eh91).mod mh94 (fun b hb hc => by simp at hc; have := lt_o2 b hb; omega)).ext eh100).ext eh106).mod mh140 (nb1 np_b5_o2)).ext eh144)
     refine s_app f147 s_r143 rfl rfl rfl (by first | (simp [maxLen]; done) | (simp [maxLen]; omega)) (by first | (simp; done) | (simp; omega)) (fun r148 h149 mh149 zh149 s_r148 ab_r148 => ?_)
     have E150 := E145.mod mh149 (fun b hb => by have := fr_o2 b hb; omega)
     have fr_r148 := fr_o2.app ab_r148 (by omega)
     have np151 : b1 ∉ blks r148 := fun hc => (ab_r148 _ hc).elim np_b1_o2 (fun hc => by omega)
     have np152 : b5 ∉ blks r148 := fun hc => (ab_r148 _ hc).elim np_b5_o2 (fun hc => by omega)
     have np153 : b18 ∉ blks r148 := fun hc => (ab_r148 _ hc).elim np_b18_o2 (fun hc => by omega)
     have np155 : ∀ b ∈ blks r12, b ∉ blks r148 := fun b hb hc => (ab_r148 _ hc).elim ((np_r12_o2 : ∀ b ∈ blks r12, b ∉ blks o2) b hb) (fun hc => by have := ltk_r12 b hb; omega)
     have np157 : ∀ b ∈ blks r13, b ∉ blks r148 := fun b hb hc => (ab_r148 _ hc).elim ((np_r13_o2 : ∀ b ∈ blks r13, b ∉ blks o2) b hb) (fun hc => by have := ltk_r13 b hb; omega)
     have np159 : ∀ b ∈ blks r15, b ∉ blks r148 := fun b hb hc => (ab_r148 _ hc).elim ((np_r15_o2 : ∀ b ∈ blks r15, b ∉ blks o2) b hb) (fun hc => by have := ltk_r15 b hb; omega)
     have np161 : ∀ b ∈ blks o0, b ∉ blks r148 := fun b hb hc => (ab_r148 _ hc).elim ((np_o0_o2 : ∀ b ∈ blks o0, b ∉ blks o2) b hb) (fun hc => by have := ltk_o0 b hb; omega)
     refine s_pq r148 <| s_nil <| p_blkN <| p_seqN <| v_ops <| s_pure (.int .i64 ((k : Int) + 1)) (fun _ q => ArithVC.mk (by omega) q) <| s_pq (.int .i64 ((k : Int) + 1)) <| s_nil ?_
     have f164 := (((((((bxb1.ext eh91).mod mh94 (by simp; omega)).ext eh100).ext eh106).mod mh140 (by simp; omega)).ext eh144).mod mh149 np_b1_o2)
     have f165 := ((Ch140.ext eh144).mod mh149 np_b5_o2 (fun b hb => by have := fr_o2 b hb; omega))
     have f166 := (((((((bxb18.ext eh91).mod mh94 (by simp; omega)).ext eh100).ext eh106).mod mh140 (by simp; omega)).ext eh144).mod mh149 np_b18_o2)
     have f167 := (((((((s_r12.ext eh91).mod mh94 (fun b hb hc => by simp at hc; have := ltk_r12 b hb; have := lt_r12 b hb; omega)).ext eh100).ext eh106).mod mh140 (nb1 nk65)).ext eh144).mod mh149 np_r12_o2)
     have f168 := (((((((s_r13.ext eh91).mod mh94 (fun b hb hc => by simp at hc; have := ltk_r13 b hb; have := lt_r13 b hb; omega)).ext eh100).ext eh106).mod mh140 (nb1 nk68)).ext eh144).mod mh149 np_r13_o2)
     have f169 := (((((((s_r15.ext eh91).mod mh94 (fun b hb hc => by simp at hc; have := ltk_r15 b hb; have := lt_r15 b hb; omega)).ext eh100).ext eh106).mod mh140 (nb1 nk71)).ext eh144).mod mh149 np_r15_o2)
     have f170 := ((((f105.ext eh106).mod mh140 (nb1 np_b5_o0)).ext eh144).mod mh149 np_o0_o2)
     exact p_lpN ⟨k + 1, (nx ++ [(othr x89 x99)]), r148, ⟨rfl, rfl, rfl, rfl, rfl, rfl, rfl, rfl, rfl, rfl, rfl⟩, ⟨E150, f164, (f165.le (by first | omega | (simp; done) | (simp; omega))), f166, f167, f168, f169, f170, (sl_eq s_r148 (by simp)), (fr_r148.mono (by omega)), np151, np152, np153, np155, np157, np159, np161, (by exact ⟨by omega, by first | omega | (simp; omega)⟩)⟩, by first | omega | (simp; done) | (simp; omega)⟩
    refine v_skip <| p_blkN <| p_seqN <| v_ops <| s_pure (.int .i64 ((k : Int) + 1)) (fun _ q => ArithVC.mk (by omega) q) <| s_pq (.int .i64 ((k : Int) + 1)) <| s_nil ?_
    have f171 := (((((bxb1.ext eh91).mod mh94 (by simp; omega)).ext eh100).ext eh106).mod mh140 (by simp; omega))
    have f172 := (((((bxb18.ext eh91).mod mh94 (by simp; omega)).ext eh100).ext eh106).mod mh140 (by simp; omega))
    have f173 := (((((s_r12.ext eh91).mod mh94 (fun b hb hc => by simp at hc; have := ltk_r12 b hb; have := lt_r12 b hb; omega)).ext eh100).ext eh106).mod mh140 (nb1 nk65))
    have f174 := (((((s_r13.ext eh91).mod mh94 (fun b hb hc => by simp at hc; have := ltk_r13 b hb; have := lt_r13 b hb; omega)).ext eh100).ext eh106).mod mh140 (nb1 nk68))
    have f175 := (((((s_r15.ext eh91).mod mh94 (fun b hb hc => by simp at hc; have := ltk_r15 b hb; have := lt_r15 b hb; omega)).ext eh100).ext eh106).mod mh140 (nb1 nk71))
    have f176 := ((f105.ext eh106).mod mh140 (nb1 np_b5_o0))
    have f177 := (((((s_o2.ext eh91).mod mh94 (fun b hb hc => by simp at hc; have := lt_o2 b hb; omega)).ext eh100).ext eh106).mod mh140 (nb1 np_b5_o2))
    exact p_lpN ⟨k + 1, nx, o2, ⟨rfl, rfl, rfl, rfl, rfl, rfl, rfl, rfl, rfl, rfl, rfl⟩, ⟨E141, f171, (Ch140.le (by first | omega | (simp; done) | (simp; omega))), f172, f173, f174, f175, f176, (sl_eq f177 (by simp)), (fr_o2.mono (by omega)), np_b1_o2, np_b5_o2, np_b18_o2, np_r12_o2, np_r13_o2, np_r15_o2, np_o0_o2, (by exact ⟨by omega, by first | omega | (simp; omega)⟩)⟩, by first | omega | (simp; done) | (simp; omega)⟩
   refine s_pass rfl <| s_pass rfl <| s_pass rfl <| s_pass rfl <| s_pass rfl <| s_splitU rfl <| s_passU rfl <| s_passU rfl <| s_pass rfl <| s_pq (.bool false) <| s_nil <| p_seqN <| v_condN rfl (by simp) <| v_skip <| p_blkN <| p_seqN <| v_ops <| s_pure (.int .i64 ((k : Int) + 1)) (fun _ q => ArithVC.mk (by omega) q) <| s_pq (.int .i64 ((k : Int) + 1)) <| s_nil ?_
   have f178 := (((bxb1.ext eh91).mod mh94 (by simp; omega)).ext eh100)
   have f179 := (((bxb5.ext eh91).mod mh94 (by simp; omega) (fun b hb => by simp at hb; omega)).ext eh100)
   have f180 := (((bxb18.ext eh91).mod mh94 (by simp; omega)).ext eh100)
   have f181 := (((s_r12.ext eh91).mod mh94 (fun b hb hc => by simp at hc; have := ltk_r12 b hb; have := lt_r12 b hb; omega)).ext eh100)
   have f182 := (((s_r13.ext eh91).mod mh94 (fun b hb hc => by simp at hc; have := ltk_r13 b hb; have := lt_r13 b hb; omega)).ext eh100)
   have f183 := (((s_r15.ext eh91).mod mh94 (fun b hb hc => by simp at hc; have := ltk_r15 b hb; have := lt_r15 b hb; omega)).ext eh100)
   have f184 := (f97.ext eh100)
   have f185 := (((s_o2.ext eh91).mod mh94 (fun b hb hc => by simp at hc; have := lt_o2 b hb; omega)).ext eh100)
   exact p_lpN ⟨k + 1, nx, o2, ⟨rfl, rfl, rfl, rfl, rfl, rfl, rfl, rfl, rfl, rfl, rfl⟩, ⟨E101, f178, (f179.le (by first | omega | (simp; done) | (simp; omega))), f180, f181, f182, f183, f184, (sl_eq f185 (by simp)), (fr_o2.mono (by omega)), np_b1_o2, np_b5_o2, np_b18_o2, np_r12_o2, np_r13_o2, np_r15_o2, np_o0_o2, (by exact ⟨by omega, by first | omega | (simp; omega)⟩)⟩, by first | omega | (simp; done) | (simp; omega)⟩
  refine v_exit <| p_seqX <| p_lpX <| p_blkX <| p_seqN <| v_seq <| v_seq <| v_ops <| s_pq o2 <| s_pure (.int .i64 (nx.length : Int)) (fun _ q => s_o2.lenVC q) <| s_pq (.bool ((nx.length : Int) == 0)) <| s_nil <| p_seqN ?_
  refine v_cond rfl (fun c186 => ?_) (fun c186 => ?_)
  ·
   refine v_exit <| p_seqX <| p_blkY rfl <| p_seqX <| p_lpX <| p_blkX <| p_seqN <| v_seq <| v_seq <| v_ops <| s_pq (.pointer (some ⟨b5, 0, none⟩)) <| s_call [.pointer (some ⟨b5, 0, none⟩), .int .i64 20] rfl (spec_l1Cur_pick_ok b5 68 (12100 + 300 * (4 - j) + 4 * (k : Int)) h.size 20 _ bxb5 (by omega)) ?_
   rintro _ h188 ⟨g187, rfl, qh188, Ch188, mh188⟩
   have zh188 := mh188.size
   have E189 := Eh.mod mh188 (fun b hb => by simp at hb; omega)
   refine s_nil <| p_seqN <| v_block <| v_seq <| v_ops <| s_pq (.bool (g187 == 0)) <| s_pq (.bool (g187 == 0)) <| s_nil <| p_seqN ?_
   refine v_cond rfl (fun c190 => ?_) (fun c190 => ?_)
   ·
    refine v_ops <| s_pq o0 <| s_pq (.pointer (some ⟨b5, 0, none⟩)) <| s_pq (.pointer (some ⟨b18, 0, none⟩)) ?_
    have f191 := (bxb18.mod mh188 (by simp; omega))
    refine s_load r12 (fun _ q => f191.load rfl q) <| s_pure (.int .i64 (g11.towers.length : Int)) (fun _ q => s_r12.lenVC q) ?_
    refine s_row (α := Int) [(-1), 0, (g11.towers.length : Int)] (fun _ q => seg_i rfl (seg_i rfl (seg_i rfl (seg_nil q)))) rfl (by simp [maxLen]) (fun r192 h193 eh193 zh193 s_r192 fr_r192 => ?_)
    have E194 := E189.trans eh193
    have z195 := eh193.size
    have f196 := (Ch188.ext eh193)
    refine s_call [.pointer (some ⟨b5, 0, none⟩), r192] rfl (spec_l1Cur_among_ok b5 68 ((12100 + 300 * (4 - j) + 4 * (k : Int)) + 2) h.size r192 [(-1), 0, (g11.towers.length : Int)] _ f196 s_r192.toSl (fun b hb hc => by simp at hc; have := fr_r192 b hb; omega) (by omega) (by first | omega | assumption | (simp; done) | (simp; omega))) ?_
    rintro _ h198 ⟨g197, rfl, qh198, Ch198, mh198⟩
    have zh198 := mh198.size
    have E199 := E194.mod mh198 (fun b hb => by simp at hb; omega)
    simp only [List.mem_cons, List.not_mem_nil, or_false] at qh198
    refine s_row (α := Int) [g197] (fun _ q => seg_i rfl (seg_nil q)) rfl (by simp [maxLen]) (fun r200 h201 eh201 zh201 s_r200 fr_r200 => ?_)
    have E202 := E199.trans eh201
    have z203 := eh201.size
    have f204 := ((((s_o0.mod mh188 (nb1 np_b5_o0)).ext eh193).mod mh198 (nb1 np_b5_o0)).ext eh201)
    refine s_app f204 s_r200 rfl rfl rfl (by first | (simp [maxLen]; done) | (simp [maxLen]; omega)) (by first | (simp; done) | (simp; omega)) (fun r205 h206 mh206 zh206 s_r205 ab_r205 => ?_)
    have E207 := E202.mod mh206 (fun b hb => by have := fr_o0 b hb; omega)
    have fr_r205 := fr_o0.app ab_r205 (by omega)
    have np208 : b1 ∉ blks r205 := fun hc => (ab_r205 _ hc).elim np_b1_o0 (fun hc => by omega)
    have np212 : ∀ b ∈ blks r12, b ∉ blks r205 := fun b hb hc => (ab_r205 _ hc).elim ((np_r12_o0 : ∀ b ∈ blks r12, b ∉ blks o0) b hb) (fun hc => by have := ltk_r12 b hb; omega)
    have np214 : ∀ b ∈ blks r13, b ∉ blks r205 := fun b hb hc => (ab_r205 _ hc).elim ((np_r13_o0 : ∀ b ∈ blks r13, b ∉ blks o0) b hb) (fun hc => by have := ltk_r13 b hb; omega)
    have np216 : ∀ b ∈ blks r15, b ∉ blks r205 := fun b hb hc => (ab_r205 _ hc).elim ((np_r15_o0 : ∀ b ∈ blks r15, b ∉ blks o0) b hb) (fun hc => by have := ltk_r15 b hb; omega)
    refine s_pq r205 <| s_nil <| p_blkN <| p_seqN <| v_seq <| v_ops ?_
    have f221 := ((((f191.ext eh193).mod mh198 (by simp; omega)).ext eh201).mod mh206 np_b18_o0)
    refine s_load (.agg #[r12, r13]) (fun _ q => f221.loadA rfl q) <| s_pq r15 <| s_pq r205 <| s_pq (.int .i64 g26) ?_
    have f222 := (((((bxb1.mod mh188 (by simp; omega)).ext eh193).mod mh198 (by simp; omega)).ext eh201).mod mh206 np_b1_o0)
    refine s_stBx (.agg #[r12, r13]) [r12, r13] [r12, r13] f222 rfl rfl rfl rfl (by simp) (all_cons s_r12.one1 (all_cons s_r13.one1 all_nil)) rfl (fun h223 mh223 sh223 bxx224 => ?_)
    have E225 := E207.mod mh223 (fun b hb => by simp at hb; omega)
    refine s_pq r15 <| s_pq r205 <| s_pq (.int .i64 g26) <| s_nil <| p_seqN <| v_ret <| p_ret [.agg #[r12, r13], r15, r205, .int .i64 g26] (.tuple #[.agg #[r12, r13], r15, r205, .int .i64 g26]) (fun _ q => (bxx224.loadA rfl q)) rfl ?_
    have f226 := ((((((s_r12.mod mh188 (nb1 nk65)).ext eh193).mod mh198 (nb1 nk65)).ext eh201).mod mh206 np_r12_o0).mod mh223 (nb1 nk64))
    have f227 := ((((((s_r13.mod mh188 (nb1 nk68)).ext eh193).mod mh198 (nb1 nk68)).ext eh201).mod mh206 np_r13_o0).mod mh223 (nb1 nk67))
    have f228 := ((((((s_r15.mod mh188 (nb1 nk71)).ext eh193).mod mh198 (nb1 nk71)).ext eh201).mod mh206 np_r15_o0).mod mh223 (nb1 nk70))
    have f229 := (s_r205.mod mh223 (nb1 np208))
    exact ⟨⟨g11.towers, g11.links⟩, g14, (w ++ [g197]), g26, r12, r13, r15, r205, rfl, f226, (fr_r12.mono (by omega)), f227, (fr_r13.mono (by omega)), f228, (fr_r15.mono (by omega)), f229, (fr_r205.mono (by omega)), ap_r12_r13, ap_r12_r15, np212, ap_r13_r15, np214, np216, (by (try simp only); first | omega | exact ⟨by omega, by omega⟩ | exact ⟨by omega, by omega, by omega⟩), E225⟩
   refine v_seq <| v_ops <| s_pq (.bool (g187 == 1)) <| s_pq (.bool (g187 == 1)) <| s_nil <| p_seqN ?_
   refine v_cond rfl (fun c230 => ?_) (fun c230 => ?_)
   ·
    refine v_ops <| s_pq (.slice none 0 0) <| s_nil <| p_blkN <| p_seqN <| v_seq <| v_ops ?_
    have f231 := (bxb18.mod mh188 (by simp; omega))
    refine s_load (.agg #[r12, r13]) (fun _ q => f231.loadA rfl q) <| s_pq r15 <| s_pq (.slice none 0 0) <| s_pq (.int .i64 g26) ?_
    have f232 := (bxb1.mod mh188 (by simp; omega))
    refine s_stBx (.agg #[r12, r13]) [r12, r13] [r12, r13] f232 rfl rfl rfl rfl (by simp) (all_cons s_r12.one1 (all_cons s_r13.one1 all_nil)) rfl (fun h233 mh233 sh233 bxx234 => ?_)
    have E235 := E189.mod mh233 (fun b hb => by simp at hb; omega)
    refine s_pq r15 <| s_pq (.slice none 0 0) <| s_pq (.int .i64 g26) <| s_nil <| p_seqN <| v_ret <| p_ret [.agg #[r12, r13], r15, .slice none 0 0, .int .i64 g26] (.tuple #[.agg #[r12, r13], r15, .slice none 0 0, .int .i64 g26]) (fun _ q => (bxx234.loadA rfl q)) rfl ?_
    have f236 := ((s_r12.mod mh188 (nb1 nk65)).mod mh233 (nb1 nk64))
    have f237 := ((s_r13.mod mh188 (nb1 nk68)).mod mh233 (nb1 nk67))
    have f238 := ((s_r15.mod mh188 (nb1 nk71)).mod mh233 (nb1 nk70))
    exact ⟨⟨g11.towers, g11.links⟩, g14, [], g26, r12, r13, r15, (.slice none 0 0), rfl, f236, (fr_r12.mono (by omega)), f237, (fr_r13.mono (by omega)), f238, (fr_r15.mono (by omega)), (SlX.nil (α := Int) true _), (Fr.nil _), ap_r12_r13, ap_r12_r15, (fun b hb hc => by simp [blks] at hc), ap_r13_r15, (fun b hb hc => by simp [blks] at hc), (fun b hb hc => by simp [blks] at hc), (by (try simp only); first | omega | exact ⟨by omega, by omega⟩ | exact ⟨by omega, by omega, by omega⟩), E235⟩
   refine v_skip <| p_blkN <| p_seqN <| v_seq <| v_ops ?_
   have f239 := (bxb18.mod mh188 (by simp; omega))
   refine s_load (.agg #[r12, r13]) (fun _ q => f239.loadA rfl q) <| s_pq r15 <| s_pq o0 <| s_pq (.int .i64 g26) ?_
   have f240 := (bxb1.mod mh188 (by simp; omega))
   refine s_stBx (.agg #[r12, r13]) [r12, r13] [r12, r13] f240 rfl rfl rfl rfl (by simp) (all_cons s_r12.one1 (all_cons s_r13.one1 all_nil)) rfl (fun h241 mh241 sh241 bxx242 => ?_)
   have E243 := E189.mod mh241 (fun b hb => by simp at hb; omega)
   refine s_pq r15 <| s_pq o0 <| s_pq (.int .i64 g26) <| s_nil <| p_seqN <| v_ret <| p_ret [.agg #[r12, r13], r15, o0, .int .i64 g26] (.tuple #[.agg #[r12, r13], r15, o0, .int .i64 g26]) (fun _ q => (bxx242.loadA rfl q)) rfl ?_
   have f244 := ((s_r12.mod mh188 (nb1 nk65)).mod mh241 (nb1 nk64))
   have f245 := ((s_r13.mod mh188 (nb1 nk68)).mod mh241 (nb1 nk67))
   have f246 := ((s_r15.mod mh188 (nb1 nk71)).mod mh241 (nb1 nk70))
   have f247 := ((s_o0.mod mh188 (nb1 np_b5_o0)).mod mh241 (nb1 np_b1_o0))
   exact ⟨⟨g11.towers, g11.links⟩, g14, w, g26, r12, r13, r15, o0, rfl, f244, (fr_r12.mono (by omega)), f245, (fr_r13.mono (by omega)), f246, (fr_r15.mono (by omega)), f247, (fr_o0.mono (by omega)), ap_r12_r13, ap_r12_r15, np_r12_o0, ap_r13_r15, np_r13_o0, np_r15_o0, (by (try simp only); first | omega | exact ⟨by omega, by omega⟩ | exact ⟨by omega, by omega, by omega⟩), E243⟩
  refine v_skip <| p_seqN <| v_ops <| s_pq o0 <| s_pq o2 <| s_pq (.pointer (some ⟨b5, 0, none⟩)) <| s_pq o2 <| s_pure (.int .i64 (nx.length : Int)) (fun _ q => s_o2.lenVC q) <| s_call [.pointer (some ⟨b5, 0, none⟩), .int .i64 (nx.length : Int)] rfl (spec_l1Cur_pick_ok b5 68 (12100 + 300 * (4 - j) + 4 * (k : Int)) h.size (nx.length : Int) _ bxb5 (by omega)) ?_
  rintro _ h249 ⟨g248, rfl, qh249, Ch249, mh249⟩
  have zh249 := mh249.size
  have E250 := Eh.mod mh249 (fun b hb => by simp at hb; omega)
  have f251 := (s_o2.mod mh249 (nb1 np_b5_o2))
  have hk252 : (g248).toNat < nx.length := (by first | omega | (simp; omega))
  obtain ⟨x253, hx253⟩ : ∃ x, nx[(g248).toNat]? = some x := ⟨_, List.getElem?_eq_getElem hk252⟩
  refine s_pure (.pointer (some ⟨sblk o2, soff o2 + ((g248).toNat) * 1, none⟩)) (fun _ q => f251.idx (k := (g248).toNat) (by omega) hk252 q) <| s_load (.int .i64 x253) (fun _ q => f251.load1 hx253 rfl q) ?_
  refine s_row (α := Int) [x253] (fun _ q => seg_i rfl (seg_nil q)) rfl (by simp [maxLen]) (fun r254 h255 eh255 zh255 s_r254 fr_r254 => ?_)
  have E256 := E250.trans eh255
  have z257 := eh255.size
  have f258 := ((s_o0.mod mh249 (nb1 np_b5_o0)).ext eh255)
  refine s_app f258 s_r254 rfl rfl rfl (by first | (simp [maxLen]; done) | (simp [maxLen]; omega)) (by first | (simp; done) | (simp; omega)) (fun r259 h260 mh260 zh260 s_r259 ab_r259 => ?_)
  have E261 := E256.mod mh260 (fun b hb => by have := fr_o0 b hb; omega)
  have fr_r259 := fr_o0.app ab_r259 (by omega)
  have np262 : b1 ∉ blks r259 := fun hc => (ab_r259 _ hc).elim np_b1_o0 (fun hc => by omega)
  have np263 : b5 ∉ blks r259 := fun hc => (ab_r259 _ hc).elim np_b5_o0 (fun hc => by omega)
  have np264 : b18 ∉ blks r259 := fun hc => (ab_r259 _ hc).elim np_b18_o0 (fun hc => by omega)
  have np266 : ∀ b ∈ blks r12, b ∉ blks r259 := fun b hb hc => (ab_r259 _ hc).elim ((np_r12_o0 : ∀ b ∈ blks r12, b ∉ blks o0) b hb) (fun hc => by have := ltk_r12 b hb; omega)
  have np268 : ∀ b ∈ blks r13, b ∉ blks r259 := fun b hb hc => (ab_r259 _ hc).elim ((np_r13_o0 : ∀ b ∈ blks r13, b ∉ blks o0) b hb) (fun hc => by have := ltk_r13 b hb; omega)
  have np270 : ∀ b ∈ blks r15, b ∉ blks r259 := fun b hb hc => (ab_r259 _ hc).elim ((np_r15_o0 : ∀ b ∈ blks r15, b ∉ blks o0) b hb) (fun hc => by have := ltk_r15 b hb; omega)
  refine s_pq r259 <| s_nil <| p_blkN <| p_seqN <| v_ops <| s_pq (.int .i64 j) <| s_pure (.int .i64 (j - 1)) (fun _ q => ArithVC.mk (by omega) q) <| s_pq (.int .i64 (j - 1)) <| s_nil ?_
  have f274 := (((bxb1.mod mh249 (by simp; omega)).ext eh255).mod mh260 np_b1_o0)
  have f275 := ((Ch249.ext eh255).mod mh260 np_b5_o0 (fun b hb => by have := fr_o0 b hb; omega))
  have f276 := (((bxb18.mod mh249 (by simp; omega)).ext eh255).mod mh260 np_b18_o0)
  have f277 := (((s_r12.mod mh249 (nb1 nk65)).ext eh255).mod mh260 np_r12_o0)
  have f278 := (((s_r13.mod mh249 (nb1 nk68)).ext eh255).mod mh260 np_r13_o0)
  have f279 := (((s_r15.mod mh249 (nb1 nk71)).ext eh255).mod mh260 np_r15_o0)
  exact p_lpN ⟨(j - 1), (w ++ [x253]), r259, ⟨rfl, rfl, rfl, rfl, rfl, rfl, rfl⟩, ⟨E261, f274, (f275.le (by first | omega | (simp; done) | (simp; omega))), f276, f277, f278, f279, (sl_eq s_r259 (by simp)), (fr_r259.mono (by omega)), np262, np263, np264, np266, np268, np270, (by exact ⟨by omega, by omega, by first | omega | (simp; done) | (simp; omega), by first | omega | (simp; omega)⟩)⟩, by first | omega | (simp; done) | (simp; omega)⟩
 refine v_exit <| p_seqX <| p_lpX <| p_blkX <| p_seqN <| v_seq <| v_seq <| v_ops <| s_pq (.pointer (some ⟨b5, 0, none⟩)) <| s_call [.pointer (some ⟨b5, 0, none⟩), .int .i64 20] rfl (spec_l1Cur_pick_ok b5 68 (12100 + 300 * (4 - j)) h.size 20 _ bxb5 (by omega)) ?_
 rintro _ h281 ⟨g280, rfl, qh281, Ch281, mh281⟩
 have zh281 := mh281.size
 have E282 := Eh.mod mh281 (fun b hb => by simp at hb; omega)
 refine s_nil <| p_seqN <| v_block <| v_seq <| v_ops <| s_pq (.bool (g280 == 0)) <| s_pq (.bool (g280 == 0)) <| s_nil <| p_seqN ?_
 refine v_cond rfl (fun c283 => ?_) (fun c283 => ?_)
 ·
  refine v_ops <| s_pq o0 <| s_pq (.pointer (some ⟨b5, 0, none⟩)) <| s_pq (.pointer (some ⟨b18, 0, none⟩)) ?_
  have f284 := (bxb18.mod mh281 (by simp; omega))
  refine s_load r12 (fun _ q => f284.load rfl q) <| s_pure (.int .i64 (g11.towers.length : Int)) (fun _ q => s_r12.lenVC q) ?_
  refine s_row (α := Int) [(-1), 0, (g11.towers.length : Int)] (fun _ q => seg_i rfl (seg_i rfl (seg_i rfl (seg_nil q)))) rfl (by simp [maxLen]) (fun r285 h286 eh286 zh286 s_r285 fr_r285 => ?_)
  have E287 := E282.trans eh286
  have z288 := eh286.size
  have f289 := (Ch281.ext eh286)
  refine s_call [.pointer (some ⟨b5, 0, none⟩), r285] rfl (spec_l1Cur_among_ok b5 68 ((12100 + 300 * (4 - j)) + 2) h.size r285 [(-1), 0, (g11.towers.length : Int)] _ f289 s_r285.toSl (fun b hb hc => by simp at hc; have := fr_r285 b hb; omega) (by omega) (by first | omega | assumption | (simp; done) | (simp; omega))) ?_
  rintro _ h291 ⟨g290, rfl, qh291, Ch291, mh291⟩
  have zh291 := mh291.size
  have E292 := E287.mod mh291 (fun b hb => by simp at hb; omega)
  simp only [List.mem_cons, List.not_mem_nil, or_false] at qh291
  refine s_row (α := Int) [g290] (fun _ q => seg_i rfl (seg_nil q)) rfl (by simp [maxLen]) (fun r293 h294 eh294 zh294 s_r293 fr_r293 => ?_)
  have E295 := E292.trans eh294
  have z296 := eh294.size
  have f297 := ((((s_o0.mod mh281 (nb1 np_b5_o0)).ext eh286).mod mh291 (nb1 np_b5_o0)).ext eh294)
  refine s_app f297 s_r293 rfl rfl rfl (by first | (simp [maxLen]; done) | (simp [maxLen]; omega)) (by first | (simp; done) | (simp; omega)) (fun r298 h299 mh299 zh299 s_r298 ab_r298 => ?_)
  have E300 := E295.mod mh299 (fun b hb => by have := fr_o0 b hb; omega)
  have fr_r298 := fr_o0.app ab_r298 (by omega)
  have np301 : b1 ∉ blks r298 := fun hc => (ab_r298 _ hc).elim np_b1_o0 (fun hc => by omega)
  have np305 : ∀ b ∈ blks r12, b ∉ blks r298 := fun b hb hc => (ab_r298 _ hc).elim ((np_r12_o0 : ∀ b ∈ blks r12, b ∉ blks o0) b hb) (fun hc => by have := ltk_r12 b hb; omega)
  have np307 : ∀ b ∈ blks r13, b ∉ blks r298 := fun b hb hc => (ab_r298 _ hc).elim ((np_r13_o0 : ∀ b ∈ blks r13, b ∉ blks o0) b hb) (fun hc => by have := ltk_r13 b hb; omega)
  have np309 : ∀ b ∈ blks r15, b ∉ blks r298 := fun b hb hc => (ab_r298 _ hc).elim ((np_r15_o0 : ∀ b ∈ blks r15, b ∉ blks o0) b hb) (fun hc => by have := ltk_r15 b hb; omega)
  refine s_pq r298 <| s_nil <| p_blkN <| p_seqN <| v_seq <| v_ops ?_
  have f312 := ((((f284.ext eh286).mod mh291 (by simp; omega)).ext eh294).mod mh299 np_b18_o0)
  refine s_load (.agg #[r12, r13]) (fun _ q => f312.loadA rfl q) <| s_pq r15 <| s_pq r298 <| s_pq (.int .i64 g26) ?_
  have f313 := (((((bxb1.mod mh281 (by simp; omega)).ext eh286).mod mh291 (by simp; omega)).ext eh294).mod mh299 np_b1_o0)
  refine s_stBx (.agg #[r12, r13]) [r12, r13] [r12, r13] f313 rfl rfl rfl rfl (by simp) (all_cons s_r12.one1 (all_cons s_r13.one1 all_nil)) rfl (fun h314 mh314 sh314 bxx315 => ?_)
  have E316 := E300.mod mh314 (fun b hb => by simp at hb; omega)
  refine s_pq r15 <| s_pq r298 <| s_pq (.int .i64 g26) <| s_nil <| p_seqN <| v_ret <| p_ret [.agg #[r12, r13], r15, r298, .int .i64 g26] (.tuple #[.agg #[r12, r13], r15, r298, .int .i64 g26]) (fun _ q => (bxx315.loadA rfl q)) rfl ?_
  have f317 := ((((((s_r12.mod mh281 (nb1 nk65)).ext eh286).mod mh291 (nb1 nk65)).ext eh294).mod mh299 np_r12_o0).mod mh314 (nb1 nk64))
  have f318 := ((((((s_r13.mod mh281 (nb1 nk68)).ext eh286).mod mh291 (nb1 nk68)).ext eh294).mod mh299 np_r13_o0).mod mh314 (nb1 nk67))
  have f319 := ((((((s_r15.mod mh281 (nb1 nk71)).ext eh286).mod mh291 (nb1 nk71)).ext eh294).mod mh299 np_r15_o0).mod mh314 (nb1 nk70))
  have f320 := (s_r298.mod mh314 (nb1 np301))
  exact ⟨⟨g11.towers, g11.links⟩, g14, (w ++ [g290]), g26, r12, r13, r15, r298, rfl, f317, (fr_r12.mono (by omega)), f318, (fr_r13.mono (by omega)), f319, (fr_r15.mono (by omega)), f320, (fr_r298.mono (by omega)), ap_r12_r13, ap_r12_r15, np305, ap_r13_r15, np307, np309, (by (try simp only); first | omega | exact ⟨by omega, by omega⟩ | exact ⟨by omega, by omega, by omega⟩), E316⟩
 refine v_seq <| v_ops <| s_pq (.bool (g280 == 1)) <| s_pq (.bool (g280 == 1)) <| s_nil <| p_seqN ?_
 refine v_cond rfl (fun c321 => ?_) (fun c321 => ?_)
 ·
  refine v_ops <| s_pq (.slice none 0 0) <| s_nil <| p_blkN <| p_seqN <| v_seq <| v_ops ?_
  have f322 := (bxb18.mod mh281 (by simp; omega))
  refine s_load (.agg #[r12, r13]) (fun _ q => f322.loadA rfl q) <| s_pq r15 <| s_pq (.slice none 0 0) <| s_pq (.int .i64 g26) ?_
  have f323 := (bxb1.mod mh281 (by simp; omega))
  refine s_stBx (.agg #[r12, r13]) [r12, r13] [r12, r13] f323 rfl rfl rfl rfl (by simp) (all_cons s_r12.one1 (all_cons s_r13.one1 all_nil)) rfl (fun h324 mh324 sh324 bxx325 => ?_)
  have E326 := E282.mod mh324 (fun b hb => by simp at hb; omega)
  refine s_pq r15 <| s_pq (.slice none 0 0) <| s_pq (.int .i64 g26) <| s_nil <| p_seqN <| v_ret <| p_ret [.agg #[r12, r13], r15, .slice none 0 0, .int .i64 g26] (.tuple #[.agg #[r12, r13], r15, .slice none 0 0, .int .i64 g26]) (fun _ q => (bxx325.loadA rfl q)) rfl ?_
  have f327 := ((s_r12.mod mh281 (nb1 nk65)).mod mh324 (nb1 nk64))
  have f328 := ((s_r13.mod mh281 (nb1 nk68)).mod mh324 (nb1 nk67))
  have f329 := ((s_r15.mod mh281 (nb1 nk71)).mod mh324 (nb1 nk70))
  exact ⟨⟨g11.towers, g11.links⟩, g14, [], g26, r12, r13, r15, (.slice none 0 0), rfl, f327, (fr_r12.mono (by omega)), f328, (fr_r13.mono (by omega)), f329, (fr_r15.mono (by omega)), (SlX.nil (α := Int) true _), (Fr.nil _), ap_r12_r13, ap_r12_r15, (fun b hb hc => by simp [blks] at hc), ap_r13_r15, (fun b hb hc => by simp [blks] at hc), (fun b hb hc => by simp [blks] at hc), (by (try simp only); first | omega | exact ⟨by omega, by omega⟩ | exact ⟨by omega, by omega, by omega⟩), E326⟩
 refine v_skip <| p_blkN <| p_seqN <| v_seq <| v_ops ?_
 have f330 := (bxb18.mod mh281 (by simp; omega))
 refine s_load (.agg #[r12, r13]) (fun _ q => f330.loadA rfl q) <| s_pq r15 <| s_pq o0 <| s_pq (.int .i64 g26) ?_
 have f331 := (bxb1.mod mh281 (by simp; omega))
 refine s_stBx (.agg #[r12, r13]) [r12, r13] [r12, r13] f331 rfl rfl rfl rfl (by simp) (all_cons s_r12.one1 (all_cons s_r13.one1 all_nil)) rfl (fun h332 mh332 sh332 bxx333 => ?_)
 have E334 := E282.mod mh332 (fun b hb => by simp at hb; omega)
 refine s_pq r15 <| s_pq o0 <| s_pq (.int .i64 g26) <| s_nil <| p_seqN <| v_ret <| p_ret [.agg #[r12, r13], r15, o0, .int .i64 g26] (.tuple #[.agg #[r12, r13], r15, o0, .int .i64 g26]) (fun _ q => (bxx333.loadA rfl q)) rfl ?_
 have f335 := ((s_r12.mod mh281 (nb1 nk65)).mod mh332 (nb1 nk64))
 have f336 := ((s_r13.mod mh281 (nb1 nk68)).mod mh332 (nb1 nk67))
 have f337 := ((s_r15.mod mh281 (nb1 nk71)).mod mh332 (nb1 nk70))
 have f338 := ((s_o0.mod mh281 (nb1 np_b5_o0)).mod mh332 (nb1 np_b1_o0))
 exact ⟨⟨g11.towers, g11.links⟩, g14, w, g26, r12, r13, r15, o0, rfl, f335, (fr_r12.mono (by omega)), f336, (fr_r13.mono (by omega)), f337, (fr_r15.mono (by omega)), f338, (fr_o0.mono (by omega)), ap_r12_r13, ap_r12_r15, np_r12_o0, ap_r13_r15, np_r13_o0, np_r15_o0, (by (try simp only); first | omega | exact ⟨by omega, by omega⟩ | exact ⟨by omega, by omega, by omega⟩), E334⟩

theorem spec_DrawWaitsAlong_ok (v_code : Value) (code : List By) (h : Heap) (s_code : Sl h v_code code) (hby : ∀ y ∈ code, 0 ≤ y.n ∧ y.n ≤ 255) (hsz : code.length ≤ 2000000) : Cn f_spec_DrawWaitsAlong [v_code] h fun v h' => ∃ g0 : NetP, ∃ g1 : List FogD, ∃ g2 : List Int, ∃ g3 : Int, ∃ r0 : Value, ∃ r1 : Value, ∃ r2 : Value, ∃ r3 : Value, v = .tuple #[.agg #[r0, r1], r2, r3, .int .i64 g3] ∧ SlO h' r0 g0.towers ∧ Fr h.size r0 ∧ SlO h' r1 g0.links ∧ Fr h.size r1 ∧ SlO h' r2 g1 ∧ Fr h.size r2 ∧ SlO h' r3 g2 ∧ Fr h.size r3 ∧ (∀ b ∈ blks r0, b ∉ blks r1) ∧ (∀ b ∈ blks r0, b ∉ blks r2) ∧ (∀ b ∈ blks r0, b ∉ blks r3) ∧ (∀ b ∈ blks r1, b ∉ blks r2) ∧ (∀ b ∈ blks r1, b ∉ blks r3) ∧ (∀ b ∈ blks r2, b ∉ blks r3) ∧ (g0.towers.length ≤ 20 ∧ g0.links.length ≤ 50 ∧ g1.length ≤ 61) ∧ Ext h h' := by
 have l63_code := s_code.len63
 refine calls_of r_spec_DrawWaitsAlong ?_
 refine v_seq <| v_ops ?_
 refine s_new (fun h2 b1 hbb1 hzb1 eh2 bxb1 => ?_)
 have E3 := (Ext.refl h).trans eh2
 have z4 := eh2.size
 have lbb1 := bxb1.lt
 refine s_pq (.slice none 0 0) <| s_pq (.slice none 0 0) <| s_pq (.int .i64 0) <| s_nil <| p_seqN <| v_seq <| v_ops <| s_pq v_code ?_
 have f5 := (s_code.ext eh2)
 refine s_call [v_code] rfl (spec_DrawArrivalAlong_ok v_code code _ f5 (by first | omega | assumption | (simp; done) | (simp; omega)) (by first | omega | assumption | (simp; done) | (simp; omega))) ?_
 rintro _ h14 ⟨g6, g9, g11, g13, r7, r8, r10, r12, rfl, s_r7, fr_r7, s_r8, fr_r8, s_r10, fr_r10, s_r12, fr_r12, ap_r7_r8, ap_r7_r10, ap_r7_r12, ap_r8_r10, ap_r8_r12, ap_r10_r12, qh14, eh14⟩
 have E15 := E3.trans eh14
 have z16 := eh14.size
 refine s_pq (.agg #[r7, r8]) <| s_pq r10 <| s_pq r12 <| s_pq (.int .i64 g13) ?_
 have f17 := (bxb1.ext eh14)
 refine s_stBx (.agg #[r7, r8]) [r7, r8] [r7, r8] f17 rfl rfl rfl rfl (by simp) (all_cons s_r7.one1 (all_cons s_r8.one1 all_nil)) rfl (fun h18 mh18 sh18 bxx19 => ?_)
 have E20 := E15.mod mh18 (fun b hb => by simp at hb; omega)
 refine s_pq r10 <| s_pq r12 <| s_pq (.int .i64 g13) <| s_nil <| p_seqN <| v_ret <| p_ret [.agg #[r7, r8], r10, r12, .int .i64 g13] (.tuple #[.agg #[r7, r8], r10, r12, .int .i64 g13]) (fun _ q => (bxx19.loadA rfl q)) rfl ?_
 have f21 := (s_r7.mod mh18 (fun b hb hc => by simp at hc; have := fr_r7 b hb; omega))
 have f22 := (s_r8.mod mh18 (fun b hb hc => by simp at hc; have := fr_r8 b hb; omega))
 have f23 := (s_r10.mod mh18 (fun b hb hc => by simp at hc; have := fr_r10 b hb; omega))
 have f24 := (s_r12.mod mh18 (fun b hb hc => by simp at hc; have := fr_r12 b hb; omega))
 exact ⟨⟨g6.towers, g6.links⟩, g9, g11, g13, r7, r8, r10, r12, rfl, f21, (fr_r7.mono (by omega)), f22, (fr_r8.mono (by omega)), f23, (fr_r10.mono (by omega)), f24, (fr_r12.mono (by omega)), ap_r7_r8, ap_r7_r10, ap_r7_r12, ap_r8_r10, ap_r8_r12, ap_r10_r12, (by (try simp only); first | omega | exact ⟨by omega, by omega⟩ | exact ⟨by omega, by omega, by omega⟩), E20⟩

end Go.Proofs.Ytgbaonaopkdlpaa


/- Contracts wanted by the laws of ways. Condition: none. Printed in part by a program. -/
namespace Go.Proofs.Ytgbaonaopkdlpaa
open Go.Vc
set_option linter.all false

theorem q_step {α : Type} {a b : List α} {k : Nat} {x y : α} (h : a.take k = b.take k) (hx : a[k]? = some x) (hy : b[k]? = some y) (e : x = y) : a.take (k + 1) = b.take (k + 1) := by
 rw [List.take_add_one, List.take_add_one, h, hx, hy, e]
theorem q_done {α : Type} {a b : List α} {k : Nat} (h : a.take k = b.take k) (hk : ¬ (k : Int) < (a.length : Int)) (hl : (a.length : Int) = (b.length : Int)) : a = b := by
 rw [List.take_of_length_le (by omega), List.take_of_length_le (by omega)] at h; exact h
theorem q_ne {α : Type} {a b : List α} {k : Nat} {x y : α} (hx : a[k]? = some x) (hy : b[k]? = some y) (h : ¬ x = y) : a ≠ b := fun e => by
 subst e; rw [hx] at hy; exact h (Option.some.inj hy)
noncomputable def lbOut (n : NetP) (a b : Int) : Int × Bool := if (NetOk n ∧ (0 ≤ a ∧ a ≤ (n.towers.length : Int) - 1)) ∧ (NetOk n ∧ (0 ≤ b ∧ b ≤ (n.towers.length : Int) - 1)) ∧ 0 ≤ lkI n a b then (lkI n a b, true) else (0, false)
theorem waits_facts {n : NetP} {l : List FogD} {way : List Int} {t : Int} (h : (waitsOf n l way t).2 = true) : AlongAsk n l way t ∧ (waitsOf n l way t).1 = (alTo n l (linksOf n way) t).2 ∧ (arrivOf n l way t).1 = (alTo n l (linksOf n way) t).1 ∧ (waitsOf n l way t).1.length + 1 = way.length := by
  by_cases c : AlongAsk n l way t
  · have hl := c.hw.len
    simp only [waitsOf, arrivOf, along_yes c]
    refine ⟨c, trivial, trivial, ?_⟩
    rw [alTo_len, linksOf, linksTo_len]; omega
  · rw [waits_no c] at h; cases h
theorem matter_flag {n : NetP} {a b : Int} : (matterOf n a b).2 = (firstOf n [] a b 0).2 := by
  by_cases c : (firstOf n [] a b 0).2 = true
  · rw [matter_yes c, c]
  · rw [matter_no c]; exact (Bool.eq_false_iff.2 c).symm
/-- one step along a way -/
theorem step_facts {n : NetP} {l : List FogD} {way : List Int} {t : Int} (h : AlongAsk n l way t) {k j : Nat} (hj : j = k + 1) {y x : Int} (hy : way[k]? = some y) (hx : way[j]? = some x) : lbOut n y x = (lkI n y x, true) ∧ 0 ≤ lkI n y x ∧ (lkI n y x).toNat < n.links.length := by
 subst hj
 have h0 := h.hw.link hy hx
 have hb := lkI_bd h.hn y x
 refine ⟨by rw [lbOut, if_pos ⟨⟨h.hn, h.hw.all _ (List.mem_of_getElem? hy)⟩, ⟨h.hn, h.hw.all _ (List.mem_of_getElem? hx)⟩, h0⟩], h0, by omega⟩
theorem step_wait {n : NetP} {l : List FogD} {way : List Int} {t : Int} (h : AlongAsk n l way t) {k j : Nat} (hj : j = k + 1) {y x w : Int} {z : LinkD} (hy : way[k]? = some y) (hx : way[j]? = some x) (hw : (waitsOf n l way t).1[k]? = some w) (hz : n.links[((lbOut n y x).1).toNat]? = some z) :
  0 ≤ w ∧ (alTo n l ((linksOf n way).take j) t).1 = (alTo n l ((linksOf n way).take k) t).1 + (w + z.delay) ∧ 1 ≤ z.delay ∧ z.delay ≤ 60 ∧ 0 ≤ (alTo n l ((linksOf n way).take k) t).1 ∧ (alTo n l ((linksOf n way).take j) t).1 ≤ 20000 := by
 obtain ⟨e1, e2, e3⟩ := step_facts h hj hy hx
 subst hj
 rw [e1] at hz
 simp only at hz
 have hz2 : lk n (lkI n y x) = z := by
  have := lk_get hz
  rw [show (((lkI n y x).toNat : Nat) : Int) = lkI n y x by omega] at this; exact this
 have hW : (waitsOf n l way t).1 = (alTo n l (linksOf n way) t).2 := by rw [waitsOf, along_yes h]
 rw [hW] at hw
 obtain ⟨a1, a2⟩ := along_wait hy hx hw
 rw [hz2] at a2
 have hok := h.hn.at hz
 have hl := h.hw.len
 have hk := (List.getElem?_eq_some_iff.1 hx).1
 have b1 := alTo_bd h.hn h.hf h.hw h.ht k (by rw [linksOf, linksTo_len]; omega)
 have b2 := alTo_bd h.hn h.hf h.hw h.ht (k + 1) (by rw [linksOf, linksTo_len]; omega)
 have ht := h.ht
 exact ⟨a1, a2, hok.2.2.2.1, hok.2.2.2.2, by omega, by omega⟩
theorem waits_pos {n : NetP} {l : List FogD} {way : List Int} {t : Int} (h : AlongAsk n l way t) {k : Nat} {w : Int} (hw : (waitsOf n l way t).1[k]? = some w) : 0 ≤ w := by
 have hW : (waitsOf n l way t).1 = (alTo n l (linksOf n way) t).2 := by rw [waitsOf, along_yes h]
 rw [hW] at hw
 have hk := (List.getElem?_eq_some_iff.1 hw).1
 rw [alTo_len, linksOf, linksTo_len] at hk
 exact (along_wait (List.getElem?_eq_getElem (show k < way.length by omega)) (List.getElem?_eq_getElem (show k + 1 < way.length by omega)) hw).1
theorem end_facts {n : NetP} {l : List FogD} {way : List Int} {t a b : Int} {j : Nat} (h : AlongAsk n l way t) (hj : j = way.length - 1) (ha : way[0]? = some a) (hb : way[j]? = some b) : (firstOf n l a b t).2 = true ∧ (firstOf n l a b t).1 ≤ (arrivOf n l way t).1 := by
 subst hj
 have e : gI way 0 = a := gI_get (i := 0) ha
 have := along_first h hb
 rw [e] at this
 simp only [arrivOf, along_yes h]; exact this
theorem now_end {n : NetP} {l : List FogD} {way : List Int} {t now : Int} {k : Nat} (h : AlongAsk n l way t) (hn : now = (alTo n l ((linksOf n way).take k) t).1) (hk : way.length ≤ k + 1) : now = (arrivOf n l way t).1 := by
 rw [hn, along_all (l := l) (t := t) hk]
 simp only [arrivOf, along_yes h]

theorem laws_qInts_ok (v_a : Value) (a : List Int) (v_b : Value) (b : List Int) (h : Heap) (s_a : Sl h v_a a) (s_b : Sl h v_b b) : Cn f_laws_qInts [v_a, v_b] h fun v h' => v = .bool (decide (a = b)) ∧ Ext h h' := by
 have l63_a := s_a.len63
 have l63_b := s_b.len63
 refine calls_of r_laws_qInts ?_
 refine v_seq <| v_ops <| s_pq (.bool false) <| s_nil <| p_seqN <| v_seq <| v_seq <| v_ops <| s_pq v_a <| s_pure (.int .i64 (a.length : Int)) (fun _ q => s_a.lenVC q) <| s_pq v_b <| s_pure (.int .i64 (b.length : Int)) (fun _ q => s_b.lenVC q) <| s_pq (.bool ((a.length : Int) != (b.length : Int))) <| s_nil <| p_seqN ?_
 refine v_cond rfl (fun c1 => ?_) (fun c1 => ?_)
 ·
  refine v_seq <| v_ops <| s_pq (.bool false) <| s_nil <| p_seqN <| v_ret <| p_seqR <| p_ret [.bool false] (.bool false) (fun _ q => q) rfl ?_
  have ho : (decide (a = b)) = false := by first | exact decide_eq_true (q_done hab (by assumption) (by assumption)) | exact decide_eq_false (q_ne (by assumption) (by assumption) (by assumption)) | exact decide_eq_false (fun hc => by subst hc; omega)
  exact ⟨by first | (rw [ho]; done) | rfl, (Ext.refl h)⟩
 have c1 := Classical.not_not.1 c1
 refine v_skip <| p_seqN <| v_seq <| v_seq <| v_ops <| s_pq v_a <| s_pure (.int .i64 (a.length : Int)) (fun _ q => s_a.lenVC q) <| s_pq (.int .i64 0) <| s_nil <| p_seqN <| v_block <| v_loop1 (α := Nat) (fun k => [(0, v_a), (1, v_b), (12, .int .i64 (a.length : Int)), (13, .int .i64 (k : Int))]) (fun k hh => Ext h hh ∧ k ≤ a.length ∧ a.take k = b.take k) (fun k => a.length - k) 0 ⟨rfl, rfl, rfl, rfl⟩ ⟨(Ext.refl h), (by simp)⟩ ?_
 rintro k R3 h2 ⟨Eh, ⟨hk, hab⟩⟩
 have zEh := Eh.size
 have f5 := s_a.ext Eh
 have f6 := s_b.ext Eh
 refine v_seq <| v_ops <| s_pq (.bool (decide ((k : Int) < (a.length : Int)))) <| s_nil <| p_seqN <| v_seq ?_
 refine v_cond rfl (fun c7 => ?_) (fun c7 => ?_)
 ·
  refine v_skip <| p_seqN <| v_seq <| v_block <| v_seq <| v_ops <| s_pq (.int .i64 (k : Int)) <| s_pq (.int .i64 (k : Int)) <| s_nil <| p_seqN <| v_seq <| v_ops <| s_pq v_a <| s_pq (.int .i64 (k : Int)) ?_
  have hk8 : k < a.length := (by first | omega | (simp; omega))
  obtain ⟨x9, hx9⟩ : ∃ x, a[k]? = some x := ⟨_, List.getElem?_eq_getElem hk8⟩
  refine s_pure (.pointer (some ⟨sblk v_a, soff v_a + k * 1, none⟩)) (fun _ q => f5.idx (k := k) rfl hk8 q) <| s_pq v_b <| s_pq (.int .i64 (k : Int)) ?_
  have hk10 : k < b.length := (by first | omega | (simp; omega))
  obtain ⟨x11, hx11⟩ : ∃ x, b[k]? = some x := ⟨_, List.getElem?_eq_getElem hk10⟩
  refine s_pure (.pointer (some ⟨sblk v_b, soff v_b + k * 1, none⟩)) (fun _ q => f6.idx (k := k) rfl hk10 q) <| s_load (.int .i64 x9) (fun _ q => f5.load1 hx9 rfl q) <| s_load (.int .i64 x11) (fun _ q => f6.load1 hx11 rfl q) <| s_pq (.bool (x9 != x11)) <| s_nil <| p_seqN ?_
  refine v_cond rfl (fun c12 => ?_) (fun c12 => ?_)
  ·
   refine v_seq <| v_ops <| s_pq (.bool false) <| s_nil <| p_seqN <| v_ret <| p_blkR <| p_seqR <| p_lpR <| p_blkR <| p_seqR <| p_ret [.bool false] (.bool false) (fun _ q => q) rfl ?_
   have ho : (decide (a = b)) = false := by first | exact decide_eq_true (q_done hab (by assumption) (by assumption)) | exact decide_eq_false (q_ne (by assumption) (by assumption) (by assumption)) | exact decide_eq_false (fun hc => by subst hc; omega)
   exact ⟨by first | (rw [ho]; done) | rfl, Eh⟩
  have c12 := Classical.not_not.1 c12
  refine v_skip <| p_blkN <| p_seqN <| v_ops <| s_pure (.int .i64 ((k : Int) + 1)) (fun _ q => ArithVC.mk (by omega) q) <| s_pq (.int .i64 ((k : Int) + 1)) <| s_nil ?_
  exact p_lpN ⟨k + 1, ⟨rfl, rfl, rfl, rfl⟩, ⟨Eh, (by exact ⟨by omega, q_step hab (by assumption) (by assumption) (by first | assumption | (simp_all; done))⟩)⟩, by omega⟩
 refine v_exit <| p_seqX <| p_lpX <| p_blkX <| p_seqN <| v_seq <| v_ops <| s_pq (.bool true) <| s_nil <| p_seqN <| v_ret <| p_ret [.bool true] (.bool true) (fun _ q => q) rfl ?_
 have ho : (decide (a = b)) = true := by first | exact decide_eq_true (q_done hab (by assumption) (by assumption)) | exact decide_eq_false (q_ne (by assumption) (by assumption) (by assumption)) | exact decide_eq_false (fun hc => by subst hc; omega)
 exact ⟨by first | (rw [ho]; done) | rfl, Eh⟩

theorem laws_qHas_ok (v_l : Value) (l : List Int) (n : Int) (h : Heap) (s_l : Sl h v_l l) : Cn f_laws_qHas [v_l, .int .i64 n] h fun v h' => v = .bool (decide (n ∈ l)) ∧ Ext h h' := by
 have l63_l := s_l.len63
 refine calls_of r_laws_qHas ?_
 refine v_seq <| v_ops <| s_pq (.bool false) <| s_nil <| p_seqN <| v_seq <| v_seq <| v_ops <| s_pq v_l <| s_pure (.int .i64 (l.length : Int)) (fun _ q => s_l.lenVC q) <| s_pq (.int .i64 0) <| s_nil <| p_seqN <| v_block <| v_loop1 (α := Nat) (fun k => [(1, .int .i64 n), (7, v_l), (8, .int .i64 (l.length : Int)), (9, .int .i64 (k : Int))]) (fun k hh => Ext h hh ∧ k ≤ l.length ∧ n ∉ l.take k) (fun k => l.length - k) 0 ⟨rfl, rfl, rfl, rfl⟩ ⟨(Ext.refl h), (by simp)⟩ ?_
 rintro k R2 h1 ⟨Eh, ⟨hk, hn⟩⟩
 have zEh := Eh.size
 have f4 := s_l.ext Eh
 refine v_seq <| v_ops <| s_pq (.bool (decide ((k : Int) < (l.length : Int)))) <| s_nil <| p_seqN <| v_seq ?_
 refine v_cond rfl (fun c5 => ?_) (fun c5 => ?_)
 ·
  refine v_skip <| p_seqN <| v_seq <| v_block <| v_seq <| v_ops ?_
  have hk6 : k < l.length := (by first | omega | (simp; omega))
  obtain ⟨x7, hx7⟩ : ∃ x, l[k]? = some x := ⟨_, List.getElem?_eq_getElem hk6⟩
  refine s_pure (.pointer (some ⟨sblk v_l, soff v_l + k * 1, none⟩)) (fun _ q => f4.idx (k := k) rfl hk6 q) <| s_load (.int .i64 x7) (fun _ q => f4.load1 hx7 rfl q) <| s_pq (.int .i64 x7) <| s_nil <| p_seqN <| v_seq <| v_ops <| s_pq (.int .i64 x7) <| s_pq (.int .i64 n) <| s_pq (.bool (x7 == n)) <| s_nil <| p_seqN ?_
  refine v_cond rfl (fun c8 => ?_) (fun c8 => ?_)
  ·
   refine v_seq <| v_ops <| s_pq (.bool true) <| s_nil <| p_seqN <| v_ret <| p_blkR <| p_seqR <| p_lpR <| p_blkR <| p_seqR <| p_ret [.bool true] (.bool true) (fun _ q => q) rfl ?_
   have ho : (decide (n ∈ l)) = true := by first | exact decide_eq_true (List.mem_of_getElem? ((by assumption : l[k]? = some _).trans (by first | (simp_all; done) | (congr 1)))) | exact decide_eq_false (by rw [← List.take_of_length_le (show l.length ≤ k by omega)]; exact hn)
   exact ⟨by first | (rw [ho]; done) | rfl, Eh⟩
  refine v_skip <| p_blkN <| p_seqN <| v_ops <| s_pure (.int .i64 ((k : Int) + 1)) (fun _ q => ArithVC.mk (by omega) q) <| s_pq (.int .i64 ((k : Int) + 1)) <| s_nil ?_
  exact p_lpN ⟨k + 1, ⟨rfl, rfl, rfl, rfl⟩, ⟨Eh, (by exact ⟨by omega, by rw [List.take_add_one, hx7]; simp only [Option.toList_some, List.mem_append, List.mem_singleton]; exact fun hc => hc.elim hn (fun e => (by assumption : ¬ _ = _) e.symm)⟩)⟩, by omega⟩
 refine v_exit <| p_seqX <| p_lpX <| p_blkX <| p_seqN <| v_seq <| v_ops <| s_pq (.bool false) <| s_nil <| p_seqN <| v_ret <| p_ret [.bool false] (.bool false) (fun _ q => q) rfl ?_
 have ho : (decide (n ∈ l)) = false := by first | exact decide_eq_true (List.mem_of_getElem? ((by assumption : l[k]? = some _).trans (by first | (simp_all; done) | (congr 1)))) | exact decide_eq_false (by rw [← List.take_of_length_le (show l.length ≤ k by omega)]; exact hn)
 exact ⟨by first | (rw [ho]; done) | rfl, Eh⟩

set_option maxRecDepth 10000 in
set_option maxHeartbeats 4000000 in
theorem spec_LinkBetween_ok (n : NetP) (v_n_towers : Value) (v_n_links : Value) (a : Int) (b : Int) (h : Heap) (s_n_towers : Sl h v_n_towers n.towers) (s_n_links : Sl h v_n_links n.links) : Cn f_spec_LinkBetween [.agg #[v_n_towers, v_n_links], .int .i64 a, .int .i64 b] h fun v h' => v = .tuple #[.int .i64 ((lbOut n a b).1), .bool ((lbOut n a b).2)] ∧ Ext h h' := by
 have l63_n_towers := s_n_towers.len63
 have l63_n_links := s_n_links.len63
 refine calls_of r_spec_LinkBetween ?_
 refine v_seq <| v_ops ?_
 refine s_box [v_n_towers, v_n_links] rfl (fun h2 b1 hbb1 hzb1 eh2 bxb1 => ?_)
 have E3 := (Ext.refl h).trans eh2
 have z4 := eh2.size
 have lbb1 := bxb1.lt
 refine s_pq (.int .i64 0) <| s_pq (.bool false) <| s_nil <| p_seqN <| v_seq <| v_seq <| v_ops <| s_load (.agg #[v_n_towers, v_n_links]) (fun _ q => bxb1.loadA rfl q) <| s_pq (.int .i64 a) ?_
 have f5 := (s_n_towers.ext eh2)
 have f6 := (s_n_links.ext eh2)
 refine s_call [.agg #[v_n_towers, v_n_links], .int .i64 a] rfl (spec_neHas_ok n v_n_towers v_n_links a _ f5 f6) ?_
 rintro _ h7 ⟨rfl, eh7⟩
 have E8 := E3.trans eh7
 have z9 := eh7.size
 refine s_pq (.bool (!(decide (NetOk n ∧ (0 ≤ a ∧ a ≤ (n.towers.length : Int) - 1))))) <| s_pq (.bool (!(decide (NetOk n ∧ (0 ≤ a ∧ a ≤ (n.towers.length : Int) - 1))))) ?_
 refine s_splitT rfl (fun c10 => ?_) (fun c10 => ?_)
 ·
  refine s_pass rfl <| s_pass rfl <| s_pass rfl <| s_pass rfl <| s_pq (.bool true) <| s_pq (.bool true) <| s_splitY rfl rfl <| s_pass rfl <| s_pass rfl <| s_pass rfl <| s_pass rfl <| s_pass rfl <| s_pq (.bool true) <| s_nil <| p_seqN <| v_condY rfl rfl <| v_seq <| v_ops <| s_pq (.int .i64 0) <| s_pq (.bool false) <| s_nil <| p_seqN <| v_ret <| p_seqR <| p_ret [.int .i64 0, .bool false] (.tuple #[.int .i64 0, .bool false]) (fun _ q => q) rfl ?_
  have ho : lbOut n a b = (0, false) := by first | (rw [lbOut, if_pos ⟨by assumption, by assumption, by omega⟩]; done) | (rw [lbOut, if_neg (fun hc => by first | exact absurd hc.1 (by assumption) | exact absurd hc.2.1 (by assumption) | (have := hc.2.2; omega))]; done)
  exact ⟨by first | (rw [ho]; done) | rfl, E8⟩
 have c10 := Classical.not_not.1 c10
 refine s_run rfl ?_
 have f11 := (bxb1.ext eh7)
 refine s_load (.agg #[v_n_towers, v_n_links]) (fun _ q => f11.loadA rfl q) <| s_run rfl <| s_pq (.int .i64 b) <| s_run rfl ?_
 have f12 := (f5.ext eh7)
 have f13 := (f6.ext eh7)
 refine s_call [.agg #[v_n_towers, v_n_links], .int .i64 b] rfl (spec_neHas_ok n v_n_towers v_n_links b _ f12 f13) ?_
 rintro _ h14 ⟨rfl, eh14⟩
 have E15 := E8.trans eh14
 have z16 := eh14.size
 refine s_run rfl <| s_pq (.bool (!(decide (NetOk n ∧ (0 ≤ b ∧ b ≤ (n.towers.length : Int) - 1))))) <| s_pq (.bool (!(decide (NetOk n ∧ (0 ≤ b ∧ b ≤ (n.towers.length : Int) - 1))))) <| s_pq (.bool (!(decide (NetOk n ∧ (0 ≤ b ∧ b ≤ (n.towers.length : Int) - 1))))) ?_
 refine s_splitT rfl (fun c17 => ?_) (fun c17 => ?_)
 ·
  refine s_pass rfl <| s_pass rfl <| s_pass rfl <| s_pass rfl <| s_pass rfl <| s_pq (.bool true) <| s_nil <| p_seqN <| v_condY rfl rfl <| v_seq <| v_ops <| s_pq (.int .i64 0) <| s_pq (.bool false) <| s_nil <| p_seqN <| v_ret <| p_seqR <| p_ret [.int .i64 0, .bool false] (.tuple #[.int .i64 0, .bool false]) (fun _ q => q) rfl ?_
  have ho : lbOut n a b = (0, false) := by first | (rw [lbOut, if_pos ⟨by assumption, by assumption, by omega⟩]; done) | (rw [lbOut, if_neg (fun hc => by first | exact absurd hc.1 (by assumption) | exact absurd hc.2.1 (by assumption) | (have := hc.2.2; omega))]; done)
  exact ⟨by first | (rw [ho]; done) | rfl, E15⟩
 have c17 := Classical.not_not.1 c17
 refine s_run rfl ?_
 have f18 := (f11.ext eh14)
 refine s_load (.agg #[v_n_towers, v_n_links]) (fun _ q => f18.loadA rfl q) <| s_run rfl <| s_pq (.int .i64 a) <| s_run rfl <| s_pq (.int .i64 b) <| s_run rfl ?_
 have f19 := (f12.ext eh14)
 have f20 := (f13.ext eh14)
 refine s_call [.agg #[v_n_towers, v_n_links], .int .i64 a, .int .i64 b] rfl (spec_neLink_ok n v_n_towers v_n_links a b _ f19 f20) ?_
 rintro _ h21 ⟨rfl, eh21⟩
 have E22 := E15.trans eh21
 have z23 := eh21.size
 refine s_run rfl <| s_pq (.bool (decide ((lkI n a b) < 0))) <| s_pq (.bool (decide ((lkI n a b) < 0))) <| s_nil <| p_seqN ?_
 refine v_cond rfl (fun c24 => ?_) (fun c24 => ?_)
 ·
  refine v_seq <| v_ops <| s_pq (.int .i64 0) <| s_pq (.bool false) <| s_nil <| p_seqN <| v_ret <| p_seqR <| p_ret [.int .i64 0, .bool false] (.tuple #[.int .i64 0, .bool false]) (fun _ q => q) rfl ?_
  have ho : lbOut n a b = (0, false) := by first | (rw [lbOut, if_pos ⟨by assumption, by assumption, by omega⟩]; done) | (rw [lbOut, if_neg (fun hc => by first | exact absurd hc.1 (by assumption) | exact absurd hc.2.1 (by assumption) | (have := hc.2.2; omega))]; done)
  exact ⟨by first | (rw [ho]; done) | rfl, E22⟩
 refine v_skip <| p_seqN <| v_seq <| v_ops ?_
 have f25 := (f18.ext eh21)
 refine s_load (.agg #[v_n_towers, v_n_links]) (fun _ q => f25.loadA rfl q) <| s_pq (.int .i64 a) <| s_pq (.int .i64 b) ?_
 have f26 := (f19.ext eh21)
 have f27 := (f20.ext eh21)
 refine s_call [.agg #[v_n_towers, v_n_links], .int .i64 a, .int .i64 b] rfl (spec_neLink_ok n v_n_towers v_n_links a b _ f26 f27) ?_
 rintro _ h28 ⟨rfl, eh28⟩
 have E29 := E22.trans eh28
 have z30 := eh28.size
 refine s_pq (.int .i64 (lkI n a b)) <| s_pq (.bool true) <| s_nil <| p_seqN <| v_ret <| p_ret [.int .i64 (lkI n a b), .bool true] (.tuple #[.int .i64 (lkI n a b), .bool true]) (fun _ q => q) rfl ?_
 have ho : lbOut n a b = ((lkI n a b), true) := by first | (rw [lbOut, if_pos ⟨by assumption, by assumption, by omega⟩]; done) | (rw [lbOut, if_neg (fun hc => by first | exact absurd hc.1 (by assumption) | exact absurd hc.2.1 (by assumption) | (have := hc.2.2; omega))]; done)
 exact ⟨by first | (rw [ho]; done) | rfl, E29⟩

end Go.Proofs.Ytgbaonaopkdlpaa

