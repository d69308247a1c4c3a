/- Wy3, Wy4. Condition: none. -/
import Derived.Test.YtgbaonaopkdlpaaMgE
/- What is drawn for nets, not all valid. Condition: none. Printed in part by a program. -/
namespace Go.Proofs.Ytgbaonaopkdlpaa
open Go.Vc
set_option linter.all false
set_option maxRecDepth 10000 in
set_option maxHeartbeats 4000000 in
theorem spec_l1Cur_anyNet_ok (p_c : Nat) (t_c : TypeId) (m_c : Int) (lo_c : Nat) (h : Heap) (C_c : Cur h p_c t_c m_c lo_c) (hm : m_c + 5000 ≤ 4000000000000000000) : Cn f_spec_l1Cur_anyNet [.pointer (some ⟨p_c, 0, none⟩)] h fun v h' => ∃ g0 : NetP, ∃ r0 : Value, ∃ r1 : Value, v = .agg #[r0, r1] ∧ SlO h' r0 g0.towers ∧ Fr h.size r0 ∧ SlO h' r1 g0.links ∧ Fr h.size r1 ∧ (∀ b ∈ blks r0, b ∉ blks r1) ∧ (g0.towers.length ≤ 20 ∧ g0.links.length ≤ 50) ∧ Cur h' p_c t_c (m_c + 5000) lo_c ∧ Mod [p_c] h h' := by
 have lc_c := C_c.lt
 have ll_c := C_c.low
 have lm_c := C_c.top
 refine calls_of r_spec_l1Cur_anyNet ?_
 refine v_seq <| v_ops ?_
 refine s_new (fun h2 b1 hbb1 hzb1 eh2 bxb1 => ?_)
 have E3 := (Mod.refl [p_c] h).trans (Mod.of_ext eh2 _)
 have z4 := eh2.size
 have lbb1 := bxb1.lt
 refine s_nil <| p_seqN <| v_seq <| v_ops <| s_pq (.pointer (some ⟨p_c, 0, none⟩)) ?_
 have f5 := (C_c.ext eh2)
 refine s_call [.pointer (some ⟨p_c, 0, none⟩)] rfl (spec_l1Cur_net_ok p_c t_c m_c lo_c _ f5 (by omega)) ?_
 rintro _ h9 ⟨g6, r7, r8, rfl, s_r7, fr_r7, s_r8, fr_r8, ap_r7_r8, qh9, Ch9, mh9⟩
 have zh9 := mh9.size
 have E10 := E3.new mh9 (fun b hb => .inl (by simp at hb; simp [hb]))
 have lt_r7 := s_r7.lt
 have lt_r8 := s_r8.lt
 refine s_new (fun h12 b11 hbb11 hzb11 eh12 bxb11 => ?_)
 have E13 := E10.trans (Mod.of_ext eh12 _)
 have z14 := eh12.size
 have lbb11 := bxb11.lt
 refine s_stBx (.agg #[r7, r8]) [r7, r8] [r7, r8] bxb11 rfl rfl rfl rfl (by simp) (all_cons s_r7.one1 (all_cons s_r8.one1 all_nil)) rfl (fun h15 mh15 sh15 bxx16 => ?_)
 have E17 := E13.new mh15 (fun b hb => .inr (by simp at hb; omega))
 refine s_nil <| p_seqN <| v_seq ?_
 refine v_draw (DrawVC.hold ([b11]) ?_)
 refine d_pq (.pointer (some ⟨b11, 0, none⟩)) <| d_pq (.pointer (some ⟨p_c, 0, none⟩)) <| d_pq (.pointer (some ⟨b11, 0, none⟩)) <| d_loadO r7 (fun _ q => bxx16.load rfl q) <| d_pureT (.int .i64 (g6.towers.length : Int)) (fun _ q => s_r7.lenVC q) <| d_loadT r7 (fun _ q => bxx16.take (by simp) rfl q) <| d_eff ?_
 have f18 := ((Ch9.ext eh12).mod mh15 (by simp; omega) (fun b hb => by simp at hb; omega))
 refine s_call [.pointer (some ⟨p_c, 0, none⟩), .int .i64 (g6.towers.length : Int)] rfl (spec_l1Cur_pick_ok p_c t_c (m_c + 4000) lo_c (g6.towers.length : Int) _ f18 (by omega)) ?_
 rintro _ h20 ⟨g19, rfl, qh20, Ch20, mh20⟩
 have zh20 := mh20.size
 have E21 := E17.new mh20 (fun b hb => .inl (by simp at hb; simp [hb]))
 have G22 := gmod1 (b := b11) (h := h15) (h0 := h15) mh20 (by omega) (by simp; omega) (fun _ _ => rfl)
 refine s_nil ⟨fun _ x hx => G22 x hx, ?_⟩
 have f23 := (((s_r7.ext eh12).mod mh15 (fun b hb hc => by simp at hc; have := lt_r7 b hb; omega)).mod mh20 (fun b hb hc => by simp at hc; have := fr_r7 b hb; omega))
 have hk24 : (g19).toNat < g6.towers.length := (by first | omega | (simp; omega))
 obtain ⟨x25, hx25⟩ : ∃ x, g6.towers[(g19).toNat]? = some x := ⟨_, List.getElem?_eq_getElem hk24⟩
 refine d_pureT (.pointer (some ⟨sblk r7, soff r7 + ((g19).toNat) * 3, none⟩)) (fun _ q => f23.idx (k := (g19).toNat) (by omega) hk24 q) <| d_pq (.pointer (some ⟨sblk r7, soff r7 + ((g19).toNat) * 3, none⟩)) <| d_done <| p_seqN <| v_seq <| v_seq <| v_ops <| s_pq (.pointer (some ⟨p_c, 0, none⟩)) <| s_call [.pointer (some ⟨p_c, 0, none⟩), .int .i64 36] rfl (spec_l1Cur_pick_ok p_c t_c ((m_c + 4000) + 2) lo_c 36 _ Ch20 (by omega)) ?_
 rintro _ h27 ⟨g26, rfl, qh27, Ch27, mh27⟩
 have zh27 := mh27.size
 have E28 := E21.new mh27 (fun b hb => .inl (by simp at hb; simp [hb]))
 refine s_nil <| p_seqN <| v_block <| v_seq <| v_ops <| s_pq (.bool (g26 == 0)) <| s_pq (.bool (g26 == 0)) <| s_nil <| p_seqN ?_
 refine v_cond rfl (fun c29 => ?_) (fun c29 => ?_)
 ·
  refine v_ops <| s_pq (.pointer (some ⟨sblk r7, soff r7 + ((g19).toNat) * 3, none⟩)) <| s_pq (.pointer (some ⟨p_c, 0, none⟩)) ?_
  refine s_row (α := Int) [(-1), 999, 1000] (fun _ q => seg_i rfl (seg_i rfl (seg_i rfl (seg_nil q)))) rfl (by simp [maxLen]) (fun r30 h31 eh31 zh31 s_r30 fr_r30 => ?_)
  have E32 := E28.trans (Mod.of_ext eh31 _)
  have z33 := eh31.size
  have f34 := (Ch27.ext eh31)
  refine s_call [.pointer (some ⟨p_c, 0, none⟩), r30] rfl (spec_l1Cur_among_ok p_c t_c (((m_c + 4000) + 2) + 2) lo_c r30 [(-1), 999, 1000] _ f34 s_r30.toSl (fun b hb hc => by simp at hc; have := fr_r30 b hb; omega) (by omega) (by first | omega | assumption | (simp; done) | (simp; omega))) ?_
  rintro _ h36 ⟨g35, rfl, qh36, Ch36, mh36⟩
  have zh36 := mh36.size
  have E37 := E32.new mh36 (fun b hb => .inl (by simp at hb; simp [hb]))
  simp only [List.mem_cons, List.not_mem_nil, or_false] at qh36
  refine s_pq (.pointer (some ⟨sblk r7, soff r7 + ((g19).toNat) * 3, none⟩)) <| s_pq (.pointer (some ⟨sblk r7, soff r7 + ((g19).toNat) * 3, none⟩)) ?_
  have f38 := (((f23.mod mh27 (fun b hb hc => by simp at hc; have := fr_r7 b hb; omega)).ext eh31).mod mh36 (fun b hb hc => by simp at hc; have := fr_r7 b hb; omega))
  refine s_stSl (k := (g19).toNat) (j := 0) (⟨g35, x25.y, x25.height⟩ : TowerD) (.int .i64 g35) [.int .i64 g35] f38 rfl rfl rfl rfl rfl hx25 (Nat.le_of_ble_eq_true rfl) rfl (all_cons rfl all_nil) (fun h39 mh39 sh39 s40 => ?_)
  have E41 := E37.new mh39 (fun b hb => .inr (by have := fr_r7 b hb; omega))
  refine s_nil <| p_blkN <| p_seqN <| v_seq <| v_ops ?_
  have f42 := (((((bxx16.mod mh20 (by simp; omega)).mod mh27 (by simp; omega)).ext eh31).mod mh36 (by simp; omega)).mod mh39 (fun hc => by have := lt_r7 _ hc; omega))
  refine s_load (.agg #[r7, r8]) (fun _ q => f42.loadA rfl q) ?_
  have f43 := ((((((((bxb1.mod mh9 (by simp; omega)).ext eh12).mod mh15 (by simp; omega)).mod mh20 (by simp; omega)).mod mh27 (by simp; omega)).ext eh31).mod mh36 (by simp; omega)).mod mh39 (fun hc => by have := fr_r7 _ hc; omega))
  refine s_stBx (.agg #[r7, r8]) [r7, r8] [r7, r8] f43 rfl rfl rfl rfl (by simp) (all_cons s40.one1 (all_cons s_r8.one1 all_nil)) rfl (fun h44 mh44 sh44 bxx45 => ?_)
  have E46 := E41.new mh44 (fun b hb => .inr (by simp at hb; omega))
  refine s_nil <| p_seqN <| v_ret <| p_ret [.agg #[r7, r8]] (.agg #[r7, r8]) (fun _ q => (bxx45.loadA rfl q)) rfl ?_
  have f47 := (s40.mod mh44 (fun b hb hc => by simp at hc; have := fr_r7 b hb; omega))
  have f48 := ((((((((s_r8.ext eh12).mod mh15 (fun b hb hc => by simp at hc; have := lt_r8 b hb; omega)).mod mh20 (fun b hb hc => by simp at hc; have := fr_r8 b hb; omega)).mod mh27 (fun b hb hc => by simp at hc; have := fr_r8 b hb; omega)).ext eh31).mod mh36 (fun b hb hc => by simp at hc; have := fr_r8 b hb; omega)).mod mh39 (fun b hb hc => ap_r7_r8 b hc hb)).mod mh44 (fun b hb hc => by simp at hc; have := fr_r8 b hb; omega))
  have f49 := ((Ch36.mod mh39 (fun hc => by have := fr_r7 _ hc; omega) (fun b hb => by have := fr_r7 b hb; omega)).mod mh44 (by simp; omega) (fun b hb => by simp at hb; omega))
  exact ⟨⟨(g6.towers.set ((g19).toNat) (⟨g35, x25.y, x25.height⟩ : TowerD)), g6.links⟩, r7, r8, rfl, f47, (fr_r7.mono (by omega)), f48, (fr_r8.mono (by omega)), ap_r7_r8, (by (try simp only); exact ⟨by first | omega | (simp; done) | (simp; omega), by first | omega | (simp; done) | (simp; omega)⟩), (f49.le (by omega)), E46⟩
 refine v_seq <| v_ops <| s_pq (.bool (g26 == 1)) <| s_pq (.bool (g26 == 1)) <| s_nil <| p_seqN ?_
 refine v_cond rfl (fun c50 => ?_) (fun c50 => ?_)
 ·
  refine v_ops <| s_pq (.pointer (some ⟨sblk r7, soff r7 + ((g19).toNat) * 3, none⟩)) <| s_pq (.pointer (some ⟨p_c, 0, none⟩)) ?_
  refine s_row (α := Int) [(-1), 999, 1000] (fun _ q => seg_i rfl (seg_i rfl (seg_i rfl (seg_nil q)))) rfl (by simp [maxLen]) (fun r51 h52 eh52 zh52 s_r51 fr_r51 => ?_)
  have E53 := E28.trans (Mod.of_ext eh52 _)
  have z54 := eh52.size
  have f55 := (Ch27.ext eh52)
  refine s_call [.pointer (some ⟨p_c, 0, none⟩), r51] rfl (spec_l1Cur_among_ok p_c t_c (((m_c + 4000) + 2) + 2) lo_c r51 [(-1), 999, 1000] _ f55 s_r51.toSl (fun b hb hc => by simp at hc; have := fr_r51 b hb; omega) (by omega) (by first | omega | assumption | (simp; done) | (simp; omega))) ?_
  rintro _ h57 ⟨g56, rfl, qh57, Ch57, mh57⟩
  have zh57 := mh57.size
  have E58 := E53.new mh57 (fun b hb => .inl (by simp at hb; simp [hb]))
  simp only [List.mem_cons, List.not_mem_nil, or_false] at qh57
  refine s_pq (.pointer (some ⟨sblk r7, soff r7 + ((g19).toNat) * 3, none⟩)) <| s_pq (.pointer (some ⟨sblk r7, soff r7 + ((g19).toNat) * 3 + 1, none⟩)) ?_
  have f59 := (((f23.mod mh27 (fun b hb hc => by simp at hc; have := fr_r7 b hb; omega)).ext eh52).mod mh57 (fun b hb hc => by simp at hc; have := fr_r7 b hb; omega))
  refine s_stSl (k := (g19).toNat) (j := 1) (⟨x25.x, g56, x25.height⟩ : TowerD) (.int .i64 g56) [.int .i64 g56] f59 rfl rfl rfl rfl rfl hx25 (Nat.le_of_ble_eq_true rfl) rfl (all_cons rfl all_nil) (fun h60 mh60 sh60 s61 => ?_)
  have E62 := E58.new mh60 (fun b hb => .inr (by have := fr_r7 b hb; omega))
  refine s_nil <| p_blkN <| p_seqN <| v_seq <| v_ops ?_
  have f63 := (((((bxx16.mod mh20 (by simp; omega)).mod mh27 (by simp; omega)).ext eh52).mod mh57 (by simp; omega)).mod mh60 (fun hc => by have := lt_r7 _ hc; omega))
  refine s_load (.agg #[r7, r8]) (fun _ q => f63.loadA rfl q) ?_
  have f64 := ((((((((bxb1.mod mh9 (by simp; omega)).ext eh12).mod mh15 (by simp; omega)).mod mh20 (by simp; omega)).mod mh27 (by simp; omega)).ext eh52).mod mh57 (by simp; omega)).mod mh60 (fun hc => by have := fr_r7 _ hc; omega))
  refine s_stBx (.agg #[r7, r8]) [r7, r8] [r7, r8] f64 rfl rfl rfl rfl (by simp) (all_cons s61.one1 (all_cons s_r8.one1 all_nil)) rfl (fun h65 mh65 sh65 bxx66 => ?_)
  have E67 := E62.new mh65 (fun b hb => .inr (by simp at hb; omega))
  refine s_nil <| p_seqN <| v_ret <| p_ret [.agg #[r7, r8]] (.agg #[r7, r8]) (fun _ q => (bxx66.loadA rfl q)) rfl ?_
  have f68 := (s61.mod mh65 (fun b hb hc => by simp at hc; have := fr_r7 b hb; omega))
  have f69 := ((((((((s_r8.ext eh12).mod mh15 (fun b hb hc => by simp at hc; have := lt_r8 b hb; omega)).mod mh20 (fun b hb hc => by simp at hc; have := fr_r8 b hb; omega)).mod mh27 (fun b hb hc => by simp at hc; have := fr_r8 b hb; omega)).ext eh52).mod mh57 (fun b hb hc => by simp at hc; have := fr_r8 b hb; omega)).mod mh60 (fun b hb hc => ap_r7_r8 b hc hb)).mod mh65 (fun b hb hc => by simp at hc; have := fr_r8 b hb; omega))
  have f70 := ((Ch57.mod mh60 (fun hc => by have := fr_r7 _ hc; omega) (fun b hb => by have := fr_r7 b hb; omega)).mod mh65 (by simp; omega) (fun b hb => by simp at hb; omega))
  exact ⟨⟨(g6.towers.set ((g19).toNat) (⟨x25.x, g56, x25.height⟩ : TowerD)), g6.links⟩, r7, r8, rfl, f68, (fr_r7.mono (by omega)), f69, (fr_r8.mono (by omega)), ap_r7_r8, (by (try simp only); exact ⟨by first | omega | (simp; done) | (simp; omega), by first | omega | (simp; done) | (simp; omega)⟩), (f70.le (by omega)), E67⟩
 refine v_seq <| v_ops <| s_pq (.bool (g26 == 2)) <| s_pq (.bool (g26 == 2)) <| s_nil <| p_seqN ?_
 refine v_cond rfl (fun c71 => ?_) (fun c71 => ?_)
 ·
  refine v_ops <| s_pq (.pointer (some ⟨sblk r7, soff r7 + ((g19).toNat) * 3, none⟩)) <| s_pq (.pointer (some ⟨p_c, 0, none⟩)) ?_
  refine s_row (α := Int) [(-1), 500, 501] (fun _ q => seg_i rfl (seg_i rfl (seg_i rfl (seg_nil q)))) rfl (by simp [maxLen]) (fun r72 h73 eh73 zh73 s_r72 fr_r72 => ?_)
  have E74 := E28.trans (Mod.of_ext eh73 _)
  have z75 := eh73.size
  have f76 := (Ch27.ext eh73)
  refine s_call [.pointer (some ⟨p_c, 0, none⟩), r72] rfl (spec_l1Cur_among_ok p_c t_c (((m_c + 4000) + 2) + 2) lo_c r72 [(-1), 500, 501] _ f76 s_r72.toSl (fun b hb hc => by simp at hc; have := fr_r72 b hb; omega) (by omega) (by first | omega | assumption | (simp; done) | (simp; omega))) ?_
  rintro _ h78 ⟨g77, rfl, qh78, Ch78, mh78⟩
  have zh78 := mh78.size
  have E79 := E74.new mh78 (fun b hb => .inl (by simp at hb; simp [hb]))
  simp only [List.mem_cons, List.not_mem_nil, or_false] at qh78
  refine s_pq (.pointer (some ⟨sblk r7, soff r7 + ((g19).toNat) * 3, none⟩)) <| s_pq (.pointer (some ⟨sblk r7, soff r7 + ((g19).toNat) * 3 + 2, none⟩)) ?_
  have f80 := (((f23.mod mh27 (fun b hb hc => by simp at hc; have := fr_r7 b hb; omega)).ext eh73).mod mh78 (fun b hb hc => by simp at hc; have := fr_r7 b hb; omega))
  refine s_stSl (k := (g19).toNat) (j := 2) (⟨x25.x, x25.y, g77⟩ : TowerD) (.int .i64 g77) [.int .i64 g77] f80 rfl rfl rfl rfl rfl hx25 (Nat.le_of_ble_eq_true rfl) rfl (all_cons rfl all_nil) (fun h81 mh81 sh81 s82 => ?_)
  have E83 := E79.new mh81 (fun b hb => .inr (by have := fr_r7 b hb; omega))
  refine s_nil <| p_blkN <| p_seqN <| v_seq <| v_ops ?_
  have f84 := (((((bxx16.mod mh20 (by simp; omega)).mod mh27 (by simp; omega)).ext eh73).mod mh78 (by simp; omega)).mod mh81 (fun hc => by have := lt_r7 _ hc; omega))
  refine s_load (.agg #[r7, r8]) (fun _ q => f84.loadA rfl q) ?_
  have f85 := ((((((((bxb1.mod mh9 (by simp; omega)).ext eh12).mod mh15 (by simp; omega)).mod mh20 (by simp; omega)).mod mh27 (by simp; omega)).ext eh73).mod mh78 (by simp; omega)).mod mh81 (fun hc => by have := fr_r7 _ hc; omega))
  refine s_stBx (.agg #[r7, r8]) [r7, r8] [r7, r8] f85 rfl rfl rfl rfl (by simp) (all_cons s82.one1 (all_cons s_r8.one1 all_nil)) rfl (fun h86 mh86 sh86 bxx87 => ?_)
  have E88 := E83.new mh86 (fun b hb => .inr (by simp at hb; omega))
  refine s_nil <| p_seqN <| v_ret <| p_ret [.agg #[r7, r8]] (.agg #[r7, r8]) (fun _ q => (bxx87.loadA rfl q)) rfl ?_
  have f89 := (s82.mod mh86 (fun b hb hc => by simp at hc; have := fr_r7 b hb; omega))
  have f90 := ((((((((s_r8.ext eh12).mod mh15 (fun b hb hc => by simp at hc; have := lt_r8 b hb; omega)).mod mh20 (fun b hb hc => by simp at hc; have := fr_r8 b hb; omega)).mod mh27 (fun b hb hc => by simp at hc; have := fr_r8 b hb; omega)).ext eh73).mod mh78 (fun b hb hc => by simp at hc; have := fr_r8 b hb; omega)).mod mh81 (fun b hb hc => ap_r7_r8 b hc hb)).mod mh86 (fun b hb hc => by simp at hc; have := fr_r8 b hb; omega))
  have f91 := ((Ch78.mod mh81 (fun hc => by have := fr_r7 _ hc; omega) (fun b hb => by have := fr_r7 b hb; omega)).mod mh86 (by simp; omega) (fun b hb => by simp at hb; omega))
  exact ⟨⟨(g6.towers.set ((g19).toNat) (⟨x25.x, x25.y, g77⟩ : TowerD)), g6.links⟩, r7, r8, rfl, f89, (fr_r7.mono (by omega)), f90, (fr_r8.mono (by omega)), ap_r7_r8, (by (try simp only); exact ⟨by first | omega | (simp; done) | (simp; omega), by first | omega | (simp; done) | (simp; omega)⟩), (f91.le (by omega)), E88⟩
 refine v_seq <| v_ops <| s_pq (.bool (g26 == 3)) <| s_pq (.bool (g26 == 3)) <| s_nil <| p_seqN ?_
 refine v_cond rfl (fun c92 => ?_) (fun c92 => ?_)
 ·
  refine v_ops <| s_pq (.pointer (some ⟨b11, 0, none⟩)) ?_
  have f93 := ((bxx16.mod mh20 (by simp; omega)).mod mh27 (by simp; omega))
  refine s_stBx (.slice none 0 0) [.slice none 0 0] [.slice none 0 0, r8] f93 rfl rfl rfl rfl (by simp) (all_cons rfl all_nil) rfl (fun h94 mh94 sh94 bxx95 => ?_)
  have E96 := E28.new mh94 (fun b hb => .inr (by simp at hb; omega))
  refine s_nil <| p_blkN <| p_seqN <| v_seq <| v_ops <| s_load (.agg #[.slice none 0 0, r8]) (fun _ q => bxx95.loadA rfl q) ?_
  have f97 := ((((((bxb1.mod mh9 (by simp; omega)).ext eh12).mod mh15 (by simp; omega)).mod mh20 (by simp; omega)).mod mh27 (by simp; omega)).mod mh94 (by simp; omega))
  refine s_stBx (.agg #[.slice none 0 0, r8]) [.slice none 0 0, r8] [.slice none 0 0, r8] f97 rfl rfl rfl rfl (by simp) (all_cons rfl (all_cons s_r8.one1 all_nil)) rfl (fun h98 mh98 sh98 bxx99 => ?_)
  have E100 := E96.new mh98 (fun b hb => .inr (by simp at hb; omega))
  refine s_nil <| p_seqN <| v_ret <| p_ret [.agg #[.slice none 0 0, r8]] (.agg #[.slice none 0 0, r8]) (fun _ q => (bxx99.loadA rfl q)) rfl ?_
  have f101 := ((((((s_r8.ext eh12).mod mh15 (fun b hb hc => by simp at hc; have := lt_r8 b hb; omega)).mod mh20 (fun b hb hc => by simp at hc; have := fr_r8 b hb; omega)).mod mh27 (fun b hb hc => by simp at hc; have := fr_r8 b hb; omega)).mod mh94 (fun b hb hc => by simp at hc; have := lt_r8 b hb; omega)).mod mh98 (fun b hb hc => by simp at hc; have := fr_r8 b hb; omega))
  have f102 := ((Ch27.mod mh94 (by simp; omega) (fun b hb => by simp at hb; omega)).mod mh98 (by simp; omega) (fun b hb => by simp at hb; omega))
  exact ⟨⟨[], g6.links⟩, (.slice none 0 0), r8, rfl, (SlX.nil (α := TowerD) true _), (Fr.nil _), f101, (fr_r8.mono (by omega)), (fun b hb => by simp [blks] at hb), (by (try simp only); exact ⟨by first | omega | (simp; done) | (simp; omega), by first | omega | (simp; done) | (simp; omega)⟩), (f102.le (by omega)), E100⟩
 refine v_seq <| v_ops <| s_pq (.bool (g26 == 4)) <| s_pq (.bool (g26 == 4)) <| s_nil <| p_seqN ?_
 refine v_cond rfl (fun c103 => ?_) (fun c103 => ?_)
 ·
  refine v_seq <| v_ops <| s_pq (.pointer (some ⟨p_c, 0, none⟩)) <| s_call [.pointer (some ⟨p_c, 0, none⟩), .int .i64 2] rfl (spec_l1Cur_pick_ok p_c t_c (((m_c + 4000) + 2) + 2) lo_c 2 _ Ch27 (by omega)) ?_
  rintro _ h105 ⟨g104, rfl, qh105, Ch105, mh105⟩
  have zh105 := mh105.size
  have E106 := E28.new mh105 (fun b hb => .inl (by simp at hb; simp [hb]))
  refine s_pure (.int .i64 (16 + g104)) (fun _ q => ArithVC.mk (by omega) q) <| s_pq (.int .i64 (16 + g104)) <| s_nil <| p_seqN <| v_block ?_
  have nk108 : b1 ∉ blks r8 := (fun hc => by have := fr_r8 _ hc; omega)
  have nk109 : b11 ∉ blks r8 := (fun hc => by have := lt_r8 _ hc; omega)
  have nk110 : p_c ∉ blks r8 := (fun hc => by have := fr_r8 _ hc; omega)
  have f111 := ((((((bxb1.mod mh9 (by simp; omega)).ext eh12).mod mh15 (by simp; omega)).mod mh20 (by simp; omega)).mod mh27 (by simp; omega)).mod mh105 (by simp; omega))
  have f112 := (((bxx16.mod mh20 (by simp; omega)).mod mh27 (by simp; omega)).mod mh105 (by simp; omega))
  have f113 := ((f23.mod mh27 (fun b hb hc => by simp at hc; have := fr_r7 b hb; omega)).mod mh105 (fun b hb hc => by simp at hc; have := fr_r7 b hb; omega))
  have f114 := (((((s_r8.ext eh12).mod mh15 (fun b hb hc => by simp at hc; have := lt_r8 b hb; omega)).mod mh20 (fun b hb hc => by simp at hc; have := fr_r8 b hb; omega)).mod mh27 (fun b hb hc => by simp at hc; have := fr_r8 b hb; omega)).mod mh105 (fun b hb hc => by simp at hc; have := fr_r8 b hb; omega))
  refine v_loop2 (α := List TowerD) (β := Value) (fun ts o3 => [(2, .pointer (some ⟨b1, 0, none⟩)), (3, .pointer (some ⟨b11, 0, none⟩)), (5, .int .i64 (16 + g104))]) (fun ts o3 hh => Mod [p_c] h hh ∧ Bx hh b1 [.slice none 0 0, .slice none 0 0] 26 ∧ Bx hh b11 [o3, r8] 26 ∧ Cur hh p_c t_c (m_c + 4900) lo_c ∧ SlO hh o3 ts ∧ Fr h.size o3 ∧ SlO hh r8 g6.links ∧ b1 ∉ blks o3 ∧ b11 ∉ blks o3 ∧ p_c ∉ blks o3 ∧ (∀ b ∈ blks r8, b ∉ blks o3) ∧ 1 ≤ ts.length ∧ ts.length ≤ 17) (fun ts o3 => (((16 + g104) : Int) - (ts.length : Int)).toNat) g6.towers r7 ⟨rfl, rfl, rfl⟩ ⟨E106, f111, f112, (Ch105.le (by first | omega | (simp; done) | (simp; omega))), (sl_eq f113 (by simp)), (fr_r7.mono (by omega)), f114, (fun hc => by have := fr_r7 _ hc; omega), (fun hc => by have := lt_r7 _ hc; omega), (fun hc => by have := fr_r7 _ hc; omega), (fun b hb hc => ap_r7_r8 b hc hb), (by exact ⟨by omega, by omega⟩)⟩ ?_
  rintro ts o3 R115 h107 ⟨Eh, bxb1, bxb11, bxc, s_o3, fr_o3, s_r8, np_b1_o3, np_b11_o3, np_c_o3, np_r8_o3, ⟨hts0, hts⟩⟩
  have zEh := Eh.size
  have lbc := bxc.lt
  have lbb1 := bxb1.lt
  have ltk_r8 := s_r8.lt
  have lbb11 := bxb11.lt
  refine v_seq <| v_seq <| v_ops <| s_pq (.pointer (some ⟨b11, 0, none⟩)) <| s_load o3 (fun _ q => bxb11.load rfl q) <| s_pure (.int .i64 (ts.length : Int)) (fun _ q => s_o3.lenVC q) <| s_pq (.int .i64 (16 + g104)) <| s_pq (.bool (decide ((ts.length : Int) < (16 + g104)))) <| s_nil <| p_seqN ?_
  refine v_cond rfl (fun c117 => ?_) (fun c117 => ?_)
  ·
   refine v_skip <| p_seqN <| v_block ?_
   refine v_draw (DrawVC.hold ([b11]) ?_)
   refine d_pq (.pointer (some ⟨b11, 0, none⟩)) <| d_pq (.pointer (some ⟨b11, 0, none⟩)) <| d_loadO o3 (fun _ q => bxb11.load rfl q) ?_
   have hk118 : 0 < ts.length := (by first | omega | (simp; omega))
   obtain ⟨x119, hx119⟩ : ∃ x, ts[0]? = some x := ⟨_, List.getElem?_eq_getElem hk118⟩
   refine d_pureT (.pointer (some ⟨sblk o3, soff o3 + 0 * 3, none⟩)) (fun _ q => s_o3.idx (k := 0) rfl hk118 q) <| d_loadO (.agg #[.int .i64 x119.x, .int .i64 x119.y, .int .i64 x119.height]) (fun _ q => s_o3.loadN hx119 rfl q) <| d_loadT o3 (fun _ q => bxb11.take (by simp) rfl q) <| d_eff ?_
   refine s_row (α := TowerD) [(⟨x119.x, x119.y, x119.height⟩ : TowerD)] (fun _ q => seg_agg rfl rfl (seg_nil q)) rfl (by simp [maxLen]) (fun r120 h121 eh121 zh121 s_r120 fr_r120 => ?_)
   have E122 := Eh.trans (Mod.of_ext eh121 _)
   have z123 := eh121.size
   have G124 := eh121
   refine s_nil ⟨fun _ x hx => G124.blk x (by simp at hx; omega), ?_⟩
   refine d_eff ?_
   have f125 := (s_o3.ext eh121)
   refine s_app f125 s_r120 rfl rfl rfl (by first | (simp [maxLen]; done) | (simp [maxLen]; omega)) (by first | (simp; done) | (simp; omega)) (fun r126 h127 mh127 zh127 s_r126 ab_r126 => ?_)
   have E128 := E122.new mh127 (fun b hb => .inr (by have := fr_o3 b hb; omega))
   have fr_r126 := fr_o3.app ab_r126 (by omega)
   have np129 : b1 ∉ blks r126 := fun hc => (ab_r126 _ hc).elim np_b1_o3 (fun hc => by omega)
   have np130 : b11 ∉ blks r126 := fun hc => (ab_r126 _ hc).elim np_b11_o3 (fun hc => by omega)
   have np131 : p_c ∉ blks r126 := fun hc => (ab_r126 _ hc).elim np_c_o3 (fun hc => by omega)
   have np133 : ∀ b ∈ blks r8, b ∉ blks r126 := fun b hb hc => (ab_r126 _ hc).elim ((np_r8_o3 : ∀ b ∈ blks r8, b ∉ blks o3) b hb) (fun hc => by have := ltk_r8 b hb; omega)
   refine s_nil ⟨fun hl => (by cases hl), ?_⟩
   refine d_pq (.pointer (some ⟨b11, 0, none⟩)) <| d_eff ?_
   have f135 := ((bxb11.ext eh121).mod mh127 np_b11_o3)
   refine s_stBx r126 [r126] [r126, r8] f135 rfl rfl s_r126.cellsv rfl (by simp) (all_cons s_r126.one1 all_nil) rfl (fun h136 mh136 sh136 bxx137 => ?_)
   have E138 := E128.new mh136 (fun b hb => .inr (by simp at hb; omega))
   refine s_nil ⟨fun hl => (by cases hl), ?_⟩
   refine d_done <| p_blkN ?_
   have f139 := (((bxb1.ext eh121).mod mh127 np_b1_o3).mod mh136 (by simp; omega))
   have f140 := (((bxc.ext eh121).mod mh127 np_c_o3 (fun b hb => by have := fr_o3 b hb; omega)).mod mh136 (by simp; omega) (fun b hb => by simp at hb; omega))
   have f141 := (s_r126.mod mh136 (nb1 np130))
   have f142 := (((s_r8.ext eh121).mod mh127 np_r8_o3).mod mh136 (nb1 nk109))
   exact p_lpN ⟨(ts ++ [(⟨x119.x, x119.y, x119.height⟩ : TowerD)]), r126, ⟨rfl, rfl, rfl⟩, ⟨E138, f139, bxx137, (f140.le (by omega)), (sl_eq f141 (by simp)), (fr_r126.mono (by omega)), f142, np129, np130, np131, np133, (by exact ⟨by first | omega | (simp; done) | (simp; omega), by first | omega | (simp; omega)⟩)⟩, by first | omega | (simp; done) | (simp; omega)⟩
  refine v_exit <| p_seqX <| p_lpX <| p_blkX <| p_blkN <| p_seqN <| v_seq <| v_ops <| s_load (.agg #[o3, r8]) (fun _ q => bxb11.loadA rfl q) ?_
  refine s_stBx (.agg #[o3, r8]) [o3, r8] [o3, r8] bxb1 rfl rfl rfl rfl (by simp) (all_cons s_o3.one1 (all_cons s_r8.one1 all_nil)) rfl (fun h143 mh143 sh143 bxx144 => ?_)
  have E145 := Eh.new mh143 (fun b hb => .inr (by simp at hb; omega))
  refine s_nil <| p_seqN <| v_ret <| p_ret [.agg #[o3, r8]] (.agg #[o3, r8]) (fun _ q => (bxx144.loadA rfl q)) rfl ?_
  have f146 := (s_o3.mod mh143 (nb1 np_b1_o3))
  have f147 := (s_r8.mod mh143 (nb1 nk108))
  have f148 := (bxc.mod mh143 (by simp; omega) (fun b hb => by simp at hb; omega))
  exact ⟨⟨ts, g6.links⟩, o3, r8, rfl, f146, (fr_o3.mono (by omega)), f147, (fr_r8.mono (by omega)), (fun b hb hc => np_r8_o3 b hc hb), (by (try simp only); exact ⟨by first | omega | (simp; done) | (simp; omega), by first | omega | (simp; done) | (simp; omega)⟩), (f148.le (by omega)), E145⟩
 refine v_seq <| v_seq <| v_ops <| s_pq (.bool (g26 == 5)) <| s_pq (.bool (g26 == 5)) <| s_nil <| p_seqN ?_
 refine v_cond rfl (fun c149 => ?_) (fun c149 => ?_)
 ·
  refine v_skip <| p_seqN <| v_condY rfl (by first | assumption | omega | (simp; done) | (simp; omega) | simp_all) <| v_seq <| v_ops <| s_pq (.pointer (some ⟨b11, 1, none⟩)) ?_
  have f150 := ((bxx16.mod mh20 (by simp; omega)).mod mh27 (by simp; omega))
  refine s_load r8 (fun _ q => f150.load rfl q) <| s_pure (.int .i64 (g6.links.length : Int)) (fun _ q => s_r8.lenVC q) <| s_pq (.int .i64 (g6.links.length : Int)) <| s_nil <| p_seqN <| v_seq <| v_ops <| s_pq (.int .i64 (g6.links.length : Int)) <| s_pq (.bool (decide ((g6.links.length : Int) > 0))) <| s_nil <| p_seqN ?_
  refine v_cond rfl (fun c151 => ?_) (fun c151 => ?_)
  ·
   refine v_seq ?_
   refine v_draw (DrawVC.hold ([b11]) ?_)
   refine d_pq (.pointer (some ⟨b11, 1, none⟩)) <| d_pq (.pointer (some ⟨p_c, 0, none⟩)) <| d_pq (.int .i64 (g6.links.length : Int)) <| d_loadT r8 (fun _ q => f150.take (by simp) rfl q) <| d_eff <| s_call [.pointer (some ⟨p_c, 0, none⟩), .int .i64 (g6.links.length : Int)] rfl (spec_l1Cur_pick_ok p_c t_c (((m_c + 4000) + 2) + 2) lo_c (g6.links.length : Int) _ Ch27 (by omega)) ?_
   rintro _ h153 ⟨g152, rfl, qh153, Ch153, mh153⟩
   have zh153 := mh153.size
   have E154 := E28.new mh153 (fun b hb => .inl (by simp at hb; simp [hb]))
   have G155 := gmod1 (b := b11) (h := h27) (h0 := h27) mh153 (by omega) (by simp; omega) (fun _ _ => rfl)
   refine s_nil ⟨fun _ x hx => G155 x hx, ?_⟩
   have f156 := (((((s_r8.ext eh12).mod mh15 (fun b hb hc => by simp at hc; have := lt_r8 b hb; omega)).mod mh20 (fun b hb hc => by simp at hc; have := fr_r8 b hb; omega)).mod mh27 (fun b hb hc => by simp at hc; have := fr_r8 b hb; omega)).mod mh153 (fun b hb hc => by simp at hc; have := fr_r8 b hb; omega))
   have hk157 : (g152).toNat < g6.links.length := (by first | omega | (simp; omega))
   obtain ⟨x158, hx158⟩ : ∃ x, g6.links[(g152).toNat]? = some x := ⟨_, List.getElem?_eq_getElem hk157⟩
   refine d_pureT (.pointer (some ⟨sblk r8, soff r8 + ((g152).toNat) * 3, none⟩)) (fun _ q => f156.idx (k := (g152).toNat) (by omega) hk157 q) <| d_pq (.pointer (some ⟨sblk r8, soff r8 + ((g152).toNat) * 3, none⟩)) <| d_done <| p_seqN <| v_seq <| v_ops <| s_pq (.pointer (some ⟨p_c, 0, none⟩)) <| s_call [.pointer (some ⟨p_c, 0, none⟩), .int .i64 4] rfl (spec_l1Cur_pick_ok p_c t_c ((((m_c + 4000) + 2) + 2) + 2) lo_c 4 _ Ch153 (by omega)) ?_
   rintro _ h160 ⟨g159, rfl, qh160, Ch160, mh160⟩
   have zh160 := mh160.size
   have E161 := E154.new mh160 (fun b hb => .inl (by simp at hb; simp [hb]))
   refine s_nil <| p_seqN <| v_block <| v_seq <| v_ops <| s_pq (.bool (g159 == 0)) <| s_pq (.bool (g159 == 0)) <| s_nil <| p_seqN ?_
   refine v_cond rfl (fun c162 => ?_) (fun c162 => ?_)
   ·
    refine v_ops <| s_pq (.pointer (some ⟨sblk r8, soff r8 + ((g152).toNat) * 3, none⟩)) <| s_pq (.pointer (some ⟨p_c, 0, none⟩)) <| s_pq (.pointer (some ⟨sblk r8, soff r8 + ((g152).toNat) * 3, none⟩)) <| s_pq (.pointer (some ⟨sblk r8, soff r8 + ((g152).toNat) * 3, none⟩)) <| s_pq (.pointer (some ⟨sblk r8, soff r8 + ((g152).toNat) * 3 + 1, none⟩)) ?_
    have f163 := (f156.mod mh160 (fun b hb hc => by simp at hc; have := fr_r8 b hb; omega))
    refine s_load (.int .i64 x158.b) (fun _ q => f163.load hx158 (j := 1) rfl rfl q) ?_
    refine s_row (α := Int) [(-1), x158.b] (fun _ q => seg_i rfl (seg_i rfl (seg_nil q))) rfl (by simp [maxLen]) (fun r164 h165 eh165 zh165 s_r164 fr_r164 => ?_)
    have E166 := E161.trans (Mod.of_ext eh165 _)
    have z167 := eh165.size
    have f168 := (Ch160.ext eh165)
    refine s_call [.pointer (some ⟨p_c, 0, none⟩), r164] rfl (spec_l1Cur_among_ok p_c t_c (((((m_c + 4000) + 2) + 2) + 2) + 2) lo_c r164 [(-1), x158.b] _ f168 s_r164.toSl (fun b hb hc => by simp at hc; have := fr_r164 b hb; omega) (by omega) (by first | omega | assumption | (simp; done) | (simp; omega))) ?_
    rintro _ h170 ⟨g169, rfl, qh170, Ch170, mh170⟩
    have zh170 := mh170.size
    have E171 := E166.new mh170 (fun b hb => .inl (by simp at hb; simp [hb]))
    simp only [List.mem_cons, List.not_mem_nil, or_false] at qh170
    refine s_pq (.pointer (some ⟨sblk r8, soff r8 + ((g152).toNat) * 3, none⟩)) <| s_pq (.pointer (some ⟨sblk r8, soff r8 + ((g152).toNat) * 3, none⟩)) ?_
    have f172 := ((f163.ext eh165).mod mh170 (fun b hb hc => by simp at hc; have := fr_r8 b hb; omega))
    refine s_stSl (k := (g152).toNat) (j := 0) (⟨g169, x158.b, x158.delay⟩ : LinkD) (.int .i64 g169) [.int .i64 g169] f172 rfl rfl rfl rfl rfl hx158 (Nat.le_of_ble_eq_true rfl) rfl (all_cons rfl all_nil) (fun h173 mh173 sh173 s174 => ?_)
    have E175 := E171.new mh173 (fun b hb => .inr (by have := fr_r8 b hb; omega))
    refine s_nil <| p_blkN <| p_blkN <| p_seqN <| v_seq <| v_ops ?_
    have f176 := (((((f150.mod mh153 (by simp; omega)).mod mh160 (by simp; omega)).ext eh165).mod mh170 (by simp; omega)).mod mh173 (fun hc => by have := lt_r8 _ hc; omega))
    refine s_load (.agg #[r7, r8]) (fun _ q => f176.loadA rfl q) ?_
    have f177 := ((((((((((bxb1.mod mh9 (by simp; omega)).ext eh12).mod mh15 (by simp; omega)).mod mh20 (by simp; omega)).mod mh27 (by simp; omega)).mod mh153 (by simp; omega)).mod mh160 (by simp; omega)).ext eh165).mod mh170 (by simp; omega)).mod mh173 (fun hc => by have := fr_r8 _ hc; omega))
    refine s_stBx (.agg #[r7, r8]) [r7, r8] [r7, r8] f177 rfl rfl rfl rfl (by simp) (all_cons f23.one1 (all_cons s174.one1 all_nil)) rfl (fun h178 mh178 sh178 bxx179 => ?_)
    have E180 := E175.new mh178 (fun b hb => .inr (by simp at hb; omega))
    refine s_nil <| p_seqN <| v_ret <| p_ret [.agg #[r7, r8]] (.agg #[r7, r8]) (fun _ q => (bxx179.loadA rfl q)) rfl ?_
    have f181 := (((((((f23.mod mh27 (fun b hb hc => by simp at hc; have := fr_r7 b hb; omega)).mod mh153 (fun b hb hc => by simp at hc; have := fr_r7 b hb; omega)).mod mh160 (fun b hb hc => by simp at hc; have := fr_r7 b hb; omega)).ext eh165).mod mh170 (fun b hb hc => by simp at hc; have := fr_r7 b hb; omega)).mod mh173 ap_r7_r8).mod mh178 (fun b hb hc => by simp at hc; have := fr_r7 b hb; omega))
    have f182 := (s174.mod mh178 (fun b hb hc => by simp at hc; have := fr_r8 b hb; omega))
    have f183 := ((Ch170.mod mh173 (fun hc => by have := fr_r8 _ hc; omega) (fun b hb => by have := fr_r8 b hb; omega)).mod mh178 (by simp; omega) (fun b hb => by simp at hb; omega))
    exact ⟨⟨g6.towers, (g6.links.set ((g152).toNat) (⟨g169, x158.b, x158.delay⟩ : LinkD))⟩, r7, r8, rfl, f181, (fr_r7.mono (by omega)), f182, (fr_r8.mono (by omega)), ap_r7_r8, (by (try simp only); exact ⟨by first | omega | (simp; done) | (simp; omega), by first | omega | (simp; done) | (simp; omega)⟩), (f183.le (by omega)), E180⟩
   refine v_seq <| v_ops <| s_pq (.bool (g159 == 1)) <| s_pq (.bool (g159 == 1)) <| s_nil <| p_seqN ?_
   refine v_cond rfl (fun c184 => ?_) (fun c184 => ?_)
   ·
    refine v_drawF <| d_pq (.pointer (some ⟨sblk r8, soff r8 + ((g152).toNat) * 3, none⟩)) <| d_pq (.pointer (some ⟨p_c, 0, none⟩)) <| d_pq (.pointer (some ⟨sblk r8, soff r8 + ((g152).toNat) * 3, none⟩)) <| d_pq (.pointer (some ⟨sblk r8, soff r8 + ((g152).toNat) * 3, none⟩)) <| d_pq (.pointer (some ⟨sblk r8, soff r8 + ((g152).toNat) * 3, none⟩)) <| d_pq (.pointer (some ⟨b11, 0, none⟩)) ?_
    have f185 := (f156.mod mh160 (fun b hb hc => by simp at hc; have := fr_r8 b hb; omega))
    refine d_loadO (.int .i64 x158.a) (fun _ q => f185.load hx158 (j := 0) rfl rfl q) ?_
    have f186 := ((f150.mod mh153 (by simp; omega)).mod mh160 (by simp; omega))
    refine d_loadO r7 (fun _ q => f186.load rfl q) <| d_pureT (.int .i64 (g6.towers.length : Int)) (fun _ q => f23.lenVC q) <| d_eff ?_
    refine s_row (α := Int) [x158.a, (g6.towers.length : Int)] (fun _ q => seg_i rfl (seg_i rfl (seg_nil q))) rfl (by simp [maxLen]) (fun r187 h188 eh188 zh188 s_r187 fr_r187 => ?_)
    have E189 := E161.trans (Mod.of_ext eh188 _)
    have z190 := eh188.size
    refine s_nil ⟨fun hl => (by cases hl), ?_⟩
    refine d_eff ?_
    have f192 := (Ch160.ext eh188)
    refine s_call [.pointer (some ⟨p_c, 0, none⟩), r187] rfl (spec_l1Cur_among_ok p_c t_c (((((m_c + 4000) + 2) + 2) + 2) + 2) lo_c r187 [x158.a, (g6.towers.length : Int)] _ f192 s_r187.toSl (fun b hb hc => by simp at hc; have := fr_r187 b hb; omega) (by omega) (by first | omega | assumption | (simp; done) | (simp; omega))) ?_
    rintro _ h194 ⟨g193, rfl, qh194, Ch194, mh194⟩
    have zh194 := mh194.size
    have E195 := E189.new mh194 (fun b hb => .inl (by simp at hb; simp [hb]))
    simp only [List.mem_cons, List.not_mem_nil, or_false] at qh194
    refine s_nil ⟨fun hl => (by cases hl), ?_⟩
    refine d_pq (.pointer (some ⟨sblk r8, soff r8 + ((g152).toNat) * 3, none⟩)) <| d_pq (.pointer (some ⟨sblk r8, soff r8 + ((g152).toNat) * 3 + 1, none⟩)) <| d_eff ?_
    have f196 := ((f185.ext eh188).mod mh194 (fun b hb hc => by simp at hc; have := fr_r8 b hb; omega))
    refine s_stSl (k := (g152).toNat) (j := 1) (⟨x158.a, g193, x158.delay⟩ : LinkD) (.int .i64 g193) [.int .i64 g193] f196 rfl rfl rfl rfl rfl hx158 (Nat.le_of_ble_eq_true rfl) rfl (all_cons rfl all_nil) (fun h197 mh197 sh197 s198 => ?_)
    have E199 := E195.new mh197 (fun b hb => .inr (by have := fr_r8 b hb; omega))
    refine s_nil ⟨fun hl => (by cases hl), ?_⟩
    refine d_done <| p_blkN <| p_blkN <| p_seqN <| v_seq <| v_ops ?_
    have f200 := (((f186.ext eh188).mod mh194 (by simp; omega)).mod mh197 (fun hc => by have := lt_r8 _ hc; omega))
    refine s_load (.agg #[r7, r8]) (fun _ q => f200.loadA rfl q) ?_
    have f201 := ((((((((((bxb1.mod mh9 (by simp; omega)).ext eh12).mod mh15 (by simp; omega)).mod mh20 (by simp; omega)).mod mh27 (by simp; omega)).mod mh153 (by simp; omega)).mod mh160 (by simp; omega)).ext eh188).mod mh194 (by simp; omega)).mod mh197 (fun hc => by have := fr_r8 _ hc; omega))
    refine s_stBx (.agg #[r7, r8]) [r7, r8] [r7, r8] f201 rfl rfl rfl rfl (by simp) (all_cons f23.one1 (all_cons s198.one1 all_nil)) rfl (fun h202 mh202 sh202 bxx203 => ?_)
    have E204 := E199.new mh202 (fun b hb => .inr (by simp at hb; omega))
    refine s_nil <| p_seqN <| v_ret <| p_ret [.agg #[r7, r8]] (.agg #[r7, r8]) (fun _ q => (bxx203.loadA rfl q)) rfl ?_
    have f205 := (((((((f23.mod mh27 (fun b hb hc => by simp at hc; have := fr_r7 b hb; omega)).mod mh153 (fun b hb hc => by simp at hc; have := fr_r7 b hb; omega)).mod mh160 (fun b hb hc => by simp at hc; have := fr_r7 b hb; omega)).ext eh188).mod mh194 (fun b hb hc => by simp at hc; have := fr_r7 b hb; omega)).mod mh197 ap_r7_r8).mod mh202 (fun b hb hc => by simp at hc; have := fr_r7 b hb; omega))
    have f206 := (s198.mod mh202 (fun b hb hc => by simp at hc; have := fr_r8 b hb; omega))
    have f207 := ((Ch194.mod mh197 (fun hc => by have := fr_r8 _ hc; omega) (fun b hb => by have := fr_r8 b hb; omega)).mod mh202 (by simp; omega) (fun b hb => by simp at hb; omega))
    exact ⟨⟨g6.towers, (g6.links.set ((g152).toNat) (⟨x158.a, g193, x158.delay⟩ : LinkD))⟩, r7, r8, rfl, f205, (fr_r7.mono (by omega)), f206, (fr_r8.mono (by omega)), ap_r7_r8, (by (try simp only); exact ⟨by first | omega | (simp; done) | (simp; omega), by first | omega | (simp; done) | (simp; omega)⟩), (f207.le (by omega)), E204⟩
   refine v_seq <| v_ops <| s_pq (.bool (g159 == 2)) <| s_pq (.bool (g159 == 2)) <| s_nil <| p_seqN ?_
   refine v_cond rfl (fun c208 => ?_) (fun c208 => ?_)
   ·
    refine v_ops <| s_pq (.pointer (some ⟨sblk r8, soff r8 + ((g152).toNat) * 3, none⟩)) <| s_pq (.pointer (some ⟨p_c, 0, none⟩)) ?_
    refine s_row (α := Int) [0, 60, 61] (fun _ q => seg_i rfl (seg_i rfl (seg_i rfl (seg_nil q)))) rfl (by simp [maxLen]) (fun r209 h210 eh210 zh210 s_r209 fr_r209 => ?_)
    have E211 := E161.trans (Mod.of_ext eh210 _)
    have z212 := eh210.size
    have f213 := (Ch160.ext eh210)
    refine s_call [.pointer (some ⟨p_c, 0, none⟩), r209] rfl (spec_l1Cur_among_ok p_c t_c (((((m_c + 4000) + 2) + 2) + 2) + 2) lo_c r209 [0, 60, 61] _ f213 s_r209.toSl (fun b hb hc => by simp at hc; have := fr_r209 b hb; omega) (by omega) (by first | omega | assumption | (simp; done) | (simp; omega))) ?_
    rintro _ h215 ⟨g214, rfl, qh215, Ch215, mh215⟩
    have zh215 := mh215.size
    have E216 := E211.new mh215 (fun b hb => .inl (by simp at hb; simp [hb]))
    simp only [List.mem_cons, List.not_mem_nil, or_false] at qh215
    refine s_pq (.pointer (some ⟨sblk r8, soff r8 + ((g152).toNat) * 3, none⟩)) <| s_pq (.pointer (some ⟨sblk r8, soff r8 + ((g152).toNat) * 3 + 2, none⟩)) ?_
    have f217 := (((f156.mod mh160 (fun b hb hc => by simp at hc; have := fr_r8 b hb; omega)).ext eh210).mod mh215 (fun b hb hc => by simp at hc; have := fr_r8 b hb; omega))
    refine s_stSl (k := (g152).toNat) (j := 2) (⟨x158.a, x158.b, g214⟩ : LinkD) (.int .i64 g214) [.int .i64 g214] f217 rfl rfl rfl rfl rfl hx158 (Nat.le_of_ble_eq_true rfl) rfl (all_cons rfl all_nil) (fun h218 mh218 sh218 s219 => ?_)
    have E220 := E216.new mh218 (fun b hb => .inr (by have := fr_r8 b hb; omega))
    refine s_nil <| p_blkN <| p_blkN <| p_seqN <| v_seq <| v_ops ?_
    have f221 := (((((f150.mod mh153 (by simp; omega)).mod mh160 (by simp; omega)).ext eh210).mod mh215 (by simp; omega)).mod mh218 (fun hc => by have := lt_r8 _ hc; omega))
    refine s_load (.agg #[r7, r8]) (fun _ q => f221.loadA rfl q) ?_
    have f222 := ((((((((((bxb1.mod mh9 (by simp; omega)).ext eh12).mod mh15 (by simp; omega)).mod mh20 (by simp; omega)).mod mh27 (by simp; omega)).mod mh153 (by simp; omega)).mod mh160 (by simp; omega)).ext eh210).mod mh215 (by simp; omega)).mod mh218 (fun hc => by have := fr_r8 _ hc; omega))
    refine s_stBx (.agg #[r7, r8]) [r7, r8] [r7, r8] f222 rfl rfl rfl rfl (by simp) (all_cons f23.one1 (all_cons s219.one1 all_nil)) rfl (fun h223 mh223 sh223 bxx224 => ?_)
    have E225 := E220.new mh223 (fun b hb => .inr (by simp at hb; omega))
    refine s_nil <| p_seqN <| v_ret <| p_ret [.agg #[r7, r8]] (.agg #[r7, r8]) (fun _ q => (bxx224.loadA rfl q)) rfl ?_
    have f226 := (((((((f23.mod mh27 (fun b hb hc => by simp at hc; have := fr_r7 b hb; omega)).mod mh153 (fun b hb hc => by simp at hc; have := fr_r7 b hb; omega)).mod mh160 (fun b hb hc => by simp at hc; have := fr_r7 b hb; omega)).ext eh210).mod mh215 (fun b hb hc => by simp at hc; have := fr_r7 b hb; omega)).mod mh218 ap_r7_r8).mod mh223 (fun b hb hc => by simp at hc; have := fr_r7 b hb; omega))
    have f227 := (s219.mod mh223 (fun b hb hc => by simp at hc; have := fr_r8 b hb; omega))
    have f228 := ((Ch215.mod mh218 (fun hc => by have := fr_r8 _ hc; omega) (fun b hb => by have := fr_r8 b hb; omega)).mod mh223 (by simp; omega) (fun b hb => by simp at hb; omega))
    exact ⟨⟨g6.towers, (g6.links.set ((g152).toNat) (⟨x158.a, x158.b, g214⟩ : LinkD))⟩, r7, r8, rfl, f226, (fr_r7.mono (by omega)), f227, (fr_r8.mono (by omega)), ap_r7_r8, (by (try simp only); exact ⟨by first | omega | (simp; done) | (simp; omega), by first | omega | (simp; done) | (simp; omega)⟩), (f228.le (by omega)), E225⟩
   refine v_seq <| v_ops <| s_pq (.bool (g159 == 3)) <| s_pq (.bool (g159 == 3)) <| s_nil <| p_seqN ?_
   refine v_cond rfl (fun c229 => ?_) (fun c229 => ?_)
   ·
    have f230 := ((f150.mod mh153 (by simp; omega)).mod mh160 (by simp; omega))
    refine v_draw (DrawVC.hold ([b11]) ?_)
    refine d_pq (.pointer (some ⟨b11, 1, none⟩)) <| d_pq (.pointer (some ⟨b11, 1, none⟩)) <| d_loadO r8 (fun _ q => f230.load rfl q) ?_
    have f231 := (f156.mod mh160 (fun b hb hc => by simp at hc; have := fr_r8 b hb; omega))
    have hk232 : 0 < g6.links.length := (by first | omega | (simp; omega))
    obtain ⟨x233, hx233⟩ : ∃ x, g6.links[0]? = some x := ⟨_, List.getElem?_eq_getElem hk232⟩
    refine d_pureT (.pointer (some ⟨sblk r8, soff r8 + 0 * 3, none⟩)) (fun _ q => f231.idx (k := 0) rfl hk232 q) <| d_loadO (.agg #[.int .i64 x233.a, .int .i64 x233.b, .int .i64 x233.delay]) (fun _ q => f231.loadN hx233 rfl q) <| d_loadT r8 (fun _ q => f230.take (by simp) rfl q) <| d_eff ?_
    refine s_row (α := LinkD) [(⟨x233.a, x233.b, x233.delay⟩ : LinkD)] (fun _ q => seg_agg rfl rfl (seg_nil q)) rfl (by simp [maxLen]) (fun r234 h235 eh235 zh235 s_r234 fr_r234 => ?_)
    have E236 := E161.trans (Mod.of_ext eh235 _)
    have z237 := eh235.size
    have G238 := eh235
    refine s_nil ⟨fun _ x hx => G238.blk x (by simp at hx; omega), ?_⟩
    refine d_eff ?_
    have f239 := (f231.ext eh235)
    refine s_app f239 s_r234 rfl rfl rfl (by first | (simp [maxLen]; done) | (simp [maxLen]; omega)) (by first | (simp; done) | (simp; omega)) (fun r240 h241 mh241 zh241 s_r240 ab_r240 => ?_)
    have E242 := E236.new mh241 (fun b hb => .inr (by have := fr_r8 b hb; omega))
    have fr_r240 := fr_r8.app ab_r240 (by omega)
    have np244 : ∀ b ∈ blks r7, b ∉ blks r240 := fun b hb hc => (ab_r240 _ hc).elim ((ap_r7_r8 : ∀ b ∈ blks r7, b ∉ blks r8) b hb) (fun hc => by have := lt_r7 b hb; omega)
    have np245 : b11 ∉ blks r240 := fun hc => (ab_r240 _ hc).elim (fun hc => by have := lt_r8 _ hc; omega) (fun hc => by omega)
    refine s_nil ⟨fun hl => (by cases hl), ?_⟩
    refine d_pq (.pointer (some ⟨b11, 1, none⟩)) <| d_eff ?_
    have f247 := ((f230.ext eh235).mod mh241 (fun hc => by have := lt_r8 _ hc; omega))
    refine s_stBx r240 [r240] [r7, r240] f247 rfl rfl s_r240.cellsv rfl (by simp) (all_cons s_r240.one1 all_nil) rfl (fun h248 mh248 sh248 bxx249 => ?_)
    have E250 := E242.new mh248 (fun b hb => .inr (by simp at hb; omega))
    refine s_nil ⟨fun hl => (by cases hl), ?_⟩
    refine d_done <| p_blkN <| p_blkN <| p_seqN <| v_seq <| v_ops <| s_load (.agg #[r7, r240]) (fun _ q => bxx249.loadA rfl q) ?_
    have f251 := ((((((((((bxb1.mod mh9 (by simp; omega)).ext eh12).mod mh15 (by simp; omega)).mod mh20 (by simp; omega)).mod mh27 (by simp; omega)).mod mh153 (by simp; omega)).mod mh160 (by simp; omega)).ext eh235).mod mh241 (fun hc => by have := fr_r8 _ hc; omega)).mod mh248 (by simp; omega))
    refine s_stBx (.agg #[r7, r240]) [r7, r240] [r7, r240] f251 rfl rfl rfl rfl (by simp) (all_cons f23.one1 (all_cons s_r240.one1 all_nil)) rfl (fun h252 mh252 sh252 bxx253 => ?_)
    have E254 := E250.new mh252 (fun b hb => .inr (by simp at hb; omega))
    refine s_nil <| p_seqN <| v_ret <| p_ret [.agg #[r7, r240]] (.agg #[r7, r240]) (fun _ q => (bxx253.loadA rfl q)) rfl ?_
    have f255 := (((((((f23.mod mh27 (fun b hb hc => by simp at hc; have := fr_r7 b hb; omega)).mod mh153 (fun b hb hc => by simp at hc; have := fr_r7 b hb; omega)).mod mh160 (fun b hb hc => by simp at hc; have := fr_r7 b hb; omega)).ext eh235).mod mh241 ap_r7_r8).mod mh248 (fun b hb hc => by simp at hc; have := lt_r7 b hb; omega)).mod mh252 (fun b hb hc => by simp at hc; have := fr_r7 b hb; omega))
    have f256 := ((s_r240.mod mh248 (nb1 np245)).mod mh252 (fun b hb hc => by simp at hc; have := fr_r240 b hb; omega))
    have f257 := ((((Ch160.ext eh235).mod mh241 (fun hc => by have := fr_r8 _ hc; omega) (fun b hb => by have := fr_r8 b hb; omega)).mod mh248 (by simp; omega) (fun b hb => by simp at hb; omega)).mod mh252 (by simp; omega) (fun b hb => by simp at hb; omega))
    exact ⟨⟨g6.towers, (g6.links ++ [(⟨x233.a, x233.b, x233.delay⟩ : LinkD)])⟩, r7, r240, rfl, f255, (fr_r7.mono (by omega)), f256, (fr_r240.mono (by omega)), np244, (by (try simp only); exact ⟨by first | omega | (simp; done) | (simp; omega), by first | omega | (simp; done) | (simp; omega)⟩), (f257.le (by omega)), E254⟩
   refine v_skip <| p_blkN <| p_blkN <| p_seqN <| v_seq <| v_ops ?_
   have f258 := ((f150.mod mh153 (by simp; omega)).mod mh160 (by simp; omega))
   refine s_load (.agg #[r7, r8]) (fun _ q => f258.loadA rfl q) ?_
   have f259 := (((((((bxb1.mod mh9 (by simp; omega)).ext eh12).mod mh15 (by simp; omega)).mod mh20 (by simp; omega)).mod mh27 (by simp; omega)).mod mh153 (by simp; omega)).mod mh160 (by simp; omega))
   refine s_stBx (.agg #[r7, r8]) [r7, r8] [r7, r8] f259 rfl rfl rfl rfl (by simp) (all_cons f23.one1 (all_cons f156.one1 all_nil)) rfl (fun h260 mh260 sh260 bxx261 => ?_)
   have E262 := E161.new mh260 (fun b hb => .inr (by simp at hb; omega))
   refine s_nil <| p_seqN <| v_ret <| p_ret [.agg #[r7, r8]] (.agg #[r7, r8]) (fun _ q => (bxx261.loadA rfl q)) rfl ?_
   have f263 := ((((f23.mod mh27 (fun b hb hc => by simp at hc; have := fr_r7 b hb; omega)).mod mh153 (fun b hb hc => by simp at hc; have := fr_r7 b hb; omega)).mod mh160 (fun b hb hc => by simp at hc; have := fr_r7 b hb; omega)).mod mh260 (fun b hb hc => by simp at hc; have := fr_r7 b hb; omega))
   have f264 := ((f156.mod mh160 (fun b hb hc => by simp at hc; have := fr_r8 b hb; omega)).mod mh260 (fun b hb hc => by simp at hc; have := fr_r8 b hb; omega))
   have f265 := (Ch160.mod mh260 (by simp; omega) (fun b hb => by simp at hb; omega))
   exact ⟨⟨g6.towers, g6.links⟩, r7, r8, rfl, f263, (fr_r7.mono (by omega)), f264, (fr_r8.mono (by omega)), ap_r7_r8, (by (try simp only); exact ⟨by first | omega | (simp; done) | (simp; omega), by first | omega | (simp; done) | (simp; omega)⟩), (f265.le (by omega)), E262⟩
  refine v_skip <| p_blkN <| p_seqN <| v_seq <| v_ops <| s_load (.agg #[r7, r8]) (fun _ q => f150.loadA rfl q) ?_
  have f266 := (((((bxb1.mod mh9 (by simp; omega)).ext eh12).mod mh15 (by simp; omega)).mod mh20 (by simp; omega)).mod mh27 (by simp; omega))
  refine s_stBx (.agg #[r7, r8]) [r7, r8] [r7, r8] f266 rfl rfl rfl rfl (by simp) (all_cons f23.one1 (all_cons s_r8.one1 all_nil)) rfl (fun h267 mh267 sh267 bxx268 => ?_)
  have E269 := E28.new mh267 (fun b hb => .inr (by simp at hb; omega))
  refine s_nil <| p_seqN <| v_ret <| p_ret [.agg #[r7, r8]] (.agg #[r7, r8]) (fun _ q => (bxx268.loadA rfl q)) rfl ?_
  have f270 := ((f23.mod mh27 (fun b hb hc => by simp at hc; have := fr_r7 b hb; omega)).mod mh267 (fun b hb hc => by simp at hc; have := fr_r7 b hb; omega))
  have f271 := (((((s_r8.ext eh12).mod mh15 (fun b hb hc => by simp at hc; have := lt_r8 b hb; omega)).mod mh20 (fun b hb hc => by simp at hc; have := fr_r8 b hb; omega)).mod mh27 (fun b hb hc => by simp at hc; have := fr_r8 b hb; omega)).mod mh267 (fun b hb hc => by simp at hc; have := fr_r8 b hb; omega))
  have f272 := (Ch27.mod mh267 (by simp; omega) (fun b hb => by simp at hb; omega))
  exact ⟨⟨g6.towers, g6.links⟩, r7, r8, rfl, f270, (fr_r7.mono (by omega)), f271, (fr_r8.mono (by omega)), ap_r7_r8, (by (try simp only); exact ⟨by first | omega | (simp; done) | (simp; omega), by first | omega | (simp; done) | (simp; omega)⟩), (f272.le (by omega)), E269⟩
 refine v_ops <| s_pq (.bool (g26 == 6)) <| s_pq (.bool (g26 == 6)) <| s_nil <| p_seqN ?_
 refine v_cond rfl (fun c273 => ?_) (fun c273 => ?_)
 ·
  refine v_seq <| v_ops <| s_pq (.pointer (some ⟨b11, 1, none⟩)) ?_
  have f274 := ((bxx16.mod mh20 (by simp; omega)).mod mh27 (by simp; omega))
  refine s_load r8 (fun _ q => f274.load rfl q) <| s_pure (.int .i64 (g6.links.length : Int)) (fun _ q => s_r8.lenVC q) <| s_pq (.int .i64 (g6.links.length : Int)) <| s_nil <| p_seqN <| v_seq <| v_ops <| s_pq (.int .i64 (g6.links.length : Int)) <| s_pq (.bool (decide ((g6.links.length : Int) > 0))) <| s_nil <| p_seqN ?_
  refine v_cond rfl (fun c275 => ?_) (fun c275 => ?_)
  ·
   refine v_seq ?_
   refine v_draw (DrawVC.hold ([b11]) ?_)
   refine d_pq (.pointer (some ⟨b11, 1, none⟩)) <| d_pq (.pointer (some ⟨p_c, 0, none⟩)) <| d_pq (.int .i64 (g6.links.length : Int)) <| d_loadT r8 (fun _ q => f274.take (by simp) rfl q) <| d_eff <| s_call [.pointer (some ⟨p_c, 0, none⟩), .int .i64 (g6.links.length : Int)] rfl (spec_l1Cur_pick_ok p_c t_c (((m_c + 4000) + 2) + 2) lo_c (g6.links.length : Int) _ Ch27 (by omega)) ?_
   rintro _ h277 ⟨g276, rfl, qh277, Ch277, mh277⟩
   have zh277 := mh277.size
   have E278 := E28.new mh277 (fun b hb => .inl (by simp at hb; simp [hb]))
   have G279 := gmod1 (b := b11) (h := h27) (h0 := h27) mh277 (by omega) (by simp; omega) (fun _ _ => rfl)
   refine s_nil ⟨fun _ x hx => G279 x hx, ?_⟩
   have f280 := (((((s_r8.ext eh12).mod mh15 (fun b hb hc => by simp at hc; have := lt_r8 b hb; omega)).mod mh20 (fun b hb hc => by simp at hc; have := fr_r8 b hb; omega)).mod mh27 (fun b hb hc => by simp at hc; have := fr_r8 b hb; omega)).mod mh277 (fun b hb hc => by simp at hc; have := fr_r8 b hb; omega))
   have hk281 : (g276).toNat < g6.links.length := (by first | omega | (simp; omega))
   obtain ⟨x282, hx282⟩ : ∃ x, g6.links[(g276).toNat]? = some x := ⟨_, List.getElem?_eq_getElem hk281⟩
   refine d_pureT (.pointer (some ⟨sblk r8, soff r8 + ((g276).toNat) * 3, none⟩)) (fun _ q => f280.idx (k := (g276).toNat) (by omega) hk281 q) <| d_pq (.pointer (some ⟨sblk r8, soff r8 + ((g276).toNat) * 3, none⟩)) <| d_done <| p_seqN <| v_seq <| v_ops <| s_pq (.pointer (some ⟨p_c, 0, none⟩)) <| s_call [.pointer (some ⟨p_c, 0, none⟩), .int .i64 4] rfl (spec_l1Cur_pick_ok p_c t_c ((((m_c + 4000) + 2) + 2) + 2) lo_c 4 _ Ch277 (by omega)) ?_
   rintro _ h284 ⟨g283, rfl, qh284, Ch284, mh284⟩
   have zh284 := mh284.size
   have E285 := E278.new mh284 (fun b hb => .inl (by simp at hb; simp [hb]))
   refine s_nil <| p_seqN <| v_block <| v_seq <| v_ops <| s_pq (.bool (g283 == 0)) <| s_pq (.bool (g283 == 0)) <| s_nil <| p_seqN ?_
   refine v_cond rfl (fun c286 => ?_) (fun c286 => ?_)
   ·
    refine v_ops <| s_pq (.pointer (some ⟨sblk r8, soff r8 + ((g276).toNat) * 3, none⟩)) <| s_pq (.pointer (some ⟨p_c, 0, none⟩)) <| s_pq (.pointer (some ⟨sblk r8, soff r8 + ((g276).toNat) * 3, none⟩)) <| s_pq (.pointer (some ⟨sblk r8, soff r8 + ((g276).toNat) * 3, none⟩)) <| s_pq (.pointer (some ⟨sblk r8, soff r8 + ((g276).toNat) * 3 + 1, none⟩)) ?_
    have f287 := (f280.mod mh284 (fun b hb hc => by simp at hc; have := fr_r8 b hb; omega))
    refine s_load (.int .i64 x282.b) (fun _ q => f287.load hx282 (j := 1) rfl rfl q) ?_
    refine s_row (α := Int) [(-1), x282.b] (fun _ q => seg_i rfl (seg_i rfl (seg_nil q))) rfl (by simp [maxLen]) (fun r288 h289 eh289 zh289 s_r288 fr_r288 => ?_)
    have E290 := E285.trans (Mod.of_ext eh289 _)
    have z291 := eh289.size
    have f292 := (Ch284.ext eh289)
    refine s_call [.pointer (some ⟨p_c, 0, none⟩), r288] rfl (spec_l1Cur_among_ok p_c t_c (((((m_c + 4000) + 2) + 2) + 2) + 2) lo_c r288 [(-1), x282.b] _ f292 s_r288.toSl (fun b hb hc => by simp at hc; have := fr_r288 b hb; omega) (by omega) (by first | omega | assumption | (simp; done) | (simp; omega))) ?_
    rintro _ h294 ⟨g293, rfl, qh294, Ch294, mh294⟩
    have zh294 := mh294.size
    have E295 := E290.new mh294 (fun b hb => .inl (by simp at hb; simp [hb]))
    simp only [List.mem_cons, List.not_mem_nil, or_false] at qh294
    refine s_pq (.pointer (some ⟨sblk r8, soff r8 + ((g276).toNat) * 3, none⟩)) <| s_pq (.pointer (some ⟨sblk r8, soff r8 + ((g276).toNat) * 3, none⟩)) ?_
    have f296 := ((f287.ext eh289).mod mh294 (fun b hb hc => by simp at hc; have := fr_r8 b hb; omega))
    refine s_stSl (k := (g276).toNat) (j := 0) (⟨g293, x282.b, x282.delay⟩ : LinkD) (.int .i64 g293) [.int .i64 g293] f296 rfl rfl rfl rfl rfl hx282 (Nat.le_of_ble_eq_true rfl) rfl (all_cons rfl all_nil) (fun h297 mh297 sh297 s298 => ?_)
    have E299 := E295.new mh297 (fun b hb => .inr (by have := fr_r8 b hb; omega))
    refine s_nil <| p_blkN <| p_blkN <| p_seqN <| v_seq <| v_ops ?_
    have f300 := (((((f274.mod mh277 (by simp; omega)).mod mh284 (by simp; omega)).ext eh289).mod mh294 (by simp; omega)).mod mh297 (fun hc => by have := lt_r8 _ hc; omega))
    refine s_load (.agg #[r7, r8]) (fun _ q => f300.loadA rfl q) ?_
    have f301 := ((((((((((bxb1.mod mh9 (by simp; omega)).ext eh12).mod mh15 (by simp; omega)).mod mh20 (by simp; omega)).mod mh27 (by simp; omega)).mod mh277 (by simp; omega)).mod mh284 (by simp; omega)).ext eh289).mod mh294 (by simp; omega)).mod mh297 (fun hc => by have := fr_r8 _ hc; omega))
    refine s_stBx (.agg #[r7, r8]) [r7, r8] [r7, r8] f301 rfl rfl rfl rfl (by simp) (all_cons f23.one1 (all_cons s298.one1 all_nil)) rfl (fun h302 mh302 sh302 bxx303 => ?_)
    have E304 := E299.new mh302 (fun b hb => .inr (by simp at hb; omega))
    refine s_nil <| p_seqN <| v_ret <| p_ret [.agg #[r7, r8]] (.agg #[r7, r8]) (fun _ q => (bxx303.loadA rfl q)) rfl ?_
    have f305 := (((((((f23.mod mh27 (fun b hb hc => by simp at hc; have := fr_r7 b hb; omega)).mod mh277 (fun b hb hc => by simp at hc; have := fr_r7 b hb; omega)).mod mh284 (fun b hb hc => by simp at hc; have := fr_r7 b hb; omega)).ext eh289).mod mh294 (fun b hb hc => by simp at hc; have := fr_r7 b hb; omega)).mod mh297 ap_r7_r8).mod mh302 (fun b hb hc => by simp at hc; have := fr_r7 b hb; omega))
    have f306 := (s298.mod mh302 (fun b hb hc => by simp at hc; have := fr_r8 b hb; omega))
    have f307 := ((Ch294.mod mh297 (fun hc => by have := fr_r8 _ hc; omega) (fun b hb => by have := fr_r8 b hb; omega)).mod mh302 (by simp; omega) (fun b hb => by simp at hb; omega))
    exact ⟨⟨g6.towers, (g6.links.set ((g276).toNat) (⟨g293, x282.b, x282.delay⟩ : LinkD))⟩, r7, r8, rfl, f305, (fr_r7.mono (by omega)), f306, (fr_r8.mono (by omega)), ap_r7_r8, (by (try simp only); exact ⟨by first | omega | (simp; done) | (simp; omega), by first | omega | (simp; done) | (simp; omega)⟩), (f307.le (by omega)), E304⟩
   refine v_seq <| v_ops <| s_pq (.bool (g283 == 1)) <| s_pq (.bool (g283 == 1)) <| s_nil <| p_seqN ?_
   refine v_cond rfl (fun c308 => ?_) (fun c308 => ?_)
   ·
    refine v_drawF <| d_pq (.pointer (some ⟨sblk r8, soff r8 + ((g276).toNat) * 3, none⟩)) <| d_pq (.pointer (some ⟨p_c, 0, none⟩)) <| d_pq (.pointer (some ⟨sblk r8, soff r8 + ((g276).toNat) * 3, none⟩)) <| d_pq (.pointer (some ⟨sblk r8, soff r8 + ((g276).toNat) * 3, none⟩)) <| d_pq (.pointer (some ⟨sblk r8, soff r8 + ((g276).toNat) * 3, none⟩)) <| d_pq (.pointer (some ⟨b11, 0, none⟩)) ?_
    have f309 := (f280.mod mh284 (fun b hb hc => by simp at hc; have := fr_r8 b hb; omega))
    refine d_loadO (.int .i64 x282.a) (fun _ q => f309.load hx282 (j := 0) rfl rfl q) ?_
    have f310 := ((f274.mod mh277 (by simp; omega)).mod mh284 (by simp; omega))
    refine d_loadO r7 (fun _ q => f310.load rfl q) <| d_pureT (.int .i64 (g6.towers.length : Int)) (fun _ q => f23.lenVC q) <| d_eff ?_
    refine s_row (α := Int) [x282.a, (g6.towers.length : Int)] (fun _ q => seg_i rfl (seg_i rfl (seg_nil q))) rfl (by simp [maxLen]) (fun r311 h312 eh312 zh312 s_r311 fr_r311 => ?_)
    have E313 := E285.trans (Mod.of_ext eh312 _)
    have z314 := eh312.size
    refine s_nil ⟨fun hl => (by cases hl), ?_⟩
    refine d_eff ?_
    have f316 := (Ch284.ext eh312)
    refine s_call [.pointer (some ⟨p_c, 0, none⟩), r311] rfl (spec_l1Cur_among_ok p_c t_c (((((m_c + 4000) + 2) + 2) + 2) + 2) lo_c r311 [x282.a, (g6.towers.length : Int)] _ f316 s_r311.toSl (fun b hb hc => by simp at hc; have := fr_r311 b hb; omega) (by omega) (by first | omega | assumption | (simp; done) | (simp; omega))) ?_
    rintro _ h318 ⟨g317, rfl, qh318, Ch318, mh318⟩
    have zh318 := mh318.size
    have E319 := E313.new mh318 (fun b hb => .inl (by simp at hb; simp [hb]))
    simp only [List.mem_cons, List.not_mem_nil, or_false] at qh318
    refine s_nil ⟨fun hl => (by cases hl), ?_⟩
    refine d_pq (.pointer (some ⟨sblk r8, soff r8 + ((g276).toNat) * 3, none⟩)) <| d_pq (.pointer (some ⟨sblk r8, soff r8 + ((g276).toNat) * 3 + 1, none⟩)) <| d_eff ?_
    have f320 := ((f309.ext eh312).mod mh318 (fun b hb hc => by simp at hc; have := fr_r8 b hb; omega))
    refine s_stSl (k := (g276).toNat) (j := 1) (⟨x282.a, g317, x282.delay⟩ : LinkD) (.int .i64 g317) [.int .i64 g317] f320 rfl rfl rfl rfl rfl hx282 (Nat.le_of_ble_eq_true rfl) rfl (all_cons rfl all_nil) (fun h321 mh321 sh321 s322 => ?_)
    have E323 := E319.new mh321 (fun b hb => .inr (by have := fr_r8 b hb; omega))
    refine s_nil ⟨fun hl => (by cases hl), ?_⟩
    refine d_done <| p_blkN <| p_blkN <| p_seqN <| v_seq <| v_ops ?_
    have f324 := (((f310.ext eh312).mod mh318 (by simp; omega)).mod mh321 (fun hc => by have := lt_r8 _ hc; omega))
    refine s_load (.agg #[r7, r8]) (fun _ q => f324.loadA rfl q) ?_
    have f325 := ((((((((((bxb1.mod mh9 (by simp; omega)).ext eh12).mod mh15 (by simp; omega)).mod mh20 (by simp; omega)).mod mh27 (by simp; omega)).mod mh277 (by simp; omega)).mod mh284 (by simp; omega)).ext eh312).mod mh318 (by simp; omega)).mod mh321 (fun hc => by have := fr_r8 _ hc; omega))
    refine s_stBx (.agg #[r7, r8]) [r7, r8] [r7, r8] f325 rfl rfl rfl rfl (by simp) (all_cons f23.one1 (all_cons s322.one1 all_nil)) rfl (fun h326 mh326 sh326 bxx327 => ?_)
    have E328 := E323.new mh326 (fun b hb => .inr (by simp at hb; omega))
    refine s_nil <| p_seqN <| v_ret <| p_ret [.agg #[r7, r8]] (.agg #[r7, r8]) (fun _ q => (bxx327.loadA rfl q)) rfl ?_
    have f329 := (((((((f23.mod mh27 (fun b hb hc => by simp at hc; have := fr_r7 b hb; omega)).mod mh277 (fun b hb hc => by simp at hc; have := fr_r7 b hb; omega)).mod mh284 (fun b hb hc => by simp at hc; have := fr_r7 b hb; omega)).ext eh312).mod mh318 (fun b hb hc => by simp at hc; have := fr_r7 b hb; omega)).mod mh321 ap_r7_r8).mod mh326 (fun b hb hc => by simp at hc; have := fr_r7 b hb; omega))
    have f330 := (s322.mod mh326 (fun b hb hc => by simp at hc; have := fr_r8 b hb; omega))
    have f331 := ((Ch318.mod mh321 (fun hc => by have := fr_r8 _ hc; omega) (fun b hb => by have := fr_r8 b hb; omega)).mod mh326 (by simp; omega) (fun b hb => by simp at hb; omega))
    exact ⟨⟨g6.towers, (g6.links.set ((g276).toNat) (⟨x282.a, g317, x282.delay⟩ : LinkD))⟩, r7, r8, rfl, f329, (fr_r7.mono (by omega)), f330, (fr_r8.mono (by omega)), ap_r7_r8, (by (try simp only); exact ⟨by first | omega | (simp; done) | (simp; omega), by first | omega | (simp; done) | (simp; omega)⟩), (f331.le (by omega)), E328⟩
   refine v_seq <| v_ops <| s_pq (.bool (g283 == 2)) <| s_pq (.bool (g283 == 2)) <| s_nil <| p_seqN ?_
   refine v_cond rfl (fun c332 => ?_) (fun c332 => ?_)
   ·
    refine v_ops <| s_pq (.pointer (some ⟨sblk r8, soff r8 + ((g276).toNat) * 3, none⟩)) <| s_pq (.pointer (some ⟨p_c, 0, none⟩)) ?_
    refine s_row (α := Int) [0, 60, 61] (fun _ q => seg_i rfl (seg_i rfl (seg_i rfl (seg_nil q)))) rfl (by simp [maxLen]) (fun r333 h334 eh334 zh334 s_r333 fr_r333 => ?_)
    have E335 := E285.trans (Mod.of_ext eh334 _)
    have z336 := eh334.size
    have f337 := (Ch284.ext eh334)
    refine s_call [.pointer (some ⟨p_c, 0, none⟩), r333] rfl (spec_l1Cur_among_ok p_c t_c (((((m_c + 4000) + 2) + 2) + 2) + 2) lo_c r333 [0, 60, 61] _ f337 s_r333.toSl (fun b hb hc => by simp at hc; have := fr_r333 b hb; omega) (by omega) (by first | omega | assumption | (simp; done) | (simp; omega))) ?_
    rintro _ h339 ⟨g338, rfl, qh339, Ch339, mh339⟩
    have zh339 := mh339.size
    have E340 := E335.new mh339 (fun b hb => .inl (by simp at hb; simp [hb]))
    simp only [List.mem_cons, List.not_mem_nil, or_false] at qh339
    refine s_pq (.pointer (some ⟨sblk r8, soff r8 + ((g276).toNat) * 3, none⟩)) <| s_pq (.pointer (some ⟨sblk r8, soff r8 + ((g276).toNat) * 3 + 2, none⟩)) ?_
    have f341 := (((f280.mod mh284 (fun b hb hc => by simp at hc; have := fr_r8 b hb; omega)).ext eh334).mod mh339 (fun b hb hc => by simp at hc; have := fr_r8 b hb; omega))
    refine s_stSl (k := (g276).toNat) (j := 2) (⟨x282.a, x282.b, g338⟩ : LinkD) (.int .i64 g338) [.int .i64 g338] f341 rfl rfl rfl rfl rfl hx282 (Nat.le_of_ble_eq_true rfl) rfl (all_cons rfl all_nil) (fun h342 mh342 sh342 s343 => ?_)
    have E344 := E340.new mh342 (fun b hb => .inr (by have := fr_r8 b hb; omega))
    refine s_nil <| p_blkN <| p_blkN <| p_seqN <| v_seq <| v_ops ?_
    have f345 := (((((f274.mod mh277 (by simp; omega)).mod mh284 (by simp; omega)).ext eh334).mod mh339 (by simp; omega)).mod mh342 (fun hc => by have := lt_r8 _ hc; omega))
    refine s_load (.agg #[r7, r8]) (fun _ q => f345.loadA rfl q) ?_
    have f346 := ((((((((((bxb1.mod mh9 (by simp; omega)).ext eh12).mod mh15 (by simp; omega)).mod mh20 (by simp; omega)).mod mh27 (by simp; omega)).mod mh277 (by simp; omega)).mod mh284 (by simp; omega)).ext eh334).mod mh339 (by simp; omega)).mod mh342 (fun hc => by have := fr_r8 _ hc; omega))
    refine s_stBx (.agg #[r7, r8]) [r7, r8] [r7, r8] f346 rfl rfl rfl rfl (by simp) (all_cons f23.one1 (all_cons s343.one1 all_nil)) rfl (fun h347 mh347 sh347 bxx348 => ?_)
    have E349 := E344.new mh347 (fun b hb => .inr (by simp at hb; omega))
    refine s_nil <| p_seqN <| v_ret <| p_ret [.agg #[r7, r8]] (.agg #[r7, r8]) (fun _ q => (bxx348.loadA rfl q)) rfl ?_
    have f350 := (((((((f23.mod mh27 (fun b hb hc => by simp at hc; have := fr_r7 b hb; omega)).mod mh277 (fun b hb hc => by simp at hc; have := fr_r7 b hb; omega)).mod mh284 (fun b hb hc => by simp at hc; have := fr_r7 b hb; omega)).ext eh334).mod mh339 (fun b hb hc => by simp at hc; have := fr_r7 b hb; omega)).mod mh342 ap_r7_r8).mod mh347 (fun b hb hc => by simp at hc; have := fr_r7 b hb; omega))
    have f351 := (s343.mod mh347 (fun b hb hc => by simp at hc; have := fr_r8 b hb; omega))
    have f352 := ((Ch339.mod mh342 (fun hc => by have := fr_r8 _ hc; omega) (fun b hb => by have := fr_r8 b hb; omega)).mod mh347 (by simp; omega) (fun b hb => by simp at hb; omega))
    exact ⟨⟨g6.towers, (g6.links.set ((g276).toNat) (⟨x282.a, x282.b, g338⟩ : LinkD))⟩, r7, r8, rfl, f350, (fr_r7.mono (by omega)), f351, (fr_r8.mono (by omega)), ap_r7_r8, (by (try simp only); exact ⟨by first | omega | (simp; done) | (simp; omega), by first | omega | (simp; done) | (simp; omega)⟩), (f352.le (by omega)), E349⟩
   refine v_seq <| v_ops <| s_pq (.bool (g283 == 3)) <| s_pq (.bool (g283 == 3)) <| s_nil <| p_seqN ?_
   refine v_cond rfl (fun c353 => ?_) (fun c353 => ?_)
   ·
    have f354 := ((f274.mod mh277 (by simp; omega)).mod mh284 (by simp; omega))
    refine v_draw (DrawVC.hold ([b11]) ?_)
    refine d_pq (.pointer (some ⟨b11, 1, none⟩)) <| d_pq (.pointer (some ⟨b11, 1, none⟩)) <| d_loadO r8 (fun _ q => f354.load rfl q) ?_
    have f355 := (f280.mod mh284 (fun b hb hc => by simp at hc; have := fr_r8 b hb; omega))
    have hk356 : 0 < g6.links.length := (by first | omega | (simp; omega))
    obtain ⟨x357, hx357⟩ : ∃ x, g6.links[0]? = some x := ⟨_, List.getElem?_eq_getElem hk356⟩
    refine d_pureT (.pointer (some ⟨sblk r8, soff r8 + 0 * 3, none⟩)) (fun _ q => f355.idx (k := 0) rfl hk356 q) <| d_loadO (.agg #[.int .i64 x357.a, .int .i64 x357.b, .int .i64 x357.delay]) (fun _ q => f355.loadN hx357 rfl q) <| d_loadT r8 (fun _ q => f354.take (by simp) rfl q) <| d_eff ?_
    refine s_row (α := LinkD) [(⟨x357.a, x357.b, x357.delay⟩ : LinkD)] (fun _ q => seg_agg rfl rfl (seg_nil q)) rfl (by simp [maxLen]) (fun r358 h359 eh359 zh359 s_r358 fr_r358 => ?_)
    have E360 := E285.trans (Mod.of_ext eh359 _)
    have z361 := eh359.size
    have G362 := eh359
    refine s_nil ⟨fun _ x hx => G362.blk x (by simp at hx; omega), ?_⟩
    refine d_eff ?_
    have f363 := (f355.ext eh359)
    refine s_app f363 s_r358 rfl rfl rfl (by first | (simp [maxLen]; done) | (simp [maxLen]; omega)) (by first | (simp; done) | (simp; omega)) (fun r364 h365 mh365 zh365 s_r364 ab_r364 => ?_)
    have E366 := E360.new mh365 (fun b hb => .inr (by have := fr_r8 b hb; omega))
    have fr_r364 := fr_r8.app ab_r364 (by omega)
    have np368 : ∀ b ∈ blks r7, b ∉ blks r364 := fun b hb hc => (ab_r364 _ hc).elim ((ap_r7_r8 : ∀ b ∈ blks r7, b ∉ blks r8) b hb) (fun hc => by have := lt_r7 b hb; omega)
    have np369 : b11 ∉ blks r364 := fun hc => (ab_r364 _ hc).elim (fun hc => by have := lt_r8 _ hc; omega) (fun hc => by omega)
    refine s_nil ⟨fun hl => (by cases hl), ?_⟩
    refine d_pq (.pointer (some ⟨b11, 1, none⟩)) <| d_eff ?_
    have f371 := ((f354.ext eh359).mod mh365 (fun hc => by have := lt_r8 _ hc; omega))
    refine s_stBx r364 [r364] [r7, r364] f371 rfl rfl s_r364.cellsv rfl (by simp) (all_cons s_r364.one1 all_nil) rfl (fun h372 mh372 sh372 bxx373 => ?_)
    have E374 := E366.new mh372 (fun b hb => .inr (by simp at hb; omega))
    refine s_nil ⟨fun hl => (by cases hl), ?_⟩
    refine d_done <| p_blkN <| p_blkN <| p_seqN <| v_seq <| v_ops <| s_load (.agg #[r7, r364]) (fun _ q => bxx373.loadA rfl q) ?_
    have f375 := ((((((((((bxb1.mod mh9 (by simp; omega)).ext eh12).mod mh15 (by simp; omega)).mod mh20 (by simp; omega)).mod mh27 (by simp; omega)).mod mh277 (by simp; omega)).mod mh284 (by simp; omega)).ext eh359).mod mh365 (fun hc => by have := fr_r8 _ hc; omega)).mod mh372 (by simp; omega))
    refine s_stBx (.agg #[r7, r364]) [r7, r364] [r7, r364] f375 rfl rfl rfl rfl (by simp) (all_cons f23.one1 (all_cons s_r364.one1 all_nil)) rfl (fun h376 mh376 sh376 bxx377 => ?_)
    have E378 := E374.new mh376 (fun b hb => .inr (by simp at hb; omega))
    refine s_nil <| p_seqN <| v_ret <| p_ret [.agg #[r7, r364]] (.agg #[r7, r364]) (fun _ q => (bxx377.loadA rfl q)) rfl ?_
    have f379 := (((((((f23.mod mh27 (fun b hb hc => by simp at hc; have := fr_r7 b hb; omega)).mod mh277 (fun b hb hc => by simp at hc; have := fr_r7 b hb; omega)).mod mh284 (fun b hb hc => by simp at hc; have := fr_r7 b hb; omega)).ext eh359).mod mh365 ap_r7_r8).mod mh372 (fun b hb hc => by simp at hc; have := lt_r7 b hb; omega)).mod mh376 (fun b hb hc => by simp at hc; have := fr_r7 b hb; omega))
    have f380 := ((s_r364.mod mh372 (nb1 np369)).mod mh376 (fun b hb hc => by simp at hc; have := fr_r364 b hb; omega))
    have f381 := ((((Ch284.ext eh359).mod mh365 (fun hc => by have := fr_r8 _ hc; omega) (fun b hb => by have := fr_r8 b hb; omega)).mod mh372 (by simp; omega) (fun b hb => by simp at hb; omega)).mod mh376 (by simp; omega) (fun b hb => by simp at hb; omega))
    exact ⟨⟨g6.towers, (g6.links ++ [(⟨x357.a, x357.b, x357.delay⟩ : LinkD)])⟩, r7, r364, rfl, f379, (fr_r7.mono (by omega)), f380, (fr_r364.mono (by omega)), np368, (by (try simp only); exact ⟨by first | omega | (simp; done) | (simp; omega), by first | omega | (simp; done) | (simp; omega)⟩), (f381.le (by omega)), E378⟩
   refine v_skip <| p_blkN <| p_blkN <| p_seqN <| v_seq <| v_ops ?_
   have f382 := ((f274.mod mh277 (by simp; omega)).mod mh284 (by simp; omega))
   refine s_load (.agg #[r7, r8]) (fun _ q => f382.loadA rfl q) ?_
   have f383 := (((((((bxb1.mod mh9 (by simp; omega)).ext eh12).mod mh15 (by simp; omega)).mod mh20 (by simp; omega)).mod mh27 (by simp; omega)).mod mh277 (by simp; omega)).mod mh284 (by simp; omega))
   refine s_stBx (.agg #[r7, r8]) [r7, r8] [r7, r8] f383 rfl rfl rfl rfl (by simp) (all_cons f23.one1 (all_cons f280.one1 all_nil)) rfl (fun h384 mh384 sh384 bxx385 => ?_)
   have E386 := E285.new mh384 (fun b hb => .inr (by simp at hb; omega))
   refine s_nil <| p_seqN <| v_ret <| p_ret [.agg #[r7, r8]] (.agg #[r7, r8]) (fun _ q => (bxx385.loadA rfl q)) rfl ?_
   have f387 := ((((f23.mod mh27 (fun b hb hc => by simp at hc; have := fr_r7 b hb; omega)).mod mh277 (fun b hb hc => by simp at hc; have := fr_r7 b hb; omega)).mod mh284 (fun b hb hc => by simp at hc; have := fr_r7 b hb; omega)).mod mh384 (fun b hb hc => by simp at hc; have := fr_r7 b hb; omega))
   have f388 := ((f280.mod mh284 (fun b hb hc => by simp at hc; have := fr_r8 b hb; omega)).mod mh384 (fun b hb hc => by simp at hc; have := fr_r8 b hb; omega))
   have f389 := (Ch284.mod mh384 (by simp; omega) (fun b hb => by simp at hb; omega))
   exact ⟨⟨g6.towers, g6.links⟩, r7, r8, rfl, f387, (fr_r7.mono (by omega)), f388, (fr_r8.mono (by omega)), ap_r7_r8, (by (try simp only); exact ⟨by first | omega | (simp; done) | (simp; omega), by first | omega | (simp; done) | (simp; omega)⟩), (f389.le (by omega)), E386⟩
  refine v_skip <| p_blkN <| p_seqN <| v_seq <| v_ops <| s_load (.agg #[r7, r8]) (fun _ q => f274.loadA rfl q) ?_
  have f390 := (((((bxb1.mod mh9 (by simp; omega)).ext eh12).mod mh15 (by simp; omega)).mod mh20 (by simp; omega)).mod mh27 (by simp; omega))
  refine s_stBx (.agg #[r7, r8]) [r7, r8] [r7, r8] f390 rfl rfl rfl rfl (by simp) (all_cons f23.one1 (all_cons s_r8.one1 all_nil)) rfl (fun h391 mh391 sh391 bxx392 => ?_)
  have E393 := E28.new mh391 (fun b hb => .inr (by simp at hb; omega))
  refine s_nil <| p_seqN <| v_ret <| p_ret [.agg #[r7, r8]] (.agg #[r7, r8]) (fun _ q => (bxx392.loadA rfl q)) rfl ?_
  have f394 := ((f23.mod mh27 (fun b hb hc => by simp at hc; have := fr_r7 b hb; omega)).mod mh391 (fun b hb hc => by simp at hc; have := fr_r7 b hb; omega))
  have f395 := (((((s_r8.ext eh12).mod mh15 (fun b hb hc => by simp at hc; have := lt_r8 b hb; omega)).mod mh20 (fun b hb hc => by simp at hc; have := fr_r8 b hb; omega)).mod mh27 (fun b hb hc => by simp at hc; have := fr_r8 b hb; omega)).mod mh391 (fun b hb hc => by simp at hc; have := fr_r8 b hb; omega))
  have f396 := (Ch27.mod mh391 (by simp; omega) (fun b hb => by simp at hb; omega))
  exact ⟨⟨g6.towers, g6.links⟩, r7, r8, rfl, f394, (fr_r7.mono (by omega)), f395, (fr_r8.mono (by omega)), ap_r7_r8, (by (try simp only); exact ⟨by first | omega | (simp; done) | (simp; omega), by first | omega | (simp; done) | (simp; omega)⟩), (f396.le (by omega)), E393⟩
 refine v_seq <| v_ops <| s_pq (.bool (g26 == 7)) <| s_pq (.bool (g26 == 7)) <| s_nil <| p_seqN ?_
 refine v_cond rfl (fun c397 => ?_) (fun c397 => ?_)
 ·
  refine v_seq <| v_ops ?_
  refine s_mk (α := TowerD) 10 (⟨0, 0, 0⟩ : TowerD) rfl rfl rfl rfl rfl rfl (by first | (simp [maxLen]; done) | (simp [maxLen]; omega)) (by omega) (fun r398 h399 eh399 zh399 s_r398 fr_r398 => ?_)
  have E400 := E28.trans (Mod.of_ext eh399 _)
  have z401 := eh399.size
  refine s_pure (.agg #[r398, .slice none 0 0]) (fun _ q => w_build (seg_sl s_r398 rfl (seg_nil q))) ?_
  have f402 := (((bxx16.mod mh20 (by simp; omega)).mod mh27 (by simp; omega)).ext eh399)
  refine s_stBx (.agg #[r398, .slice none 0 0]) [r398, .slice none 0 0] [r398, .slice none 0 0] f402 rfl rfl rfl rfl (by simp) (all_cons s_r398.one1 (all_cons rfl all_nil)) rfl (fun h403 mh403 sh403 bxx404 => ?_)
  have E405 := E400.new mh403 (fun b hb => .inr (by simp at hb; omega))
  refine s_nil <| p_seqN <| v_seq <| v_ops <| s_pq (.pointer (some ⟨p_c, 0, none⟩)) ?_
  have f406 := ((Ch27.ext eh399).mod mh403 (by simp; omega) (fun b hb => by simp at hb; omega))
  refine s_call [.pointer (some ⟨p_c, 0, none⟩), .int .i64 2] rfl (spec_l1Cur_pick_ok p_c t_c (((m_c + 4000) + 2) + 2) lo_c 2 _ f406 (by omega)) ?_
  rintro _ h408 ⟨g407, rfl, qh408, Ch408, mh408⟩
  have zh408 := mh408.size
  have E409 := E405.new mh408 (fun b hb => .inl (by simp at hb; simp [hb]))
  refine s_pure (.int .i64 (40 + g407)) (fun _ q => ArithVC.mk (by omega) q) <| s_pq (.int .i64 (40 + g407)) <| s_nil <| p_seqN <| v_seq <| v_ops <| s_pq (.int .i64 0) <| s_nil <| p_seqN <| v_block ?_
  have nk411 : b1 ∉ blks r398 := (fun hc => by have := fr_r398 _ hc; omega)
  have nk412 : b11 ∉ blks r398 := (fun hc => by have := fr_r398 _ hc; omega)
  have nk413 : p_c ∉ blks r398 := (fun hc => by have := fr_r398 _ hc; omega)
  have f414 := ((((((((bxb1.mod mh9 (by simp; omega)).ext eh12).mod mh15 (by simp; omega)).mod mh20 (by simp; omega)).mod mh27 (by simp; omega)).ext eh399).mod mh403 (by simp; omega)).mod mh408 (by simp; omega))
  have f415 := (bxx404.mod mh408 (by simp; omega))
  have f416 := ((s_r398.mod mh403 (fun b hb hc => by simp at hc; have := fr_r398 b hb; omega)).mod mh408 (fun b hb hc => by simp at hc; have := fr_r398 b hb; omega))
  refine v_loop3 (α := Int) (β := List LinkD) (γ := Value) (fun a l6 o6 => [(2, .pointer (some ⟨b1, 0, none⟩)), (3, .pointer (some ⟨b11, 0, none⟩)), (8, .int .i64 (40 + g407)), (9, .int .i64 a)]) (fun a l6 o6 hh => Mod [p_c] h hh ∧ Bx hh b1 [.slice none 0 0, .slice none 0 0] 26 ∧ Bx hh b11 [r398, o6] 26 ∧ Cur hh p_c t_c (m_c + 4900) lo_c ∧ SlO hh r398 (List.replicate 10 (⟨0, 0, 0⟩ : TowerD)) ∧ SlO hh o6 l6 ∧ Fr h.size o6 ∧ b1 ∉ blks o6 ∧ b11 ∉ blks o6 ∧ p_c ∉ blks o6 ∧ (∀ b ∈ blks r398, b ∉ blks o6) ∧ 0 ≤ a ∧ a ≤ 10 ∧ l6.length ≤ 41) (fun a l6 o6 => (10 - a).toNat) 0 [] (.slice none 0 0) ⟨rfl, rfl, rfl, rfl⟩ ⟨E409, f414, f415, (Ch408.le (by first | omega | (simp; done) | (simp; omega))), f416, (sl_eq (SlX.nil (α := LinkD) true h408) (by simp)), (Fr.nil _), (by simp [blks, fpts]), (by simp [blks, fpts]), (by simp [blks, fpts]), (fun b hb hc => by simp [blks, fpts] at hc), (by exact ⟨by omega, by omega, by first | omega | (simp; done)⟩)⟩ ?_
  rintro a l6 o6 R417 h410 ⟨Eh, bxb1, bxb11, bxc, s_r398, s_o6, fr_o6, np_b1_o6, np_b11_o6, np_c_o6, np_r398_o6, ⟨ha0, ha1, hl6⟩⟩
  have zEh := Eh.size
  have lbc := bxc.lt
  have lbb1 := bxb1.lt
  have lbb11 := bxb11.lt
  have ltk_r398 := s_r398.lt
  refine v_seq <| v_seq <| v_ops <| s_pq (.int .i64 a) <| s_pq (.bool (decide (a < 10))) <| s_nil <| p_seqN ?_
  refine v_cond rfl (fun c419 => ?_) (fun c419 => ?_)
  ·
   refine v_skip <| p_seqN <| v_seq <| v_block <| v_seq <| v_ops <| s_pq (.int .i64 a) <| s_pure (.int .i64 (a + 1)) (fun _ q => ArithVC.mk (by omega) q) <| s_pq (.int .i64 (a + 1)) <| s_nil <| p_seqN <| v_block <| v_loop3 (α := Int) (β := List LinkD) (γ := Value) (fun b l7 o7 => [(2, .pointer (some ⟨b1, 0, none⟩)), (3, .pointer (some ⟨b11, 0, none⟩)), (8, .int .i64 (40 + g407)), (9, .int .i64 a), (10, .int .i64 b)]) (fun b l7 o7 hh => Mod [p_c] h hh ∧ Bx hh b1 [.slice none 0 0, .slice none 0 0] 26 ∧ Bx hh b11 [r398, o7] 26 ∧ Cur hh p_c t_c (m_c + 4900) lo_c ∧ SlO hh r398 (List.replicate 10 (⟨0, 0, 0⟩ : TowerD)) ∧ SlO hh o7 l7 ∧ Fr h.size o7 ∧ b1 ∉ blks o7 ∧ b11 ∉ blks o7 ∧ p_c ∉ blks o7 ∧ (∀ b ∈ blks r398, b ∉ blks o7) ∧ a < b ∧ b ≤ 10 ∧ l7.length ≤ 41) (fun b l7 o7 => (10 - b).toNat) (a + 1) l6 o6 ⟨rfl, rfl, rfl, rfl, rfl⟩ ⟨Eh, bxb1, bxb11, (bxc.le (by first | omega | (simp; done) | (simp; omega))), s_r398, (sl_eq s_o6 (by simp)), (fr_o6.mono (by omega)), np_b1_o6, np_b11_o6, np_c_o6, np_r398_o6, (by exact ⟨by omega, by omega, by first | omega | (simp; done)⟩)⟩ ?_
   rintro b l7 o7 R421 h420 ⟨Eh, bxb1, bxb11, bxc, s_r398, s_o7, fr_o7, np_b1_o7, np_b11_o7, np_c_o7, np_r398_o7, ⟨hb0, hb1, hl7⟩⟩
   have zEh := Eh.size
   have lbc := bxc.lt
   have lbb1 := bxb1.lt
   have lbb11 := bxb11.lt
   have ltk_r398 := s_r398.lt
   refine v_seq <| v_seq <| v_ops <| s_pq (.int .i64 b) <| s_pq (.bool (decide (b < 10))) <| s_pq (.bool (decide (b < 10))) ?_
   refine s_splitT rfl (fun c423 => ?_) (fun c423 => ?_)
   ·
    refine s_run rfl <| s_pq (.pointer (some ⟨b11, 1, none⟩)) <| s_run rfl <| s_load o7 (fun _ q => bxb11.load rfl q) <| s_run rfl <| s_pure (.int .i64 (l7.length : Int)) (fun _ q => s_o7.lenVC q) <| s_run rfl <| s_pq (.int .i64 (40 + g407)) <| s_run rfl <| s_pq (.bool (decide ((l7.length : Int) < (40 + g407)))) <| s_pq (.bool (decide ((l7.length : Int) < (40 + g407)))) <| s_nil <| p_seqN ?_
    refine v_cond rfl (fun c424 => ?_) (fun c424 => ?_)
    ·
     refine v_skip <| p_seqN <| v_seq <| v_block <| v_ops <| s_pq (.pointer (some ⟨b11, 1, none⟩)) <| s_load o7 (fun _ q => bxb11.load rfl q) <| s_pq (.int .i64 a) <| s_pq (.int .i64 b) <| s_pure (.agg #[.int .i64 a, .int .i64 b, .int .i64 5]) (fun _ q => w_build (seg_i rfl (seg_i rfl (seg_i rfl (seg_nil q))))) ?_
     refine s_row (α := LinkD) [(⟨a, b, 5⟩ : LinkD)] (fun _ q => seg_agg rfl rfl (seg_nil q)) rfl (by simp [maxLen]) (fun r425 h426 eh426 zh426 s_r425 fr_r425 => ?_)
     have E427 := Eh.trans (Mod.of_ext eh426 _)
     have z428 := eh426.size
     have f429 := (s_o7.ext eh426)
     refine s_app f429 s_r425 rfl rfl rfl (by first | (simp [maxLen]; done) | (simp [maxLen]; omega)) (by first | (simp; done) | (simp; omega)) (fun r430 h431 mh431 zh431 s_r430 ab_r430 => ?_)
     have E432 := E427.new mh431 (fun b hb => .inr (by have := fr_o7 b hb; omega))
     have fr_r430 := fr_o7.app ab_r430 (by omega)
     have np433 : b1 ∉ blks r430 := fun hc => (ab_r430 _ hc).elim np_b1_o7 (fun hc => by omega)
     have np434 : b11 ∉ blks r430 := fun hc => (ab_r430 _ hc).elim np_b11_o7 (fun hc => by omega)
     have np435 : p_c ∉ blks r430 := fun hc => (ab_r430 _ hc).elim np_c_o7 (fun hc => by omega)
     have np437 : ∀ b ∈ blks r398, b ∉ blks r430 := fun b hb hc => (ab_r430 _ hc).elim ((np_r398_o7 : ∀ b ∈ blks r398, b ∉ blks o7) b hb) (fun hc => by have := ltk_r398 b hb; omega)
     refine s_pq (.pointer (some ⟨b11, 1, none⟩)) ?_
     have f439 := ((bxb11.ext eh426).mod mh431 np_b11_o7)
     refine s_stBx r430 [r430] [r398, r430] f439 rfl rfl s_r430.cellsv rfl (by simp) (all_cons s_r430.one1 all_nil) rfl (fun h440 mh440 sh440 bxx441 => ?_)
     have E442 := E432.new mh440 (fun b hb => .inr (by simp at hb; omega))
     refine s_nil <| p_blkN <| p_seqN <| v_ops <| s_pq (.int .i64 b) <| s_pure (.int .i64 (b + 1)) (fun _ q => ArithVC.mk (by omega) q) <| s_pq (.int .i64 (b + 1)) <| s_nil ?_
     have f443 := (((bxb1.ext eh426).mod mh431 np_b1_o7).mod mh440 (by simp; omega))
     have f444 := (((bxc.ext eh426).mod mh431 np_c_o7 (fun b hb => by have := fr_o7 b hb; omega)).mod mh440 (by simp; omega) (fun b hb => by simp at hb; omega))
     have f445 := (((s_r398.ext eh426).mod mh431 np_r398_o7).mod mh440 (nb1 nk412))
     have f446 := (s_r430.mod mh440 (nb1 np434))
     exact p_lpN ⟨(b + 1), (l7 ++ [(⟨a, b, 5⟩ : LinkD)]), r430, ⟨rfl, rfl, rfl, rfl, rfl⟩, ⟨E442, f443, bxx441, (f444.le (by omega)), f445, (sl_eq f446 (by simp)), (fr_r430.mono (by omega)), np433, np434, np435, np437, (by exact ⟨by omega, by omega, by first | omega | (simp; omega)⟩)⟩, by first | omega | (simp; done) | (simp; omega)⟩
    refine v_exit <| p_seqX <| p_lpX <| p_blkX <| p_blkN <| p_seqN <| v_ops <| s_pq (.int .i64 a) <| s_pure (.int .i64 (a + 1)) (fun _ q => ArithVC.mk (by omega) q) <| s_pq (.int .i64 (a + 1)) <| s_nil ?_
    exact p_lpN ⟨(a + 1), l7, o7, ⟨rfl, rfl, rfl, rfl⟩, ⟨Eh, bxb1, bxb11, (bxc.le (by omega)), s_r398, (sl_eq s_o7 (by simp)), (fr_o7.mono (by omega)), np_b1_o7, np_b11_o7, np_c_o7, np_r398_o7, (by exact ⟨by omega, by omega, by first | omega | (simp; omega)⟩)⟩, by first | omega | (simp; done) | (simp; omega)⟩
   refine s_pass rfl <| s_pass rfl <| s_pass rfl <| s_pass rfl <| s_pass rfl <| s_pq (.bool false) <| s_nil <| p_seqN <| v_condN rfl (by simp) <| v_exit <| p_seqX <| p_lpX <| p_blkX <| p_blkN <| p_seqN <| v_ops <| s_pq (.int .i64 a) <| s_pure (.int .i64 (a + 1)) (fun _ q => ArithVC.mk (by omega) q) <| s_pq (.int .i64 (a + 1)) <| s_nil ?_
   exact p_lpN ⟨(a + 1), l7, o7, ⟨rfl, rfl, rfl, rfl⟩, ⟨Eh, bxb1, bxb11, (bxc.le (by omega)), s_r398, (sl_eq s_o7 (by simp)), (fr_o7.mono (by omega)), np_b1_o7, np_b11_o7, np_c_o7, np_r398_o7, (by exact ⟨by omega, by omega, by first | omega | (simp; omega)⟩)⟩, by first | omega | (simp; done) | (simp; omega)⟩
  refine v_exit <| p_seqX <| p_lpX <| p_blkX <| p_blkN <| p_seqN <| v_seq <| v_ops <| s_load (.agg #[r398, o6]) (fun _ q => bxb11.loadA rfl q) ?_
  refine s_stBx (.agg #[r398, o6]) [r398, o6] [r398, o6] bxb1 rfl rfl rfl rfl (by simp) (all_cons s_r398.one1 (all_cons s_o6.one1 all_nil)) rfl (fun h447 mh447 sh447 bxx448 => ?_)
  have E449 := Eh.new mh447 (fun b hb => .inr (by simp at hb; omega))
  refine s_nil <| p_seqN <| v_ret <| p_ret [.agg #[r398, o6]] (.agg #[r398, o6]) (fun _ q => (bxx448.loadA rfl q)) rfl ?_
  have f450 := (s_r398.mod mh447 (nb1 nk411))
  have f451 := (s_o6.mod mh447 (nb1 np_b1_o6))
  have f452 := (bxc.mod mh447 (by simp; omega) (fun b hb => by simp at hb; omega))
  exact ⟨⟨(List.replicate 10 (⟨0, 0, 0⟩ : TowerD)), l6⟩, r398, o6, rfl, f450, (fr_r398.mono (by omega)), f451, (fr_o6.mono (by omega)), np_r398_o6, (by (try simp only); exact ⟨by first | omega | (simp; done) | (simp; omega), by first | omega | (simp; done) | (simp; omega)⟩), (f452.le (by omega)), E449⟩
 refine v_skip <| p_blkN <| p_seqN <| v_seq <| v_ops ?_
 have f453 := ((bxx16.mod mh20 (by simp; omega)).mod mh27 (by simp; omega))
 refine s_load (.agg #[r7, r8]) (fun _ q => f453.loadA rfl q) ?_
 have f454 := (((((bxb1.mod mh9 (by simp; omega)).ext eh12).mod mh15 (by simp; omega)).mod mh20 (by simp; omega)).mod mh27 (by simp; omega))
 refine s_stBx (.agg #[r7, r8]) [r7, r8] [r7, r8] f454 rfl rfl rfl rfl (by simp) (all_cons f23.one1 (all_cons s_r8.one1 all_nil)) rfl (fun h455 mh455 sh455 bxx456 => ?_)
 have E457 := E28.new mh455 (fun b hb => .inr (by simp at hb; omega))
 refine s_nil <| p_seqN <| v_ret <| p_ret [.agg #[r7, r8]] (.agg #[r7, r8]) (fun _ q => (bxx456.loadA rfl q)) rfl ?_
 have f458 := ((f23.mod mh27 (fun b hb hc => by simp at hc; have := fr_r7 b hb; omega)).mod mh455 (fun b hb hc => by simp at hc; have := fr_r7 b hb; omega))
 have f459 := (((((s_r8.ext eh12).mod mh15 (fun b hb hc => by simp at hc; have := lt_r8 b hb; omega)).mod mh20 (fun b hb hc => by simp at hc; have := fr_r8 b hb; omega)).mod mh27 (fun b hb hc => by simp at hc; have := fr_r8 b hb; omega)).mod mh455 (fun b hb hc => by simp at hc; have := fr_r8 b hb; omega))
 have f460 := (Ch27.mod mh455 (by simp; omega) (fun b hb => by simp at hb; omega))
 exact ⟨⟨g6.towers, g6.links⟩, r7, r8, rfl, f458, (fr_r7.mono (by omega)), f459, (fr_r8.mono (by omega)), ap_r7_r8, (by (try simp only); exact ⟨by first | omega | (simp; done) | (simp; omega), by first | omega | (simp; done) | (simp; omega)⟩), (f460.le (by omega)), E457⟩

end Go.Proofs.Ytgbaonaopkdlpaa


/- What is drawn for fogs and ways. Condition: none. Printed in part by a program. -/
namespace Go.Proofs.Ytgbaonaopkdlpaa
open Go.Vc
set_option linter.all false

theorem slx_pre {α : Type} [Enc α] {own : Bool} {h : Heap} {v : Value} {xs : List α} (hs : SlX own h v xs) {m : Nat} (hm : m ≤ xs.length) : ∃ v', (∀ (K : Value → Prop) (sz : Nat) (k : IntKind) (i : Int), i = (m : Int) → K v' → SlcVC sz v none (some (.int k i)) none K) ∧ SlX own h v' (xs.take m) ∧ ∀ b ∈ blks v', b ∈ blks v := by
  obtain ⟨a, c, rfl⟩ := hs.shape
  refine ⟨.slice a m c, fun K sz k i hi q => by subst hi; exact (hs.front hm (sz := sz)).2 q, (hs.front hm (sz := 0)).1, fun b hb => ?_⟩
  cases a with
  | none => simp [blks] at hb
  | some a =>
    cases c with
    | zero => simp [blks] at hb
    | succ c => simpa [blks] using hb

theorem fr_sub {lo : Nat} {v v' : Value} (h : Fr lo v) (hb : ∀ b ∈ blks v', b ∈ blks v) : Fr lo v' := fun b hv => h b (hb b hv)
set_option maxRecDepth 10000 in
set_option maxHeartbeats 4000000 in
theorem spec_l1Cur_fog_ok (p_c : Nat) (t_c : TypeId) (m_c : Int) (lo_c : Nat) (n : NetP) (v_n_towers : Value) (v_n_links : Value) (h : Heap) (C_c : Cur h p_c t_c m_c lo_c) (s_n_towers : Sl h v_n_towers n.towers) (ap_n_towers : ∀ b ∈ blks v_n_towers, b ∉ [p_c]) (s_n_links : Sl h v_n_links n.links) (ap_n_links : ∀ b ∈ blks v_n_links, b ∉ [p_c]) (hm : m_c + 2000 ≤ 4000000000000000000) (hn : n.links.length ≤ 60) : Cn f_spec_l1Cur_fog [.pointer (some ⟨p_c, 0, none⟩), .agg #[v_n_towers, v_n_links]] h fun v h' => ∃ g0 : List FogD, ∃ r0 : Value, v = r0 ∧ SlO h' r0 g0 ∧ Fr h.size r0 ∧ (g0.length ≤ 61) ∧ Cur h' p_c t_c (m_c + 2000) lo_c ∧ Mod [p_c] h h' := by
 have lc_c := C_c.lt
 have ll_c := C_c.low
 have lm_c := C_c.top
 have l63_n_towers := s_n_towers.len63
 have l63_n_links := s_n_links.len63
 refine calls_of r_spec_l1Cur_fog ?_
 refine v_seq <| v_ops ?_
 refine s_box [v_n_towers, v_n_links] rfl (fun h2 b1 hbb1 hzb1 eh2 bxb1 => ?_)
 have E3 := (Mod.refl [p_c] h).trans (Mod.of_ext eh2 _)
 have z4 := eh2.size
 have lbb1 := bxb1.lt
 refine s_pq (.slice none 0 0) <| s_nil <| p_seqN <| v_seq <| v_ops <| s_pq (.slice none 0 0) <| s_nil <| p_seqN <| v_seq <| v_ops <| s_pq (.pointer (some ⟨p_c, 0, none⟩)) ?_
 have f5 := (C_c.ext eh2)
 refine s_call [.pointer (some ⟨p_c, 0, none⟩), .int .i64 4] rfl (spec_l1Cur_pick_ok p_c t_c m_c lo_c 4 _ f5 (by omega)) ?_
 rintro _ h7 ⟨g6, rfl, qh7, Ch7, mh7⟩
 have zh7 := mh7.size
 have E8 := E3.new mh7 (fun b hb => .inl (by simp at hb; simp [hb]))
 refine s_pq (.int .i64 g6) <| s_nil <| p_seqN <| v_seq <| v_seq <| v_ops <| s_pq (.pointer (some ⟨b1, 1, none⟩)) ?_
 have f9 := (bxb1.mod mh7 (by simp; omega))
 refine s_load v_n_links (fun _ q => f9.load rfl q) <| s_pure (.int .i64 (n.links.length : Int)) (fun _ q => s_n_links.lenVC q) <| s_pq (.int .i64 0) <| s_nil <| p_seqN <| v_block <| v_loop3 (α := Nat) (β := List FogD) (γ := Value) (fun k l0 o0 => [(0, .pointer (some ⟨p_c, 0, none⟩)), (3, .pointer (some ⟨b1, 0, none⟩)), (5, o0), (6, .int .i64 g6), (17, .int .i64 (n.links.length : Int)), (18, .int .i64 (k : Int))]) (fun k l0 o0 hh => Mod [p_c] h hh ∧ Cur hh p_c t_c (m_c + 10 + 20 * (k : Int)) lo_c ∧ Bx hh b1 [v_n_towers, v_n_links] 26 ∧ SlO hh o0 l0 ∧ Fr h.size o0 ∧ p_c ∉ blks o0 ∧ b1 ∉ blks o0 ∧ k ≤ n.links.length ∧ (l0.length : Int) ≤ 3 * (k : Int)) (fun k l0 o0 => n.links.length - k) 0 [] (.slice none 0 0) ⟨rfl, rfl, rfl, rfl, rfl, rfl⟩ ⟨E8, (Ch7.le (by first | omega | (simp; done) | (simp; omega))), f9, (sl_eq (SlX.nil (α := FogD) true h7) (by simp)), (Fr.nil _), (by simp [blks, fpts]), (by simp [blks, fpts]), (by exact ⟨by omega, by first | omega | (simp; done)⟩)⟩ ?_
 rintro k l0 o0 R11 h10 ⟨Eh, bxc, bxb1, s_o0, fr_o0, np_c_o0, np_b1_o0, ⟨hk, hl0⟩⟩
 have zEh := Eh.size
 have lbc := bxc.lt
 have f14 := s_n_links.mod Eh ap_n_links
 have lbb1 := bxb1.lt
 refine v_seq <| v_ops <| s_pq (.bool (decide ((k : Int) < (n.links.length : Int)))) <| s_nil <| p_seqN <| v_seq ?_
 refine v_cond rfl (fun c15 => ?_) (fun c15 => ?_)
 ·
  refine v_skip <| p_seqN <| v_seq <| v_block <| v_seq <| v_ops <| s_pq (.int .i64 (k : Int)) <| s_pq (.int .i64 (k : Int)) <| s_nil <| p_seqN <| v_seq <| v_ops <| s_pq (.pointer (some ⟨p_c, 0, none⟩)) <| s_call [.pointer (some ⟨p_c, 0, none⟩), .int .i64 40] rfl (spec_l1Cur_pick_ok p_c t_c (m_c + 10 + 20 * (k : Int)) lo_c 40 _ bxc (by omega)) ?_
  rintro _ h17 ⟨g16, rfl, qh17, Ch17, mh17⟩
  have zh17 := mh17.size
  have E18 := Eh.new mh17 (fun b hb => .inl (by simp at hb; simp [hb]))
  refine s_pq (.int .i64 g16) <| s_nil <| p_seqN <| v_seq <| v_ops <| s_pq (.pointer (some ⟨p_c, 0, none⟩)) <| s_pq (.int .i64 g6) <| s_pure (.int .i64 (g6 + 1)) (fun _ q => ArithVC.mk (by omega) q) <| s_call [.pointer (some ⟨p_c, 0, none⟩), .int .i64 (g6 + 1)] rfl (spec_l1Cur_pick_ok p_c t_c ((m_c + 10 + 20 * (k : Int)) + 2) lo_c (g6 + 1) _ Ch17 (by omega)) ?_
  rintro _ h20 ⟨g19, rfl, qh20, Ch20, mh20⟩
  have zh20 := mh20.size
  have E21 := E18.new mh20 (fun b hb => .inl (by simp at hb; simp [hb]))
  refine s_pq (.int .i64 g19) <| s_nil <| p_seqN <| v_block ?_
  have f23 := ((bxb1.mod mh17 (by simp; omega)).mod mh20 (by simp; omega))
  have f24 := ((s_o0.mod mh17 (nb1 np_c_o0)).mod mh20 (nb1 np_c_o0))
  refine v_loop4 (α := Int) (β := Int) (γ := List FogD) (δ := Value) (fun j t8 l2 o2 => [(0, .pointer (some ⟨p_c, 0, none⟩)), (3, .pointer (some ⟨b1, 0, none⟩)), (5, o2), (6, .int .i64 g6), (7, .int .i64 (k : Int)), (8, .int .i64 t8), (9, .int .i64 j), (17, .int .i64 (n.links.length : Int)), (18, .int .i64 (k : Int))]) (fun j t8 l2 o2 hh => Mod [p_c] h hh ∧ Cur hh p_c t_c (m_c + 10 + 20 * (k : Int) + 4 + 4 * (3 - j)) lo_c ∧ Bx hh b1 [v_n_towers, v_n_links] 26 ∧ SlO hh o2 l2 ∧ Fr h.size o2 ∧ p_c ∉ blks o2 ∧ b1 ∉ blks o2 ∧ 0 ≤ j ∧ j ≤ 3 ∧ 0 ≤ t8 ∧ t8 ≤ 40 + 70 * (3 - j) ∧ (l2.length : Int) + j ≤ 3 * ((k : Int) + 1)) (fun j t8 l2 o2 => j.toNat) g19 g16 l0 o0 ⟨rfl, rfl, rfl, rfl, rfl, rfl, rfl, rfl, rfl⟩ ⟨E21, (Ch20.le (by first | omega | (simp; done) | (simp; omega))), f23, (sl_eq f24 (by simp)), (fr_o0.mono (by omega)), np_c_o0, np_b1_o0, (by exact ⟨by omega, by omega, by omega, by omega, by first | omega | (simp; omega)⟩)⟩ ?_
  rintro j t8 l2 o2 R25 h22 ⟨Eh, bxc, bxb1, s_o2, fr_o2, np_c_o2, np_b1_o2, ⟨hj0, hj1, ht0, ht1, hl2⟩⟩
  have zEh := Eh.size
  have lbc := bxc.lt
  have lbb1 := bxb1.lt
  have lt_o2 := s_o2.lt
  refine v_seq <| v_seq <| v_ops <| s_pq (.int .i64 j) <| s_pq (.bool (decide (j > 0))) <| s_nil <| p_seqN ?_
  refine v_cond rfl (fun c29 => ?_) (fun c29 => ?_)
  ·
   refine v_skip <| p_seqN <| v_seq <| v_block <| v_seq <| v_ops <| s_pq (.int .i64 (k : Int)) <| s_pq (.int .i64 t8) <| s_pq (.int .i64 t8) <| s_pure (.int .i64 (t8 + 1)) (fun _ q => ArithVC.mk (by omega) q) <| s_pq (.pointer (some ⟨p_c, 0, none⟩)) <| s_call [.pointer (some ⟨p_c, 0, none⟩), .int .i64 30] rfl (spec_l1Cur_pick_ok p_c t_c (m_c + 10 + 20 * (k : Int) + 4 + 4 * (3 - j)) lo_c 30 _ bxc (by omega)) ?_
   rintro _ h31 ⟨g30, rfl, qh31, Ch31, mh31⟩
   have zh31 := mh31.size
   have E32 := Eh.new mh31 (fun b hb => .inl (by simp at hb; simp [hb]))
   refine s_pure (.int .i64 ((t8 + 1) + g30)) (fun _ q => ArithVC.mk (by omega) q) <| s_pure (.agg #[.int .i64 (k : Int), .int .i64 t8, .int .i64 ((t8 + 1) + g30)]) (fun _ q => w_build (seg_i rfl (seg_i rfl (seg_i rfl (seg_nil q))))) ?_
   refine s_new (fun h34 b33 hbb33 hzb33 eh34 bxb33 => ?_)
   have E35 := E32.trans (Mod.of_ext eh34 _)
   have z36 := eh34.size
   have lbb33 := bxb33.lt
   refine s_stBx (.agg #[.int .i64 (k : Int), .int .i64 t8, .int .i64 ((t8 + 1) + g30)]) [.int .i64 (k : Int), .int .i64 t8, .int .i64 ((t8 + 1) + g30)] [.int .i64 (k : Int), .int .i64 t8, .int .i64 ((t8 + 1) + g30)] bxb33 rfl rfl rfl rfl (by simp) (all_cons rfl (all_cons rfl (all_cons rfl all_nil))) rfl (fun h37 mh37 sh37 bxx38 => ?_)
   have E39 := E35.new mh37 (fun b hb => .inr (by simp at hb; omega))
   refine s_nil <| p_seqN <| v_seq <| v_ops <| s_pq o2 <| s_load (.agg #[.int .i64 (k : Int), .int .i64 t8, .int .i64 ((t8 + 1) + g30)]) (fun _ q => bxx38.loadA rfl q) ?_
   refine s_row (α := FogD) [(⟨(k : Int), t8, ((t8 + 1) + g30)⟩ : FogD)] (fun _ q => seg_agg rfl rfl (seg_nil q)) rfl (by simp [maxLen]) (fun r40 h41 eh41 zh41 s_r40 fr_r40 => ?_)
   have E42 := E39.trans (Mod.of_ext eh41 _)
   have z43 := eh41.size
   have f44 := ((((s_o2.mod mh31 (nb1 np_c_o2)).ext eh34).mod mh37 (fun b hb hc => by simp at hc; have := lt_o2 b hb; omega)).ext eh41)
   refine s_app f44 s_r40 rfl rfl rfl (by first | (simp [maxLen]; done) | (simp [maxLen]; omega)) (by first | (simp; done) | (simp; omega)) (fun r45 h46 mh46 zh46 s_r45 ab_r45 => ?_)
   have E47 := E42.new mh46 (fun b hb => .inr (by have := fr_o2 b hb; omega))
   have fr_r45 := fr_o2.app ab_r45 (by omega)
   have np48 : p_c ∉ blks r45 := fun hc => (ab_r45 _ hc).elim np_c_o2 (fun hc => by omega)
   have np49 : b1 ∉ blks r45 := fun hc => (ab_r45 _ hc).elim np_b1_o2 (fun hc => by omega)
   refine s_pq r45 <| s_nil <| p_seqN ?_
   have f52 := ((bxx38.ext eh41).mod mh46 (fun hc => by have := lt_o2 _ hc; omega))
   refine v_draw (DrawVC.hold ([b33]) ?_)
   refine d_pq (.pointer (some ⟨b33, 2, none⟩)) <| d_pq (.pointer (some ⟨p_c, 0, none⟩)) <| d_loadT (.int .i64 ((t8 + 1) + g30)) (fun _ q => f52.take (by simp) rfl q) <| d_pureT (.int .i64 (((t8 + 1) + g30) + 1)) (fun _ q => ArithVC.mk (by omega) q) <| d_eff ?_
   have f53 := ((((Ch31.ext eh34).mod mh37 (by simp; omega) (fun b hb => by simp at hb; omega)).ext eh41).mod mh46 np_c_o2 (fun b hb => by have := fr_o2 b hb; omega))
   refine s_call [.pointer (some ⟨p_c, 0, none⟩), .int .i64 30] rfl (spec_l1Cur_pick_ok p_c t_c ((m_c + 10 + 20 * (k : Int) + 4 + 4 * (3 - j)) + 2) lo_c 30 _ f53 (by omega)) ?_
   rintro _ h55 ⟨g54, rfl, qh55, Ch55, mh55⟩
   have zh55 := mh55.size
   have E56 := E47.new mh55 (fun b hb => .inl (by simp at hb; simp [hb]))
   have G57 := gmod1 (b := b33) (h := h46) (h0 := h46) mh55 (by omega) (by simp; omega) (fun _ _ => rfl)
   refine s_nil ⟨fun _ x hx => G57 x hx, ?_⟩
   refine d_pureT (.int .i64 ((((t8 + 1) + g30) + 1) + g54)) (fun _ q => ArithVC.mk (by omega) q) <| d_pq (.int .i64 ((((t8 + 1) + g30) + 1) + g54)) <| d_done <| p_blkN <| p_seqN <| v_ops <| s_pq (.int .i64 j) <| s_pure (.int .i64 (j - 1)) (fun _ q => ArithVC.mk (by omega) q) <| s_pq (.int .i64 (j - 1)) <| s_nil ?_
   have f58 := ((((((bxb1.mod mh31 (by simp; omega)).ext eh34).mod mh37 (by simp; omega)).ext eh41).mod mh46 np_b1_o2).mod mh55 (by simp; omega))
   have f59 := (s_r45.mod mh55 (nb1 np48))
   exact p_lpN ⟨(j - 1), ((((t8 + 1) + g30) + 1) + g54), (l2 ++ [(⟨(k : Int), t8, ((t8 + 1) + g30)⟩ : FogD)]), r45, ⟨rfl, rfl, rfl, rfl, rfl, rfl, rfl, rfl, rfl⟩, ⟨E56, (Ch55.le (by first | omega | (simp; done) | (simp; omega))), f58, (sl_eq f59 (by simp)), (fr_r45.mono (by omega)), np48, np49, (by exact ⟨by omega, by omega, by omega, by omega, by first | omega | (simp; omega)⟩)⟩, by first | omega | (simp; done) | (simp; omega)⟩
  refine v_exit <| p_seqX <| p_lpX <| p_blkX <| p_blkN <| p_seqN <| v_ops <| s_pure (.int .i64 ((k : Int) + 1)) (fun _ q => ArithVC.mk (by omega) q) <| s_pq (.int .i64 ((k : Int) + 1)) <| s_nil ?_
  exact p_lpN ⟨k + 1, l2, o2, ⟨rfl, rfl, rfl, rfl, rfl, rfl⟩, ⟨Eh, (bxc.le (by first | omega | (simp; done) | (simp; omega))), bxb1, (sl_eq s_o2 (by simp)), (fr_o2.mono (by omega)), np_c_o2, np_b1_o2, (by exact ⟨by omega, by omega⟩)⟩, by first | omega | (simp; done) | (simp; omega)⟩
 refine v_exit <| p_seqX <| p_lpX <| p_blkX <| p_seqN <| v_seq <| v_seq <| v_ops <| s_pq o0 <| s_pure (.int .i64 (l0.length : Int)) (fun _ q => s_o0.lenVC q) <| s_pq (.bool (decide ((l0.length : Int) > 60))) <| s_nil <| p_seqN ?_
 refine v_cond rfl (fun c60 => ?_) (fun c60 => ?_)
 ·
  refine v_ops <| s_pq o0 ?_
  obtain ⟨r61, hqr61, s_r61, bk_r61⟩ := slx_pre s_o0 (m := 60) (by first | omega | (simp; omega))
  have fr_r61 := fr_sub fr_o0 bk_r61
  refine s_pure r61 (fun K q => hqr61 K _ _ _ rfl q) <| s_pq r61 <| s_nil <| p_seqN <| v_seq <| v_seq <| v_ops <| s_pq (.pointer (some ⟨b1, 1, none⟩)) <| s_load v_n_links (fun _ q => bxb1.load rfl q) <| s_pure (.int .i64 (n.links.length : Int)) (fun _ q => f14.lenVC q) <| s_pq (.bool (decide ((n.links.length : Int) > 0))) <| s_pq (.bool (decide ((n.links.length : Int) > 0))) ?_
  refine s_splitT rfl (fun c62 => ?_) (fun c62 => ?_)
  ·
   refine s_run rfl <| s_pq (.pointer (some ⟨p_c, 0, none⟩)) <| s_run rfl <| s_call [.pointer (some ⟨p_c, 0, none⟩), .int .i64 24] rfl (spec_l1Cur_one_ok p_c t_c (m_c + 10 + 20 * (k : Int)) lo_c 24 _ bxc (by omega)) ?_
   rintro _ h64 ⟨g63, rfl, Ch64, mh64⟩
   have zh64 := mh64.size
   have E65 := Eh.new mh64 (fun b hb => .inl (by simp at hb; simp [hb]))
   refine s_pq (.bool g63) <| s_nil <| p_seqN ?_
   refine v_cond rfl (fun c66 => ?_) (fun c66 => ?_)
   ·
    refine v_seq <| v_ops <| s_pq (.slice none 0 0) <| s_nil <| p_seqN <| v_seq <| v_ops <| s_pq (.pointer (some ⟨p_c, 0, none⟩)) <| s_call [.pointer (some ⟨p_c, 0, none⟩), .int .i64 2] rfl (spec_l1Cur_pick_ok p_c t_c ((m_c + 10 + 20 * (k : Int)) + 2) lo_c 2 _ Ch64 (by omega)) ?_
    rintro _ h68 ⟨g67, rfl, qh68, Ch68, mh68⟩
    have zh68 := mh68.size
    have E69 := E65.new mh68 (fun b hb => .inl (by simp at hb; simp [hb]))
    refine s_pure (.int .i64 (60 + g67)) (fun _ q => ArithVC.mk (by omega) q) <| s_pq (.int .i64 (60 + g67)) <| s_nil <| p_seqN <| v_block ?_
    have f71 := ((bxb1.mod mh64 (by simp; omega)).mod mh68 (by simp; omega))
    refine v_loop2 (α := List FogD) (β := Value) (fun l4 o4 => [(0, .pointer (some ⟨p_c, 0, none⟩)), (3, .pointer (some ⟨b1, 0, none⟩)), (5, o4), (11, .int .i64 (60 + g67))]) (fun l4 o4 hh => Mod [p_c] h hh ∧ Cur hh p_c t_c (m_c + 20 + 20 * (n.links.length : Int) + 10) lo_c ∧ Bx hh b1 [v_n_towers, v_n_links] 26 ∧ SlO hh o4 l4 ∧ Fr h.size o4 ∧ p_c ∉ blks o4 ∧ b1 ∉ blks o4 ∧ l4.length ≤ 61) (fun l4 o4 => (((60 + g67) : Int) - (l4.length : Int)).toNat) [] (.slice none 0 0) ⟨rfl, rfl, rfl, rfl⟩ ⟨E69, (Ch68.le (by first | omega | (simp; done) | (simp; omega))), f71, (sl_eq (SlX.nil (α := FogD) true h68) (by simp)), (Fr.nil _), (by simp [blks, fpts]), (by simp [blks, fpts]), (by first | omega | (simp; done) | (simp; omega))⟩ ?_
    rintro l4 o4 R72 h70 ⟨Eh, bxc, bxb1, s_o4, fr_o4, np_c_o4, np_b1_o4, hl4⟩
    have zEh := Eh.size
    have lbc := bxc.lt
    have f75 := s_n_links.mod Eh ap_n_links
    have lbb1 := bxb1.lt
    refine v_seq <| v_seq <| v_ops <| s_pq o4 <| s_pure (.int .i64 (l4.length : Int)) (fun _ q => s_o4.lenVC q) <| s_pq (.int .i64 (60 + g67)) <| s_pq (.bool (decide ((l4.length : Int) < (60 + g67)))) <| s_nil <| p_seqN ?_
    refine v_cond rfl (fun c76 => ?_) (fun c76 => ?_)
    ·
     refine v_skip <| p_seqN <| v_block <| v_ops <| s_pq o4 <| s_pq o4 <| s_pure (.int .i64 (l4.length : Int)) (fun _ q => s_o4.lenVC q) <| s_pure (.int .i64 (4 * (l4.length : Int))) (fun _ q => ArithVC.mk (by omega) q) <| s_pq o4 <| s_pure (.int .i64 (l4.length : Int)) (fun _ q => s_o4.lenVC q) <| s_pure (.int .i64 (4 * (l4.length : Int))) (fun _ q => ArithVC.mk (by omega) q) <| s_pure (.int .i64 ((4 * (l4.length : Int)) + 2)) (fun _ q => ArithVC.mk (by omega) q) <| s_pure (.agg #[.int .i64 0, .int .i64 (4 * (l4.length : Int)), .int .i64 ((4 * (l4.length : Int)) + 2)]) (fun _ q => w_build (seg_i rfl (seg_i rfl (seg_i rfl (seg_nil q))))) ?_
     refine s_row (α := FogD) [(⟨0, (4 * (l4.length : Int)), ((4 * (l4.length : Int)) + 2)⟩ : FogD)] (fun _ q => seg_agg rfl rfl (seg_nil q)) rfl (by simp [maxLen]) (fun r77 h78 eh78 zh78 s_r77 fr_r77 => ?_)
     have E79 := Eh.trans (Mod.of_ext eh78 _)
     have z80 := eh78.size
     have f81 := (s_o4.ext eh78)
     refine s_app f81 s_r77 rfl rfl rfl (by first | (simp [maxLen]; done) | (simp [maxLen]; omega)) (by first | (simp; done) | (simp; omega)) (fun r82 h83 mh83 zh83 s_r82 ab_r82 => ?_)
     have E84 := E79.new mh83 (fun b hb => .inr (by have := fr_o4 b hb; omega))
     have fr_r82 := fr_o4.app ab_r82 (by omega)
     have np85 : p_c ∉ blks r82 := fun hc => (ab_r82 _ hc).elim np_c_o4 (fun hc => by omega)
     have np86 : b1 ∉ blks r82 := fun hc => (ab_r82 _ hc).elim np_b1_o4 (fun hc => by omega)
     refine s_pq r82 <| s_nil <| p_blkN ?_
     have f88 := ((bxc.ext eh78).mod mh83 np_c_o4 (fun b hb => by have := fr_o4 b hb; omega))
     have f89 := ((bxb1.ext eh78).mod mh83 np_b1_o4)
     exact p_lpN ⟨(l4 ++ [(⟨0, (4 * (l4.length : Int)), ((4 * (l4.length : Int)) + 2)⟩ : FogD)]), r82, ⟨rfl, rfl, rfl, rfl⟩, ⟨E84, (f88.le (by omega)), f89, (sl_eq s_r82 (by simp)), (fr_r82.mono (by omega)), np85, np86, (by first | omega | (simp; done) | (simp; omega))⟩, by first | omega | (simp; done) | (simp; omega)⟩
    refine v_exit <| p_seqX <| p_lpX <| p_blkX <| p_seqN <| v_seq <| v_seq <| v_ops <| s_pq o4 <| s_pure (.int .i64 (l4.length : Int)) (fun _ q => s_o4.lenVC q) <| s_pq (.bool (decide ((l4.length : Int) > 0))) <| s_nil <| p_seqN ?_
    refine v_cond rfl (fun c90 => ?_) (fun c90 => ?_)
    ·
     refine v_seq <| v_ops <| s_pq o4 <| s_pq (.pointer (some ⟨p_c, 0, none⟩)) <| s_pq o4 <| s_pure (.int .i64 (l4.length : Int)) (fun _ q => s_o4.lenVC q) <| s_call [.pointer (some ⟨p_c, 0, none⟩), .int .i64 (l4.length : Int)] rfl (spec_l1Cur_pick_ok p_c t_c (m_c + 20 + 20 * (n.links.length : Int) + 10) lo_c (l4.length : Int) _ bxc (by omega)) ?_
     rintro _ h92 ⟨g91, rfl, qh92, Ch92, mh92⟩
     have zh92 := mh92.size
     have E93 := Eh.new mh92 (fun b hb => .inl (by simp at hb; simp [hb]))
     have f94 := (s_o4.mod mh92 (nb1 np_c_o4))
     have hk95 : (g91).toNat < l4.length := (by first | omega | (simp; omega))
     obtain ⟨x96, hx96⟩ : ∃ x, l4[(g91).toNat]? = some x := ⟨_, List.getElem?_eq_getElem hk95⟩
     refine s_pure (.pointer (some ⟨sblk o4, soff o4 + ((g91).toNat) * 3, none⟩)) (fun _ q => f94.idx (k := (g91).toNat) (by omega) hk95 q) <| s_pq (.pointer (some ⟨sblk o4, soff o4 + ((g91).toNat) * 3, none⟩)) <| s_nil <| p_seqN <| v_seq <| v_ops <| s_pq (.pointer (some ⟨p_c, 0, none⟩)) <| s_call [.pointer (some ⟨p_c, 0, none⟩), .int .i64 30] rfl (spec_l1Cur_pick_ok p_c t_c ((m_c + 20 + 20 * (n.links.length : Int) + 10) + 2) lo_c 30 _ Ch92 (by omega)) ?_
     rintro _ h98 ⟨g97, rfl, qh98, Ch98, mh98⟩
     have zh98 := mh98.size
     have E99 := E93.new mh98 (fun b hb => .inl (by simp at hb; simp [hb]))
     refine s_nil <| p_seqN <| v_block <| v_seq <| v_ops <| s_pq (.bool (g97 == 0)) <| s_pq (.bool (g97 == 0)) <| s_nil <| p_seqN ?_
     refine v_cond rfl (fun c100 => ?_) (fun c100 => ?_)
     ·
      refine v_ops <| s_pq (.pointer (some ⟨sblk o4, soff o4 + ((g91).toNat) * 3, none⟩)) <| s_pq (.pointer (some ⟨p_c, 0, none⟩)) <| s_pq (.pointer (some ⟨b1, 1, none⟩)) ?_
      have f101 := ((bxb1.mod mh92 (by simp; omega)).mod mh98 (by simp; omega))
      refine s_load v_n_links (fun _ q => f101.load rfl q) <| s_pure (.int .i64 (n.links.length : Int)) (fun _ q => f75.lenVC q) ?_
      refine s_row (α := Int) [(-1), (n.links.length : Int)] (fun _ q => seg_i rfl (seg_i rfl (seg_nil q))) rfl (by simp [maxLen]) (fun r102 h103 eh103 zh103 s_r102 fr_r102 => ?_)
      have E104 := E99.trans (Mod.of_ext eh103 _)
      have z105 := eh103.size
      have f106 := (Ch98.ext eh103)
      refine s_call [.pointer (some ⟨p_c, 0, none⟩), r102] rfl (spec_l1Cur_among_ok p_c t_c (((m_c + 20 + 20 * (n.links.length : Int) + 10) + 2) + 2) lo_c r102 [(-1), (n.links.length : Int)] _ f106 s_r102.toSl (fun b hb hc => by simp at hc; have := fr_r102 b hb; omega) (by omega) (by first | omega | assumption | (simp; done) | (simp; omega))) ?_
      rintro _ h108 ⟨g107, rfl, qh108, Ch108, mh108⟩
      have zh108 := mh108.size
      have E109 := E104.new mh108 (fun b hb => .inl (by simp at hb; simp [hb]))
      simp only [List.mem_cons, List.not_mem_nil, or_false] at qh108
      refine s_pq (.pointer (some ⟨sblk o4, soff o4 + ((g91).toNat) * 3, none⟩)) <| s_pq (.pointer (some ⟨sblk o4, soff o4 + ((g91).toNat) * 3, none⟩)) ?_
      have f110 := (((f94.mod mh98 (nb1 np_c_o4)).ext eh103).mod mh108 (nb1 np_c_o4))
      refine s_stSl (k := (g91).toNat) (j := 0) (⟨g107, x96.fr, x96.til⟩ : FogD) (.int .i64 g107) [.int .i64 g107] f110 rfl rfl rfl rfl rfl hx96 (Nat.le_of_ble_eq_true rfl) rfl (all_cons rfl all_nil) (fun h111 mh111 sh111 s112 => ?_)
      have E113 := E109.new mh111 (fun b hb => .inr (by have := fr_o4 b hb; omega))
      refine s_nil <| p_blkN <| p_seqN <| v_seq <| v_ops <| s_pq o4 <| s_pq o4 <| s_nil <| p_seqN <| v_ret <| p_ret [o4] o4 (fun _ q => q) rfl ?_
      have f114 := (Ch108.mod mh111 np_c_o4 (fun b hb => by have := fr_o4 b hb; omega))
      exact ⟨(l4.set ((g91).toNat) (⟨g107, x96.fr, x96.til⟩ : FogD)), o4, rfl, s112, (fr_o4.mono (by omega)), (by first | omega | (simp; done) | (simp; omega)), (f114.le (by omega)), E113⟩
     refine v_seq <| v_ops <| s_pq (.bool (g97 == 1)) <| s_pq (.bool (g97 == 1)) <| s_nil <| p_seqN ?_
     refine v_cond rfl (fun c115 => ?_) (fun c115 => ?_)
     ·
      refine v_ops <| s_pq (.pointer (some ⟨sblk o4, soff o4 + ((g91).toNat) * 3, none⟩)) <| s_pq (.pointer (some ⟨p_c, 0, none⟩)) <| s_pq (.pointer (some ⟨sblk o4, soff o4 + ((g91).toNat) * 3, none⟩)) <| s_pq (.pointer (some ⟨sblk o4, soff o4 + ((g91).toNat) * 3, none⟩)) <| s_pq (.pointer (some ⟨sblk o4, soff o4 + ((g91).toNat) * 3 + 2, none⟩)) ?_
      have f116 := (f94.mod mh98 (nb1 np_c_o4))
      refine s_load (.int .i64 x96.til) (fun _ q => f116.load hx96 (j := 2) rfl rfl q) ?_
      refine s_row (α := Int) [(-1), x96.til] (fun _ q => seg_i rfl (seg_i rfl (seg_nil q))) rfl (by simp [maxLen]) (fun r117 h118 eh118 zh118 s_r117 fr_r117 => ?_)
      have E119 := E99.trans (Mod.of_ext eh118 _)
      have z120 := eh118.size
      have f121 := (Ch98.ext eh118)
      refine s_call [.pointer (some ⟨p_c, 0, none⟩), r117] rfl (spec_l1Cur_among_ok p_c t_c (((m_c + 20 + 20 * (n.links.length : Int) + 10) + 2) + 2) lo_c r117 [(-1), x96.til] _ f121 s_r117.toSl (fun b hb hc => by simp at hc; have := fr_r117 b hb; omega) (by omega) (by first | omega | assumption | (simp; done) | (simp; omega))) ?_
      rintro _ h123 ⟨g122, rfl, qh123, Ch123, mh123⟩
      have zh123 := mh123.size
      have E124 := E119.new mh123 (fun b hb => .inl (by simp at hb; simp [hb]))
      simp only [List.mem_cons, List.not_mem_nil, or_false] at qh123
      refine s_pq (.pointer (some ⟨sblk o4, soff o4 + ((g91).toNat) * 3, none⟩)) <| s_pq (.pointer (some ⟨sblk o4, soff o4 + ((g91).toNat) * 3 + 1, none⟩)) ?_
      have f125 := ((f116.ext eh118).mod mh123 (nb1 np_c_o4))
      refine s_stSl (k := (g91).toNat) (j := 1) (⟨x96.link, g122, x96.til⟩ : FogD) (.int .i64 g122) [.int .i64 g122] f125 rfl rfl rfl rfl rfl hx96 (Nat.le_of_ble_eq_true rfl) rfl (all_cons rfl all_nil) (fun h126 mh126 sh126 s127 => ?_)
      have E128 := E124.new mh126 (fun b hb => .inr (by have := fr_o4 b hb; omega))
      refine s_nil <| p_blkN <| p_seqN <| v_seq <| v_ops <| s_pq o4 <| s_pq o4 <| s_nil <| p_seqN <| v_ret <| p_ret [o4] o4 (fun _ q => q) rfl ?_
      have f129 := (Ch123.mod mh126 np_c_o4 (fun b hb => by have := fr_o4 b hb; omega))
      exact ⟨(l4.set ((g91).toNat) (⟨x96.link, g122, x96.til⟩ : FogD)), o4, rfl, s127, (fr_o4.mono (by omega)), (by first | omega | (simp; done) | (simp; omega)), (f129.le (by omega)), E128⟩
     refine v_seq <| v_ops <| s_pq (.bool (g97 == 2)) <| s_pq (.bool (g97 == 2)) <| s_nil <| p_seqN ?_
     refine v_cond rfl (fun c130 => ?_) (fun c130 => ?_)
     ·
      refine v_ops <| s_pq (.pointer (some ⟨sblk o4, soff o4 + ((g91).toNat) * 3, none⟩)) <| s_pq (.pointer (some ⟨p_c, 0, none⟩)) <| s_pq (.pointer (some ⟨sblk o4, soff o4 + ((g91).toNat) * 3, none⟩)) <| s_pq (.pointer (some ⟨sblk o4, soff o4 + ((g91).toNat) * 3, none⟩)) <| s_pq (.pointer (some ⟨sblk o4, soff o4 + ((g91).toNat) * 3 + 1, none⟩)) ?_
      have f131 := (f94.mod mh98 (nb1 np_c_o4))
      refine s_load (.int .i64 x96.fr) (fun _ q => f131.load hx96 (j := 1) rfl rfl q) ?_
      refine s_row (α := Int) [x96.fr, 10000, 10001] (fun _ q => seg_i rfl (seg_i rfl (seg_i rfl (seg_nil q)))) rfl (by simp [maxLen]) (fun r132 h133 eh133 zh133 s_r132 fr_r132 => ?_)
      have E134 := E99.trans (Mod.of_ext eh133 _)
      have z135 := eh133.size
      have f136 := (Ch98.ext eh133)
      refine s_call [.pointer (some ⟨p_c, 0, none⟩), r132] rfl (spec_l1Cur_among_ok p_c t_c (((m_c + 20 + 20 * (n.links.length : Int) + 10) + 2) + 2) lo_c r132 [x96.fr, 10000, 10001] _ f136 s_r132.toSl (fun b hb hc => by simp at hc; have := fr_r132 b hb; omega) (by omega) (by first | omega | assumption | (simp; done) | (simp; omega))) ?_
      rintro _ h138 ⟨g137, rfl, qh138, Ch138, mh138⟩
      have zh138 := mh138.size
      have E139 := E134.new mh138 (fun b hb => .inl (by simp at hb; simp [hb]))
      simp only [List.mem_cons, List.not_mem_nil, or_false] at qh138
      refine s_pq (.pointer (some ⟨sblk o4, soff o4 + ((g91).toNat) * 3, none⟩)) <| s_pq (.pointer (some ⟨sblk o4, soff o4 + ((g91).toNat) * 3 + 2, none⟩)) ?_
      have f140 := ((f131.ext eh133).mod mh138 (nb1 np_c_o4))
      refine s_stSl (k := (g91).toNat) (j := 2) (⟨x96.link, x96.fr, g137⟩ : FogD) (.int .i64 g137) [.int .i64 g137] f140 rfl rfl rfl rfl rfl hx96 (Nat.le_of_ble_eq_true rfl) rfl (all_cons rfl all_nil) (fun h141 mh141 sh141 s142 => ?_)
      have E143 := E139.new mh141 (fun b hb => .inr (by have := fr_o4 b hb; omega))
      refine s_nil <| p_blkN <| p_seqN <| v_seq <| v_ops <| s_pq o4 <| s_pq o4 <| s_nil <| p_seqN <| v_ret <| p_ret [o4] o4 (fun _ q => q) rfl ?_
      have f144 := (Ch138.mod mh141 np_c_o4 (fun b hb => by have := fr_o4 b hb; omega))
      exact ⟨(l4.set ((g91).toNat) (⟨x96.link, x96.fr, g137⟩ : FogD)), o4, rfl, s142, (fr_o4.mono (by omega)), (by first | omega | (simp; done) | (simp; omega)), (f144.le (by omega)), E143⟩
     refine v_skip <| p_blkN <| p_seqN <| v_seq <| v_ops <| s_pq o4 <| s_pq o4 <| s_nil <| p_seqN <| v_ret <| p_ret [o4] o4 (fun _ q => q) rfl ?_
     have f145 := (f94.mod mh98 (nb1 np_c_o4))
     exact ⟨l4, o4, rfl, f145, (fr_o4.mono (by omega)), (by first | omega | (simp; done) | (simp; omega)), (Ch98.le (by omega)), E99⟩
    refine v_skip <| p_seqN <| v_seq <| v_ops <| s_pq o4 <| s_pq o4 <| s_nil <| p_seqN <| v_ret <| p_ret [o4] o4 (fun _ q => q) rfl ?_
    exact ⟨l4, o4, rfl, s_o4, (fr_o4.mono (by omega)), (by first | omega | (simp; done) | (simp; omega)), (bxc.le (by omega)), Eh⟩
   refine v_skip <| p_seqN <| v_seq <| v_seq <| v_ops <| s_pq r61 <| s_pure (.int .i64 ((l0.take 60).length : Int)) (fun _ q => s_r61.lenVC q) <| s_pq (.bool (decide (((l0.take 60).length : Int) > 0))) <| s_nil <| p_seqN ?_
   refine v_cond rfl (fun c146 => ?_) (fun c146 => ?_)
   ·
    refine v_seq <| v_ops <| s_pq r61 <| s_pq (.pointer (some ⟨p_c, 0, none⟩)) <| s_pq r61 <| s_pure (.int .i64 ((l0.take 60).length : Int)) (fun _ q => s_r61.lenVC q) <| s_call [.pointer (some ⟨p_c, 0, none⟩), .int .i64 ((l0.take 60).length : Int)] rfl (spec_l1Cur_pick_ok p_c t_c ((m_c + 10 + 20 * (k : Int)) + 2) lo_c ((l0.take 60).length : Int) _ Ch64 (by omega)) ?_
    rintro _ h148 ⟨g147, rfl, qh148, Ch148, mh148⟩
    have zh148 := mh148.size
    have E149 := E65.new mh148 (fun b hb => .inl (by simp at hb; simp [hb]))
    have f150 := ((s_r61.mod mh64 (fun b hb hc => (fun hc => np_c_o0 (bk_r61 _ hc)) (by simp at hc; rw [← hc]; exact hb))).mod mh148 (fun b hb hc => (fun hc => np_c_o0 (bk_r61 _ hc)) (by simp at hc; rw [← hc]; exact hb)))
    have hk151 : (g147).toNat < (l0.take 60).length := (by first | omega | (simp; omega))
    obtain ⟨x152, hx152⟩ : ∃ x, (l0.take 60)[(g147).toNat]? = some x := ⟨_, List.getElem?_eq_getElem hk151⟩
    refine s_pure (.pointer (some ⟨sblk r61, soff r61 + ((g147).toNat) * 3, none⟩)) (fun _ q => f150.idx (k := (g147).toNat) (by omega) hk151 q) <| s_pq (.pointer (some ⟨sblk r61, soff r61 + ((g147).toNat) * 3, none⟩)) <| s_nil <| p_seqN <| v_seq <| v_ops <| s_pq (.pointer (some ⟨p_c, 0, none⟩)) <| s_call [.pointer (some ⟨p_c, 0, none⟩), .int .i64 30] rfl (spec_l1Cur_pick_ok p_c t_c (((m_c + 10 + 20 * (k : Int)) + 2) + 2) lo_c 30 _ Ch148 (by omega)) ?_
    rintro _ h154 ⟨g153, rfl, qh154, Ch154, mh154⟩
    have zh154 := mh154.size
    have E155 := E149.new mh154 (fun b hb => .inl (by simp at hb; simp [hb]))
    refine s_nil <| p_seqN <| v_block <| v_seq <| v_ops <| s_pq (.bool (g153 == 0)) <| s_pq (.bool (g153 == 0)) <| s_nil <| p_seqN ?_
    refine v_cond rfl (fun c156 => ?_) (fun c156 => ?_)
    ·
     refine v_ops <| s_pq (.pointer (some ⟨sblk r61, soff r61 + ((g147).toNat) * 3, none⟩)) <| s_pq (.pointer (some ⟨p_c, 0, none⟩)) <| s_pq (.pointer (some ⟨b1, 1, none⟩)) ?_
     have f157 := (((bxb1.mod mh64 (by simp; omega)).mod mh148 (by simp; omega)).mod mh154 (by simp; omega))
     refine s_load v_n_links (fun _ q => f157.load rfl q) <| s_pure (.int .i64 (n.links.length : Int)) (fun _ q => f14.lenVC q) ?_
     refine s_row (α := Int) [(-1), (n.links.length : Int)] (fun _ q => seg_i rfl (seg_i rfl (seg_nil q))) rfl (by simp [maxLen]) (fun r158 h159 eh159 zh159 s_r158 fr_r158 => ?_)
     have E160 := E155.trans (Mod.of_ext eh159 _)
     have z161 := eh159.size
     have f162 := (Ch154.ext eh159)
     refine s_call [.pointer (some ⟨p_c, 0, none⟩), r158] rfl (spec_l1Cur_among_ok p_c t_c ((((m_c + 10 + 20 * (k : Int)) + 2) + 2) + 2) lo_c r158 [(-1), (n.links.length : Int)] _ f162 s_r158.toSl (fun b hb hc => by simp at hc; have := fr_r158 b hb; omega) (by omega) (by first | omega | assumption | (simp; done) | (simp; omega))) ?_
     rintro _ h164 ⟨g163, rfl, qh164, Ch164, mh164⟩
     have zh164 := mh164.size
     have E165 := E160.new mh164 (fun b hb => .inl (by simp at hb; simp [hb]))
     simp only [List.mem_cons, List.not_mem_nil, or_false] at qh164
     refine s_pq (.pointer (some ⟨sblk r61, soff r61 + ((g147).toNat) * 3, none⟩)) <| s_pq (.pointer (some ⟨sblk r61, soff r61 + ((g147).toNat) * 3, none⟩)) ?_
     have f166 := (((f150.mod mh154 (fun b hb hc => (fun hc => np_c_o0 (bk_r61 _ hc)) (by simp at hc; rw [← hc]; exact hb))).ext eh159).mod mh164 (fun b hb hc => (fun hc => np_c_o0 (bk_r61 _ hc)) (by simp at hc; rw [← hc]; exact hb)))
     refine s_stSl (k := (g147).toNat) (j := 0) (⟨g163, x152.fr, x152.til⟩ : FogD) (.int .i64 g163) [.int .i64 g163] f166 rfl rfl rfl rfl rfl hx152 (Nat.le_of_ble_eq_true rfl) rfl (all_cons rfl all_nil) (fun h167 mh167 sh167 s168 => ?_)
     have E169 := E165.new mh167 (fun b hb => .inr (by have := fr_r61 b hb; omega))
     refine s_nil <| p_blkN <| p_seqN <| v_seq <| v_ops <| s_pq r61 <| s_pq r61 <| s_nil <| p_seqN <| v_ret <| p_ret [r61] r61 (fun _ q => q) rfl ?_
     have f170 := (Ch164.mod mh167 (fun hc => np_c_o0 (bk_r61 _ hc)) (fun b hb => by have := fr_r61 b hb; omega))
     exact ⟨((l0.take 60).set ((g147).toNat) (⟨g163, x152.fr, x152.til⟩ : FogD)), r61, rfl, s168, (fr_r61.mono (by omega)), (by first | omega | (simp; done) | (simp; omega)), (f170.le (by omega)), E169⟩
    refine v_seq <| v_ops <| s_pq (.bool (g153 == 1)) <| s_pq (.bool (g153 == 1)) <| s_nil <| p_seqN ?_
    refine v_cond rfl (fun c171 => ?_) (fun c171 => ?_)
    ·
     refine v_ops <| s_pq (.pointer (some ⟨sblk r61, soff r61 + ((g147).toNat) * 3, none⟩)) <| s_pq (.pointer (some ⟨p_c, 0, none⟩)) <| s_pq (.pointer (some ⟨sblk r61, soff r61 + ((g147).toNat) * 3, none⟩)) <| s_pq (.pointer (some ⟨sblk r61, soff r61 + ((g147).toNat) * 3, none⟩)) <| s_pq (.pointer (some ⟨sblk r61, soff r61 + ((g147).toNat) * 3 + 2, none⟩)) ?_
     have f172 := (f150.mod mh154 (fun b hb hc => (fun hc => np_c_o0 (bk_r61 _ hc)) (by simp at hc; rw [← hc]; exact hb)))
     refine s_load (.int .i64 x152.til) (fun _ q => f172.load hx152 (j := 2) rfl rfl q) ?_
     refine s_row (α := Int) [(-1), x152.til] (fun _ q => seg_i rfl (seg_i rfl (seg_nil q))) rfl (by simp [maxLen]) (fun r173 h174 eh174 zh174 s_r173 fr_r173 => ?_)
     have E175 := E155.trans (Mod.of_ext eh174 _)
     have z176 := eh174.size
     have f177 := (Ch154.ext eh174)
     refine s_call [.pointer (some ⟨p_c, 0, none⟩), r173] rfl (spec_l1Cur_among_ok p_c t_c ((((m_c + 10 + 20 * (k : Int)) + 2) + 2) + 2) lo_c r173 [(-1), x152.til] _ f177 s_r173.toSl (fun b hb hc => by simp at hc; have := fr_r173 b hb; omega) (by omega) (by first | omega | assumption | (simp; done) | (simp; omega))) ?_
     rintro _ h179 ⟨g178, rfl, qh179, Ch179, mh179⟩
     have zh179 := mh179.size
     have E180 := E175.new mh179 (fun b hb => .inl (by simp at hb; simp [hb]))
     simp only [List.mem_cons, List.not_mem_nil, or_false] at qh179
     refine s_pq (.pointer (some ⟨sblk r61, soff r61 + ((g147).toNat) * 3, none⟩)) <| s_pq (.pointer (some ⟨sblk r61, soff r61 + ((g147).toNat) * 3 + 1, none⟩)) ?_
     have f181 := ((f172.ext eh174).mod mh179 (fun b hb hc => (fun hc => np_c_o0 (bk_r61 _ hc)) (by simp at hc; rw [← hc]; exact hb)))
     refine s_stSl (k := (g147).toNat) (j := 1) (⟨x152.link, g178, x152.til⟩ : FogD) (.int .i64 g178) [.int .i64 g178] f181 rfl rfl rfl rfl rfl hx152 (Nat.le_of_ble_eq_true rfl) rfl (all_cons rfl all_nil) (fun h182 mh182 sh182 s183 => ?_)
     have E184 := E180.new mh182 (fun b hb => .inr (by have := fr_r61 b hb; omega))
     refine s_nil <| p_blkN <| p_seqN <| v_seq <| v_ops <| s_pq r61 <| s_pq r61 <| s_nil <| p_seqN <| v_ret <| p_ret [r61] r61 (fun _ q => q) rfl ?_
     have f185 := (Ch179.mod mh182 (fun hc => np_c_o0 (bk_r61 _ hc)) (fun b hb => by have := fr_r61 b hb; omega))
     exact ⟨((l0.take 60).set ((g147).toNat) (⟨x152.link, g178, x152.til⟩ : FogD)), r61, rfl, s183, (fr_r61.mono (by omega)), (by first | omega | (simp; done) | (simp; omega)), (f185.le (by omega)), E184⟩
    refine v_seq <| v_ops <| s_pq (.bool (g153 == 2)) <| s_pq (.bool (g153 == 2)) <| s_nil <| p_seqN ?_
    refine v_cond rfl (fun c186 => ?_) (fun c186 => ?_)
    ·
     refine v_ops <| s_pq (.pointer (some ⟨sblk r61, soff r61 + ((g147).toNat) * 3, none⟩)) <| s_pq (.pointer (some ⟨p_c, 0, none⟩)) <| s_pq (.pointer (some ⟨sblk r61, soff r61 + ((g147).toNat) * 3, none⟩)) <| s_pq (.pointer (some ⟨sblk r61, soff r61 + ((g147).toNat) * 3, none⟩)) <| s_pq (.pointer (some ⟨sblk r61, soff r61 + ((g147).toNat) * 3 + 1, none⟩)) ?_
     have f187 := (f150.mod mh154 (fun b hb hc => (fun hc => np_c_o0 (bk_r61 _ hc)) (by simp at hc; rw [← hc]; exact hb)))
     refine s_load (.int .i64 x152.fr) (fun _ q => f187.load hx152 (j := 1) rfl rfl q) ?_
     refine s_row (α := Int) [x152.fr, 10000, 10001] (fun _ q => seg_i rfl (seg_i rfl (seg_i rfl (seg_nil q)))) rfl (by simp [maxLen]) (fun r188 h189 eh189 zh189 s_r188 fr_r188 => ?_)
     have E190 := E155.trans (Mod.of_ext eh189 _)
     have z191 := eh189.size
     have f192 := (Ch154.ext eh189)
     refine s_call [.pointer (some ⟨p_c, 0, none⟩), r188] rfl (spec_l1Cur_among_ok p_c t_c ((((m_c + 10 + 20 * (k : Int)) + 2) + 2) + 2) lo_c r188 [x152.fr, 10000, 10001] _ f192 s_r188.toSl (fun b hb hc => by simp at hc; have := fr_r188 b hb; omega) (by omega) (by first | omega | assumption | (simp; done) | (simp; omega))) ?_
     rintro _ h194 ⟨g193, rfl, qh194, Ch194, mh194⟩
     have zh194 := mh194.size
     have E195 := E190.new mh194 (fun b hb => .inl (by simp at hb; simp [hb]))
     simp only [List.mem_cons, List.not_mem_nil, or_false] at qh194
     refine s_pq (.pointer (some ⟨sblk r61, soff r61 + ((g147).toNat) * 3, none⟩)) <| s_pq (.pointer (some ⟨sblk r61, soff r61 + ((g147).toNat) * 3 + 2, none⟩)) ?_
     have f196 := ((f187.ext eh189).mod mh194 (fun b hb hc => (fun hc => np_c_o0 (bk_r61 _ hc)) (by simp at hc; rw [← hc]; exact hb)))
     refine s_stSl (k := (g147).toNat) (j := 2) (⟨x152.link, x152.fr, g193⟩ : FogD) (.int .i64 g193) [.int .i64 g193] f196 rfl rfl rfl rfl rfl hx152 (Nat.le_of_ble_eq_true rfl) rfl (all_cons rfl all_nil) (fun h197 mh197 sh197 s198 => ?_)
     have E199 := E195.new mh197 (fun b hb => .inr (by have := fr_r61 b hb; omega))
     refine s_nil <| p_blkN <| p_seqN <| v_seq <| v_ops <| s_pq r61 <| s_pq r61 <| s_nil <| p_seqN <| v_ret <| p_ret [r61] r61 (fun _ q => q) rfl ?_
     have f200 := (Ch194.mod mh197 (fun hc => np_c_o0 (bk_r61 _ hc)) (fun b hb => by have := fr_r61 b hb; omega))
     exact ⟨((l0.take 60).set ((g147).toNat) (⟨x152.link, x152.fr, g193⟩ : FogD)), r61, rfl, s198, (fr_r61.mono (by omega)), (by first | omega | (simp; done) | (simp; omega)), (f200.le (by omega)), E199⟩
    refine v_skip <| p_blkN <| p_seqN <| v_seq <| v_ops <| s_pq r61 <| s_pq r61 <| s_nil <| p_seqN <| v_ret <| p_ret [r61] r61 (fun _ q => q) rfl ?_
    have f201 := (f150.mod mh154 (fun b hb hc => (fun hc => np_c_o0 (bk_r61 _ hc)) (by simp at hc; rw [← hc]; exact hb)))
    exact ⟨(l0.take 60), r61, rfl, f201, (fr_r61.mono (by omega)), (by first | omega | (simp; done) | (simp; omega)), (Ch154.le (by omega)), E155⟩
   refine v_skip <| p_seqN <| v_seq <| v_ops <| s_pq r61 <| s_pq r61 <| s_nil <| p_seqN <| v_ret <| p_ret [r61] r61 (fun _ q => q) rfl ?_
   have f202 := (s_r61.mod mh64 (fun b hb hc => (fun hc => np_c_o0 (bk_r61 _ hc)) (by simp at hc; rw [← hc]; exact hb)))
   exact ⟨(l0.take 60), r61, rfl, f202, (fr_r61.mono (by omega)), (by first | omega | (simp; done) | (simp; omega)), (Ch64.le (by omega)), E65⟩
  refine s_pass rfl <| s_pass rfl <| s_pq (.bool false) <| s_nil <| p_seqN <| v_condN rfl (by simp) <| v_skip <| p_seqN <| v_seq <| v_seq <| v_ops <| s_pq r61 <| s_pure (.int .i64 ((l0.take 60).length : Int)) (fun _ q => s_r61.lenVC q) <| s_pq (.bool (decide (((l0.take 60).length : Int) > 0))) <| s_nil <| p_seqN ?_
  refine v_cond rfl (fun c203 => ?_) (fun c203 => ?_)
  ·
   refine v_seq <| v_ops <| s_pq r61 <| s_pq (.pointer (some ⟨p_c, 0, none⟩)) <| s_pq r61 <| s_pure (.int .i64 ((l0.take 60).length : Int)) (fun _ q => s_r61.lenVC q) <| s_call [.pointer (some ⟨p_c, 0, none⟩), .int .i64 ((l0.take 60).length : Int)] rfl (spec_l1Cur_pick_ok p_c t_c (m_c + 10 + 20 * (k : Int)) lo_c ((l0.take 60).length : Int) _ bxc (by omega)) ?_
   rintro _ h205 ⟨g204, rfl, qh205, Ch205, mh205⟩
   have zh205 := mh205.size
   have E206 := Eh.new mh205 (fun b hb => .inl (by simp at hb; simp [hb]))
   have f207 := (s_r61.mod mh205 (fun b hb hc => (fun hc => np_c_o0 (bk_r61 _ hc)) (by simp at hc; rw [← hc]; exact hb)))
   have hk208 : (g204).toNat < (l0.take 60).length := (by first | omega | (simp; omega))
   obtain ⟨x209, hx209⟩ : ∃ x, (l0.take 60)[(g204).toNat]? = some x := ⟨_, List.getElem?_eq_getElem hk208⟩
   refine s_pure (.pointer (some ⟨sblk r61, soff r61 + ((g204).toNat) * 3, none⟩)) (fun _ q => f207.idx (k := (g204).toNat) (by omega) hk208 q) <| s_pq (.pointer (some ⟨sblk r61, soff r61 + ((g204).toNat) * 3, none⟩)) <| s_nil <| p_seqN <| v_seq <| v_ops <| s_pq (.pointer (some ⟨p_c, 0, none⟩)) <| s_call [.pointer (some ⟨p_c, 0, none⟩), .int .i64 30] rfl (spec_l1Cur_pick_ok p_c t_c ((m_c + 10 + 20 * (k : Int)) + 2) lo_c 30 _ Ch205 (by omega)) ?_
   rintro _ h211 ⟨g210, rfl, qh211, Ch211, mh211⟩
   have zh211 := mh211.size
   have E212 := E206.new mh211 (fun b hb => .inl (by simp at hb; simp [hb]))
   refine s_nil <| p_seqN <| v_block <| v_seq <| v_ops <| s_pq (.bool (g210 == 0)) <| s_pq (.bool (g210 == 0)) <| s_nil <| p_seqN ?_
   refine v_cond rfl (fun c213 => ?_) (fun c213 => ?_)
   ·
    refine v_ops <| s_pq (.pointer (some ⟨sblk r61, soff r61 + ((g204).toNat) * 3, none⟩)) <| s_pq (.pointer (some ⟨p_c, 0, none⟩)) <| s_pq (.pointer (some ⟨b1, 1, none⟩)) ?_
    have f214 := ((bxb1.mod mh205 (by simp; omega)).mod mh211 (by simp; omega))
    refine s_load v_n_links (fun _ q => f214.load rfl q) <| s_pure (.int .i64 (n.links.length : Int)) (fun _ q => f14.lenVC q) ?_
    refine s_row (α := Int) [(-1), (n.links.length : Int)] (fun _ q => seg_i rfl (seg_i rfl (seg_nil q))) rfl (by simp [maxLen]) (fun r215 h216 eh216 zh216 s_r215 fr_r215 => ?_)
    have E217 := E212.trans (Mod.of_ext eh216 _)
    have z218 := eh216.size
    have f219 := (Ch211.ext eh216)
    refine s_call [.pointer (some ⟨p_c, 0, none⟩), r215] rfl (spec_l1Cur_among_ok p_c t_c (((m_c + 10 + 20 * (k : Int)) + 2) + 2) lo_c r215 [(-1), (n.links.length : Int)] _ f219 s_r215.toSl (fun b hb hc => by simp at hc; have := fr_r215 b hb; omega) (by omega) (by first | omega | assumption | (simp; done) | (simp; omega))) ?_
    rintro _ h221 ⟨g220, rfl, qh221, Ch221, mh221⟩
    have zh221 := mh221.size
    have E222 := E217.new mh221 (fun b hb => .inl (by simp at hb; simp [hb]))
    simp only [List.mem_cons, List.not_mem_nil, or_false] at qh221
    refine s_pq (.pointer (some ⟨sblk r61, soff r61 + ((g204).toNat) * 3, none⟩)) <| s_pq (.pointer (some ⟨sblk r61, soff r61 + ((g204).toNat) * 3, none⟩)) ?_
    have f223 := (((f207.mod mh211 (fun b hb hc => (fun hc => np_c_o0 (bk_r61 _ hc)) (by simp at hc; rw [← hc]; exact hb))).ext eh216).mod mh221 (fun b hb hc => (fun hc => np_c_o0 (bk_r61 _ hc)) (by simp at hc; rw [← hc]; exact hb)))
    refine s_stSl (k := (g204).toNat) (j := 0) (⟨g220, x209.fr, x209.til⟩ : FogD) (.int .i64 g220) [.int .i64 g220] f223 rfl rfl rfl rfl rfl hx209 (Nat.le_of_ble_eq_true rfl) rfl (all_cons rfl all_nil) (fun h224 mh224 sh224 s225 => ?_)
    have E226 := E222.new mh224 (fun b hb => .inr (by have := fr_r61 b hb; omega))
    refine s_nil <| p_blkN <| p_seqN <| v_seq <| v_ops <| s_pq r61 <| s_pq r61 <| s_nil <| p_seqN <| v_ret <| p_ret [r61] r61 (fun _ q => q) rfl ?_
    have f227 := (Ch221.mod mh224 (fun hc => np_c_o0 (bk_r61 _ hc)) (fun b hb => by have := fr_r61 b hb; omega))
    exact ⟨((l0.take 60).set ((g204).toNat) (⟨g220, x209.fr, x209.til⟩ : FogD)), r61, rfl, s225, (fr_r61.mono (by omega)), (by first | omega | (simp; done) | (simp; omega)), (f227.le (by omega)), E226⟩
   refine v_seq <| v_ops <| s_pq (.bool (g210 == 1)) <| s_pq (.bool (g210 == 1)) <| s_nil <| p_seqN ?_
   refine v_cond rfl (fun c228 => ?_) (fun c228 => ?_)
   ·
    refine v_ops <| s_pq (.pointer (some ⟨sblk r61, soff r61 + ((g204).toNat) * 3, none⟩)) <| s_pq (.pointer (some ⟨p_c, 0, none⟩)) <| s_pq (.pointer (some ⟨sblk r61, soff r61 + ((g204).toNat) * 3, none⟩)) <| s_pq (.pointer (some ⟨sblk r61, soff r61 + ((g204).toNat) * 3, none⟩)) <| s_pq (.pointer (some ⟨sblk r61, soff r61 + ((g204).toNat) * 3 + 2, none⟩)) ?_
    have f229 := (f207.mod mh211 (fun b hb hc => (fun hc => np_c_o0 (bk_r61 _ hc)) (by simp at hc; rw [← hc]; exact hb)))
    refine s_load (.int .i64 x209.til) (fun _ q => f229.load hx209 (j := 2) rfl rfl q) ?_
    refine s_row (α := Int) [(-1), x209.til] (fun _ q => seg_i rfl (seg_i rfl (seg_nil q))) rfl (by simp [maxLen]) (fun r230 h231 eh231 zh231 s_r230 fr_r230 => ?_)
    have E232 := E212.trans (Mod.of_ext eh231 _)
    have z233 := eh231.size
    have f234 := (Ch211.ext eh231)
    refine s_call [.pointer (some ⟨p_c, 0, none⟩), r230] rfl (spec_l1Cur_among_ok p_c t_c (((m_c + 10 + 20 * (k : Int)) + 2) + 2) lo_c r230 [(-1), x209.til] _ f234 s_r230.toSl (fun b hb hc => by simp at hc; have := fr_r230 b hb; omega) (by omega) (by first | omega | assumption | (simp; done) | (simp; omega))) ?_
    rintro _ h236 ⟨g235, rfl, qh236, Ch236, mh236⟩
    have zh236 := mh236.size
    have E237 := E232.new mh236 (fun b hb => .inl (by simp at hb; simp [hb]))
    simp only [List.mem_cons, List.not_mem_nil, or_false] at qh236
    refine s_pq (.pointer (some ⟨sblk r61, soff r61 + ((g204).toNat) * 3, none⟩)) <| s_pq (.pointer (some ⟨sblk r61, soff r61 + ((g204).toNat) * 3 + 1, none⟩)) ?_
    have f238 := ((f229.ext eh231).mod mh236 (fun b hb hc => (fun hc => np_c_o0 (bk_r61 _ hc)) (by simp at hc; rw [← hc]; exact hb)))
    refine s_stSl (k := (g204).toNat) (j := 1) (⟨x209.link, g235, x209.til⟩ : FogD) (.int .i64 g235) [.int .i64 g235] f238 rfl rfl rfl rfl rfl hx209 (Nat.le_of_ble_eq_true rfl) rfl (all_cons rfl all_nil) (fun h239 mh239 sh239 s240 => ?_)
    have E241 := E237.new mh239 (fun b hb => .inr (by have := fr_r61 b hb; omega))
    refine s_nil <| p_blkN <| p_seqN <| v_seq <| v_ops <| s_pq r61 <| s_pq r61 <| s_nil <| p_seqN <| v_ret <| p_ret [r61] r61 (fun _ q => q) rfl ?_
    have f242 := (Ch236.mod mh239 (fun hc => np_c_o0 (bk_r61 _ hc)) (fun b hb => by have := fr_r61 b hb; omega))
    exact ⟨((l0.take 60).set ((g204).toNat) (⟨x209.link, g235, x209.til⟩ : FogD)), r61, rfl, s240, (fr_r61.mono (by omega)), (by first | omega | (simp; done) | (simp; omega)), (f242.le (by omega)), E241⟩
   refine v_seq <| v_ops <| s_pq (.bool (g210 == 2)) <| s_pq (.bool (g210 == 2)) <| s_nil <| p_seqN ?_
   refine v_cond rfl (fun c243 => ?_) (fun c243 => ?_)
   ·
    refine v_ops <| s_pq (.pointer (some ⟨sblk r61, soff r61 + ((g204).toNat) * 3, none⟩)) <| s_pq (.pointer (some ⟨p_c, 0, none⟩)) <| s_pq (.pointer (some ⟨sblk r61, soff r61 + ((g204).toNat) * 3, none⟩)) <| s_pq (.pointer (some ⟨sblk r61, soff r61 + ((g204).toNat) * 3, none⟩)) <| s_pq (.pointer (some ⟨sblk r61, soff r61 + ((g204).toNat) * 3 + 1, none⟩)) ?_
    have f244 := (f207.mod mh211 (fun b hb hc => (fun hc => np_c_o0 (bk_r61 _ hc)) (by simp at hc; rw [← hc]; exact hb)))
    refine s_load (.int .i64 x209.fr) (fun _ q => f244.load hx209 (j := 1) rfl rfl q) ?_
    refine s_row (α := Int) [x209.fr, 10000, 10001] (fun _ q => seg_i rfl (seg_i rfl (seg_i rfl (seg_nil q)))) rfl (by simp [maxLen]) (fun r245 h246 eh246 zh246 s_r245 fr_r245 => ?_)
    have E247 := E212.trans (Mod.of_ext eh246 _)
    have z248 := eh246.size
    have f249 := (Ch211.ext eh246)
    refine s_call [.pointer (some ⟨p_c, 0, none⟩), r245] rfl (spec_l1Cur_among_ok p_c t_c (((m_c + 10 + 20 * (k : Int)) + 2) + 2) lo_c r245 [x209.fr, 10000, 10001] _ f249 s_r245.toSl (fun b hb hc => by simp at hc; have := fr_r245 b hb; omega) (by omega) (by first | omega | assumption | (simp; done) | (simp; omega))) ?_
    rintro _ h251 ⟨g250, rfl, qh251, Ch251, mh251⟩
    have zh251 := mh251.size
    have E252 := E247.new mh251 (fun b hb => .inl (by simp at hb; simp [hb]))
    simp only [List.mem_cons, List.not_mem_nil, or_false] at qh251
    refine s_pq (.pointer (some ⟨sblk r61, soff r61 + ((g204).toNat) * 3, none⟩)) <| s_pq (.pointer (some ⟨sblk r61, soff r61 + ((g204).toNat) * 3 + 2, none⟩)) ?_
    have f253 := ((f244.ext eh246).mod mh251 (fun b hb hc => (fun hc => np_c_o0 (bk_r61 _ hc)) (by simp at hc; rw [← hc]; exact hb)))
    refine s_stSl (k := (g204).toNat) (j := 2) (⟨x209.link, x209.fr, g250⟩ : FogD) (.int .i64 g250) [.int .i64 g250] f253 rfl rfl rfl rfl rfl hx209 (Nat.le_of_ble_eq_true rfl) rfl (all_cons rfl all_nil) (fun h254 mh254 sh254 s255 => ?_)
    have E256 := E252.new mh254 (fun b hb => .inr (by have := fr_r61 b hb; omega))
    refine s_nil <| p_blkN <| p_seqN <| v_seq <| v_ops <| s_pq r61 <| s_pq r61 <| s_nil <| p_seqN <| v_ret <| p_ret [r61] r61 (fun _ q => q) rfl ?_
    have f257 := (Ch251.mod mh254 (fun hc => np_c_o0 (bk_r61 _ hc)) (fun b hb => by have := fr_r61 b hb; omega))
    exact ⟨((l0.take 60).set ((g204).toNat) (⟨x209.link, x209.fr, g250⟩ : FogD)), r61, rfl, s255, (fr_r61.mono (by omega)), (by first | omega | (simp; done) | (simp; omega)), (f257.le (by omega)), E256⟩
   refine v_skip <| p_blkN <| p_seqN <| v_seq <| v_ops <| s_pq r61 <| s_pq r61 <| s_nil <| p_seqN <| v_ret <| p_ret [r61] r61 (fun _ q => q) rfl ?_
   have f258 := (f207.mod mh211 (fun b hb hc => (fun hc => np_c_o0 (bk_r61 _ hc)) (by simp at hc; rw [← hc]; exact hb)))
   exact ⟨(l0.take 60), r61, rfl, f258, (fr_r61.mono (by omega)), (by first | omega | (simp; done) | (simp; omega)), (Ch211.le (by omega)), E212⟩
  refine v_skip <| p_seqN <| v_seq <| v_ops <| s_pq r61 <| s_pq r61 <| s_nil <| p_seqN <| v_ret <| p_ret [r61] r61 (fun _ q => q) rfl ?_
  exact ⟨(l0.take 60), r61, rfl, s_r61, (fr_r61.mono (by omega)), (by first | omega | (simp; done) | (simp; omega)), (bxc.le (by omega)), Eh⟩
 refine v_skip <| p_seqN <| v_seq <| v_seq <| v_ops <| s_pq (.pointer (some ⟨b1, 1, none⟩)) <| s_load v_n_links (fun _ q => bxb1.load rfl q) <| s_pure (.int .i64 (n.links.length : Int)) (fun _ q => f14.lenVC q) <| s_pq (.bool (decide ((n.links.length : Int) > 0))) <| s_pq (.bool (decide ((n.links.length : Int) > 0))) ?_
 refine s_splitT rfl (fun c259 => ?_) (fun c259 => ?_)
 ·
  refine s_run rfl <| s_pq (.pointer (some ⟨p_c, 0, none⟩)) <| s_run rfl <| s_call [.pointer (some ⟨p_c, 0, none⟩), .int .i64 24] rfl (spec_l1Cur_one_ok p_c t_c (m_c + 10 + 20 * (k : Int)) lo_c 24 _ bxc (by omega)) ?_
  rintro _ h261 ⟨g260, rfl, Ch261, mh261⟩
  have zh261 := mh261.size
  have E262 := Eh.new mh261 (fun b hb => .inl (by simp at hb; simp [hb]))
  refine s_pq (.bool g260) <| s_nil <| p_seqN ?_
  refine v_cond rfl (fun c263 => ?_) (fun c263 => ?_)
  ·
   refine v_seq <| v_ops <| s_pq (.slice none 0 0) <| s_nil <| p_seqN <| v_seq <| v_ops <| s_pq (.pointer (some ⟨p_c, 0, none⟩)) <| s_call [.pointer (some ⟨p_c, 0, none⟩), .int .i64 2] rfl (spec_l1Cur_pick_ok p_c t_c ((m_c + 10 + 20 * (k : Int)) + 2) lo_c 2 _ Ch261 (by omega)) ?_
   rintro _ h265 ⟨g264, rfl, qh265, Ch265, mh265⟩
   have zh265 := mh265.size
   have E266 := E262.new mh265 (fun b hb => .inl (by simp at hb; simp [hb]))
   refine s_pure (.int .i64 (60 + g264)) (fun _ q => ArithVC.mk (by omega) q) <| s_pq (.int .i64 (60 + g264)) <| s_nil <| p_seqN <| v_block ?_
   have f268 := ((bxb1.mod mh261 (by simp; omega)).mod mh265 (by simp; omega))
   refine v_loop2 (α := List FogD) (β := Value) (fun l4 o4 => [(0, .pointer (some ⟨p_c, 0, none⟩)), (3, .pointer (some ⟨b1, 0, none⟩)), (5, o4), (11, .int .i64 (60 + g264))]) (fun l4 o4 hh => Mod [p_c] h hh ∧ Cur hh p_c t_c (m_c + 20 + 20 * (n.links.length : Int) + 10) lo_c ∧ Bx hh b1 [v_n_towers, v_n_links] 26 ∧ SlO hh o4 l4 ∧ Fr h.size o4 ∧ p_c ∉ blks o4 ∧ b1 ∉ blks o4 ∧ l4.length ≤ 61) (fun l4 o4 => (((60 + g264) : Int) - (l4.length : Int)).toNat) [] (.slice none 0 0) ⟨rfl, rfl, rfl, rfl⟩ ⟨E266, (Ch265.le (by first | omega | (simp; done) | (simp; omega))), f268, (sl_eq (SlX.nil (α := FogD) true h265) (by simp)), (Fr.nil _), (by simp [blks, fpts]), (by simp [blks, fpts]), (by first | omega | (simp; done) | (simp; omega))⟩ ?_
   rintro l4 o4 R269 h267 ⟨Eh, bxc, bxb1, s_o4, fr_o4, np_c_o4, np_b1_o4, hl4⟩
   have zEh := Eh.size
   have lbc := bxc.lt
   have f272 := s_n_links.mod Eh ap_n_links
   have lbb1 := bxb1.lt
   refine v_seq <| v_seq <| v_ops <| s_pq o4 <| s_pure (.int .i64 (l4.length : Int)) (fun _ q => s_o4.lenVC q) <| s_pq (.int .i64 (60 + g264)) <| s_pq (.bool (decide ((l4.length : Int) < (60 + g264)))) <| s_nil <| p_seqN ?_
   refine v_cond rfl (fun c273 => ?_) (fun c273 => ?_)
   ·
    refine v_skip <| p_seqN <| v_block <| v_ops <| s_pq o4 <| s_pq o4 <| s_pure (.int .i64 (l4.length : Int)) (fun _ q => s_o4.lenVC q) <| s_pure (.int .i64 (4 * (l4.length : Int))) (fun _ q => ArithVC.mk (by omega) q) <| s_pq o4 <| s_pure (.int .i64 (l4.length : Int)) (fun _ q => s_o4.lenVC q) <| s_pure (.int .i64 (4 * (l4.length : Int))) (fun _ q => ArithVC.mk (by omega) q) <| s_pure (.int .i64 ((4 * (l4.length : Int)) + 2)) (fun _ q => ArithVC.mk (by omega) q) <| s_pure (.agg #[.int .i64 0, .int .i64 (4 * (l4.length : Int)), .int .i64 ((4 * (l4.length : Int)) + 2)]) (fun _ q => w_build (seg_i rfl (seg_i rfl (seg_i rfl (seg_nil q))))) ?_
    refine s_row (α := FogD) [(⟨0, (4 * (l4.length : Int)), ((4 * (l4.length : Int)) + 2)⟩ : FogD)] (fun _ q => seg_agg rfl rfl (seg_nil q)) rfl (by simp [maxLen]) (fun r274 h275 eh275 zh275 s_r274 fr_r274 => ?_)
    have E276 := Eh.trans (Mod.of_ext eh275 _)
    have z277 := eh275.size
    have f278 := (s_o4.ext eh275)
    refine s_app f278 s_r274 rfl rfl rfl (by first | (simp [maxLen]; done) | (simp [maxLen]; omega)) (by first | (simp; done) | (simp; omega)) (fun r279 h280 mh280 zh280 s_r279 ab_r279 => ?_)
    have E281 := E276.new mh280 (fun b hb => .inr (by have := fr_o4 b hb; omega))
    have fr_r279 := fr_o4.app ab_r279 (by omega)
    have np282 : p_c ∉ blks r279 := fun hc => (ab_r279 _ hc).elim np_c_o4 (fun hc => by omega)
    have np283 : b1 ∉ blks r279 := fun hc => (ab_r279 _ hc).elim np_b1_o4 (fun hc => by omega)
    refine s_pq r279 <| s_nil <| p_blkN ?_
    have f285 := ((bxc.ext eh275).mod mh280 np_c_o4 (fun b hb => by have := fr_o4 b hb; omega))
    have f286 := ((bxb1.ext eh275).mod mh280 np_b1_o4)
    exact p_lpN ⟨(l4 ++ [(⟨0, (4 * (l4.length : Int)), ((4 * (l4.length : Int)) + 2)⟩ : FogD)]), r279, ⟨rfl, rfl, rfl, rfl⟩, ⟨E281, (f285.le (by omega)), f286, (sl_eq s_r279 (by simp)), (fr_r279.mono (by omega)), np282, np283, (by first | omega | (simp; done) | (simp; omega))⟩, by first | omega | (simp; done) | (simp; omega)⟩
   refine v_exit <| p_seqX <| p_lpX <| p_blkX <| p_seqN <| v_seq <| v_seq <| v_ops <| s_pq o4 <| s_pure (.int .i64 (l4.length : Int)) (fun _ q => s_o4.lenVC q) <| s_pq (.bool (decide ((l4.length : Int) > 0))) <| s_nil <| p_seqN ?_
   refine v_cond rfl (fun c287 => ?_) (fun c287 => ?_)
   ·
    refine v_seq <| v_ops <| s_pq o4 <| s_pq (.pointer (some ⟨p_c, 0, none⟩)) <| s_pq o4 <| s_pure (.int .i64 (l4.length : Int)) (fun _ q => s_o4.lenVC q) <| s_call [.pointer (some ⟨p_c, 0, none⟩), .int .i64 (l4.length : Int)] rfl (spec_l1Cur_pick_ok p_c t_c (m_c + 20 + 20 * (n.links.length : Int) + 10) lo_c (l4.length : Int) _ bxc (by omega)) ?_
    rintro _ h289 ⟨g288, rfl, qh289, Ch289, mh289⟩
    have zh289 := mh289.size
    have E290 := Eh.new mh289 (fun b hb => .inl (by simp at hb; simp [hb]))
    have f291 := (s_o4.mod mh289 (nb1 np_c_o4))
    have hk292 : (g288).toNat < l4.length := (by first | omega | (simp; omega))
    obtain ⟨x293, hx293⟩ : ∃ x, l4[(g288).toNat]? = some x := ⟨_, List.getElem?_eq_getElem hk292⟩
    refine s_pure (.pointer (some ⟨sblk o4, soff o4 + ((g288).toNat) * 3, none⟩)) (fun _ q => f291.idx (k := (g288).toNat) (by omega) hk292 q) <| s_pq (.pointer (some ⟨sblk o4, soff o4 + ((g288).toNat) * 3, none⟩)) <| s_nil <| p_seqN <| v_seq <| v_ops <| s_pq (.pointer (some ⟨p_c, 0, none⟩)) <| s_call [.pointer (some ⟨p_c, 0, none⟩), .int .i64 30] rfl (spec_l1Cur_pick_ok p_c t_c ((m_c + 20 + 20 * (n.links.length : Int) + 10) + 2) lo_c 30 _ Ch289 (by omega)) ?_
    rintro _ h295 ⟨g294, rfl, qh295, Ch295, mh295⟩
    have zh295 := mh295.size
    have E296 := E290.new mh295 (fun b hb => .inl (by simp at hb; simp [hb]))
    refine s_nil <| p_seqN <| v_block <| v_seq <| v_ops <| s_pq (.bool (g294 == 0)) <| s_pq (.bool (g294 == 0)) <| s_nil <| p_seqN ?_
    refine v_cond rfl (fun c297 => ?_) (fun c297 => ?_)
    ·
     refine v_ops <| s_pq (.pointer (some ⟨sblk o4, soff o4 + ((g288).toNat) * 3, none⟩)) <| s_pq (.pointer (some ⟨p_c, 0, none⟩)) <| s_pq (.pointer (some ⟨b1, 1, none⟩)) ?_
     have f298 := ((bxb1.mod mh289 (by simp; omega)).mod mh295 (by simp; omega))
     refine s_load v_n_links (fun _ q => f298.load rfl q) <| s_pure (.int .i64 (n.links.length : Int)) (fun _ q => f272.lenVC q) ?_
     refine s_row (α := Int) [(-1), (n.links.length : Int)] (fun _ q => seg_i rfl (seg_i rfl (seg_nil q))) rfl (by simp [maxLen]) (fun r299 h300 eh300 zh300 s_r299 fr_r299 => ?_)
     have E301 := E296.trans (Mod.of_ext eh300 _)
     have z302 := eh300.size
     have f303 := (Ch295.ext eh300)
     refine s_call [.pointer (some ⟨p_c, 0, none⟩), r299] rfl (spec_l1Cur_among_ok p_c t_c (((m_c + 20 + 20 * (n.links.length : Int) + 10) + 2) + 2) lo_c r299 [(-1), (n.links.length : Int)] _ f303 s_r299.toSl (fun b hb hc => by simp at hc; have := fr_r299 b hb; omega) (by omega) (by first | omega | assumption | (simp; done) | (simp; omega))) ?_
     rintro _ h305 ⟨g304, rfl, qh305, Ch305, mh305⟩
     have zh305 := mh305.size
     have E306 := E301.new mh305 (fun b hb => .inl (by simp at hb; simp [hb]))
     simp only [List.mem_cons, List.not_mem_nil, or_false] at qh305
     refine s_pq (.pointer (some ⟨sblk o4, soff o4 + ((g288).toNat) * 3, none⟩)) <| s_pq (.pointer (some ⟨sblk o4, soff o4 + ((g288).toNat) * 3, none⟩)) ?_
     have f307 := (((f291.mod mh295 (nb1 np_c_o4)).ext eh300).mod mh305 (nb1 np_c_o4))
     refine s_stSl (k := (g288).toNat) (j := 0) (⟨g304, x293.fr, x293.til⟩ : FogD) (.int .i64 g304) [.int .i64 g304] f307 rfl rfl rfl rfl rfl hx293 (Nat.le_of_ble_eq_true rfl) rfl (all_cons rfl all_nil) (fun h308 mh308 sh308 s309 => ?_)
     have E310 := E306.new mh308 (fun b hb => .inr (by have := fr_o4 b hb; omega))
     refine s_nil <| p_blkN <| p_seqN <| v_seq <| v_ops <| s_pq o4 <| s_pq o4 <| s_nil <| p_seqN <| v_ret <| p_ret [o4] o4 (fun _ q => q) rfl ?_
     have f311 := (Ch305.mod mh308 np_c_o4 (fun b hb => by have := fr_o4 b hb; omega))
     exact ⟨(l4.set ((g288).toNat) (⟨g304, x293.fr, x293.til⟩ : FogD)), o4, rfl, s309, (fr_o4.mono (by omega)), (by first | omega | (simp; done) | (simp; omega)), (f311.le (by omega)), E310⟩
    refine v_seq <| v_ops <| s_pq (.bool (g294 == 1)) <| s_pq (.bool (g294 == 1)) <| s_nil <| p_seqN ?_
    refine v_cond rfl (fun c312 => ?_) (fun c312 => ?_)
    ·
     refine v_ops <| s_pq (.pointer (some ⟨sblk o4, soff o4 + ((g288).toNat) * 3, none⟩)) <| s_pq (.pointer (some ⟨p_c, 0, none⟩)) <| s_pq (.pointer (some ⟨sblk o4, soff o4 + ((g288).toNat) * 3, none⟩)) <| s_pq (.pointer (some ⟨sblk o4, soff o4 + ((g288).toNat) * 3, none⟩)) <| s_pq (.pointer (some ⟨sblk o4, soff o4 + ((g288).toNat) * 3 + 2, none⟩)) ?_
     have f313 := (f291.mod mh295 (nb1 np_c_o4))
     refine s_load (.int .i64 x293.til) (fun _ q => f313.load hx293 (j := 2) rfl rfl q) ?_
     refine s_row (α := Int) [(-1), x293.til] (fun _ q => seg_i rfl (seg_i rfl (seg_nil q))) rfl (by simp [maxLen]) (fun r314 h315 eh315 zh315 s_r314 fr_r314 => ?_)
     have E316 := E296.trans (Mod.of_ext eh315 _)
     have z317 := eh315.size
     have f318 := (Ch295.ext eh315)
     refine s_call [.pointer (some ⟨p_c, 0, none⟩), r314] rfl (spec_l1Cur_among_ok p_c t_c (((m_c + 20 + 20 * (n.links.length : Int) + 10) + 2) + 2) lo_c r314 [(-1), x293.til] _ f318 s_r314.toSl (fun b hb hc => by simp at hc; have := fr_r314 b hb; omega) (by omega) (by first | omega | assumption | (simp; done) | (simp; omega))) ?_
     rintro _ h320 ⟨g319, rfl, qh320, Ch320, mh320⟩
     have zh320 := mh320.size
     have E321 := E316.new mh320 (fun b hb => .inl (by simp at hb; simp [hb]))
     simp only [List.mem_cons, List.not_mem_nil, or_false] at qh320
     refine s_pq (.pointer (some ⟨sblk o4, soff o4 + ((g288).toNat) * 3, none⟩)) <| s_pq (.pointer (some ⟨sblk o4, soff o4 + ((g288).toNat) * 3 + 1, none⟩)) ?_
     have f322 := ((f313.ext eh315).mod mh320 (nb1 np_c_o4))
     refine s_stSl (k := (g288).toNat) (j := 1) (⟨x293.link, g319, x293.til⟩ : FogD) (.int .i64 g319) [.int .i64 g319] f322 rfl rfl rfl rfl rfl hx293 (Nat.le_of_ble_eq_true rfl) rfl (all_cons rfl all_nil) (fun h323 mh323 sh323 s324 => ?_)
     have E325 := E321.new mh323 (fun b hb => .inr (by have := fr_o4 b hb; omega))
     refine s_nil <| p_blkN <| p_seqN <| v_seq <| v_ops <| s_pq o4 <| s_pq o4 <| s_nil <| p_seqN <| v_ret <| p_ret [o4] o4 (fun _ q => q) rfl ?_
     have f326 := (Ch320.mod mh323 np_c_o4 (fun b hb => by have := fr_o4 b hb; omega))
     exact ⟨(l4.set ((g288).toNat) (⟨x293.link, g319, x293.til⟩ : FogD)), o4, rfl, s324, (fr_o4.mono (by omega)), (by first | omega | (simp; done) | (simp; omega)), (f326.le (by omega)), E325⟩
    refine v_seq <| v_ops <| s_pq (.bool (g294 == 2)) <| s_pq (.bool (g294 == 2)) <| s_nil <| p_seqN ?_
    refine v_cond rfl (fun c327 => ?_) (fun c327 => ?_)
    ·
     refine v_ops <| s_pq (.pointer (some ⟨sblk o4, soff o4 + ((g288).toNat) * 3, none⟩)) <| s_pq (.pointer (some ⟨p_c, 0, none⟩)) <| s_pq (.pointer (some ⟨sblk o4, soff o4 + ((g288).toNat) * 3, none⟩)) <| s_pq (.pointer (some ⟨sblk o4, soff o4 + ((g288).toNat) * 3, none⟩)) <| s_pq (.pointer (some ⟨sblk o4, soff o4 + ((g288).toNat) * 3 + 1, none⟩)) ?_
     have f328 := (f291.mod mh295 (nb1 np_c_o4))
     refine s_load (.int .i64 x293.fr) (fun _ q => f328.load hx293 (j := 1) rfl rfl q) ?_
     refine s_row (α := Int) [x293.fr, 10000, 10001] (fun _ q => seg_i rfl (seg_i rfl (seg_i rfl (seg_nil q)))) rfl (by simp [maxLen]) (fun r329 h330 eh330 zh330 s_r329 fr_r329 => ?_)
     have E331 := E296.trans (Mod.of_ext eh330 _)
     have z332 := eh330.size
     have f333 := (Ch295.ext eh330)
     refine s_call [.pointer (some ⟨p_c, 0, none⟩), r329] rfl (spec_l1Cur_among_ok p_c t_c (((m_c + 20 + 20 * (n.links.length : Int) + 10) + 2) + 2) lo_c r329 [x293.fr, 10000, 10001] _ f333 s_r329.toSl (fun b hb hc => by simp at hc; have := fr_r329 b hb; omega) (by omega) (by first | omega | assumption | (simp; done) | (simp; omega))) ?_
     rintro _ h335 ⟨g334, rfl, qh335, Ch335, mh335⟩
     have zh335 := mh335.size
     have E336 := E331.new mh335 (fun b hb => .inl (by simp at hb; simp [hb]))
     simp only [List.mem_cons, List.not_mem_nil, or_false] at qh335
     refine s_pq (.pointer (some ⟨sblk o4, soff o4 + ((g288).toNat) * 3, none⟩)) <| s_pq (.pointer (some ⟨sblk o4, soff o4 + ((g288).toNat) * 3 + 2, none⟩)) ?_
     have f337 := ((f328.ext eh330).mod mh335 (nb1 np_c_o4))
     refine s_stSl (k := (g288).toNat) (j := 2) (⟨x293.link, x293.fr, g334⟩ : FogD) (.int .i64 g334) [.int .i64 g334] f337 rfl rfl rfl rfl rfl hx293 (Nat.le_of_ble_eq_true rfl) rfl (all_cons rfl all_nil) (fun h338 mh338 sh338 s339 => ?_)
     have E340 := E336.new mh338 (fun b hb => .inr (by have := fr_o4 b hb; omega))
     refine s_nil <| p_blkN <| p_seqN <| v_seq <| v_ops <| s_pq o4 <| s_pq o4 <| s_nil <| p_seqN <| v_ret <| p_ret [o4] o4 (fun _ q => q) rfl ?_
     have f341 := (Ch335.mod mh338 np_c_o4 (fun b hb => by have := fr_o4 b hb; omega))
     exact ⟨(l4.set ((g288).toNat) (⟨x293.link, x293.fr, g334⟩ : FogD)), o4, rfl, s339, (fr_o4.mono (by omega)), (by first | omega | (simp; done) | (simp; omega)), (f341.le (by omega)), E340⟩
    refine v_skip <| p_blkN <| p_seqN <| v_seq <| v_ops <| s_pq o4 <| s_pq o4 <| s_nil <| p_seqN <| v_ret <| p_ret [o4] o4 (fun _ q => q) rfl ?_
    have f342 := (f291.mod mh295 (nb1 np_c_o4))
    exact ⟨l4, o4, rfl, f342, (fr_o4.mono (by omega)), (by first | omega | (simp; done) | (simp; omega)), (Ch295.le (by omega)), E296⟩
   refine v_skip <| p_seqN <| v_seq <| v_ops <| s_pq o4 <| s_pq o4 <| s_nil <| p_seqN <| v_ret <| p_ret [o4] o4 (fun _ q => q) rfl ?_
   exact ⟨l4, o4, rfl, s_o4, (fr_o4.mono (by omega)), (by first | omega | (simp; done) | (simp; omega)), (bxc.le (by omega)), Eh⟩
  refine v_skip <| p_seqN <| v_seq <| v_seq <| v_ops <| s_pq o0 <| s_pure (.int .i64 (l0.length : Int)) (fun _ q => s_o0.lenVC q) <| s_pq (.bool (decide ((l0.length : Int) > 0))) <| s_nil <| p_seqN ?_
  refine v_cond rfl (fun c343 => ?_) (fun c343 => ?_)
  ·
   refine v_seq <| v_ops <| s_pq o0 <| s_pq (.pointer (some ⟨p_c, 0, none⟩)) <| s_pq o0 <| s_pure (.int .i64 (l0.length : Int)) (fun _ q => s_o0.lenVC q) <| s_call [.pointer (some ⟨p_c, 0, none⟩), .int .i64 (l0.length : Int)] rfl (spec_l1Cur_pick_ok p_c t_c ((m_c + 10 + 20 * (k : Int)) + 2) lo_c (l0.length : Int) _ Ch261 (by omega)) ?_
   rintro _ h345 ⟨g344, rfl, qh345, Ch345, mh345⟩
   have zh345 := mh345.size
   have E346 := E262.new mh345 (fun b hb => .inl (by simp at hb; simp [hb]))
   have f347 := ((s_o0.mod mh261 (nb1 np_c_o0)).mod mh345 (nb1 np_c_o0))
   have hk348 : (g344).toNat < l0.length := (by first | omega | (simp; omega))
   obtain ⟨x349, hx349⟩ : ∃ x, l0[(g344).toNat]? = some x := ⟨_, List.getElem?_eq_getElem hk348⟩
   refine s_pure (.pointer (some ⟨sblk o0, soff o0 + ((g344).toNat) * 3, none⟩)) (fun _ q => f347.idx (k := (g344).toNat) (by omega) hk348 q) <| s_pq (.pointer (some ⟨sblk o0, soff o0 + ((g344).toNat) * 3, none⟩)) <| s_nil <| p_seqN <| v_seq <| v_ops <| s_pq (.pointer (some ⟨p_c, 0, none⟩)) <| s_call [.pointer (some ⟨p_c, 0, none⟩), .int .i64 30] rfl (spec_l1Cur_pick_ok p_c t_c (((m_c + 10 + 20 * (k : Int)) + 2) + 2) lo_c 30 _ Ch345 (by omega)) ?_
   rintro _ h351 ⟨g350, rfl, qh351, Ch351, mh351⟩
   have zh351 := mh351.size
   have E352 := E346.new mh351 (fun b hb => .inl (by simp at hb; simp [hb]))
   refine s_nil <| p_seqN <| v_block <| v_seq <| v_ops <| s_pq (.bool (g350 == 0)) <| s_pq (.bool (g350 == 0)) <| s_nil <| p_seqN ?_
   refine v_cond rfl (fun c353 => ?_) (fun c353 => ?_)
   ·
    refine v_ops <| s_pq (.pointer (some ⟨sblk o0, soff o0 + ((g344).toNat) * 3, none⟩)) <| s_pq (.pointer (some ⟨p_c, 0, none⟩)) <| s_pq (.pointer (some ⟨b1, 1, none⟩)) ?_
    have f354 := (((bxb1.mod mh261 (by simp; omega)).mod mh345 (by simp; omega)).mod mh351 (by simp; omega))
    refine s_load v_n_links (fun _ q => f354.load rfl q) <| s_pure (.int .i64 (n.links.length : Int)) (fun _ q => f14.lenVC q) ?_
    refine s_row (α := Int) [(-1), (n.links.length : Int)] (fun _ q => seg_i rfl (seg_i rfl (seg_nil q))) rfl (by simp [maxLen]) (fun r355 h356 eh356 zh356 s_r355 fr_r355 => ?_)
    have E357 := E352.trans (Mod.of_ext eh356 _)
    have z358 := eh356.size
    have f359 := (Ch351.ext eh356)
    refine s_call [.pointer (some ⟨p_c, 0, none⟩), r355] rfl (spec_l1Cur_among_ok p_c t_c ((((m_c + 10 + 20 * (k : Int)) + 2) + 2) + 2) lo_c r355 [(-1), (n.links.length : Int)] _ f359 s_r355.toSl (fun b hb hc => by simp at hc; have := fr_r355 b hb; omega) (by omega) (by first | omega | assumption | (simp; done) | (simp; omega))) ?_
    rintro _ h361 ⟨g360, rfl, qh361, Ch361, mh361⟩
    have zh361 := mh361.size
    have E362 := E357.new mh361 (fun b hb => .inl (by simp at hb; simp [hb]))
    simp only [List.mem_cons, List.not_mem_nil, or_false] at qh361
    refine s_pq (.pointer (some ⟨sblk o0, soff o0 + ((g344).toNat) * 3, none⟩)) <| s_pq (.pointer (some ⟨sblk o0, soff o0 + ((g344).toNat) * 3, none⟩)) ?_
    have f363 := (((f347.mod mh351 (nb1 np_c_o0)).ext eh356).mod mh361 (nb1 np_c_o0))
    refine s_stSl (k := (g344).toNat) (j := 0) (⟨g360, x349.fr, x349.til⟩ : FogD) (.int .i64 g360) [.int .i64 g360] f363 rfl rfl rfl rfl rfl hx349 (Nat.le_of_ble_eq_true rfl) rfl (all_cons rfl all_nil) (fun h364 mh364 sh364 s365 => ?_)
    have E366 := E362.new mh364 (fun b hb => .inr (by have := fr_o0 b hb; omega))
    refine s_nil <| p_blkN <| p_seqN <| v_seq <| v_ops <| s_pq o0 <| s_pq o0 <| s_nil <| p_seqN <| v_ret <| p_ret [o0] o0 (fun _ q => q) rfl ?_
    have f367 := (Ch361.mod mh364 np_c_o0 (fun b hb => by have := fr_o0 b hb; omega))
    exact ⟨(l0.set ((g344).toNat) (⟨g360, x349.fr, x349.til⟩ : FogD)), o0, rfl, s365, (fr_o0.mono (by omega)), (by first | omega | (simp; done) | (simp; omega)), (f367.le (by omega)), E366⟩
   refine v_seq <| v_ops <| s_pq (.bool (g350 == 1)) <| s_pq (.bool (g350 == 1)) <| s_nil <| p_seqN ?_
   refine v_cond rfl (fun c368 => ?_) (fun c368 => ?_)
   ·
    refine v_ops <| s_pq (.pointer (some ⟨sblk o0, soff o0 + ((g344).toNat) * 3, none⟩)) <| s_pq (.pointer (some ⟨p_c, 0, none⟩)) <| s_pq (.pointer (some ⟨sblk o0, soff o0 + ((g344).toNat) * 3, none⟩)) <| s_pq (.pointer (some ⟨sblk o0, soff o0 + ((g344).toNat) * 3, none⟩)) <| s_pq (.pointer (some ⟨sblk o0, soff o0 + ((g344).toNat) * 3 + 2, none⟩)) ?_
    have f369 := (f347.mod mh351 (nb1 np_c_o0))
    refine s_load (.int .i64 x349.til) (fun _ q => f369.load hx349 (j := 2) rfl rfl q) ?_
    refine s_row (α := Int) [(-1), x349.til] (fun _ q => seg_i rfl (seg_i rfl (seg_nil q))) rfl (by simp [maxLen]) (fun r370 h371 eh371 zh371 s_r370 fr_r370 => ?_)
    have E372 := E352.trans (Mod.of_ext eh371 _)
    have z373 := eh371.size
    have f374 := (Ch351.ext eh371)
    refine s_call [.pointer (some ⟨p_c, 0, none⟩), r370] rfl (spec_l1Cur_among_ok p_c t_c ((((m_c + 10 + 20 * (k : Int)) + 2) + 2) + 2) lo_c r370 [(-1), x349.til] _ f374 s_r370.toSl (fun b hb hc => by simp at hc; have := fr_r370 b hb; omega) (by omega) (by first | omega | assumption | (simp; done) | (simp; omega))) ?_
    rintro _ h376 ⟨g375, rfl, qh376, Ch376, mh376⟩
    have zh376 := mh376.size
    have E377 := E372.new mh376 (fun b hb => .inl (by simp at hb; simp [hb]))
    simp only [List.mem_cons, List.not_mem_nil, or_false] at qh376
    refine s_pq (.pointer (some ⟨sblk o0, soff o0 + ((g344).toNat) * 3, none⟩)) <| s_pq (.pointer (some ⟨sblk o0, soff o0 + ((g344).toNat) * 3 + 1, none⟩)) ?_
    have f378 := ((f369.ext eh371).mod mh376 (nb1 np_c_o0))
    refine s_stSl (k := (g344).toNat) (j := 1) (⟨x349.link, g375, x349.til⟩ : FogD) (.int .i64 g375) [.int .i64 g375] f378 rfl rfl rfl rfl rfl hx349 (Nat.le_of_ble_eq_true rfl) rfl (all_cons rfl all_nil) (fun h379 mh379 sh379 s380 => ?_)
    have E381 := E377.new mh379 (fun b hb => .inr (by have := fr_o0 b hb; omega))
    refine s_nil <| p_blkN <| p_seqN <| v_seq <| v_ops <| s_pq o0 <| s_pq o0 <| s_nil <| p_seqN <| v_ret <| p_ret [o0] o0 (fun _ q => q) rfl ?_
    have f382 := (Ch376.mod mh379 np_c_o0 (fun b hb => by have := fr_o0 b hb; omega))
    exact ⟨(l0.set ((g344).toNat) (⟨x349.link, g375, x349.til⟩ : FogD)), o0, rfl, s380, (fr_o0.mono (by omega)), (by first | omega | (simp; done) | (simp; omega)), (f382.le (by omega)), E381⟩
   refine v_seq <| v_ops <| s_pq (.bool (g350 == 2)) <| s_pq (.bool (g350 == 2)) <| s_nil <| p_seqN ?_
   refine v_cond rfl (fun c383 => ?_) (fun c383 => ?_)
   ·
    refine v_ops <| s_pq (.pointer (some ⟨sblk o0, soff o0 + ((g344).toNat) * 3, none⟩)) <| s_pq (.pointer (some ⟨p_c, 0, none⟩)) <| s_pq (.pointer (some ⟨sblk o0, soff o0 + ((g344).toNat) * 3, none⟩)) <| s_pq (.pointer (some ⟨sblk o0, soff o0 + ((g344).toNat) * 3, none⟩)) <| s_pq (.pointer (some ⟨sblk o0, soff o0 + ((g344).toNat) * 3 + 1, none⟩)) ?_
    have f384 := (f347.mod mh351 (nb1 np_c_o0))
    refine s_load (.int .i64 x349.fr) (fun _ q => f384.load hx349 (j := 1) rfl rfl q) ?_
    refine s_row (α := Int) [x349.fr, 10000, 10001] (fun _ q => seg_i rfl (seg_i rfl (seg_i rfl (seg_nil q)))) rfl (by simp [maxLen]) (fun r385 h386 eh386 zh386 s_r385 fr_r385 => ?_)
    have E387 := E352.trans (Mod.of_ext eh386 _)
    have z388 := eh386.size
    have f389 := (Ch351.ext eh386)
    refine s_call [.pointer (some ⟨p_c, 0, none⟩), r385] rfl (spec_l1Cur_among_ok p_c t_c ((((m_c + 10 + 20 * (k : Int)) + 2) + 2) + 2) lo_c r385 [x349.fr, 10000, 10001] _ f389 s_r385.toSl (fun b hb hc => by simp at hc; have := fr_r385 b hb; omega) (by omega) (by first | omega | assumption | (simp; done) | (simp; omega))) ?_
    rintro _ h391 ⟨g390, rfl, qh391, Ch391, mh391⟩
    have zh391 := mh391.size
    have E392 := E387.new mh391 (fun b hb => .inl (by simp at hb; simp [hb]))
    simp only [List.mem_cons, List.not_mem_nil, or_false] at qh391
    refine s_pq (.pointer (some ⟨sblk o0, soff o0 + ((g344).toNat) * 3, none⟩)) <| s_pq (.pointer (some ⟨sblk o0, soff o0 + ((g344).toNat) * 3 + 2, none⟩)) ?_
    have f393 := ((f384.ext eh386).mod mh391 (nb1 np_c_o0))
    refine s_stSl (k := (g344).toNat) (j := 2) (⟨x349.link, x349.fr, g390⟩ : FogD) (.int .i64 g390) [.int .i64 g390] f393 rfl rfl rfl rfl rfl hx349 (Nat.le_of_ble_eq_true rfl) rfl (all_cons rfl all_nil) (fun h394 mh394 sh394 s395 => ?_)
    have E396 := E392.new mh394 (fun b hb => .inr (by have := fr_o0 b hb; omega))
    refine s_nil <| p_blkN <| p_seqN <| v_seq <| v_ops <| s_pq o0 <| s_pq o0 <| s_nil <| p_seqN <| v_ret <| p_ret [o0] o0 (fun _ q => q) rfl ?_
    have f397 := (Ch391.mod mh394 np_c_o0 (fun b hb => by have := fr_o0 b hb; omega))
    exact ⟨(l0.set ((g344).toNat) (⟨x349.link, x349.fr, g390⟩ : FogD)), o0, rfl, s395, (fr_o0.mono (by omega)), (by first | omega | (simp; done) | (simp; omega)), (f397.le (by omega)), E396⟩
   refine v_skip <| p_blkN <| p_seqN <| v_seq <| v_ops <| s_pq o0 <| s_pq o0 <| s_nil <| p_seqN <| v_ret <| p_ret [o0] o0 (fun _ q => q) rfl ?_
   have f398 := (f347.mod mh351 (nb1 np_c_o0))
   exact ⟨l0, o0, rfl, f398, (fr_o0.mono (by omega)), (by first | omega | (simp; done) | (simp; omega)), (Ch351.le (by omega)), E352⟩
  refine v_skip <| p_seqN <| v_seq <| v_ops <| s_pq o0 <| s_pq o0 <| s_nil <| p_seqN <| v_ret <| p_ret [o0] o0 (fun _ q => q) rfl ?_
  have f399 := (s_o0.mod mh261 (nb1 np_c_o0))
  exact ⟨l0, o0, rfl, f399, (fr_o0.mono (by omega)), (by first | omega | (simp; done) | (simp; omega)), (Ch261.le (by omega)), E262⟩
 refine s_pass rfl <| s_pass rfl <| s_pq (.bool false) <| s_nil <| p_seqN <| v_condN rfl (by simp) <| v_skip <| p_seqN <| v_seq <| v_seq <| v_ops <| s_pq o0 <| s_pure (.int .i64 (l0.length : Int)) (fun _ q => s_o0.lenVC q) <| s_pq (.bool (decide ((l0.length : Int) > 0))) <| s_nil <| p_seqN ?_
 refine v_cond rfl (fun c400 => ?_) (fun c400 => ?_)
 ·
  refine v_seq <| v_ops <| s_pq o0 <| s_pq (.pointer (some ⟨p_c, 0, none⟩)) <| s_pq o0 <| s_pure (.int .i64 (l0.length : Int)) (fun _ q => s_o0.lenVC q) <| s_call [.pointer (some ⟨p_c, 0, none⟩), .int .i64 (l0.length : Int)] rfl (spec_l1Cur_pick_ok p_c t_c (m_c + 10 + 20 * (k : Int)) lo_c (l0.length : Int) _ bxc (by omega)) ?_
  rintro _ h402 ⟨g401, rfl, qh402, Ch402, mh402⟩
  have zh402 := mh402.size
  have E403 := Eh.new mh402 (fun b hb => .inl (by simp at hb; simp [hb]))
  have f404 := (s_o0.mod mh402 (nb1 np_c_o0))
  have hk405 : (g401).toNat < l0.length := (by first | omega | (simp; omega))
  obtain ⟨x406, hx406⟩ : ∃ x, l0[(g401).toNat]? = some x := ⟨_, List.getElem?_eq_getElem hk405⟩
  refine s_pure (.pointer (some ⟨sblk o0, soff o0 + ((g401).toNat) * 3, none⟩)) (fun _ q => f404.idx (k := (g401).toNat) (by omega) hk405 q) <| s_pq (.pointer (some ⟨sblk o0, soff o0 + ((g401).toNat) * 3, none⟩)) <| s_nil <| p_seqN <| v_seq <| v_ops <| s_pq (.pointer (some ⟨p_c, 0, none⟩)) <| s_call [.pointer (some ⟨p_c, 0, none⟩), .int .i64 30] rfl (spec_l1Cur_pick_ok p_c t_c ((m_c + 10 + 20 * (k : Int)) + 2) lo_c 30 _ Ch402 (by omega)) ?_
  rintro _ h408 ⟨g407, rfl, qh408, Ch408, mh408⟩
  have zh408 := mh408.size
  have E409 := E403.new mh408 (fun b hb => .inl (by simp at hb; simp [hb]))
  refine s_nil <| p_seqN <| v_block <| v_seq <| v_ops <| s_pq (.bool (g407 == 0)) <| s_pq (.bool (g407 == 0)) <| s_nil <| p_seqN ?_
  refine v_cond rfl (fun c410 => ?_) (fun c410 => ?_)
  ·
   refine v_ops <| s_pq (.pointer (some ⟨sblk o0, soff o0 + ((g401).toNat) * 3, none⟩)) <| s_pq (.pointer (some ⟨p_c, 0, none⟩)) <| s_pq (.pointer (some ⟨b1, 1, none⟩)) ?_
   have f411 := ((bxb1.mod mh402 (by simp; omega)).mod mh408 (by simp; omega))
   refine s_load v_n_links (fun _ q => f411.load rfl q) <| s_pure (.int .i64 (n.links.length : Int)) (fun _ q => f14.lenVC q) ?_
   refine s_row (α := Int) [(-1), (n.links.length : Int)] (fun _ q => seg_i rfl (seg_i rfl (seg_nil q))) rfl (by simp [maxLen]) (fun r412 h413 eh413 zh413 s_r412 fr_r412 => ?_)
   have E414 := E409.trans (Mod.of_ext eh413 _)
   have z415 := eh413.size
   have f416 := (Ch408.ext eh413)
   refine s_call [.pointer (some ⟨p_c, 0, none⟩), r412] rfl (spec_l1Cur_among_ok p_c t_c (((m_c + 10 + 20 * (k : Int)) + 2) + 2) lo_c r412 [(-1), (n.links.length : Int)] _ f416 s_r412.toSl (fun b hb hc => by simp at hc; have := fr_r412 b hb; omega) (by omega) (by first | omega | assumption | (simp; done) | (simp; omega))) ?_
   rintro _ h418 ⟨g417, rfl, qh418, Ch418, mh418⟩
   have zh418 := mh418.size
   have E419 := E414.new mh418 (fun b hb => .inl (by simp at hb; simp [hb]))
   simp only [List.mem_cons, List.not_mem_nil, or_false] at qh418
   refine s_pq (.pointer (some ⟨sblk o0, soff o0 + ((g401).toNat) * 3, none⟩)) <| s_pq (.pointer (some ⟨sblk o0, soff o0 + ((g401).toNat) * 3, none⟩)) ?_
   have f420 := (((f404.mod mh408 (nb1 np_c_o0)).ext eh413).mod mh418 (nb1 np_c_o0))
   refine s_stSl (k := (g401).toNat) (j := 0) (⟨g417, x406.fr, x406.til⟩ : FogD) (.int .i64 g417) [.int .i64 g417] f420 rfl rfl rfl rfl rfl hx406 (Nat.le_of_ble_eq_true rfl) rfl (all_cons rfl all_nil) (fun h421 mh421 sh421 s422 => ?_)
   have E423 := E419.new mh421 (fun b hb => .inr (by have := fr_o0 b hb; omega))
   refine s_nil <| p_blkN <| p_seqN <| v_seq <| v_ops <| s_pq o0 <| s_pq o0 <| s_nil <| p_seqN <| v_ret <| p_ret [o0] o0 (fun _ q => q) rfl ?_
   have f424 := (Ch418.mod mh421 np_c_o0 (fun b hb => by have := fr_o0 b hb; omega))
   exact ⟨(l0.set ((g401).toNat) (⟨g417, x406.fr, x406.til⟩ : FogD)), o0, rfl, s422, (fr_o0.mono (by omega)), (by first | omega | (simp; done) | (simp; omega)), (f424.le (by omega)), E423⟩
  refine v_seq <| v_ops <| s_pq (.bool (g407 == 1)) <| s_pq (.bool (g407 == 1)) <| s_nil <| p_seqN ?_
  refine v_cond rfl (fun c425 => ?_) (fun c425 => ?_)
  ·
   refine v_ops <| s_pq (.pointer (some ⟨sblk o0, soff o0 + ((g401).toNat) * 3, none⟩)) <| s_pq (.pointer (some ⟨p_c, 0, none⟩)) <| s_pq (.pointer (some ⟨sblk o0, soff o0 + ((g401).toNat) * 3, none⟩)) <| s_pq (.pointer (some ⟨sblk o0, soff o0 + ((g401).toNat) * 3, none⟩)) <| s_pq (.pointer (some ⟨sblk o0, soff o0 + ((g401).toNat) * 3 + 2, none⟩)) ?_
   have f426 := (f404.mod mh408 (nb1 np_c_o0))
   refine s_load (.int .i64 x406.til) (fun _ q => f426.load hx406 (j := 2) rfl rfl q) ?_
   refine s_row (α := Int) [(-1), x406.til] (fun _ q => seg_i rfl (seg_i rfl (seg_nil q))) rfl (by simp [maxLen]) (fun r427 h428 eh428 zh428 s_r427 fr_r427 => ?_)
   have E429 := E409.trans (Mod.of_ext eh428 _)
   have z430 := eh428.size
   have f431 := (Ch408.ext eh428)
   refine s_call [.pointer (some ⟨p_c, 0, none⟩), r427] rfl (spec_l1Cur_among_ok p_c t_c (((m_c + 10 + 20 * (k : Int)) + 2) + 2) lo_c r427 [(-1), x406.til] _ f431 s_r427.toSl (fun b hb hc => by simp at hc; have := fr_r427 b hb; omega) (by omega) (by first | omega | assumption | (simp; done) | (simp; omega))) ?_
   rintro _ h433 ⟨g432, rfl, qh433, Ch433, mh433⟩
   have zh433 := mh433.size
   have E434 := E429.new mh433 (fun b hb => .inl (by simp at hb; simp [hb]))
   simp only [List.mem_cons, List.not_mem_nil, or_false] at qh433
   refine s_pq (.pointer (some ⟨sblk o0, soff o0 + ((g401).toNat) * 3, none⟩)) <| s_pq (.pointer (some ⟨sblk o0, soff o0 + ((g401).toNat) * 3 + 1, none⟩)) ?_
   have f435 := ((f426.ext eh428).mod mh433 (nb1 np_c_o0))
   refine s_stSl (k := (g401).toNat) (j := 1) (⟨x406.link, g432, x406.til⟩ : FogD) (.int .i64 g432) [.int .i64 g432] f435 rfl rfl rfl rfl rfl hx406 (Nat.le_of_ble_eq_true rfl) rfl (all_cons rfl all_nil) (fun h436 mh436 sh436 s437 => ?_)
   have E438 := E434.new mh436 (fun b hb => .inr (by have := fr_o0 b hb; omega))
   refine s_nil <| p_blkN <| p_seqN <| v_seq <| v_ops <| s_pq o0 <| s_pq o0 <| s_nil <| p_seqN <| v_ret <| p_ret [o0] o0 (fun _ q => q) rfl ?_
   have f439 := (Ch433.mod mh436 np_c_o0 (fun b hb => by have := fr_o0 b hb; omega))
   exact ⟨(l0.set ((g401).toNat) (⟨x406.link, g432, x406.til⟩ : FogD)), o0, rfl, s437, (fr_o0.mono (by omega)), (by first | omega | (simp; done) | (simp; omega)), (f439.le (by omega)), E438⟩
  refine v_seq <| v_ops <| s_pq (.bool (g407 == 2)) <| s_pq (.bool (g407 == 2)) <| s_nil <| p_seqN ?_
  refine v_cond rfl (fun c440 => ?_) (fun c440 => ?_)
  ·
   refine v_ops <| s_pq (.pointer (some ⟨sblk o0, soff o0 + ((g401).toNat) * 3, none⟩)) <| s_pq (.pointer (some ⟨p_c, 0, none⟩)) <| s_pq (.pointer (some ⟨sblk o0, soff o0 + ((g401).toNat) * 3, none⟩)) <| s_pq (.pointer (some ⟨sblk o0, soff o0 + ((g401).toNat) * 3, none⟩)) <| s_pq (.pointer (some ⟨sblk o0, soff o0 + ((g401).toNat) * 3 + 1, none⟩)) ?_
   have f441 := (f404.mod mh408 (nb1 np_c_o0))
   refine s_load (.int .i64 x406.fr) (fun _ q => f441.load hx406 (j := 1) rfl rfl q) ?_
   refine s_row (α := Int) [x406.fr, 10000, 10001] (fun _ q => seg_i rfl (seg_i rfl (seg_i rfl (seg_nil q)))) rfl (by simp [maxLen]) (fun r442 h443 eh443 zh443 s_r442 fr_r442 => ?_)
   have E444 := E409.trans (Mod.of_ext eh443 _)
   have z445 := eh443.size
   have f446 := (Ch408.ext eh443)
   refine s_call [.pointer (some ⟨p_c, 0, none⟩), r442] rfl (spec_l1Cur_among_ok p_c t_c (((m_c + 10 + 20 * (k : Int)) + 2) + 2) lo_c r442 [x406.fr, 10000, 10001] _ f446 s_r442.toSl (fun b hb hc => by simp at hc; have := fr_r442 b hb; omega) (by omega) (by first | omega | assumption | (simp; done) | (simp; omega))) ?_
   rintro _ h448 ⟨g447, rfl, qh448, Ch448, mh448⟩
   have zh448 := mh448.size
   have E449 := E444.new mh448 (fun b hb => .inl (by simp at hb; simp [hb]))
   simp only [List.mem_cons, List.not_mem_nil, or_false] at qh448
   refine s_pq (.pointer (some ⟨sblk o0, soff o0 + ((g401).toNat) * 3, none⟩)) <| s_pq (.pointer (some ⟨sblk o0, soff o0 + ((g401).toNat) * 3 + 2, none⟩)) ?_
   have f450 := ((f441.ext eh443).mod mh448 (nb1 np_c_o0))
   refine s_stSl (k := (g401).toNat) (j := 2) (⟨x406.link, x406.fr, g447⟩ : FogD) (.int .i64 g447) [.int .i64 g447] f450 rfl rfl rfl rfl rfl hx406 (Nat.le_of_ble_eq_true rfl) rfl (all_cons rfl all_nil) (fun h451 mh451 sh451 s452 => ?_)
   have E453 := E449.new mh451 (fun b hb => .inr (by have := fr_o0 b hb; omega))
   refine s_nil <| p_blkN <| p_seqN <| v_seq <| v_ops <| s_pq o0 <| s_pq o0 <| s_nil <| p_seqN <| v_ret <| p_ret [o0] o0 (fun _ q => q) rfl ?_
   have f454 := (Ch448.mod mh451 np_c_o0 (fun b hb => by have := fr_o0 b hb; omega))
   exact ⟨(l0.set ((g401).toNat) (⟨x406.link, x406.fr, g447⟩ : FogD)), o0, rfl, s452, (fr_o0.mono (by omega)), (by first | omega | (simp; done) | (simp; omega)), (f454.le (by omega)), E453⟩
  refine v_skip <| p_blkN <| p_seqN <| v_seq <| v_ops <| s_pq o0 <| s_pq o0 <| s_nil <| p_seqN <| v_ret <| p_ret [o0] o0 (fun _ q => q) rfl ?_
  have f455 := (f404.mod mh408 (nb1 np_c_o0))
  exact ⟨l0, o0, rfl, f455, (fr_o0.mono (by omega)), (by first | omega | (simp; done) | (simp; omega)), (Ch408.le (by omega)), E409⟩
 refine v_skip <| p_seqN <| v_seq <| v_ops <| s_pq o0 <| s_pq o0 <| s_nil <| p_seqN <| v_ret <| p_ret [o0] o0 (fun _ q => q) rfl ?_
 exact ⟨l0, o0, rfl, s_o0, (fr_o0.mono (by omega)), (by first | omega | (simp; done) | (simp; omega)), (bxc.le (by omega)), Eh⟩

theorem spec_l1Cur_foggy_ok (p_c : Nat) (t_c : TypeId) (m_c : Int) (lo_c : Nat) (h : Heap) (C_c : Cur h p_c t_c m_c lo_c) (hm : m_c + 12000 ≤ 4000000000000000000) : Cn f_spec_l1Cur_foggy [.pointer (some ⟨p_c, 0, none⟩)] h fun v h' => ∃ g0 : NetP, ∃ g1 : List FogD, ∃ r0 : Value, ∃ r1 : Value, ∃ r2 : Value, v = .tuple #[.agg #[r0, r1], r2] ∧ SlO h' r0 g0.towers ∧ Fr h.size r0 ∧ SlO h' r1 g0.links ∧ Fr h.size r1 ∧ SlO h' r2 g1 ∧ Fr h.size r2 ∧ (∀ b ∈ blks r0, b ∉ blks r1) ∧ (∀ b ∈ blks r0, b ∉ blks r2) ∧ (∀ b ∈ blks r1, b ∉ blks r2) ∧ (g0.towers.length ≤ 20 ∧ g0.links.length ≤ 50 ∧ g1.length ≤ 61) ∧ Cur h' p_c t_c (m_c + 12000) lo_c ∧ Mod [p_c] h h' := by
 have lc_c := C_c.lt
 have ll_c := C_c.low
 have lm_c := C_c.top
 refine calls_of r_spec_l1Cur_foggy ?_
 refine v_seq <| v_ops ?_
 refine s_new (fun h2 b1 hbb1 hzb1 eh2 bxb1 => ?_)
 have E3 := (Mod.refl [p_c] h).trans (Mod.of_ext eh2 _)
 have z4 := eh2.size
 have lbb1 := bxb1.lt
 refine s_pq (.slice none 0 0) <| s_nil <| p_seqN <| v_seq <| v_ops <| s_pq (.pointer (some ⟨p_c, 0, none⟩)) ?_
 have f5 := (C_c.ext eh2)
 refine s_call [.pointer (some ⟨p_c, 0, none⟩)] rfl (spec_l1Cur_net_ok p_c t_c m_c lo_c _ f5 (by omega)) ?_
 rintro _ h9 ⟨g6, r7, r8, rfl, s_r7, fr_r7, s_r8, fr_r8, ap_r7_r8, qh9, Ch9, mh9⟩
 have zh9 := mh9.size
 have E10 := E3.new mh9 (fun b hb => .inl (by simp at hb; simp [hb]))
 have lt_r7 := s_r7.lt
 have lt_r8 := s_r8.lt
 refine s_new (fun h12 b11 hbb11 hzb11 eh12 bxb11 => ?_)
 have E13 := E10.trans (Mod.of_ext eh12 _)
 have z14 := eh12.size
 have lbb11 := bxb11.lt
 refine s_stBx (.agg #[r7, r8]) [r7, r8] [r7, r8] bxb11 rfl rfl rfl rfl (by simp) (all_cons s_r7.one1 (all_cons s_r8.one1 all_nil)) rfl (fun h15 mh15 sh15 bxx16 => ?_)
 have E17 := E13.new mh15 (fun b hb => .inr (by simp at hb; omega))
 refine s_nil <| p_seqN <| v_seq <| v_seq <| v_ops <| s_pq (.pointer (some ⟨p_c, 0, none⟩)) ?_
 have f18 := ((Ch9.ext eh12).mod mh15 (by simp; omega) (fun b hb => by simp at hb; omega))
 refine s_call [.pointer (some ⟨p_c, 0, none⟩), .int .i64 20] rfl (spec_l1Cur_one_ok p_c t_c (m_c + 4000) lo_c 20 _ f18 (by omega)) ?_
 rintro _ h20 ⟨g19, rfl, Ch20, mh20⟩
 have zh20 := mh20.size
 have E21 := E17.new mh20 (fun b hb => .inl (by simp at hb; simp [hb]))
 refine s_nil <| p_seqN ?_
 refine v_cond rfl (fun c22 => ?_) (fun c22 => ?_)
 ·
  refine v_ops <| s_pq (.pointer (some ⟨p_c, 0, none⟩)) <| s_call [.pointer (some ⟨p_c, 0, none⟩)] rfl (spec_l1Cur_anyNet_ok p_c t_c ((m_c + 4000) + 2) lo_c _ Ch20 (by omega)) ?_
  rintro _ h26 ⟨g23, r24, r25, rfl, s_r24, fr_r24, s_r25, fr_r25, ap_r24_r25, qh26, Ch26, mh26⟩
  have zh26 := mh26.size
  have E27 := E21.new mh26 (fun b hb => .inl (by simp at hb; simp [hb]))
  have lt_r24 := s_r24.lt
  have lt_r25 := s_r25.lt
  have f28 := ((bxx16.mod mh20 (by simp; omega)).mod mh26 (by simp; omega))
  refine s_stBx (.agg #[r24, r25]) [r24, r25] [r24, r25] f28 rfl rfl rfl rfl (by simp) (all_cons s_r24.one1 (all_cons s_r25.one1 all_nil)) rfl (fun h29 mh29 sh29 bxx30 => ?_)
  have E31 := E27.new mh29 (fun b hb => .inr (by simp at hb; omega))
  refine s_nil <| p_seqN <| v_seq ?_
  refine v_draw (DrawVC.hold ([b11]) ?_)
  refine d_pq (.pointer (some ⟨p_c, 0, none⟩)) <| d_loadO (.agg #[r24, r25]) (fun _ q => bxx30.loadA rfl q) <| d_loadT (.agg #[r24, r25]) (fun _ q => bxx30.takeA (by simp) rfl q) <| d_eff ?_
  have f32 := (Ch26.mod mh29 (by simp; omega) (fun b hb => by simp at hb; omega))
  have f33 := (s_r24.mod mh29 (fun b hb hc => by simp at hc; have := fr_r24 b hb; omega))
  have f34 := (s_r25.mod mh29 (fun b hb hc => by simp at hc; have := fr_r25 b hb; omega))
  refine s_call [.pointer (some ⟨p_c, 0, none⟩), .agg #[r24, r25]] rfl (spec_l1Cur_fog_ok p_c t_c (((m_c + 4000) + 2) + 5000) lo_c g23 r24 r25 _ f32 f33.toSl (fun b hb hc => by simp at hc; have := fr_r24 b hb; omega) f34.toSl (fun b hb hc => by simp at hc; have := fr_r25 b hb; omega) (by omega) (by first | omega | assumption | (simp; done) | (simp; omega))) ?_
  rintro r36 h37 ⟨g35, _, rfl, s_r36, fr_r36, qh37, Ch37, mh37⟩
  have zh37 := mh37.size
  have E38 := E31.new mh37 (fun b hb => .inl (by simp at hb; simp [hb]))
  have G39 := gmod1 (b := b11) (h := h29) (h0 := h29) mh37 (by omega) (by simp; omega) (fun _ _ => rfl)
  refine s_nil ⟨fun _ x hx => G39 x hx, ?_⟩
  refine d_eff ?_
  have f40 := (((((((bxb1.mod mh9 (by simp; omega)).ext eh12).mod mh15 (by simp; omega)).mod mh20 (by simp; omega)).mod mh26 (by simp; omega)).mod mh29 (by simp; omega)).mod mh37 (by simp; omega))
  refine s_stBx (.agg #[r24, r25]) [r24, r25] [r24, r25] f40 rfl rfl rfl rfl (by simp) (all_cons f33.one1 (all_cons f34.one1 all_nil)) rfl (fun h41 mh41 sh41 bxx42 => ?_)
  have E43 := E38.new mh41 (fun b hb => .inr (by simp at hb; omega))
  refine s_nil ⟨fun hl => (by cases hl), ?_⟩
  refine d_pq r36 <| d_done <| p_seqN <| v_ret <| p_ret [.agg #[r24, r25], r36] (.tuple #[.agg #[r24, r25], r36]) (fun _ q => (bxx42.loadA rfl q)) rfl ?_
  have f44 := ((f33.mod mh37 (fun b hb hc => by simp at hc; have := fr_r24 b hb; omega)).mod mh41 (fun b hb hc => by simp at hc; have := fr_r24 b hb; omega))
  have f45 := ((f34.mod mh37 (fun b hb hc => by simp at hc; have := fr_r25 b hb; omega)).mod mh41 (fun b hb hc => by simp at hc; have := fr_r25 b hb; omega))
  have f46 := (s_r36.mod mh41 (fun b hb hc => by simp at hc; have := fr_r36 b hb; omega))
  have f47 := (Ch37.mod mh41 (by simp; omega) (fun b hb => by simp at hb; omega))
  exact ⟨⟨g23.towers, g23.links⟩, g35, r24, r25, r36, rfl, f44, (fr_r24.mono (by omega)), f45, (fr_r25.mono (by omega)), f46, (fr_r36.mono (by omega)), ap_r24_r25, (fun b hb hc => by have := lt_r24 b hb; have := fr_r36 b hc; omega), (fun b hb hc => by have := lt_r25 b hb; have := fr_r36 b hc; omega), (by (try simp only); exact ⟨by omega, by omega, by omega⟩), (f47.le (by omega)), E43⟩
 refine v_skip <| p_seqN <| v_seq ?_
 have f48 := (bxx16.mod mh20 (by simp; omega))
 refine v_draw (DrawVC.hold ([b11]) ?_)
 refine d_pq (.pointer (some ⟨p_c, 0, none⟩)) <| d_loadO (.agg #[r7, r8]) (fun _ q => f48.loadA rfl q) <| d_loadT (.agg #[r7, r8]) (fun _ q => f48.takeA (by simp) rfl q) <| d_eff ?_
 have f49 := (((s_r7.ext eh12).mod mh15 (fun b hb hc => by simp at hc; have := lt_r7 b hb; omega)).mod mh20 (fun b hb hc => by simp at hc; have := fr_r7 b hb; omega))
 have f50 := (((s_r8.ext eh12).mod mh15 (fun b hb hc => by simp at hc; have := lt_r8 b hb; omega)).mod mh20 (fun b hb hc => by simp at hc; have := fr_r8 b hb; omega))
 refine s_call [.pointer (some ⟨p_c, 0, none⟩), .agg #[r7, r8]] rfl (spec_l1Cur_fog_ok p_c t_c ((m_c + 4000) + 2) lo_c g6 r7 r8 _ Ch20 f49.toSl (fun b hb hc => by simp at hc; have := fr_r7 b hb; omega) f50.toSl (fun b hb hc => by simp at hc; have := fr_r8 b hb; omega) (by omega) (by first | omega | assumption | (simp; done) | (simp; omega))) ?_
 rintro r52 h53 ⟨g51, _, rfl, s_r52, fr_r52, qh53, Ch53, mh53⟩
 have zh53 := mh53.size
 have E54 := E21.new mh53 (fun b hb => .inl (by simp at hb; simp [hb]))
 have G55 := gmod1 (b := b11) (h := h20) (h0 := h20) mh53 (by omega) (by simp; omega) (fun _ _ => rfl)
 refine s_nil ⟨fun _ x hx => G55 x hx, ?_⟩
 refine d_eff ?_
 have f56 := (((((bxb1.mod mh9 (by simp; omega)).ext eh12).mod mh15 (by simp; omega)).mod mh20 (by simp; omega)).mod mh53 (by simp; omega))
 refine s_stBx (.agg #[r7, r8]) [r7, r8] [r7, r8] f56 rfl rfl rfl rfl (by simp) (all_cons f49.one1 (all_cons f50.one1 all_nil)) rfl (fun h57 mh57 sh57 bxx58 => ?_)
 have E59 := E54.new mh57 (fun b hb => .inr (by simp at hb; omega))
 refine s_nil ⟨fun hl => (by cases hl), ?_⟩
 refine d_pq r52 <| d_done <| p_seqN <| v_ret <| p_ret [.agg #[r7, r8], r52] (.tuple #[.agg #[r7, r8], r52]) (fun _ q => (bxx58.loadA rfl q)) rfl ?_
 have f60 := ((f49.mod mh53 (fun b hb hc => by simp at hc; have := fr_r7 b hb; omega)).mod mh57 (fun b hb hc => by simp at hc; have := fr_r7 b hb; omega))
 have f61 := ((f50.mod mh53 (fun b hb hc => by simp at hc; have := fr_r8 b hb; omega)).mod mh57 (fun b hb hc => by simp at hc; have := fr_r8 b hb; omega))
 have f62 := (s_r52.mod mh57 (fun b hb hc => by simp at hc; have := fr_r52 b hb; omega))
 have f63 := (Ch53.mod mh57 (by simp; omega) (fun b hb => by simp at hb; omega))
 exact ⟨⟨g6.towers, g6.links⟩, g51, r7, r8, r52, rfl, f60, (fr_r7.mono (by omega)), f61, (fr_r8.mono (by omega)), f62, (fr_r52.mono (by omega)), ap_r7_r8, (fun b hb hc => by have := lt_r7 b hb; have := fr_r52 b hc; omega), (fun b hb hc => by have := lt_r8 b hb; have := fr_r52 b hc; omega), (by (try simp only); exact ⟨by omega, by omega, by omega⟩), (f63.le (by omega)), E59⟩

end Go.Proofs.Ytgbaonaopkdlpaa

