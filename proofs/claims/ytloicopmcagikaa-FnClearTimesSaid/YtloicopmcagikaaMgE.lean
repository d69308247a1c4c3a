/- Wy2. Condition: none. -/
import Derived.Test.YtloicopmcagikaaMgB
import Derived.Test.YtloicopmcagikaaMgD
/- What is drawn for nets. Condition: none. Printed in part by a program. -/
namespace Go.Proofs.Ytloicopmcagikaa
open Go.Vc
set_option linter.all false
theorem spec_l1Cur_second_ok (p_c : Nat) (t_c : TypeId) (m_c : Int) (lo_c : Nat) (h : Heap) (C_c : Cur h p_c t_c m_c lo_c) (hm : m_c + 20 ≤ 4000000000000000000) : Cn f_spec_l1Cur_second [.pointer (some ⟨p_c, 0, none⟩)] h fun v h' => ∃ g0 : Int, v = .int .i64 g0 ∧ (-1 ≤ g0 ∧ g0 ≤ 10001) ∧ Cur h' p_c t_c (m_c + 20) lo_c ∧ Mod [p_c] h h' := by
 have lc_c := C_c.lt
 have ll_c := C_c.low
 have lm_c := C_c.top
 refine calls_of r_spec_l1Cur_second ?_
 refine v_seq <| v_ops <| s_pq (.int .i64 0) <| s_nil <| p_seqN <| v_seq <| v_ops <| s_pq (.pointer (some ⟨p_c, 0, none⟩)) <| s_pq (.pointer (some ⟨p_c, 0, none⟩)) <| s_call [.pointer (some ⟨p_c, 0, none⟩), .int .i64 100] rfl (spec_l1Cur_pick_ok p_c t_c m_c lo_c 100 _ C_c (by omega)) ?_
 rintro _ h2 ⟨g1, rfl, qh2, Ch2, mh2⟩
 have zh2 := mh2.size
 have E3 := (Mod.refl [p_c] h).new mh2 (fun b hb => .inl (by simp at hb; simp [hb]))
 refine s_pq (.pointer (some ⟨p_c, 0, none⟩)) <| s_call [.pointer (some ⟨p_c, 0, none⟩), .int .i64 100] rfl (spec_l1Cur_pick_ok p_c t_c (m_c + 2) lo_c 100 _ Ch2 (by omega)) ?_
 rintro _ h5 ⟨g4, rfl, qh5, Ch5, mh5⟩
 have zh5 := mh5.size
 have E6 := E3.new mh5 (fun b hb => .inl (by simp at hb; simp [hb]))
 refine s_pq (.pointer (some ⟨p_c, 0, none⟩)) <| s_call [.pointer (some ⟨p_c, 0, none⟩), .int .i64 200] rfl (spec_l1Cur_pick_ok p_c t_c ((m_c + 2) + 2) lo_c 200 _ Ch5 (by omega)) ?_
 rintro _ h8 ⟨g7, rfl, qh8, Ch8, mh8⟩
 have zh8 := mh8.size
 have E9 := E6.new mh8 (fun b hb => .inl (by simp at hb; simp [hb]))
 refine s_pq (.pointer (some ⟨p_c, 0, none⟩)) ?_
 refine s_row (α := Int) [10000, 10001, (-1)] (fun _ q => seg_i rfl (seg_i rfl (seg_i rfl (seg_nil q)))) rfl (by simp [maxLen]) (fun r10 h11 eh11 zh11 s_r10 fr_r10 => ?_)
 have E12 := E9.trans (Mod.of_ext eh11 _)
 have z13 := eh11.size
 have f14 := (Ch8.ext eh11)
 refine s_call [.pointer (some ⟨p_c, 0, none⟩), r10] rfl (spec_l1Cur_among_ok p_c t_c (((m_c + 2) + 2) + 2) lo_c r10 [10000, 10001, (-1)] _ f14 s_r10.toSl (fun b hb hc => by simp at hc; have := fr_r10 b hb; omega) (by omega) (by first | omega | assumption | (simp; done) | (simp; omega))) ?_
 rintro _ h16 ⟨g15, rfl, qh16, Ch16, mh16⟩
 have zh16 := mh16.size
 have E17 := E12.new mh16 (fun b hb => .inl (by simp at hb; simp [hb]))
 simp only [List.mem_cons, List.not_mem_nil, or_false] at qh16
 refine s_row (α := Int) [0, 12, g1, g4, g7, g15] (fun _ q => seg_i rfl (seg_i rfl (seg_i rfl (seg_i rfl (seg_i rfl (seg_i rfl (seg_nil q))))))) rfl (by simp [maxLen]) (fun r18 h19 eh19 zh19 s_r18 fr_r18 => ?_)
 have E20 := E17.trans (Mod.of_ext eh19 _)
 have z21 := eh19.size
 have f22 := (Ch16.ext eh19)
 refine s_call [.pointer (some ⟨p_c, 0, none⟩), r18] rfl (spec_l1Cur_among_ok p_c t_c ((((m_c + 2) + 2) + 2) + 2) lo_c r18 [0, 12, g1, g4, g7, g15] _ f22 s_r18.toSl (fun b hb hc => by simp at hc; have := fr_r18 b hb; omega) (by omega) (by first | omega | assumption | (simp; done) | (simp; omega))) ?_
 rintro _ h24 ⟨g23, rfl, qh24, Ch24, mh24⟩
 have zh24 := mh24.size
 have E25 := E20.new mh24 (fun b hb => .inl (by simp at hb; simp [hb]))
 simp only [List.mem_cons, List.not_mem_nil, or_false] at qh24
 refine s_pq (.int .i64 g23) <| s_nil <| p_seqN <| v_ret <| p_ret [.int .i64 g23] (.int .i64 g23) (fun _ q => q) rfl ?_
 exact ⟨g23, rfl, (by first | omega | (simp_all; omega)), (Ch24.le (by omega)), E25⟩

theorem spec_l1Cur_link_ok (p_c : Nat) (t_c : TypeId) (m_c : Int) (lo_c : Nat) (n : NetP) (v_n_towers : Value) (v_n_links : Value) (h : Heap) (C_c : Cur h p_c t_c m_c lo_c) (s_n_towers : Sl h v_n_towers n.towers) (ap_n_towers : ∀ b ∈ blks v_n_towers, b ∉ [p_c]) (s_n_links : Sl h v_n_links n.links) (ap_n_links : ∀ b ∈ blks v_n_links, b ∉ [p_c]) (hm : m_c + 20 ≤ 4000000000000000000) (hn : n.links.length ≤ 1000) : Cn f_spec_l1Cur_link [.pointer (some ⟨p_c, 0, none⟩), .agg #[v_n_towers, v_n_links]] h fun v h' => ∃ g0 : Int, v = .int .i64 g0 ∧ (-1 ≤ g0 ∧ g0 ≤ (n.links.length : Int)) ∧ Cur h' p_c t_c (m_c + 20) lo_c ∧ Mod [p_c] h h' := by
 have lc_c := C_c.lt
 have ll_c := C_c.low
 have lm_c := C_c.top
 have l63_n_towers := s_n_towers.len63
 have l63_n_links := s_n_links.len63
 refine calls_of r_spec_l1Cur_link ?_
 refine v_seq <| v_ops ?_
 refine s_box [v_n_towers, v_n_links] rfl (fun h2 b1 hbb1 hzb1 eh2 bxb1 => ?_)
 have E3 := (Mod.refl [p_c] h).trans (Mod.of_ext eh2 _)
 have z4 := eh2.size
 have lbb1 := bxb1.lt
 refine s_pq (.int .i64 0) <| s_nil <| p_seqN <| v_seq ?_
 refine v_draw (DrawVC.hold ([b1]) ?_)
 refine d_pq (.pointer (some ⟨p_c, 0, none⟩)) <| d_pq (.pointer (some ⟨b1, 1, none⟩)) <| d_pq (.pointer (some ⟨p_c, 0, none⟩)) <| d_pq (.pointer (some ⟨p_c, 0, none⟩)) <| d_loadT v_n_links (fun _ q => bxb1.take (by simp) rfl q) <| d_pureT (.int .i64 (n.links.length : Int)) (fun _ q => s_n_links.lenVC q) <| d_eff ?_
 have f5 := (C_c.ext eh2)
 refine s_call [.pointer (some ⟨p_c, 0, none⟩), .int .i64 16] rfl (spec_l1Cur_pick_ok p_c t_c m_c lo_c 16 _ f5 (by omega)) ?_
 rintro _ h7 ⟨g6, rfl, qh7, Ch7, mh7⟩
 have zh7 := mh7.size
 have E8 := E3.new mh7 (fun b hb => .inl (by simp at hb; simp [hb]))
 have G9 := gmod1 (b := b1) (h := h2) (h0 := h2) mh7 (by omega) (by simp; omega) (fun _ _ => rfl)
 refine s_nil ⟨fun _ x hx => G9 x hx, ?_⟩
 refine d_pureT (.int .i64 (g6 / 15)) (fun _ q => QuoVC.mk (by omega) (by omega) (by omega) q) <| d_pureT (.int .i64 ((n.links.length : Int) + (g6 / 15))) (fun _ q => ArithVC.mk (by omega) q) <| d_eff <| s_call [.pointer (some ⟨p_c, 0, none⟩), .int .i64 ((n.links.length : Int) + (g6 / 15))] rfl (spec_l1Cur_pick_ok p_c t_c (m_c + 2) lo_c ((n.links.length : Int) + (g6 / 15)) _ Ch7 (by omega)) ?_
 rintro _ h11 ⟨g10, rfl, qh11, Ch11, mh11⟩
 have zh11 := mh11.size
 have E12 := E8.new mh11 (fun b hb => .inl (by simp at hb; simp [hb]))
 refine s_nil ⟨fun hl => (by cases hl), ?_⟩
 refine d_eff <| s_call [.pointer (some ⟨p_c, 0, none⟩), .int .i64 24] rfl (spec_l1Cur_pick_ok p_c t_c ((m_c + 2) + 2) lo_c 24 _ Ch11 (by omega)) ?_
 rintro _ h14 ⟨g13, rfl, qh14, Ch14, mh14⟩
 have zh14 := mh14.size
 have E15 := E12.new mh14 (fun b hb => .inl (by simp at hb; simp [hb]))
 refine s_nil ⟨fun hl => (by cases hl), ?_⟩
 refine d_pureT (.int .i64 (g13 / 23)) (fun _ q => QuoVC.mk (by omega) (by omega) (by omega) q) <| d_pureT (.int .i64 (g10 - (g13 / 23))) (fun _ q => ArithVC.mk (by omega) q) <| d_pq (.int .i64 (g10 - (g13 / 23))) <| d_done <| p_seqN <| v_ret <| p_ret [.int .i64 (g10 - (g13 / 23))] (.int .i64 (g10 - (g13 / 23))) (fun _ q => q) rfl ?_
 exact ⟨(g10 - (g13 / 23)), rfl, (by first | omega | (simp_all; omega)), (Ch14.le (by omega)), E15⟩

set_option maxRecDepth 10000 in
set_option maxHeartbeats 4000000 in
theorem spec_l1Cur_net_ok (p_c : Nat) (t_c : TypeId) (m_c : Int) (lo_c : Nat) (h : Heap) (C_c : Cur h p_c t_c m_c lo_c) (hm : m_c + 4000 ≤ 4000000000000000000) : Cn f_spec_l1Cur_net [.pointer (some ⟨p_c, 0, none⟩)] h fun v h' => ∃ g0 : NetP, ∃ r0 : Value, ∃ r1 : Value, v = .agg #[r0, r1] ∧ SlO h' r0 g0.towers ∧ Fr h.size r0 ∧ SlO h' r1 g0.links ∧ Fr h.size r1 ∧ (∀ b ∈ blks r0, b ∉ blks r1) ∧ (1 ≤ g0.towers.length ∧ g0.towers.length ≤ 16 ∧ g0.links.length ≤ 40) ∧ Cur h' p_c t_c (m_c + 4000) lo_c ∧ Mod [p_c] h h' := by
 have lc_c := C_c.lt
 have ll_c := C_c.low
 have lm_c := C_c.top
 refine calls_of r_spec_l1Cur_net ?_
 refine v_seq <| v_ops ?_
 refine s_new (fun h2 b1 hbb1 hzb1 eh2 bxb1 => ?_)
 have E3 := (Mod.refl [p_c] h).trans (Mod.of_ext eh2 _)
 have z4 := eh2.size
 have lbb1 := bxb1.lt
 refine s_nil <| p_seqN <| v_seq <| v_ops <| s_pure (.agg #[.slice none 0 0, .slice none 0 0]) (fun _ q => w_build (seg_nil q)) ?_
 refine s_new (fun h6 b5 hbb5 hzb5 eh6 bxb5 => ?_)
 have E7 := E3.trans (Mod.of_ext eh6 _)
 have z8 := eh6.size
 have lbb5 := bxb5.lt
 refine s_stBx (.agg #[.slice none 0 0, .slice none 0 0]) [.slice none 0 0, .slice none 0 0] [.slice none 0 0, .slice none 0 0] bxb5 rfl rfl rfl rfl (by simp) (all_cons rfl (all_cons rfl all_nil)) rfl (fun h9 mh9 sh9 bxx10 => ?_)
 have E11 := E7.new mh9 (fun b hb => .inr (by simp at hb; omega))
 refine s_nil <| p_seqN <| v_seq <| v_ops <| s_pq (.pointer (some ⟨p_c, 0, none⟩)) ?_
 have f12 := (((C_c.ext eh2).ext eh6).mod mh9 (by simp; omega) (fun b hb => by simp at hb; omega))
 refine s_call [.pointer (some ⟨p_c, 0, none⟩), .int .i64 6] rfl (spec_l1Cur_pick_ok p_c t_c m_c lo_c 6 _ f12 (by omega)) ?_
 rintro _ h14 ⟨g13, rfl, qh14, Ch14, mh14⟩
 have zh14 := mh14.size
 have E15 := E11.new mh14 (fun b hb => .inl (by simp at hb; simp [hb]))
 refine s_pure (.int .i64 (1 + g13)) (fun _ q => ArithVC.mk (by omega) q) <| s_pq (.int .i64 (1 + g13)) <| s_nil <| p_seqN <| v_seq <| v_seq <| v_ops <| s_pq (.pointer (some ⟨p_c, 0, none⟩)) <| s_call [.pointer (some ⟨p_c, 0, none⟩), .int .i64 24] rfl (spec_l1Cur_one_ok p_c t_c (m_c + 2) lo_c 24 _ Ch14 (by omega)) ?_
 rintro _ h17 ⟨g16, rfl, Ch17, mh17⟩
 have zh17 := mh17.size
 have E18 := E15.new mh17 (fun b hb => .inl (by simp at hb; simp [hb]))
 refine s_nil <| p_seqN ?_
 refine v_cond rfl (fun c19 => ?_) (fun c19 => ?_)
 ·
  refine v_ops <| s_pq (.int .i64 16) <| s_nil <| p_seqN <| v_seq <| v_block ?_
  have f21 := ((((bxb1.ext eh6).mod mh9 (by simp; omega)).mod mh14 (by simp; omega)).mod mh17 (by simp; omega))
  have f22 := ((bxx10.mod mh14 (by simp; omega)).mod mh17 (by simp; omega))
  refine v_loop2 (α := List TowerD) (β := Value) (fun ts o3 => [(0, .pointer (some ⟨p_c, 0, none⟩)), (2, .pointer (some ⟨b1, 0, none⟩)), (3, .pointer (some ⟨b5, 0, none⟩)), (4, .int .i64 16)]) (fun ts o3 hh => Mod [p_c] h hh ∧ Cur hh p_c t_c (m_c + 10 + 12 * (ts.length : Int)) lo_c ∧ Bx hh b1 [.slice none 0 0, .slice none 0 0] 27 ∧ Bx hh b5 [o3, .slice none 0 0] 27 ∧ SlO hh o3 ts ∧ Fr h.size o3 ∧ p_c ∉ blks o3 ∧ b1 ∉ blks o3 ∧ b5 ∉ blks o3 ∧ (ts.length : Int) ≤ 16) (fun ts o3 => ((16 : Int) - (ts.length : Int)).toNat) [] (.slice none 0 0) ⟨rfl, rfl, rfl, rfl⟩ ⟨E18, (Ch17.le (by first | omega | (simp; done) | (simp; omega))), f21, f22, (sl_eq (SlX.nil (α := TowerD) true h17) (by simp)), (Fr.nil _), (by simp [blks, fpts]), (by simp [blks, fpts]), (by simp [blks, fpts]), (by first | omega | (simp; done) | (simp; omega))⟩ ?_
  rintro ts o3 R23 h20 ⟨Eh, bxc, bxb1, bxb5, s_o3, fr_o3, np_c_o3, np_b1_o3, np_b5_o3, hts⟩
  have zEh := Eh.size
  have lbc := bxc.lt
  have lbb1 := bxb1.lt
  have lbb5 := bxb5.lt
  refine v_seq <| v_seq <| v_ops <| s_pq (.pointer (some ⟨b5, 0, none⟩)) <| s_load o3 (fun _ q => bxb5.load rfl q) <| s_pure (.int .i64 (ts.length : Int)) (fun _ q => s_o3.lenVC q) <| s_pq (.int .i64 16) <| s_pq (.bool (decide ((ts.length : Int) < 16))) <| s_nil <| p_seqN ?_
  refine v_cond rfl (fun c25 => ?_) (fun c25 => ?_)
  ·
   refine v_skip <| p_seqN <| v_block ?_
   refine v_draw (DrawVC.hold ([b5]) ?_)
   refine d_pq (.pointer (some ⟨b5, 0, none⟩)) <| d_pq (.pointer (some ⟨p_c, 0, none⟩)) <| d_pq (.pointer (some ⟨p_c, 0, none⟩)) <| d_pq (.pointer (some ⟨p_c, 0, none⟩)) <| d_pq (.pointer (some ⟨p_c, 0, none⟩)) <| d_pq (.pointer (some ⟨p_c, 0, none⟩)) <| d_loadT o3 (fun _ q => bxb5.take (by simp) rfl q) ?_
   refine d_fork ?_ ?_
   ·
    refine d_eff <| s_call [.pointer (some ⟨p_c, 0, none⟩), .int .i64 400] rfl (spec_l1Cur_pick_ok p_c t_c (m_c + 10 + 12 * (ts.length : Int)) lo_c 400 _ bxc (by omega)) ?_
    rintro _ h27 ⟨g26, rfl, qh27, Ch27, mh27⟩
    have zh27 := mh27.size
    have E28 := Eh.new mh27 (fun b hb => .inl (by simp at hb; simp [hb]))
    have G29 := gmod1 (b := b5) (h := h20) (h0 := h20) mh27 (by omega) (by simp; omega) (fun _ _ => rfl)
    refine s_nil ⟨fun _ x hx => G29 x hx, ?_⟩
    refine d_fork ?_ ?_
    ·
     refine d_eff ?_
     refine s_row (α := Int) [0, 30, 100, 999, g26] (fun _ q => seg_i rfl (seg_i rfl (seg_i rfl (seg_i rfl (seg_i rfl (seg_nil q)))))) rfl (by simp [maxLen]) (fun r30 h31 eh31 zh31 s_r30 fr_r30 => ?_)
     have E32 := E28.trans (Mod.of_ext eh31 _)
     have z33 := eh31.size
     have G34 := gext1 eh31 (by omega) G29
     refine s_nil ⟨fun _ x hx => G34 x hx, ?_⟩
     refine d_fork ?_ ?_
     ·
      refine d_eff ?_
      have f35 := (Ch27.ext eh31)
      refine s_call [.pointer (some ⟨p_c, 0, none⟩), r30] rfl (spec_l1Cur_among_ok p_c t_c ((m_c + 10 + 12 * (ts.length : Int)) + 2) lo_c r30 [0, 30, 100, 999, g26] _ f35 s_r30.toSl (fun b hb hc => by simp at hc; have := fr_r30 b hb; omega) (by omega) (by first | omega | assumption | (simp; done) | (simp; omega))) ?_
      rintro _ h37 ⟨g36, rfl, qh37, Ch37, mh37⟩
      have zh37 := mh37.size
      have E38 := E32.new mh37 (fun b hb => .inl (by simp at hb; simp [hb]))
      have G39 := gmod1 (b := b5) (h := h31) (h0 := h20) mh37 (by omega) (by simp; omega) G34
      simp only [List.mem_cons, List.not_mem_nil, or_false] at qh37
      refine s_nil ⟨fun _ x hx => G39 x hx, ?_⟩
      refine d_fork ?_ ?_
      ·
       refine d_eff <| s_call [.pointer (some ⟨p_c, 0, none⟩), .int .i64 400] rfl (spec_l1Cur_pick_ok p_c t_c (((m_c + 10 + 12 * (ts.length : Int)) + 2) + 2) lo_c 400 _ Ch37 (by omega)) ?_
       rintro _ h41 ⟨g40, rfl, qh41, Ch41, mh41⟩
       have zh41 := mh41.size
       have E42 := E38.new mh41 (fun b hb => .inl (by simp at hb; simp [hb]))
       have G43 := gmod1 (b := b5) (h := h37) (h0 := h20) mh41 (by omega) (by simp; omega) G39
       refine s_nil ⟨fun _ x hx => G43 x hx, ?_⟩
       refine d_fork ?_ ?_
       ·
        refine d_eff ?_
        refine s_row (α := Int) [0, 40, 999, g40] (fun _ q => seg_i rfl (seg_i rfl (seg_i rfl (seg_i rfl (seg_nil q))))) rfl (by simp [maxLen]) (fun r44 h45 eh45 zh45 s_r44 fr_r44 => ?_)
        have E46 := E42.trans (Mod.of_ext eh45 _)
        have z47 := eh45.size
        have G48 := gext1 eh45 (by omega) G43
        refine s_nil ⟨fun _ x hx => G48 x hx, ?_⟩
        refine d_fork ?_ ?_
        ·
         refine d_eff ?_
         have f49 := (Ch41.ext eh45)
         refine s_call [.pointer (some ⟨p_c, 0, none⟩), r44] rfl (spec_l1Cur_among_ok p_c t_c ((((m_c + 10 + 12 * (ts.length : Int)) + 2) + 2) + 2) lo_c r44 [0, 40, 999, g40] _ f49 s_r44.toSl (fun b hb hc => by simp at hc; have := fr_r44 b hb; omega) (by omega) (by first | omega | assumption | (simp; done) | (simp; omega))) ?_
         rintro _ h51 ⟨g50, rfl, qh51, Ch51, mh51⟩
         have zh51 := mh51.size
         have E52 := E46.new mh51 (fun b hb => .inl (by simp at hb; simp [hb]))
         have G53 := gmod1 (b := b5) (h := h45) (h0 := h20) mh51 (by omega) (by simp; omega) G48
         simp only [List.mem_cons, List.not_mem_nil, or_false] at qh51
         refine s_nil ⟨fun _ x hx => G53 x hx, ?_⟩
         refine d_eff ?_
         refine s_row (α := Int) [0, 20, 120, 500] (fun _ q => seg_i rfl (seg_i rfl (seg_i rfl (seg_i rfl (seg_nil q))))) rfl (by simp [maxLen]) (fun r54 h55 eh55 zh55 s_r54 fr_r54 => ?_)
         have E56 := E52.trans (Mod.of_ext eh55 _)
         have z57 := eh55.size
         have G58 := gext1 eh55 (by omega) G53
         refine s_nil ⟨fun _ x hx => G58 x hx, ?_⟩
         refine d_eff ?_
         have f59 := (Ch51.ext eh55)
         refine s_call [.pointer (some ⟨p_c, 0, none⟩), r54] rfl (spec_l1Cur_among_ok p_c t_c (((((m_c + 10 + 12 * (ts.length : Int)) + 2) + 2) + 2) + 2) lo_c r54 [0, 20, 120, 500] _ f59 s_r54.toSl (fun b hb hc => by simp at hc; have := fr_r54 b hb; omega) (by omega) (by first | omega | assumption | (simp; done) | (simp; omega))) ?_
         rintro _ h61 ⟨g60, rfl, qh61, Ch61, mh61⟩
         have zh61 := mh61.size
         have E62 := E56.new mh61 (fun b hb => .inl (by simp at hb; simp [hb]))
         have G63 := gmod1 (b := b5) (h := h55) (h0 := h20) mh61 (by omega) (by simp; omega) G58
         simp only [List.mem_cons, List.not_mem_nil, or_false] at qh61
         refine s_nil ⟨fun _ x hx => G63 x hx, ?_⟩
         refine d_pureT (.agg #[.int .i64 g36, .int .i64 g50, .int .i64 g60]) (fun _ q => w_build (seg_i rfl (seg_i rfl (seg_i rfl (seg_nil q))))) <| d_eff ?_
         refine s_row (α := TowerD) [(⟨g36, g50, g60⟩ : TowerD)] (fun _ q => seg_agg rfl rfl (seg_nil q)) rfl (by simp [maxLen]) (fun r64 h65 eh65 zh65 s_r64 fr_r64 => ?_)
         have E66 := E62.trans (Mod.of_ext eh65 _)
         have z67 := eh65.size
         have G68 := gext1 eh65 (by omega) G63
         refine s_nil ⟨fun _ x hx => G68 x hx, ?_⟩
         refine d_eff ?_
         have f69 := (((((((((s_o3.mod mh27 (nb1 np_c_o3)).ext eh31).mod mh37 (nb1 np_c_o3)).mod mh41 (nb1 np_c_o3)).ext eh45).mod mh51 (nb1 np_c_o3)).ext eh55).mod mh61 (nb1 np_c_o3)).ext eh65)
         refine s_app f69 s_r64 rfl rfl rfl (by first | (simp [maxLen]; done) | (simp [maxLen]; omega)) (by first | (simp; done) | (simp; omega)) (fun r70 h71 mh71 zh71 s_r70 ab_r70 => ?_)
         have E72 := E66.new mh71 (fun b hb => .inr (by have := fr_o3 b hb; omega))
         have fr_r70 := fr_o3.app ab_r70 (by omega)
         have np73 : p_c ∉ blks r70 := fun hc => (ab_r70 _ hc).elim np_c_o3 (fun hc => by omega)
         have np74 : b1 ∉ blks r70 := fun hc => (ab_r70 _ hc).elim np_b1_o3 (fun hc => by omega)
         have np75 : b5 ∉ blks r70 := fun hc => (ab_r70 _ hc).elim np_b5_o3 (fun hc => by omega)
         refine s_nil ⟨fun hl => (by cases hl), ?_⟩
         refine d_pq (.pointer (some ⟨b5, 0, none⟩)) <| d_eff ?_
         have f80 := ((((((((((bxb5.mod mh27 (by simp; omega)).ext eh31).mod mh37 (by simp; omega)).mod mh41 (by simp; omega)).ext eh45).mod mh51 (by simp; omega)).ext eh55).mod mh61 (by simp; omega)).ext eh65).mod mh71 np_b5_o3)
         refine s_stBx r70 [r70] [r70, .slice none 0 0] f80 rfl rfl s_r70.cellsv rfl (by simp) (all_cons s_r70.one1 all_nil) rfl (fun h81 mh81 sh81 bxx82 => ?_)
         have E83 := E72.new mh81 (fun b hb => .inr (by simp at hb; omega))
         refine s_nil ⟨fun hl => (by cases hl), ?_⟩
         refine d_done <| p_blkN ?_
         have f84 := (((Ch61.ext eh65).mod mh71 np_c_o3 (fun b hb => by have := fr_o3 b hb; omega)).mod mh81 (by simp; omega) (fun b hb => by simp at hb; omega))
         have f85 := (((((((((((bxb1.mod mh27 (by simp; omega)).ext eh31).mod mh37 (by simp; omega)).mod mh41 (by simp; omega)).ext eh45).mod mh51 (by simp; omega)).ext eh55).mod mh61 (by simp; omega)).ext eh65).mod mh71 np_b1_o3).mod mh81 (by simp; omega))
         have f86 := (s_r70.mod mh81 (nb1 np75))
         exact p_lpN ⟨(ts ++ [(⟨g36, g50, g60⟩ : TowerD)]), r70, ⟨rfl, rfl, rfl, rfl⟩, ⟨E83, (f84.le (by first | omega | (simp; done) | (simp; omega))), f85, bxx82, (sl_eq f86 (by simp)), (fr_r70.mono (by omega)), np73, np74, np75, (by first | omega | (simp; done) | (simp; omega))⟩, by first | omega | (simp; done) | (simp; omega)⟩
        refine d_eff ?_
        refine s_row (α := Int) [0, 20, 120, 500] (fun _ q => seg_i rfl (seg_i rfl (seg_i rfl (seg_i rfl (seg_nil q))))) rfl (by simp [maxLen]) (fun r87 h88 eh88 zh88 s_r87 fr_r87 => ?_)
        have E89 := E46.trans (Mod.of_ext eh88 _)
        have z90 := eh88.size
        have G91 := gext1 eh88 (by omega) G48
        refine s_nil ⟨fun _ x hx => G91 x hx, ?_⟩
        refine d_eff ?_
        have f92 := ((Ch41.ext eh45).ext eh88)
        have f93 := (s_r44.ext eh88)
        refine s_call [.pointer (some ⟨p_c, 0, none⟩), r44] rfl (spec_l1Cur_among_ok p_c t_c ((((m_c + 10 + 12 * (ts.length : Int)) + 2) + 2) + 2) lo_c r44 [0, 40, 999, g40] _ f92 f93.toSl (fun b hb hc => by simp at hc; have := fr_r44 b hb; omega) (by omega) (by first | omega | assumption | (simp; done) | (simp; omega))) ?_
        rintro _ h95 ⟨g94, rfl, qh95, Ch95, mh95⟩
        have zh95 := mh95.size
        have E96 := E89.new mh95 (fun b hb => .inl (by simp at hb; simp [hb]))
        have G97 := gmod1 (b := b5) (h := h88) (h0 := h20) mh95 (by omega) (by simp; omega) G91
        simp only [List.mem_cons, List.not_mem_nil, or_false] at qh95
        refine s_nil ⟨fun _ x hx => G97 x hx, ?_⟩
        refine d_eff ?_
        have f98 := (s_r87.mod mh95 (fun b hb hc => by simp at hc; have := fr_r87 b hb; omega))
        refine s_call [.pointer (some ⟨p_c, 0, none⟩), r87] rfl (spec_l1Cur_among_ok p_c t_c (((((m_c + 10 + 12 * (ts.length : Int)) + 2) + 2) + 2) + 2) lo_c r87 [0, 20, 120, 500] _ Ch95 f98.toSl (fun b hb hc => by simp at hc; have := fr_r87 b hb; omega) (by omega) (by first | omega | assumption | (simp; done) | (simp; omega))) ?_
        rintro _ h100 ⟨g99, rfl, qh100, Ch100, mh100⟩
        have zh100 := mh100.size
        have E101 := E96.new mh100 (fun b hb => .inl (by simp at hb; simp [hb]))
        have G102 := gmod1 (b := b5) (h := h95) (h0 := h20) mh100 (by omega) (by simp; omega) G97
        simp only [List.mem_cons, List.not_mem_nil, or_false] at qh100
        refine s_nil ⟨fun _ x hx => G102 x hx, ?_⟩
        refine d_pureT (.agg #[.int .i64 g36, .int .i64 g94, .int .i64 g99]) (fun _ q => w_build (seg_i rfl (seg_i rfl (seg_i rfl (seg_nil q))))) <| d_eff ?_
        refine s_row (α := TowerD) [(⟨g36, g94, g99⟩ : TowerD)] (fun _ q => seg_agg rfl rfl (seg_nil q)) rfl (by simp [maxLen]) (fun r103 h104 eh104 zh104 s_r103 fr_r103 => ?_)
        have E105 := E101.trans (Mod.of_ext eh104 _)
        have z106 := eh104.size
        have G107 := gext1 eh104 (by omega) G102
        refine s_nil ⟨fun _ x hx => G107 x hx, ?_⟩
        refine d_eff ?_
        have f108 := (((((((((s_o3.mod mh27 (nb1 np_c_o3)).ext eh31).mod mh37 (nb1 np_c_o3)).mod mh41 (nb1 np_c_o3)).ext eh45).ext eh88).mod mh95 (nb1 np_c_o3)).mod mh100 (nb1 np_c_o3)).ext eh104)
        refine s_app f108 s_r103 rfl rfl rfl (by first | (simp [maxLen]; done) | (simp [maxLen]; omega)) (by first | (simp; done) | (simp; omega)) (fun r109 h110 mh110 zh110 s_r109 ab_r109 => ?_)
        have E111 := E105.new mh110 (fun b hb => .inr (by have := fr_o3 b hb; omega))
        have fr_r109 := fr_o3.app ab_r109 (by omega)
        have np112 : p_c ∉ blks r109 := fun hc => (ab_r109 _ hc).elim np_c_o3 (fun hc => by omega)
        have np113 : b1 ∉ blks r109 := fun hc => (ab_r109 _ hc).elim np_b1_o3 (fun hc => by omega)
        have np114 : b5 ∉ blks r109 := fun hc => (ab_r109 _ hc).elim np_b5_o3 (fun hc => by omega)
        refine s_nil ⟨fun hl => (by cases hl), ?_⟩
        refine d_pq (.pointer (some ⟨b5, 0, none⟩)) <| d_eff ?_
        have f119 := ((((((((((bxb5.mod mh27 (by simp; omega)).ext eh31).mod mh37 (by simp; omega)).mod mh41 (by simp; omega)).ext eh45).ext eh88).mod mh95 (by simp; omega)).mod mh100 (by simp; omega)).ext eh104).mod mh110 np_b5_o3)
        refine s_stBx r109 [r109] [r109, .slice none 0 0] f119 rfl rfl s_r109.cellsv rfl (by simp) (all_cons s_r109.one1 all_nil) rfl (fun h120 mh120 sh120 bxx121 => ?_)
        have E122 := E111.new mh120 (fun b hb => .inr (by simp at hb; omega))
        refine s_nil ⟨fun hl => (by cases hl), ?_⟩
        refine d_done <| p_blkN ?_
        have f123 := (((Ch100.ext eh104).mod mh110 np_c_o3 (fun b hb => by have := fr_o3 b hb; omega)).mod mh120 (by simp; omega) (fun b hb => by simp at hb; omega))
        have f124 := (((((((((((bxb1.mod mh27 (by simp; omega)).ext eh31).mod mh37 (by simp; omega)).mod mh41 (by simp; omega)).ext eh45).ext eh88).mod mh95 (by simp; omega)).mod mh100 (by simp; omega)).ext eh104).mod mh110 np_b1_o3).mod mh120 (by simp; omega))
        have f125 := (s_r109.mod mh120 (nb1 np114))
        exact p_lpN ⟨(ts ++ [(⟨g36, g94, g99⟩ : TowerD)]), r109, ⟨rfl, rfl, rfl, rfl⟩, ⟨E122, (f123.le (by first | omega | (simp; done) | (simp; omega))), f124, bxx121, (sl_eq f125 (by simp)), (fr_r109.mono (by omega)), np112, np113, np114, (by first | omega | (simp; done) | (simp; omega))⟩, by first | omega | (simp; done) | (simp; omega)⟩
       refine d_eff ?_
       refine s_row (α := Int) [0, 20, 120, 500] (fun _ q => seg_i rfl (seg_i rfl (seg_i rfl (seg_i rfl (seg_nil q))))) rfl (by simp [maxLen]) (fun r126 h127 eh127 zh127 s_r126 fr_r126 => ?_)
       have E128 := E42.trans (Mod.of_ext eh127 _)
       have z129 := eh127.size
       have G130 := gext1 eh127 (by omega) G43
       refine s_nil ⟨fun _ x hx => G130 x hx, ?_⟩
       refine d_eff ?_
       refine s_row (α := Int) [0, 40, 999, g40] (fun _ q => seg_i rfl (seg_i rfl (seg_i rfl (seg_i rfl (seg_nil q))))) rfl (by simp [maxLen]) (fun r131 h132 eh132 zh132 s_r131 fr_r131 => ?_)
       have E133 := E128.trans (Mod.of_ext eh132 _)
       have z134 := eh132.size
       have G135 := gext1 eh132 (by omega) G130
       refine s_nil ⟨fun _ x hx => G135 x hx, ?_⟩
       refine d_eff ?_
       have f136 := ((Ch41.ext eh127).ext eh132)
       refine s_call [.pointer (some ⟨p_c, 0, none⟩), r131] rfl (spec_l1Cur_among_ok p_c t_c ((((m_c + 10 + 12 * (ts.length : Int)) + 2) + 2) + 2) lo_c r131 [0, 40, 999, g40] _ f136 s_r131.toSl (fun b hb hc => by simp at hc; have := fr_r131 b hb; omega) (by omega) (by first | omega | assumption | (simp; done) | (simp; omega))) ?_
       rintro _ h138 ⟨g137, rfl, qh138, Ch138, mh138⟩
       have zh138 := mh138.size
       have E139 := E133.new mh138 (fun b hb => .inl (by simp at hb; simp [hb]))
       have G140 := gmod1 (b := b5) (h := h132) (h0 := h20) mh138 (by omega) (by simp; omega) G135
       simp only [List.mem_cons, List.not_mem_nil, or_false] at qh138
       refine s_nil ⟨fun _ x hx => G140 x hx, ?_⟩
       refine d_eff ?_
       have f141 := ((s_r126.ext eh132).mod mh138 (fun b hb hc => by simp at hc; have := fr_r126 b hb; omega))
       refine s_call [.pointer (some ⟨p_c, 0, none⟩), r126] rfl (spec_l1Cur_among_ok p_c t_c (((((m_c + 10 + 12 * (ts.length : Int)) + 2) + 2) + 2) + 2) lo_c r126 [0, 20, 120, 500] _ Ch138 f141.toSl (fun b hb hc => by simp at hc; have := fr_r126 b hb; omega) (by omega) (by first | omega | assumption | (simp; done) | (simp; omega))) ?_
       rintro _ h143 ⟨g142, rfl, qh143, Ch143, mh143⟩
       have zh143 := mh143.size
       have E144 := E139.new mh143 (fun b hb => .inl (by simp at hb; simp [hb]))
       have G145 := gmod1 (b := b5) (h := h138) (h0 := h20) mh143 (by omega) (by simp; omega) G140
       simp only [List.mem_cons, List.not_mem_nil, or_false] at qh143
       refine s_nil ⟨fun _ x hx => G145 x hx, ?_⟩
       refine d_pureT (.agg #[.int .i64 g36, .int .i64 g137, .int .i64 g142]) (fun _ q => w_build (seg_i rfl (seg_i rfl (seg_i rfl (seg_nil q))))) <| d_eff ?_
       refine s_row (α := TowerD) [(⟨g36, g137, g142⟩ : TowerD)] (fun _ q => seg_agg rfl rfl (seg_nil q)) rfl (by simp [maxLen]) (fun r146 h147 eh147 zh147 s_r146 fr_r146 => ?_)
       have E148 := E144.trans (Mod.of_ext eh147 _)
       have z149 := eh147.size
       have G150 := gext1 eh147 (by omega) G145
       refine s_nil ⟨fun _ x hx => G150 x hx, ?_⟩
       refine d_eff ?_
       have f151 := (((((((((s_o3.mod mh27 (nb1 np_c_o3)).ext eh31).mod mh37 (nb1 np_c_o3)).mod mh41 (nb1 np_c_o3)).ext eh127).ext eh132).mod mh138 (nb1 np_c_o3)).mod mh143 (nb1 np_c_o3)).ext eh147)
       refine s_app f151 s_r146 rfl rfl rfl (by first | (simp [maxLen]; done) | (simp [maxLen]; omega)) (by first | (simp; done) | (simp; omega)) (fun r152 h153 mh153 zh153 s_r152 ab_r152 => ?_)
       have E154 := E148.new mh153 (fun b hb => .inr (by have := fr_o3 b hb; omega))
       have fr_r152 := fr_o3.app ab_r152 (by omega)
       have np155 : p_c ∉ blks r152 := fun hc => (ab_r152 _ hc).elim np_c_o3 (fun hc => by omega)
       have np156 : b1 ∉ blks r152 := fun hc => (ab_r152 _ hc).elim np_b1_o3 (fun hc => by omega)
       have np157 : b5 ∉ blks r152 := fun hc => (ab_r152 _ hc).elim np_b5_o3 (fun hc => by omega)
       refine s_nil ⟨fun hl => (by cases hl), ?_⟩
       refine d_pq (.pointer (some ⟨b5, 0, none⟩)) <| d_eff ?_
       have f162 := ((((((((((bxb5.mod mh27 (by simp; omega)).ext eh31).mod mh37 (by simp; omega)).mod mh41 (by simp; omega)).ext eh127).ext eh132).mod mh138 (by simp; omega)).mod mh143 (by simp; omega)).ext eh147).mod mh153 np_b5_o3)
       refine s_stBx r152 [r152] [r152, .slice none 0 0] f162 rfl rfl s_r152.cellsv rfl (by simp) (all_cons s_r152.one1 all_nil) rfl (fun h163 mh163 sh163 bxx164 => ?_)
       have E165 := E154.new mh163 (fun b hb => .inr (by simp at hb; omega))
       refine s_nil ⟨fun hl => (by cases hl), ?_⟩
       refine d_done <| p_blkN ?_
       have f166 := (((Ch143.ext eh147).mod mh153 np_c_o3 (fun b hb => by have := fr_o3 b hb; omega)).mod mh163 (by simp; omega) (fun b hb => by simp at hb; omega))
       have f167 := (((((((((((bxb1.mod mh27 (by simp; omega)).ext eh31).mod mh37 (by simp; omega)).mod mh41 (by simp; omega)).ext eh127).ext eh132).mod mh138 (by simp; omega)).mod mh143 (by simp; omega)).ext eh147).mod mh153 np_b1_o3).mod mh163 (by simp; omega))
       have f168 := (s_r152.mod mh163 (nb1 np157))
       exact p_lpN ⟨(ts ++ [(⟨g36, g137, g142⟩ : TowerD)]), r152, ⟨rfl, rfl, rfl, rfl⟩, ⟨E165, (f166.le (by first | omega | (simp; done) | (simp; omega))), f167, bxx164, (sl_eq f168 (by simp)), (fr_r152.mono (by omega)), np155, np156, np157, (by first | omega | (simp; done) | (simp; omega))⟩, by first | omega | (simp; done) | (simp; omega)⟩
      refine d_eff ?_
      refine s_row (α := Int) [0, 20, 120, 500] (fun _ q => seg_i rfl (seg_i rfl (seg_i rfl (seg_i rfl (seg_nil q))))) rfl (by simp [maxLen]) (fun r169 h170 eh170 zh170 s_r169 fr_r169 => ?_)
      have E171 := E38.trans (Mod.of_ext eh170 _)
      have z172 := eh170.size
      have G173 := gext1 eh170 (by omega) G39
      refine s_nil ⟨fun _ x hx => G173 x hx, ?_⟩
      refine d_eff ?_
      have f174 := (Ch37.ext eh170)
      refine s_call [.pointer (some ⟨p_c, 0, none⟩), .int .i64 400] rfl (spec_l1Cur_pick_ok p_c t_c (((m_c + 10 + 12 * (ts.length : Int)) + 2) + 2) lo_c 400 _ f174 (by omega)) ?_
      rintro _ h176 ⟨g175, rfl, qh176, Ch176, mh176⟩
      have zh176 := mh176.size
      have E177 := E171.new mh176 (fun b hb => .inl (by simp at hb; simp [hb]))
      have G178 := gmod1 (b := b5) (h := h170) (h0 := h20) mh176 (by omega) (by simp; omega) G173
      refine s_nil ⟨fun _ x hx => G178 x hx, ?_⟩
      refine d_eff ?_
      refine s_row (α := Int) [0, 40, 999, g175] (fun _ q => seg_i rfl (seg_i rfl (seg_i rfl (seg_i rfl (seg_nil q))))) rfl (by simp [maxLen]) (fun r179 h180 eh180 zh180 s_r179 fr_r179 => ?_)
      have E181 := E177.trans (Mod.of_ext eh180 _)
      have z182 := eh180.size
      have G183 := gext1 eh180 (by omega) G178
      refine s_nil ⟨fun _ x hx => G183 x hx, ?_⟩
      refine d_eff ?_
      have f184 := (Ch176.ext eh180)
      refine s_call [.pointer (some ⟨p_c, 0, none⟩), r179] rfl (spec_l1Cur_among_ok p_c t_c ((((m_c + 10 + 12 * (ts.length : Int)) + 2) + 2) + 2) lo_c r179 [0, 40, 999, g175] _ f184 s_r179.toSl (fun b hb hc => by simp at hc; have := fr_r179 b hb; omega) (by omega) (by first | omega | assumption | (simp; done) | (simp; omega))) ?_
      rintro _ h186 ⟨g185, rfl, qh186, Ch186, mh186⟩
      have zh186 := mh186.size
      have E187 := E181.new mh186 (fun b hb => .inl (by simp at hb; simp [hb]))
      have G188 := gmod1 (b := b5) (h := h180) (h0 := h20) mh186 (by omega) (by simp; omega) G183
      simp only [List.mem_cons, List.not_mem_nil, or_false] at qh186
      refine s_nil ⟨fun _ x hx => G188 x hx, ?_⟩
      refine d_eff ?_
      have f189 := (((s_r169.mod mh176 (fun b hb hc => by simp at hc; have := fr_r169 b hb; omega)).ext eh180).mod mh186 (fun b hb hc => by simp at hc; have := fr_r169 b hb; omega))
      refine s_call [.pointer (some ⟨p_c, 0, none⟩), r169] rfl (spec_l1Cur_among_ok p_c t_c (((((m_c + 10 + 12 * (ts.length : Int)) + 2) + 2) + 2) + 2) lo_c r169 [0, 20, 120, 500] _ Ch186 f189.toSl (fun b hb hc => by simp at hc; have := fr_r169 b hb; omega) (by omega) (by first | omega | assumption | (simp; done) | (simp; omega))) ?_
      rintro _ h191 ⟨g190, rfl, qh191, Ch191, mh191⟩
      have zh191 := mh191.size
      have E192 := E187.new mh191 (fun b hb => .inl (by simp at hb; simp [hb]))
      have G193 := gmod1 (b := b5) (h := h186) (h0 := h20) mh191 (by omega) (by simp; omega) G188
      simp only [List.mem_cons, List.not_mem_nil, or_false] at qh191
      refine s_nil ⟨fun _ x hx => G193 x hx, ?_⟩
      refine d_pureT (.agg #[.int .i64 g36, .int .i64 g185, .int .i64 g190]) (fun _ q => w_build (seg_i rfl (seg_i rfl (seg_i rfl (seg_nil q))))) <| d_eff ?_
      refine s_row (α := TowerD) [(⟨g36, g185, g190⟩ : TowerD)] (fun _ q => seg_agg rfl rfl (seg_nil q)) rfl (by simp [maxLen]) (fun r194 h195 eh195 zh195 s_r194 fr_r194 => ?_)
      have E196 := E192.trans (Mod.of_ext eh195 _)
      have z197 := eh195.size
      have G198 := gext1 eh195 (by omega) G193
      refine s_nil ⟨fun _ x hx => G198 x hx, ?_⟩
      refine d_eff ?_
      have f199 := (((((((((s_o3.mod mh27 (nb1 np_c_o3)).ext eh31).mod mh37 (nb1 np_c_o3)).ext eh170).mod mh176 (nb1 np_c_o3)).ext eh180).mod mh186 (nb1 np_c_o3)).mod mh191 (nb1 np_c_o3)).ext eh195)
      refine s_app f199 s_r194 rfl rfl rfl (by first | (simp [maxLen]; done) | (simp [maxLen]; omega)) (by first | (simp; done) | (simp; omega)) (fun r200 h201 mh201 zh201 s_r200 ab_r200 => ?_)
      have E202 := E196.new mh201 (fun b hb => .inr (by have := fr_o3 b hb; omega))
      have fr_r200 := fr_o3.app ab_r200 (by omega)
      have np203 : p_c ∉ blks r200 := fun hc => (ab_r200 _ hc).elim np_c_o3 (fun hc => by omega)
      have np204 : b1 ∉ blks r200 := fun hc => (ab_r200 _ hc).elim np_b1_o3 (fun hc => by omega)
      have np205 : b5 ∉ blks r200 := fun hc => (ab_r200 _ hc).elim np_b5_o3 (fun hc => by omega)
      refine s_nil ⟨fun hl => (by cases hl), ?_⟩
      refine d_pq (.pointer (some ⟨b5, 0, none⟩)) <| d_eff ?_
      have f210 := ((((((((((bxb5.mod mh27 (by simp; omega)).ext eh31).mod mh37 (by simp; omega)).ext eh170).mod mh176 (by simp; omega)).ext eh180).mod mh186 (by simp; omega)).mod mh191 (by simp; omega)).ext eh195).mod mh201 np_b5_o3)
      refine s_stBx r200 [r200] [r200, .slice none 0 0] f210 rfl rfl s_r200.cellsv rfl (by simp) (all_cons s_r200.one1 all_nil) rfl (fun h211 mh211 sh211 bxx212 => ?_)
      have E213 := E202.new mh211 (fun b hb => .inr (by simp at hb; omega))
      refine s_nil ⟨fun hl => (by cases hl), ?_⟩
      refine d_done <| p_blkN ?_
      have f214 := (((Ch191.ext eh195).mod mh201 np_c_o3 (fun b hb => by have := fr_o3 b hb; omega)).mod mh211 (by simp; omega) (fun b hb => by simp at hb; omega))
      have f215 := (((((((((((bxb1.mod mh27 (by simp; omega)).ext eh31).mod mh37 (by simp; omega)).ext eh170).mod mh176 (by simp; omega)).ext eh180).mod mh186 (by simp; omega)).mod mh191 (by simp; omega)).ext eh195).mod mh201 np_b1_o3).mod mh211 (by simp; omega))
      have f216 := (s_r200.mod mh211 (nb1 np205))
      exact p_lpN ⟨(ts ++ [(⟨g36, g185, g190⟩ : TowerD)]), r200, ⟨rfl, rfl, rfl, rfl⟩, ⟨E213, (f214.le (by first | omega | (simp; done) | (simp; omega))), f215, bxx212, (sl_eq f216 (by simp)), (fr_r200.mono (by omega)), np203, np204, np205, (by first | omega | (simp; done) | (simp; omega))⟩, by first | omega | (simp; done) | (simp; omega)⟩
     refine d_eff ?_
     refine s_row (α := Int) [0, 20, 120, 500] (fun _ q => seg_i rfl (seg_i rfl (seg_i rfl (seg_i rfl (seg_nil q))))) rfl (by simp [maxLen]) (fun r217 h218 eh218 zh218 s_r217 fr_r217 => ?_)
     have E219 := E32.trans (Mod.of_ext eh218 _)
     have z220 := eh218.size
     have G221 := gext1 eh218 (by omega) G34
     refine s_nil ⟨fun _ x hx => G221 x hx, ?_⟩
     refine d_eff ?_
     have f222 := ((Ch27.ext eh31).ext eh218)
     have f223 := (s_r30.ext eh218)
     refine s_call [.pointer (some ⟨p_c, 0, none⟩), r30] rfl (spec_l1Cur_among_ok p_c t_c ((m_c + 10 + 12 * (ts.length : Int)) + 2) lo_c r30 [0, 30, 100, 999, g26] _ f222 f223.toSl (fun b hb hc => by simp at hc; have := fr_r30 b hb; omega) (by omega) (by first | omega | assumption | (simp; done) | (simp; omega))) ?_
     rintro _ h225 ⟨g224, rfl, qh225, Ch225, mh225⟩
     have zh225 := mh225.size
     have E226 := E219.new mh225 (fun b hb => .inl (by simp at hb; simp [hb]))
     have G227 := gmod1 (b := b5) (h := h218) (h0 := h20) mh225 (by omega) (by simp; omega) G221
     simp only [List.mem_cons, List.not_mem_nil, or_false] at qh225
     refine s_nil ⟨fun _ x hx => G227 x hx, ?_⟩
     refine d_eff <| s_call [.pointer (some ⟨p_c, 0, none⟩), .int .i64 400] rfl (spec_l1Cur_pick_ok p_c t_c (((m_c + 10 + 12 * (ts.length : Int)) + 2) + 2) lo_c 400 _ Ch225 (by omega)) ?_
     rintro _ h229 ⟨g228, rfl, qh229, Ch229, mh229⟩
     have zh229 := mh229.size
     have E230 := E226.new mh229 (fun b hb => .inl (by simp at hb; simp [hb]))
     have G231 := gmod1 (b := b5) (h := h225) (h0 := h20) mh229 (by omega) (by simp; omega) G227
     refine s_nil ⟨fun _ x hx => G231 x hx, ?_⟩
     refine d_eff ?_
     refine s_row (α := Int) [0, 40, 999, g228] (fun _ q => seg_i rfl (seg_i rfl (seg_i rfl (seg_i rfl (seg_nil q))))) rfl (by simp [maxLen]) (fun r232 h233 eh233 zh233 s_r232 fr_r232 => ?_)
     have E234 := E230.trans (Mod.of_ext eh233 _)
     have z235 := eh233.size
     have G236 := gext1 eh233 (by omega) G231
     refine s_nil ⟨fun _ x hx => G236 x hx, ?_⟩
     refine d_eff ?_
     have f237 := (Ch229.ext eh233)
     refine s_call [.pointer (some ⟨p_c, 0, none⟩), r232] rfl (spec_l1Cur_among_ok p_c t_c ((((m_c + 10 + 12 * (ts.length : Int)) + 2) + 2) + 2) lo_c r232 [0, 40, 999, g228] _ f237 s_r232.toSl (fun b hb hc => by simp at hc; have := fr_r232 b hb; omega) (by omega) (by first | omega | assumption | (simp; done) | (simp; omega))) ?_
     rintro _ h239 ⟨g238, rfl, qh239, Ch239, mh239⟩
     have zh239 := mh239.size
     have E240 := E234.new mh239 (fun b hb => .inl (by simp at hb; simp [hb]))
     have G241 := gmod1 (b := b5) (h := h233) (h0 := h20) mh239 (by omega) (by simp; omega) G236
     simp only [List.mem_cons, List.not_mem_nil, or_false] at qh239
     refine s_nil ⟨fun _ x hx => G241 x hx, ?_⟩
     refine d_eff ?_
     have f242 := ((((s_r217.mod mh225 (fun b hb hc => by simp at hc; have := fr_r217 b hb; omega)).mod mh229 (fun b hb hc => by simp at hc; have := fr_r217 b hb; omega)).ext eh233).mod mh239 (fun b hb hc => by simp at hc; have := fr_r217 b hb; omega))
     refine s_call [.pointer (some ⟨p_c, 0, none⟩), r217] rfl (spec_l1Cur_among_ok p_c t_c (((((m_c + 10 + 12 * (ts.length : Int)) + 2) + 2) + 2) + 2) lo_c r217 [0, 20, 120, 500] _ Ch239 f242.toSl (fun b hb hc => by simp at hc; have := fr_r217 b hb; omega) (by omega) (by first | omega | assumption | (simp; done) | (simp; omega))) ?_
     rintro _ h244 ⟨g243, rfl, qh244, Ch244, mh244⟩
     have zh244 := mh244.size
     have E245 := E240.new mh244 (fun b hb => .inl (by simp at hb; simp [hb]))
     have G246 := gmod1 (b := b5) (h := h239) (h0 := h20) mh244 (by omega) (by simp; omega) G241
     simp only [List.mem_cons, List.not_mem_nil, or_false] at qh244
     refine s_nil ⟨fun _ x hx => G246 x hx, ?_⟩
     refine d_pureT (.agg #[.int .i64 g224, .int .i64 g238, .int .i64 g243]) (fun _ q => w_build (seg_i rfl (seg_i rfl (seg_i rfl (seg_nil q))))) <| d_eff ?_
     refine s_row (α := TowerD) [(⟨g224, g238, g243⟩ : TowerD)] (fun _ q => seg_agg rfl rfl (seg_nil q)) rfl (by simp [maxLen]) (fun r247 h248 eh248 zh248 s_r247 fr_r247 => ?_)
     have E249 := E245.trans (Mod.of_ext eh248 _)
     have z250 := eh248.size
     have G251 := gext1 eh248 (by omega) G246
     refine s_nil ⟨fun _ x hx => G251 x hx, ?_⟩
     refine d_eff ?_
     have f252 := (((((((((s_o3.mod mh27 (nb1 np_c_o3)).ext eh31).ext eh218).mod mh225 (nb1 np_c_o3)).mod mh229 (nb1 np_c_o3)).ext eh233).mod mh239 (nb1 np_c_o3)).mod mh244 (nb1 np_c_o3)).ext eh248)
     refine s_app f252 s_r247 rfl rfl rfl (by first | (simp [maxLen]; done) | (simp [maxLen]; omega)) (by first | (simp; done) | (simp; omega)) (fun r253 h254 mh254 zh254 s_r253 ab_r253 => ?_)
     have E255 := E249.new mh254 (fun b hb => .inr (by have := fr_o3 b hb; omega))
     have fr_r253 := fr_o3.app ab_r253 (by omega)
     have np256 : p_c ∉ blks r253 := fun hc => (ab_r253 _ hc).elim np_c_o3 (fun hc => by omega)
     have np257 : b1 ∉ blks r253 := fun hc => (ab_r253 _ hc).elim np_b1_o3 (fun hc => by omega)
     have np258 : b5 ∉ blks r253 := fun hc => (ab_r253 _ hc).elim np_b5_o3 (fun hc => by omega)
     refine s_nil ⟨fun hl => (by cases hl), ?_⟩
     refine d_pq (.pointer (some ⟨b5, 0, none⟩)) <| d_eff ?_
     have f263 := ((((((((((bxb5.mod mh27 (by simp; omega)).ext eh31).ext eh218).mod mh225 (by simp; omega)).mod mh229 (by simp; omega)).ext eh233).mod mh239 (by simp; omega)).mod mh244 (by simp; omega)).ext eh248).mod mh254 np_b5_o3)
     refine s_stBx r253 [r253] [r253, .slice none 0 0] f263 rfl rfl s_r253.cellsv rfl (by simp) (all_cons s_r253.one1 all_nil) rfl (fun h264 mh264 sh264 bxx265 => ?_)
     have E266 := E255.new mh264 (fun b hb => .inr (by simp at hb; omega))
     refine s_nil ⟨fun hl => (by cases hl), ?_⟩
     refine d_done <| p_blkN ?_
     have f267 := (((Ch244.ext eh248).mod mh254 np_c_o3 (fun b hb => by have := fr_o3 b hb; omega)).mod mh264 (by simp; omega) (fun b hb => by simp at hb; omega))
     have f268 := (((((((((((bxb1.mod mh27 (by simp; omega)).ext eh31).ext eh218).mod mh225 (by simp; omega)).mod mh229 (by simp; omega)).ext eh233).mod mh239 (by simp; omega)).mod mh244 (by simp; omega)).ext eh248).mod mh254 np_b1_o3).mod mh264 (by simp; omega))
     have f269 := (s_r253.mod mh264 (nb1 np258))
     exact p_lpN ⟨(ts ++ [(⟨g224, g238, g243⟩ : TowerD)]), r253, ⟨rfl, rfl, rfl, rfl⟩, ⟨E266, (f267.le (by first | omega | (simp; done) | (simp; omega))), f268, bxx265, (sl_eq f269 (by simp)), (fr_r253.mono (by omega)), np256, np257, np258, (by first | omega | (simp; done) | (simp; omega))⟩, by first | omega | (simp; done) | (simp; omega)⟩
    refine d_eff ?_
    refine s_row (α := Int) [0, 20, 120, 500] (fun _ q => seg_i rfl (seg_i rfl (seg_i rfl (seg_i rfl (seg_nil q))))) rfl (by simp [maxLen]) (fun r270 h271 eh271 zh271 s_r270 fr_r270 => ?_)
    have E272 := E28.trans (Mod.of_ext eh271 _)
    have z273 := eh271.size
    have G274 := gext1 eh271 (by omega) G29
    refine s_nil ⟨fun _ x hx => G274 x hx, ?_⟩
    refine d_eff ?_
    refine s_row (α := Int) [0, 30, 100, 999, g26] (fun _ q => seg_i rfl (seg_i rfl (seg_i rfl (seg_i rfl (seg_i rfl (seg_nil q)))))) rfl (by simp [maxLen]) (fun r275 h276 eh276 zh276 s_r275 fr_r275 => ?_)
    have E277 := E272.trans (Mod.of_ext eh276 _)
    have z278 := eh276.size
    have G279 := gext1 eh276 (by omega) G274
    refine s_nil ⟨fun _ x hx => G279 x hx, ?_⟩
    refine d_eff ?_
    have f280 := ((Ch27.ext eh271).ext eh276)
    refine s_call [.pointer (some ⟨p_c, 0, none⟩), r275] rfl (spec_l1Cur_among_ok p_c t_c ((m_c + 10 + 12 * (ts.length : Int)) + 2) lo_c r275 [0, 30, 100, 999, g26] _ f280 s_r275.toSl (fun b hb hc => by simp at hc; have := fr_r275 b hb; omega) (by omega) (by first | omega | assumption | (simp; done) | (simp; omega))) ?_
    rintro _ h282 ⟨g281, rfl, qh282, Ch282, mh282⟩
    have zh282 := mh282.size
    have E283 := E277.new mh282 (fun b hb => .inl (by simp at hb; simp [hb]))
    have G284 := gmod1 (b := b5) (h := h276) (h0 := h20) mh282 (by omega) (by simp; omega) G279
    simp only [List.mem_cons, List.not_mem_nil, or_false] at qh282
    refine s_nil ⟨fun _ x hx => G284 x hx, ?_⟩
    refine d_eff <| s_call [.pointer (some ⟨p_c, 0, none⟩), .int .i64 400] rfl (spec_l1Cur_pick_ok p_c t_c (((m_c + 10 + 12 * (ts.length : Int)) + 2) + 2) lo_c 400 _ Ch282 (by omega)) ?_
    rintro _ h286 ⟨g285, rfl, qh286, Ch286, mh286⟩
    have zh286 := mh286.size
    have E287 := E283.new mh286 (fun b hb => .inl (by simp at hb; simp [hb]))
    have G288 := gmod1 (b := b5) (h := h282) (h0 := h20) mh286 (by omega) (by simp; omega) G284
    refine s_nil ⟨fun _ x hx => G288 x hx, ?_⟩
    refine d_eff ?_
    refine s_row (α := Int) [0, 40, 999, g285] (fun _ q => seg_i rfl (seg_i rfl (seg_i rfl (seg_i rfl (seg_nil q))))) rfl (by simp [maxLen]) (fun r289 h290 eh290 zh290 s_r289 fr_r289 => ?_)
    have E291 := E287.trans (Mod.of_ext eh290 _)
    have z292 := eh290.size
    have G293 := gext1 eh290 (by omega) G288
    refine s_nil ⟨fun _ x hx => G293 x hx, ?_⟩
    refine d_eff ?_
    have f294 := (Ch286.ext eh290)
    refine s_call [.pointer (some ⟨p_c, 0, none⟩), r289] rfl (spec_l1Cur_among_ok p_c t_c ((((m_c + 10 + 12 * (ts.length : Int)) + 2) + 2) + 2) lo_c r289 [0, 40, 999, g285] _ f294 s_r289.toSl (fun b hb hc => by simp at hc; have := fr_r289 b hb; omega) (by omega) (by first | omega | assumption | (simp; done) | (simp; omega))) ?_
    rintro _ h296 ⟨g295, rfl, qh296, Ch296, mh296⟩
    have zh296 := mh296.size
    have E297 := E291.new mh296 (fun b hb => .inl (by simp at hb; simp [hb]))
    have G298 := gmod1 (b := b5) (h := h290) (h0 := h20) mh296 (by omega) (by simp; omega) G293
    simp only [List.mem_cons, List.not_mem_nil, or_false] at qh296
    refine s_nil ⟨fun _ x hx => G298 x hx, ?_⟩
    refine d_eff ?_
    have f299 := (((((s_r270.ext eh276).mod mh282 (fun b hb hc => by simp at hc; have := fr_r270 b hb; omega)).mod mh286 (fun b hb hc => by simp at hc; have := fr_r270 b hb; omega)).ext eh290).mod mh296 (fun b hb hc => by simp at hc; have := fr_r270 b hb; omega))
    refine s_call [.pointer (some ⟨p_c, 0, none⟩), r270] rfl (spec_l1Cur_among_ok p_c t_c (((((m_c + 10 + 12 * (ts.length : Int)) + 2) + 2) + 2) + 2) lo_c r270 [0, 20, 120, 500] _ Ch296 f299.toSl (fun b hb hc => by simp at hc; have := fr_r270 b hb; omega) (by omega) (by first | omega | assumption | (simp; done) | (simp; omega))) ?_
    rintro _ h301 ⟨g300, rfl, qh301, Ch301, mh301⟩
    have zh301 := mh301.size
    have E302 := E297.new mh301 (fun b hb => .inl (by simp at hb; simp [hb]))
    have G303 := gmod1 (b := b5) (h := h296) (h0 := h20) mh301 (by omega) (by simp; omega) G298
    simp only [List.mem_cons, List.not_mem_nil, or_false] at qh301
    refine s_nil ⟨fun _ x hx => G303 x hx, ?_⟩
    refine d_pureT (.agg #[.int .i64 g281, .int .i64 g295, .int .i64 g300]) (fun _ q => w_build (seg_i rfl (seg_i rfl (seg_i rfl (seg_nil q))))) <| d_eff ?_
    refine s_row (α := TowerD) [(⟨g281, g295, g300⟩ : TowerD)] (fun _ q => seg_agg rfl rfl (seg_nil q)) rfl (by simp [maxLen]) (fun r304 h305 eh305 zh305 s_r304 fr_r304 => ?_)
    have E306 := E302.trans (Mod.of_ext eh305 _)
    have z307 := eh305.size
    have G308 := gext1 eh305 (by omega) G303
    refine s_nil ⟨fun _ x hx => G308 x hx, ?_⟩
    refine d_eff ?_
    have f309 := (((((((((s_o3.mod mh27 (nb1 np_c_o3)).ext eh271).ext eh276).mod mh282 (nb1 np_c_o3)).mod mh286 (nb1 np_c_o3)).ext eh290).mod mh296 (nb1 np_c_o3)).mod mh301 (nb1 np_c_o3)).ext eh305)
    refine s_app f309 s_r304 rfl rfl rfl (by first | (simp [maxLen]; done) | (simp [maxLen]; omega)) (by first | (simp; done) | (simp; omega)) (fun r310 h311 mh311 zh311 s_r310 ab_r310 => ?_)
    have E312 := E306.new mh311 (fun b hb => .inr (by have := fr_o3 b hb; omega))
    have fr_r310 := fr_o3.app ab_r310 (by omega)
    have np313 : p_c ∉ blks r310 := fun hc => (ab_r310 _ hc).elim np_c_o3 (fun hc => by omega)
    have np314 : b1 ∉ blks r310 := fun hc => (ab_r310 _ hc).elim np_b1_o3 (fun hc => by omega)
    have np315 : b5 ∉ blks r310 := fun hc => (ab_r310 _ hc).elim np_b5_o3 (fun hc => by omega)
    refine s_nil ⟨fun hl => (by cases hl), ?_⟩
    refine d_pq (.pointer (some ⟨b5, 0, none⟩)) <| d_eff ?_
    have f320 := ((((((((((bxb5.mod mh27 (by simp; omega)).ext eh271).ext eh276).mod mh282 (by simp; omega)).mod mh286 (by simp; omega)).ext eh290).mod mh296 (by simp; omega)).mod mh301 (by simp; omega)).ext eh305).mod mh311 np_b5_o3)
    refine s_stBx r310 [r310] [r310, .slice none 0 0] f320 rfl rfl s_r310.cellsv rfl (by simp) (all_cons s_r310.one1 all_nil) rfl (fun h321 mh321 sh321 bxx322 => ?_)
    have E323 := E312.new mh321 (fun b hb => .inr (by simp at hb; omega))
    refine s_nil ⟨fun hl => (by cases hl), ?_⟩
    refine d_done <| p_blkN ?_
    have f324 := (((Ch301.ext eh305).mod mh311 np_c_o3 (fun b hb => by have := fr_o3 b hb; omega)).mod mh321 (by simp; omega) (fun b hb => by simp at hb; omega))
    have f325 := (((((((((((bxb1.mod mh27 (by simp; omega)).ext eh271).ext eh276).mod mh282 (by simp; omega)).mod mh286 (by simp; omega)).ext eh290).mod mh296 (by simp; omega)).mod mh301 (by simp; omega)).ext eh305).mod mh311 np_b1_o3).mod mh321 (by simp; omega))
    have f326 := (s_r310.mod mh321 (nb1 np315))
    exact p_lpN ⟨(ts ++ [(⟨g281, g295, g300⟩ : TowerD)]), r310, ⟨rfl, rfl, rfl, rfl⟩, ⟨E323, (f324.le (by first | omega | (simp; done) | (simp; omega))), f325, bxx322, (sl_eq f326 (by simp)), (fr_r310.mono (by omega)), np313, np314, np315, (by first | omega | (simp; done) | (simp; omega))⟩, by first | omega | (simp; done) | (simp; omega)⟩
   refine d_eff ?_
   refine s_row (α := Int) [0, 20, 120, 500] (fun _ q => seg_i rfl (seg_i rfl (seg_i rfl (seg_i rfl (seg_nil q))))) rfl (by simp [maxLen]) (fun r327 h328 eh328 zh328 s_r327 fr_r327 => ?_)
   have E329 := Eh.trans (Mod.of_ext eh328 _)
   have z330 := eh328.size
   have G331 := eh328
   refine s_nil ⟨fun _ x hx => G331.blk x (by simp at hx; omega), ?_⟩
   refine d_eff ?_
   have f332 := (bxc.ext eh328)
   refine s_call [.pointer (some ⟨p_c, 0, none⟩), .int .i64 400] rfl (spec_l1Cur_pick_ok p_c t_c (m_c + 10 + 12 * (ts.length : Int)) lo_c 400 _ f332 (by omega)) ?_
   rintro _ h334 ⟨g333, rfl, qh334, Ch334, mh334⟩
   have zh334 := mh334.size
   have E335 := E329.new mh334 (fun b hb => .inl (by simp at hb; simp [hb]))
   have G336 := gmod1 (b := b5) (h := h328) (h0 := h20) mh334 (by omega) (by simp; omega) (fun x hx => G331.blk x (by simp at hx; omega))
   refine s_nil ⟨fun _ x hx => G336 x hx, ?_⟩
   refine d_eff ?_
   refine s_row (α := Int) [0, 30, 100, 999, g333] (fun _ q => seg_i rfl (seg_i rfl (seg_i rfl (seg_i rfl (seg_i rfl (seg_nil q)))))) rfl (by simp [maxLen]) (fun r337 h338 eh338 zh338 s_r337 fr_r337 => ?_)
   have E339 := E335.trans (Mod.of_ext eh338 _)
   have z340 := eh338.size
   have G341 := gext1 eh338 (by omega) G336
   refine s_nil ⟨fun _ x hx => G341 x hx, ?_⟩
   refine d_eff ?_
   have f342 := (Ch334.ext eh338)
   refine s_call [.pointer (some ⟨p_c, 0, none⟩), r337] rfl (spec_l1Cur_among_ok p_c t_c ((m_c + 10 + 12 * (ts.length : Int)) + 2) lo_c r337 [0, 30, 100, 999, g333] _ f342 s_r337.toSl (fun b hb hc => by simp at hc; have := fr_r337 b hb; omega) (by omega) (by first | omega | assumption | (simp; done) | (simp; omega))) ?_
   rintro _ h344 ⟨g343, rfl, qh344, Ch344, mh344⟩
   have zh344 := mh344.size
   have E345 := E339.new mh344 (fun b hb => .inl (by simp at hb; simp [hb]))
   have G346 := gmod1 (b := b5) (h := h338) (h0 := h20) mh344 (by omega) (by simp; omega) G341
   simp only [List.mem_cons, List.not_mem_nil, or_false] at qh344
   refine s_nil ⟨fun _ x hx => G346 x hx, ?_⟩
   refine d_eff <| s_call [.pointer (some ⟨p_c, 0, none⟩), .int .i64 400] rfl (spec_l1Cur_pick_ok p_c t_c (((m_c + 10 + 12 * (ts.length : Int)) + 2) + 2) lo_c 400 _ Ch344 (by omega)) ?_
   rintro _ h348 ⟨g347, rfl, qh348, Ch348, mh348⟩
   have zh348 := mh348.size
   have E349 := E345.new mh348 (fun b hb => .inl (by simp at hb; simp [hb]))
   have G350 := gmod1 (b := b5) (h := h344) (h0 := h20) mh348 (by omega) (by simp; omega) G346
   refine s_nil ⟨fun _ x hx => G350 x hx, ?_⟩
   refine d_eff ?_
   refine s_row (α := Int) [0, 40, 999, g347] (fun _ q => seg_i rfl (seg_i rfl (seg_i rfl (seg_i rfl (seg_nil q))))) rfl (by simp [maxLen]) (fun r351 h352 eh352 zh352 s_r351 fr_r351 => ?_)
   have E353 := E349.trans (Mod.of_ext eh352 _)
   have z354 := eh352.size
   have G355 := gext1 eh352 (by omega) G350
   refine s_nil ⟨fun _ x hx => G355 x hx, ?_⟩
   refine d_eff ?_
   have f356 := (Ch348.ext eh352)
   refine s_call [.pointer (some ⟨p_c, 0, none⟩), r351] rfl (spec_l1Cur_among_ok p_c t_c ((((m_c + 10 + 12 * (ts.length : Int)) + 2) + 2) + 2) lo_c r351 [0, 40, 999, g347] _ f356 s_r351.toSl (fun b hb hc => by simp at hc; have := fr_r351 b hb; omega) (by omega) (by first | omega | assumption | (simp; done) | (simp; omega))) ?_
   rintro _ h358 ⟨g357, rfl, qh358, Ch358, mh358⟩
   have zh358 := mh358.size
   have E359 := E353.new mh358 (fun b hb => .inl (by simp at hb; simp [hb]))
   have G360 := gmod1 (b := b5) (h := h352) (h0 := h20) mh358 (by omega) (by simp; omega) G355
   simp only [List.mem_cons, List.not_mem_nil, or_false] at qh358
   refine s_nil ⟨fun _ x hx => G360 x hx, ?_⟩
   refine d_eff ?_
   have f361 := ((((((s_r327.mod mh334 (fun b hb hc => by simp at hc; have := fr_r327 b hb; omega)).ext eh338).mod mh344 (fun b hb hc => by simp at hc; have := fr_r327 b hb; omega)).mod mh348 (fun b hb hc => by simp at hc; have := fr_r327 b hb; omega)).ext eh352).mod mh358 (fun b hb hc => by simp at hc; have := fr_r327 b hb; omega))
   refine s_call [.pointer (some ⟨p_c, 0, none⟩), r327] rfl (spec_l1Cur_among_ok p_c t_c (((((m_c + 10 + 12 * (ts.length : Int)) + 2) + 2) + 2) + 2) lo_c r327 [0, 20, 120, 500] _ Ch358 f361.toSl (fun b hb hc => by simp at hc; have := fr_r327 b hb; omega) (by omega) (by first | omega | assumption | (simp; done) | (simp; omega))) ?_
   rintro _ h363 ⟨g362, rfl, qh363, Ch363, mh363⟩
   have zh363 := mh363.size
   have E364 := E359.new mh363 (fun b hb => .inl (by simp at hb; simp [hb]))
   have G365 := gmod1 (b := b5) (h := h358) (h0 := h20) mh363 (by omega) (by simp; omega) G360
   simp only [List.mem_cons, List.not_mem_nil, or_false] at qh363
   refine s_nil ⟨fun _ x hx => G365 x hx, ?_⟩
   refine d_pureT (.agg #[.int .i64 g343, .int .i64 g357, .int .i64 g362]) (fun _ q => w_build (seg_i rfl (seg_i rfl (seg_i rfl (seg_nil q))))) <| d_eff ?_
   refine s_row (α := TowerD) [(⟨g343, g357, g362⟩ : TowerD)] (fun _ q => seg_agg rfl rfl (seg_nil q)) rfl (by simp [maxLen]) (fun r366 h367 eh367 zh367 s_r366 fr_r366 => ?_)
   have E368 := E364.trans (Mod.of_ext eh367 _)
   have z369 := eh367.size
   have G370 := gext1 eh367 (by omega) G365
   refine s_nil ⟨fun _ x hx => G370 x hx, ?_⟩
   refine d_eff ?_
   have f371 := (((((((((s_o3.ext eh328).mod mh334 (nb1 np_c_o3)).ext eh338).mod mh344 (nb1 np_c_o3)).mod mh348 (nb1 np_c_o3)).ext eh352).mod mh358 (nb1 np_c_o3)).mod mh363 (nb1 np_c_o3)).ext eh367)
   refine s_app f371 s_r366 rfl rfl rfl (by first | (simp [maxLen]; done) | (simp [maxLen]; omega)) (by first | (simp; done) | (simp; omega)) (fun r372 h373 mh373 zh373 s_r372 ab_r372 => ?_)
   have E374 := E368.new mh373 (fun b hb => .inr (by have := fr_o3 b hb; omega))
   have fr_r372 := fr_o3.app ab_r372 (by omega)
   have np375 : p_c ∉ blks r372 := fun hc => (ab_r372 _ hc).elim np_c_o3 (fun hc => by omega)
   have np376 : b1 ∉ blks r372 := fun hc => (ab_r372 _ hc).elim np_b1_o3 (fun hc => by omega)
   have np377 : b5 ∉ blks r372 := fun hc => (ab_r372 _ hc).elim np_b5_o3 (fun hc => by omega)
   refine s_nil ⟨fun hl => (by cases hl), ?_⟩
   refine d_pq (.pointer (some ⟨b5, 0, none⟩)) <| d_eff ?_
   have f382 := ((((((((((bxb5.ext eh328).mod mh334 (by simp; omega)).ext eh338).mod mh344 (by simp; omega)).mod mh348 (by simp; omega)).ext eh352).mod mh358 (by simp; omega)).mod mh363 (by simp; omega)).ext eh367).mod mh373 np_b5_o3)
   refine s_stBx r372 [r372] [r372, .slice none 0 0] f382 rfl rfl s_r372.cellsv rfl (by simp) (all_cons s_r372.one1 all_nil) rfl (fun h383 mh383 sh383 bxx384 => ?_)
   have E385 := E374.new mh383 (fun b hb => .inr (by simp at hb; omega))
   refine s_nil ⟨fun hl => (by cases hl), ?_⟩
   refine d_done <| p_blkN ?_
   have f386 := (((Ch363.ext eh367).mod mh373 np_c_o3 (fun b hb => by have := fr_o3 b hb; omega)).mod mh383 (by simp; omega) (fun b hb => by simp at hb; omega))
   have f387 := (((((((((((bxb1.ext eh328).mod mh334 (by simp; omega)).ext eh338).mod mh344 (by simp; omega)).mod mh348 (by simp; omega)).ext eh352).mod mh358 (by simp; omega)).mod mh363 (by simp; omega)).ext eh367).mod mh373 np_b1_o3).mod mh383 (by simp; omega))
   have f388 := (s_r372.mod mh383 (nb1 np377))
   exact p_lpN ⟨(ts ++ [(⟨g343, g357, g362⟩ : TowerD)]), r372, ⟨rfl, rfl, rfl, rfl⟩, ⟨E385, (f386.le (by first | omega | (simp; done) | (simp; omega))), f387, bxx384, (sl_eq f388 (by simp)), (fr_r372.mono (by omega)), np375, np376, np377, (by first | omega | (simp; done) | (simp; omega))⟩, by first | omega | (simp; done) | (simp; omega)⟩
  refine v_exit <| p_seqX <| p_lpX <| p_blkX <| p_seqN <| v_seq <| v_ops <| s_pq (.pointer (some ⟨p_c, 0, none⟩)) ?_
  refine s_row (α := Int) [2, 2, 3] (fun _ q => seg_i rfl (seg_i rfl (seg_i rfl (seg_nil q)))) rfl (by simp [maxLen]) (fun r389 h390 eh390 zh390 s_r389 fr_r389 => ?_)
  have E391 := Eh.trans (Mod.of_ext eh390 _)
  have z392 := eh390.size
  have f393 := (bxc.ext eh390)
  refine s_call [.pointer (some ⟨p_c, 0, none⟩), r389] rfl (spec_l1Cur_among_ok p_c t_c (m_c + 10 + 12 * (ts.length : Int)) lo_c r389 [2, 2, 3] _ f393 s_r389.toSl (fun b hb hc => by simp at hc; have := fr_r389 b hb; omega) (by omega) (by first | omega | assumption | (simp; done) | (simp; omega))) ?_
  rintro _ h395 ⟨g394, rfl, qh395, Ch395, mh395⟩
  have zh395 := mh395.size
  have E396 := E391.new mh395 (fun b hb => .inl (by simp at hb; simp [hb]))
  simp only [List.mem_cons, List.not_mem_nil, or_false] at qh395
  refine s_pq (.int .i64 g394) <| s_nil <| p_seqN <| v_seq <| v_seq <| v_ops <| s_pq (.int .i64 0) <| s_nil <| p_seqN <| v_block ?_
  have f398 := ((bxb1.ext eh390).mod mh395 (by simp; omega))
  have f399 := ((bxb5.ext eh390).mod mh395 (by simp; omega))
  have f400 := ((s_o3.ext eh390).mod mh395 (nb1 np_c_o3))
  refine v_loop3 (α := Int) (β := List LinkD) (γ := Value) (fun a l6 o6 => [(0, .pointer (some ⟨p_c, 0, none⟩)), (2, .pointer (some ⟨b1, 0, none⟩)), (3, .pointer (some ⟨b5, 0, none⟩)), (4, .int .i64 16), (5, .int .i64 g394), (6, .int .i64 a)]) (fun a l6 o6 hh => Mod [p_c] h hh ∧ Cur hh p_c t_c (m_c + 300 + 170 * a) lo_c ∧ Bx hh b1 [.slice none 0 0, .slice none 0 0] 27 ∧ Bx hh b5 [o3, o6] 27 ∧ SlO hh o3 ts ∧ SlO hh o6 l6 ∧ Fr h.size o6 ∧ p_c ∉ blks o6 ∧ b1 ∉ blks o6 ∧ b5 ∉ blks o6 ∧ (∀ b ∈ blks o3, b ∉ blks o6) ∧ 0 ≤ a ∧ a ≤ 16 ∧ l6.length ≤ 40) (fun a l6 o6 => ((16 : Int) - a).toNat) 0 [] (.slice none 0 0) ⟨rfl, rfl, rfl, rfl, rfl, rfl⟩ ⟨E396, (Ch395.le (by first | omega | (simp; done) | (simp; omega))), f398, f399, f400, (sl_eq (SlX.nil (α := LinkD) true h395) (by simp)), (Fr.nil _), (by simp [blks, fpts]), (by simp [blks, fpts]), (by simp [blks, fpts]), (fun b hb hc => by simp [blks, fpts] at hc), (by exact ⟨by omega, by omega, by first | omega | (simp; done)⟩)⟩ ?_
  rintro a l6 o6 R401 h397 ⟨Eh, bxc, bxb1, bxb5, s_o3, s_o6, fr_o6, np_c_o6, np_b1_o6, np_b5_o6, np_o3_o6, ⟨ha0, ha1, hl6⟩⟩
  have zEh := Eh.size
  have lbc := bxc.lt
  have lbb1 := bxb1.lt
  have lbb5 := bxb5.lt
  have ltk_o3 := s_o3.lt
  refine v_seq <| v_seq <| v_ops <| s_pq (.int .i64 a) <| s_pq (.int .i64 16) <| s_pq (.bool (decide (a < 16))) <| s_nil <| p_seqN ?_
  refine v_cond rfl (fun c403 => ?_) (fun c403 => ?_)
  ·
   refine v_skip <| p_seqN <| v_seq <| v_block <| v_seq <| v_ops <| s_pq (.int .i64 a) <| s_pure (.int .i64 (a + 1)) (fun _ q => ArithVC.mk (by omega) q) <| s_pq (.int .i64 (a + 1)) <| s_nil <| p_seqN <| v_block <| v_loop3 (α := Int) (β := List LinkD) (γ := Value) (fun b l7 o7 => [(0, .pointer (some ⟨p_c, 0, none⟩)), (2, .pointer (some ⟨b1, 0, none⟩)), (3, .pointer (some ⟨b5, 0, none⟩)), (4, .int .i64 16), (5, .int .i64 g394), (6, .int .i64 a), (7, .int .i64 b)]) (fun b l7 o7 hh => Mod [p_c] h hh ∧ Cur hh p_c t_c (m_c + 300 + 170 * a + 10 * (b - a)) lo_c ∧ Bx hh b1 [.slice none 0 0, .slice none 0 0] 27 ∧ Bx hh b5 [o3, o7] 27 ∧ SlO hh o3 ts ∧ SlO hh o7 l7 ∧ Fr h.size o7 ∧ p_c ∉ blks o7 ∧ b1 ∉ blks o7 ∧ b5 ∉ blks o7 ∧ (∀ b ∈ blks o3, b ∉ blks o7) ∧ a < b ∧ b ≤ 16 ∧ l7.length ≤ 40) (fun b l7 o7 => ((16 : Int) - b).toNat) (a + 1) l6 o6 ⟨rfl, rfl, rfl, rfl, rfl, rfl, rfl⟩ ⟨Eh, (bxc.le (by first | omega | (simp; done) | (simp; omega))), bxb1, bxb5, s_o3, (sl_eq s_o6 (by simp)), (fr_o6.mono (by omega)), np_c_o6, np_b1_o6, np_b5_o6, np_o3_o6, (by exact ⟨by omega, by omega, by first | omega | (simp; done)⟩)⟩ ?_
   rintro b l7 o7 R405 h404 ⟨Eh, bxc, bxb1, bxb5, s_o3, s_o7, fr_o7, np_c_o7, np_b1_o7, np_b5_o7, np_o3_o7, ⟨hb0, hb1, hl7⟩⟩
   have zEh := Eh.size
   have lbc := bxc.lt
   have lbb1 := bxb1.lt
   have lbb5 := bxb5.lt
   have ltk_o3 := s_o3.lt
   refine v_seq <| v_seq <| v_ops <| s_pq (.int .i64 b) <| s_pq (.int .i64 16) <| s_pq (.bool (decide (b < 16))) <| s_pq (.bool (decide (b < 16))) ?_
   refine s_splitT rfl (fun c407 => ?_) (fun c407 => ?_)
   ·
    refine s_run rfl <| s_pq (.pointer (some ⟨b5, 1, none⟩)) <| s_run rfl <| s_load o7 (fun _ q => bxb5.load rfl q) <| s_run rfl <| s_pure (.int .i64 (l7.length : Int)) (fun _ q => s_o7.lenVC q) <| s_run rfl <| s_pq (.bool (decide ((l7.length : Int) < 40))) <| s_pq (.bool (decide ((l7.length : Int) < 40))) <| s_nil <| p_seqN ?_
    refine v_cond rfl (fun c408 => ?_) (fun c408 => ?_)
    ·
     refine v_skip <| p_seqN <| v_seq <| v_block <| v_seq <| v_ops <| s_pq (.pointer (some ⟨p_c, 0, none⟩)) <| s_pq (.int .i64 g394) <| s_call [.pointer (some ⟨p_c, 0, none⟩), .int .i64 g394] rfl (spec_l1Cur_one_ok p_c t_c (m_c + 300 + 170 * a + 10 * (b - a)) lo_c g394 _ bxc (by omega)) ?_
     rintro _ h410 ⟨g409, rfl, Ch410, mh410⟩
     have zh410 := mh410.size
     have E411 := Eh.new mh410 (fun b hb => .inl (by simp at hb; simp [hb]))
     refine s_pq (.bool g409) ?_
     refine s_splitT rfl (fun c412 => ?_) (fun c412 => ?_)
     ·
      refine s_pass rfl <| s_pass rfl <| s_pass rfl <| s_pass rfl <| s_pass rfl <| s_splitU rfl <| s_passU rfl <| s_passU rfl <| s_passU rfl <| s_pass rfl <| s_pq (.bool true) <| s_nil <| p_seqN <| v_condY rfl rfl ?_
      have f413 := (bxb5.mod mh410 (by simp; omega))
      refine v_draw (DrawVC.hold ([b5]) ?_)
      refine d_pq (.pointer (some ⟨b5, 1, none⟩)) <| d_pq (.int .i64 a) <| d_pq (.int .i64 b) <| d_pq (.pointer (some ⟨p_c, 0, none⟩)) <| d_pq (.pointer (some ⟨p_c, 0, none⟩)) <| d_loadT o7 (fun _ q => f413.take (by simp) rfl q) <| d_eff <| s_call [.pointer (some ⟨p_c, 0, none⟩), .int .i64 30] rfl (spec_l1Cur_pick_ok p_c t_c ((m_c + 300 + 170 * a + 10 * (b - a)) + 2) lo_c 30 _ Ch410 (by omega)) ?_
      rintro _ h415 ⟨g414, rfl, qh415, Ch415, mh415⟩
      have zh415 := mh415.size
      have E416 := E411.new mh415 (fun b hb => .inl (by simp at hb; simp [hb]))
      have G417 := gmod1 (b := b5) (h := h410) (h0 := h410) mh415 (by omega) (by simp; omega) (fun _ _ => rfl)
      refine s_nil ⟨fun _ x hx => G417 x hx, ?_⟩
      refine d_pureT (.int .i64 (1 + g414)) (fun _ q => ArithVC.mk (by omega) q) <| d_eff ?_
      refine s_row (α := Int) [1, 5, 10, 10, 60, (1 + g414)] (fun _ q => seg_i rfl (seg_i rfl (seg_i rfl (seg_i rfl (seg_i rfl (seg_i rfl (seg_nil q))))))) rfl (by simp [maxLen]) (fun r418 h419 eh419 zh419 s_r418 fr_r418 => ?_)
      have E420 := E416.trans (Mod.of_ext eh419 _)
      have z421 := eh419.size
      have G422 := gext1 eh419 (by omega) G417
      refine s_nil ⟨fun _ x hx => G422 x hx, ?_⟩
      refine d_eff ?_
      have f423 := (Ch415.ext eh419)
      refine s_call [.pointer (some ⟨p_c, 0, none⟩), r418] rfl (spec_l1Cur_among_ok p_c t_c (((m_c + 300 + 170 * a + 10 * (b - a)) + 2) + 2) lo_c r418 [1, 5, 10, 10, 60, (1 + g414)] _ f423 s_r418.toSl (fun b hb hc => by simp at hc; have := fr_r418 b hb; omega) (by omega) (by first | omega | assumption | (simp; done) | (simp; omega))) ?_
      rintro _ h425 ⟨g424, rfl, qh425, Ch425, mh425⟩
      have zh425 := mh425.size
      have E426 := E420.new mh425 (fun b hb => .inl (by simp at hb; simp [hb]))
      have G427 := gmod1 (b := b5) (h := h419) (h0 := h410) mh425 (by omega) (by simp; omega) G422
      simp only [List.mem_cons, List.not_mem_nil, or_false] at qh425
      refine s_nil ⟨fun _ x hx => G427 x hx, ?_⟩
      refine d_pureT (.agg #[.int .i64 a, .int .i64 b, .int .i64 g424]) (fun _ q => w_build (seg_i rfl (seg_i rfl (seg_i rfl (seg_nil q))))) <| d_eff ?_
      refine s_row (α := LinkD) [(⟨a, b, g424⟩ : LinkD)] (fun _ q => seg_agg rfl rfl (seg_nil q)) rfl (by simp [maxLen]) (fun r428 h429 eh429 zh429 s_r428 fr_r428 => ?_)
      have E430 := E426.trans (Mod.of_ext eh429 _)
      have z431 := eh429.size
      have G432 := gext1 eh429 (by omega) G427
      refine s_nil ⟨fun _ x hx => G432 x hx, ?_⟩
      refine d_eff ?_
      have f433 := (((((s_o7.mod mh410 (nb1 np_c_o7)).mod mh415 (nb1 np_c_o7)).ext eh419).mod mh425 (nb1 np_c_o7)).ext eh429)
      refine s_app f433 s_r428 rfl rfl rfl (by first | (simp [maxLen]; done) | (simp [maxLen]; omega)) (by first | (simp; done) | (simp; omega)) (fun r434 h435 mh435 zh435 s_r434 ab_r434 => ?_)
      have E436 := E430.new mh435 (fun b hb => .inr (by have := fr_o7 b hb; omega))
      have fr_r434 := fr_o7.app ab_r434 (by omega)
      have np437 : p_c ∉ blks r434 := fun hc => (ab_r434 _ hc).elim np_c_o7 (fun hc => by omega)
      have np438 : b1 ∉ blks r434 := fun hc => (ab_r434 _ hc).elim np_b1_o7 (fun hc => by omega)
      have np439 : b5 ∉ blks r434 := fun hc => (ab_r434 _ hc).elim np_b5_o7 (fun hc => by omega)
      have np441 : ∀ b ∈ blks o3, b ∉ blks r434 := fun b hb hc => (ab_r434 _ hc).elim ((np_o3_o7 : ∀ b ∈ blks o3, b ∉ blks o7) b hb) (fun hc => by have := ltk_o3 b hb; omega)
      refine s_nil ⟨fun hl => (by cases hl), ?_⟩
      refine d_pq (.pointer (some ⟨b5, 1, none⟩)) <| d_eff ?_
      have f444 := (((((f413.mod mh415 (by simp; omega)).ext eh419).mod mh425 (by simp; omega)).ext eh429).mod mh435 np_b5_o7)
      refine s_stBx r434 [r434] [o3, r434] f444 rfl rfl s_r434.cellsv rfl (by simp) (all_cons s_r434.one1 all_nil) rfl (fun h445 mh445 sh445 bxx446 => ?_)
      have E447 := E436.new mh445 (fun b hb => .inr (by simp at hb; omega))
      refine s_nil ⟨fun hl => (by cases hl), ?_⟩
      refine d_done <| p_blkN <| p_seqN <| v_ops <| s_pq (.int .i64 b) <| s_pure (.int .i64 (b + 1)) (fun _ q => ArithVC.mk (by omega) q) <| s_pq (.int .i64 (b + 1)) <| s_nil ?_
      have f448 := (((Ch425.ext eh429).mod mh435 np_c_o7 (fun b hb => by have := fr_o7 b hb; omega)).mod mh445 (by simp; omega) (fun b hb => by simp at hb; omega))
      have f449 := (((((((bxb1.mod mh410 (by simp; omega)).mod mh415 (by simp; omega)).ext eh419).mod mh425 (by simp; omega)).ext eh429).mod mh435 np_b1_o7).mod mh445 (by simp; omega))
      have f450 := (((((((s_o3.mod mh410 (nb1 np_c_o3)).mod mh415 (nb1 np_c_o3)).ext eh419).mod mh425 (nb1 np_c_o3)).ext eh429).mod mh435 np_o3_o7).mod mh445 (nb1 np_b5_o3))
      have f451 := (s_r434.mod mh445 (nb1 np439))
      exact p_lpN ⟨(b + 1), (l7 ++ [(⟨a, b, g424⟩ : LinkD)]), r434, ⟨rfl, rfl, rfl, rfl, rfl, rfl, rfl⟩, ⟨E447, (f448.le (by first | omega | (simp; done) | (simp; omega))), f449, bxx446, f450, (sl_eq f451 (by simp)), (fr_r434.mono (by omega)), np437, np438, np439, np441, (by exact ⟨by omega, by omega, by first | omega | (simp; omega)⟩)⟩, by first | omega | (simp; done) | (simp; omega)⟩
     refine s_run rfl <| s_pq (.int .i64 b) <| s_run rfl <| s_pq (.int .i64 a) <| s_run rfl <| s_pure (.int .i64 (a + 1)) (fun _ q => ArithVC.mk (by omega) q) <| s_run rfl <| s_pq (.bool (b == (a + 1))) <| s_run rfl <| s_pq (.bool (b == (a + 1))) ?_
     refine s_splitT rfl (fun c452 => ?_) (fun c452 => ?_)
     ·
      refine s_run rfl <| s_pq (.pointer (some ⟨p_c, 0, none⟩)) <| s_run rfl <| s_call [.pointer (some ⟨p_c, 0, none⟩), .int .i64 8] rfl (spec_l1Cur_one_ok p_c t_c ((m_c + 300 + 170 * a + 10 * (b - a)) + 2) lo_c 8 _ Ch410 (by omega)) ?_
      rintro _ h454 ⟨g453, rfl, Ch454, mh454⟩
      have zh454 := mh454.size
      have E455 := E411.new mh454 (fun b hb => .inl (by simp at hb; simp [hb]))
      refine s_run rfl <| s_pq (.bool (!g453)) <| s_run rfl <| s_pq (.bool (!g453)) <| s_pq (.bool (!g453)) <| s_nil <| p_seqN ?_
      refine v_cond rfl (fun c456 => ?_) (fun c456 => ?_)
      ·
       have f457 := ((bxb5.mod mh410 (by simp; omega)).mod mh454 (by simp; omega))
       refine v_draw (DrawVC.hold ([b5]) ?_)
       refine d_pq (.pointer (some ⟨b5, 1, none⟩)) <| d_pq (.int .i64 a) <| d_pq (.int .i64 b) <| d_pq (.pointer (some ⟨p_c, 0, none⟩)) <| d_pq (.pointer (some ⟨p_c, 0, none⟩)) <| d_loadT o7 (fun _ q => f457.take (by simp) rfl q) <| d_eff <| s_call [.pointer (some ⟨p_c, 0, none⟩), .int .i64 30] rfl (spec_l1Cur_pick_ok p_c t_c (((m_c + 300 + 170 * a + 10 * (b - a)) + 2) + 2) lo_c 30 _ Ch454 (by omega)) ?_
       rintro _ h459 ⟨g458, rfl, qh459, Ch459, mh459⟩
       have zh459 := mh459.size
       have E460 := E455.new mh459 (fun b hb => .inl (by simp at hb; simp [hb]))
       have G461 := gmod1 (b := b5) (h := h454) (h0 := h454) mh459 (by omega) (by simp; omega) (fun _ _ => rfl)
       refine s_nil ⟨fun _ x hx => G461 x hx, ?_⟩
       refine d_pureT (.int .i64 (1 + g458)) (fun _ q => ArithVC.mk (by omega) q) <| d_eff ?_
       refine s_row (α := Int) [1, 5, 10, 10, 60, (1 + g458)] (fun _ q => seg_i rfl (seg_i rfl (seg_i rfl (seg_i rfl (seg_i rfl (seg_i rfl (seg_nil q))))))) rfl (by simp [maxLen]) (fun r462 h463 eh463 zh463 s_r462 fr_r462 => ?_)
       have E464 := E460.trans (Mod.of_ext eh463 _)
       have z465 := eh463.size
       have G466 := gext1 eh463 (by omega) G461
       refine s_nil ⟨fun _ x hx => G466 x hx, ?_⟩
       refine d_eff ?_
       have f467 := (Ch459.ext eh463)
       refine s_call [.pointer (some ⟨p_c, 0, none⟩), r462] rfl (spec_l1Cur_among_ok p_c t_c ((((m_c + 300 + 170 * a + 10 * (b - a)) + 2) + 2) + 2) lo_c r462 [1, 5, 10, 10, 60, (1 + g458)] _ f467 s_r462.toSl (fun b hb hc => by simp at hc; have := fr_r462 b hb; omega) (by omega) (by first | omega | assumption | (simp; done) | (simp; omega))) ?_
       rintro _ h469 ⟨g468, rfl, qh469, Ch469, mh469⟩
       have zh469 := mh469.size
       have E470 := E464.new mh469 (fun b hb => .inl (by simp at hb; simp [hb]))
       have G471 := gmod1 (b := b5) (h := h463) (h0 := h454) mh469 (by omega) (by simp; omega) G466
       simp only [List.mem_cons, List.not_mem_nil, or_false] at qh469
       refine s_nil ⟨fun _ x hx => G471 x hx, ?_⟩
       refine d_pureT (.agg #[.int .i64 a, .int .i64 b, .int .i64 g468]) (fun _ q => w_build (seg_i rfl (seg_i rfl (seg_i rfl (seg_nil q))))) <| d_eff ?_
       refine s_row (α := LinkD) [(⟨a, b, g468⟩ : LinkD)] (fun _ q => seg_agg rfl rfl (seg_nil q)) rfl (by simp [maxLen]) (fun r472 h473 eh473 zh473 s_r472 fr_r472 => ?_)
       have E474 := E470.trans (Mod.of_ext eh473 _)
       have z475 := eh473.size
       have G476 := gext1 eh473 (by omega) G471
       refine s_nil ⟨fun _ x hx => G476 x hx, ?_⟩
       refine d_eff ?_
       have f477 := ((((((s_o7.mod mh410 (nb1 np_c_o7)).mod mh454 (nb1 np_c_o7)).mod mh459 (nb1 np_c_o7)).ext eh463).mod mh469 (nb1 np_c_o7)).ext eh473)
       refine s_app f477 s_r472 rfl rfl rfl (by first | (simp [maxLen]; done) | (simp [maxLen]; omega)) (by first | (simp; done) | (simp; omega)) (fun r478 h479 mh479 zh479 s_r478 ab_r478 => ?_)
       have E480 := E474.new mh479 (fun b hb => .inr (by have := fr_o7 b hb; omega))
       have fr_r478 := fr_o7.app ab_r478 (by omega)
       have np481 : p_c ∉ blks r478 := fun hc => (ab_r478 _ hc).elim np_c_o7 (fun hc => by omega)
       have np482 : b1 ∉ blks r478 := fun hc => (ab_r478 _ hc).elim np_b1_o7 (fun hc => by omega)
       have np483 : b5 ∉ blks r478 := fun hc => (ab_r478 _ hc).elim np_b5_o7 (fun hc => by omega)
       have np485 : ∀ b ∈ blks o3, b ∉ blks r478 := fun b hb hc => (ab_r478 _ hc).elim ((np_o3_o7 : ∀ b ∈ blks o3, b ∉ blks o7) b hb) (fun hc => by have := ltk_o3 b hb; omega)
       refine s_nil ⟨fun hl => (by cases hl), ?_⟩
       refine d_pq (.pointer (some ⟨b5, 1, none⟩)) <| d_eff ?_
       have f488 := (((((f457.mod mh459 (by simp; omega)).ext eh463).mod mh469 (by simp; omega)).ext eh473).mod mh479 np_b5_o7)
       refine s_stBx r478 [r478] [o3, r478] f488 rfl rfl s_r478.cellsv rfl (by simp) (all_cons s_r478.one1 all_nil) rfl (fun h489 mh489 sh489 bxx490 => ?_)
       have E491 := E480.new mh489 (fun b hb => .inr (by simp at hb; omega))
       refine s_nil ⟨fun hl => (by cases hl), ?_⟩
       refine d_done <| p_blkN <| p_seqN <| v_ops <| s_pq (.int .i64 b) <| s_pure (.int .i64 (b + 1)) (fun _ q => ArithVC.mk (by omega) q) <| s_pq (.int .i64 (b + 1)) <| s_nil ?_
       have f492 := (((Ch469.ext eh473).mod mh479 np_c_o7 (fun b hb => by have := fr_o7 b hb; omega)).mod mh489 (by simp; omega) (fun b hb => by simp at hb; omega))
       have f493 := ((((((((bxb1.mod mh410 (by simp; omega)).mod mh454 (by simp; omega)).mod mh459 (by simp; omega)).ext eh463).mod mh469 (by simp; omega)).ext eh473).mod mh479 np_b1_o7).mod mh489 (by simp; omega))
       have f494 := ((((((((s_o3.mod mh410 (nb1 np_c_o3)).mod mh454 (nb1 np_c_o3)).mod mh459 (nb1 np_c_o3)).ext eh463).mod mh469 (nb1 np_c_o3)).ext eh473).mod mh479 np_o3_o7).mod mh489 (nb1 np_b5_o3))
       have f495 := (s_r478.mod mh489 (nb1 np483))
       exact p_lpN ⟨(b + 1), (l7 ++ [(⟨a, b, g468⟩ : LinkD)]), r478, ⟨rfl, rfl, rfl, rfl, rfl, rfl, rfl⟩, ⟨E491, (f492.le (by first | omega | (simp; done) | (simp; omega))), f493, bxx490, f494, (sl_eq f495 (by simp)), (fr_r478.mono (by omega)), np481, np482, np483, np485, (by exact ⟨by omega, by omega, by first | omega | (simp; omega)⟩)⟩, by first | omega | (simp; done) | (simp; omega)⟩
      have c456 := Classical.not_not.1 c456
      refine v_skip <| p_blkN <| p_seqN <| v_ops <| s_pq (.int .i64 b) <| s_pure (.int .i64 (b + 1)) (fun _ q => ArithVC.mk (by omega) q) <| s_pq (.int .i64 (b + 1)) <| s_nil ?_
      have f496 := ((bxb1.mod mh410 (by simp; omega)).mod mh454 (by simp; omega))
      have f497 := ((bxb5.mod mh410 (by simp; omega)).mod mh454 (by simp; omega))
      have f498 := ((s_o3.mod mh410 (nb1 np_c_o3)).mod mh454 (nb1 np_c_o3))
      have f499 := ((s_o7.mod mh410 (nb1 np_c_o7)).mod mh454 (nb1 np_c_o7))
      exact p_lpN ⟨(b + 1), l7, o7, ⟨rfl, rfl, rfl, rfl, rfl, rfl, rfl⟩, ⟨E455, (Ch454.le (by first | omega | (simp; done) | (simp; omega))), f496, f497, f498, (sl_eq f499 (by simp)), (fr_o7.mono (by omega)), np_c_o7, np_b1_o7, np_b5_o7, np_o3_o7, (by exact ⟨by omega, by omega, by first | omega | (simp; omega)⟩)⟩, by first | omega | (simp; done) | (simp; omega)⟩
     refine s_pass rfl <| s_pass rfl <| s_pass rfl <| s_run rfl <| s_pq (.bool false) <| s_pq (.bool false) <| s_nil <| p_seqN <| v_condN rfl (by simp) <| v_skip <| p_blkN <| p_seqN <| v_ops <| s_pq (.int .i64 b) <| s_pure (.int .i64 (b + 1)) (fun _ q => ArithVC.mk (by omega) q) <| s_pq (.int .i64 (b + 1)) <| s_nil ?_
     have f500 := (bxb1.mod mh410 (by simp; omega))
     have f501 := (bxb5.mod mh410 (by simp; omega))
     have f502 := (s_o3.mod mh410 (nb1 np_c_o3))
     have f503 := (s_o7.mod mh410 (nb1 np_c_o7))
     exact p_lpN ⟨(b + 1), l7, o7, ⟨rfl, rfl, rfl, rfl, rfl, rfl, rfl⟩, ⟨E411, (Ch410.le (by first | omega | (simp; done) | (simp; omega))), f500, f501, f502, (sl_eq f503 (by simp)), (fr_o7.mono (by omega)), np_c_o7, np_b1_o7, np_b5_o7, np_o3_o7, (by exact ⟨by omega, by omega, by first | omega | (simp; omega)⟩)⟩, by first | omega | (simp; done) | (simp; omega)⟩
    refine v_exit <| p_seqX <| p_lpX <| p_blkX <| p_blkN <| p_seqN <| v_ops <| s_pq (.int .i64 a) <| s_pure (.int .i64 (a + 1)) (fun _ q => ArithVC.mk (by omega) q) <| s_pq (.int .i64 (a + 1)) <| s_nil ?_
    exact p_lpN ⟨(a + 1), l7, o7, ⟨rfl, rfl, rfl, rfl, rfl, rfl⟩, ⟨Eh, (bxc.le (by first | omega | (simp; done) | (simp; omega))), bxb1, bxb5, s_o3, (sl_eq s_o7 (by simp)), (fr_o7.mono (by omega)), np_c_o7, np_b1_o7, np_b5_o7, np_o3_o7, (by exact ⟨by omega, by omega, by first | omega | (simp; omega)⟩)⟩, by first | omega | (simp; done) | (simp; omega)⟩
   refine s_pass rfl <| s_pass rfl <| s_pass rfl <| s_pass rfl <| s_pq (.bool false) <| s_nil <| p_seqN <| v_condN rfl (by simp) <| v_exit <| p_seqX <| p_lpX <| p_blkX <| p_blkN <| p_seqN <| v_ops <| s_pq (.int .i64 a) <| s_pure (.int .i64 (a + 1)) (fun _ q => ArithVC.mk (by omega) q) <| s_pq (.int .i64 (a + 1)) <| s_nil ?_
   exact p_lpN ⟨(a + 1), l7, o7, ⟨rfl, rfl, rfl, rfl, rfl, rfl⟩, ⟨Eh, (bxc.le (by first | omega | (simp; done) | (simp; omega))), bxb1, bxb5, s_o3, (sl_eq s_o7 (by simp)), (fr_o7.mono (by omega)), np_c_o7, np_b1_o7, np_b5_o7, np_o3_o7, (by exact ⟨by omega, by omega, by first | omega | (simp; omega)⟩)⟩, by first | omega | (simp; done) | (simp; omega)⟩
  refine v_exit <| p_seqX <| p_lpX <| p_blkX <| p_seqN <| v_seq <| v_ops <| s_load (.agg #[o3, o6]) (fun _ q => bxb5.loadA rfl q) ?_
  refine s_stBx (.agg #[o3, o6]) [o3, o6] [o3, o6] bxb1 rfl rfl rfl rfl (by simp) (all_cons s_o3.one1 (all_cons s_o6.one1 all_nil)) rfl (fun h504 mh504 sh504 bxx505 => ?_)
  have E506 := Eh.new mh504 (fun b hb => .inr (by simp at hb; omega))
  refine s_nil <| p_seqN <| v_ret <| p_ret [.agg #[o3, o6]] (.agg #[o3, o6]) (fun _ q => (bxx505.loadA rfl q)) rfl ?_
  have f507 := (s_o3.mod mh504 (nb1 np_b1_o3))
  have f508 := (s_o6.mod mh504 (nb1 np_b1_o6))
  have f509 := (bxc.mod mh504 (by simp; omega) (fun b hb => by simp at hb; omega))
  exact ⟨⟨ts, l6⟩, o3, o6, rfl, f507, (fr_o3.mono (by omega)), f508, (fr_o6.mono (by omega)), np_o3_o6, (by (try simp only); exact ⟨by omega, by omega, by omega⟩), (f509.le (by omega)), E506⟩
 refine v_skip <| p_seqN <| v_seq <| v_block ?_
 have f511 := ((((bxb1.ext eh6).mod mh9 (by simp; omega)).mod mh14 (by simp; omega)).mod mh17 (by simp; omega))
 have f512 := ((bxx10.mod mh14 (by simp; omega)).mod mh17 (by simp; omega))
 refine v_loop2 (α := List TowerD) (β := Value) (fun ts o3 => [(0, .pointer (some ⟨p_c, 0, none⟩)), (2, .pointer (some ⟨b1, 0, none⟩)), (3, .pointer (some ⟨b5, 0, none⟩)), (4, .int .i64 (1 + g13))]) (fun ts o3 hh => Mod [p_c] h hh ∧ Cur hh p_c t_c (m_c + 10 + 12 * (ts.length : Int)) lo_c ∧ Bx hh b1 [.slice none 0 0, .slice none 0 0] 27 ∧ Bx hh b5 [o3, .slice none 0 0] 27 ∧ SlO hh o3 ts ∧ Fr h.size o3 ∧ p_c ∉ blks o3 ∧ b1 ∉ blks o3 ∧ b5 ∉ blks o3 ∧ (ts.length : Int) ≤ (1 + g13)) (fun ts o3 => (((1 + g13) : Int) - (ts.length : Int)).toNat) [] (.slice none 0 0) ⟨rfl, rfl, rfl, rfl⟩ ⟨E18, (Ch17.le (by first | omega | (simp; done) | (simp; omega))), f511, f512, (sl_eq (SlX.nil (α := TowerD) true h17) (by simp)), (Fr.nil _), (by simp [blks, fpts]), (by simp [blks, fpts]), (by simp [blks, fpts]), (by first | omega | (simp; done) | (simp; omega))⟩ ?_
 rintro ts o3 R513 h510 ⟨Eh, bxc, bxb1, bxb5, s_o3, fr_o3, np_c_o3, np_b1_o3, np_b5_o3, hts⟩
 have zEh := Eh.size
 have lbc := bxc.lt
 have lbb1 := bxb1.lt
 have lbb5 := bxb5.lt
 refine v_seq <| v_seq <| v_ops <| s_pq (.pointer (some ⟨b5, 0, none⟩)) <| s_load o3 (fun _ q => bxb5.load rfl q) <| s_pure (.int .i64 (ts.length : Int)) (fun _ q => s_o3.lenVC q) <| s_pq (.int .i64 (1 + g13)) <| s_pq (.bool (decide ((ts.length : Int) < (1 + g13)))) <| s_nil <| p_seqN ?_
 refine v_cond rfl (fun c515 => ?_) (fun c515 => ?_)
 ·
  refine v_skip <| p_seqN <| v_block ?_
  refine v_draw (DrawVC.hold ([b5]) ?_)
  refine d_pq (.pointer (some ⟨b5, 0, none⟩)) <| d_pq (.pointer (some ⟨p_c, 0, none⟩)) <| d_pq (.pointer (some ⟨p_c, 0, none⟩)) <| d_pq (.pointer (some ⟨p_c, 0, none⟩)) <| d_pq (.pointer (some ⟨p_c, 0, none⟩)) <| d_pq (.pointer (some ⟨p_c, 0, none⟩)) <| d_loadT o3 (fun _ q => bxb5.take (by simp) rfl q) ?_
  refine d_fork ?_ ?_
  ·
   refine d_eff <| s_call [.pointer (some ⟨p_c, 0, none⟩), .int .i64 400] rfl (spec_l1Cur_pick_ok p_c t_c (m_c + 10 + 12 * (ts.length : Int)) lo_c 400 _ bxc (by omega)) ?_
   rintro _ h517 ⟨g516, rfl, qh517, Ch517, mh517⟩
   have zh517 := mh517.size
   have E518 := Eh.new mh517 (fun b hb => .inl (by simp at hb; simp [hb]))
   have G519 := gmod1 (b := b5) (h := h510) (h0 := h510) mh517 (by omega) (by simp; omega) (fun _ _ => rfl)
   refine s_nil ⟨fun _ x hx => G519 x hx, ?_⟩
   refine d_fork ?_ ?_
   ·
    refine d_eff ?_
    refine s_row (α := Int) [0, 30, 100, 999, g516] (fun _ q => seg_i rfl (seg_i rfl (seg_i rfl (seg_i rfl (seg_i rfl (seg_nil q)))))) rfl (by simp [maxLen]) (fun r520 h521 eh521 zh521 s_r520 fr_r520 => ?_)
    have E522 := E518.trans (Mod.of_ext eh521 _)
    have z523 := eh521.size
    have G524 := gext1 eh521 (by omega) G519
    refine s_nil ⟨fun _ x hx => G524 x hx, ?_⟩
    refine d_fork ?_ ?_
    ·
     refine d_eff ?_
     have f525 := (Ch517.ext eh521)
     refine s_call [.pointer (some ⟨p_c, 0, none⟩), r520] rfl (spec_l1Cur_among_ok p_c t_c ((m_c + 10 + 12 * (ts.length : Int)) + 2) lo_c r520 [0, 30, 100, 999, g516] _ f525 s_r520.toSl (fun b hb hc => by simp at hc; have := fr_r520 b hb; omega) (by omega) (by first | omega | assumption | (simp; done) | (simp; omega))) ?_
     rintro _ h527 ⟨g526, rfl, qh527, Ch527, mh527⟩
     have zh527 := mh527.size
     have E528 := E522.new mh527 (fun b hb => .inl (by simp at hb; simp [hb]))
     have G529 := gmod1 (b := b5) (h := h521) (h0 := h510) mh527 (by omega) (by simp; omega) G524
     simp only [List.mem_cons, List.not_mem_nil, or_false] at qh527
     refine s_nil ⟨fun _ x hx => G529 x hx, ?_⟩
     refine d_fork ?_ ?_
     ·
      refine d_eff <| s_call [.pointer (some ⟨p_c, 0, none⟩), .int .i64 400] rfl (spec_l1Cur_pick_ok p_c t_c (((m_c + 10 + 12 * (ts.length : Int)) + 2) + 2) lo_c 400 _ Ch527 (by omega)) ?_
      rintro _ h531 ⟨g530, rfl, qh531, Ch531, mh531⟩
      have zh531 := mh531.size
      have E532 := E528.new mh531 (fun b hb => .inl (by simp at hb; simp [hb]))
      have G533 := gmod1 (b := b5) (h := h527) (h0 := h510) mh531 (by omega) (by simp; omega) G529
      refine s_nil ⟨fun _ x hx => G533 x hx, ?_⟩
      refine d_fork ?_ ?_
      ·
       refine d_eff ?_
       refine s_row (α := Int) [0, 40, 999, g530] (fun _ q => seg_i rfl (seg_i rfl (seg_i rfl (seg_i rfl (seg_nil q))))) rfl (by simp [maxLen]) (fun r534 h535 eh535 zh535 s_r534 fr_r534 => ?_)
       have E536 := E532.trans (Mod.of_ext eh535 _)
       have z537 := eh535.size
       have G538 := gext1 eh535 (by omega) G533
       refine s_nil ⟨fun _ x hx => G538 x hx, ?_⟩
       refine d_fork ?_ ?_
       ·
        refine d_eff ?_
        have f539 := (Ch531.ext eh535)
        refine s_call [.pointer (some ⟨p_c, 0, none⟩), r534] rfl (spec_l1Cur_among_ok p_c t_c ((((m_c + 10 + 12 * (ts.length : Int)) + 2) + 2) + 2) lo_c r534 [0, 40, 999, g530] _ f539 s_r534.toSl (fun b hb hc => by simp at hc; have := fr_r534 b hb; omega) (by omega) (by first | omega | assumption | (simp; done) | (simp; omega))) ?_
        rintro _ h541 ⟨g540, rfl, qh541, Ch541, mh541⟩
        have zh541 := mh541.size
        have E542 := E536.new mh541 (fun b hb => .inl (by simp at hb; simp [hb]))
        have G543 := gmod1 (b := b5) (h := h535) (h0 := h510) mh541 (by omega) (by simp; omega) G538
        simp only [List.mem_cons, List.not_mem_nil, or_false] at qh541
        refine s_nil ⟨fun _ x hx => G543 x hx, ?_⟩
        refine d_eff ?_
        refine s_row (α := Int) [0, 20, 120, 500] (fun _ q => seg_i rfl (seg_i rfl (seg_i rfl (seg_i rfl (seg_nil q))))) rfl (by simp [maxLen]) (fun r544 h545 eh545 zh545 s_r544 fr_r544 => ?_)
        have E546 := E542.trans (Mod.of_ext eh545 _)
        have z547 := eh545.size
        have G548 := gext1 eh545 (by omega) G543
        refine s_nil ⟨fun _ x hx => G548 x hx, ?_⟩
        refine d_eff ?_
        have f549 := (Ch541.ext eh545)
        refine s_call [.pointer (some ⟨p_c, 0, none⟩), r544] rfl (spec_l1Cur_among_ok p_c t_c (((((m_c + 10 + 12 * (ts.length : Int)) + 2) + 2) + 2) + 2) lo_c r544 [0, 20, 120, 500] _ f549 s_r544.toSl (fun b hb hc => by simp at hc; have := fr_r544 b hb; omega) (by omega) (by first | omega | assumption | (simp; done) | (simp; omega))) ?_
        rintro _ h551 ⟨g550, rfl, qh551, Ch551, mh551⟩
        have zh551 := mh551.size
        have E552 := E546.new mh551 (fun b hb => .inl (by simp at hb; simp [hb]))
        have G553 := gmod1 (b := b5) (h := h545) (h0 := h510) mh551 (by omega) (by simp; omega) G548
        simp only [List.mem_cons, List.not_mem_nil, or_false] at qh551
        refine s_nil ⟨fun _ x hx => G553 x hx, ?_⟩
        refine d_pureT (.agg #[.int .i64 g526, .int .i64 g540, .int .i64 g550]) (fun _ q => w_build (seg_i rfl (seg_i rfl (seg_i rfl (seg_nil q))))) <| d_eff ?_
        refine s_row (α := TowerD) [(⟨g526, g540, g550⟩ : TowerD)] (fun _ q => seg_agg rfl rfl (seg_nil q)) rfl (by simp [maxLen]) (fun r554 h555 eh555 zh555 s_r554 fr_r554 => ?_)
        have E556 := E552.trans (Mod.of_ext eh555 _)
        have z557 := eh555.size
        have G558 := gext1 eh555 (by omega) G553
        refine s_nil ⟨fun _ x hx => G558 x hx, ?_⟩
        refine d_eff ?_
        have f559 := (((((((((s_o3.mod mh517 (nb1 np_c_o3)).ext eh521).mod mh527 (nb1 np_c_o3)).mod mh531 (nb1 np_c_o3)).ext eh535).mod mh541 (nb1 np_c_o3)).ext eh545).mod mh551 (nb1 np_c_o3)).ext eh555)
        refine s_app f559 s_r554 rfl rfl rfl (by first | (simp [maxLen]; done) | (simp [maxLen]; omega)) (by first | (simp; done) | (simp; omega)) (fun r560 h561 mh561 zh561 s_r560 ab_r560 => ?_)
        have E562 := E556.new mh561 (fun b hb => .inr (by have := fr_o3 b hb; omega))
        have fr_r560 := fr_o3.app ab_r560 (by omega)
        have np563 : p_c ∉ blks r560 := fun hc => (ab_r560 _ hc).elim np_c_o3 (fun hc => by omega)
        have np564 : b1 ∉ blks r560 := fun hc => (ab_r560 _ hc).elim np_b1_o3 (fun hc => by omega)
        have np565 : b5 ∉ blks r560 := fun hc => (ab_r560 _ hc).elim np_b5_o3 (fun hc => by omega)
        refine s_nil ⟨fun hl => (by cases hl), ?_⟩
        refine d_pq (.pointer (some ⟨b5, 0, none⟩)) <| d_eff ?_
        have f570 := ((((((((((bxb5.mod mh517 (by simp; omega)).ext eh521).mod mh527 (by simp; omega)).mod mh531 (by simp; omega)).ext eh535).mod mh541 (by simp; omega)).ext eh545).mod mh551 (by simp; omega)).ext eh555).mod mh561 np_b5_o3)
        refine s_stBx r560 [r560] [r560, .slice none 0 0] f570 rfl rfl s_r560.cellsv rfl (by simp) (all_cons s_r560.one1 all_nil) rfl (fun h571 mh571 sh571 bxx572 => ?_)
        have E573 := E562.new mh571 (fun b hb => .inr (by simp at hb; omega))
        refine s_nil ⟨fun hl => (by cases hl), ?_⟩
        refine d_done <| p_blkN ?_
        have f574 := (((Ch551.ext eh555).mod mh561 np_c_o3 (fun b hb => by have := fr_o3 b hb; omega)).mod mh571 (by simp; omega) (fun b hb => by simp at hb; omega))
        have f575 := (((((((((((bxb1.mod mh517 (by simp; omega)).ext eh521).mod mh527 (by simp; omega)).mod mh531 (by simp; omega)).ext eh535).mod mh541 (by simp; omega)).ext eh545).mod mh551 (by simp; omega)).ext eh555).mod mh561 np_b1_o3).mod mh571 (by simp; omega))
        have f576 := (s_r560.mod mh571 (nb1 np565))
        exact p_lpN ⟨(ts ++ [(⟨g526, g540, g550⟩ : TowerD)]), r560, ⟨rfl, rfl, rfl, rfl⟩, ⟨E573, (f574.le (by first | omega | (simp; done) | (simp; omega))), f575, bxx572, (sl_eq f576 (by simp)), (fr_r560.mono (by omega)), np563, np564, np565, (by first | omega | (simp; done) | (simp; omega))⟩, by first | omega | (simp; done) | (simp; omega)⟩
       refine d_eff ?_
       refine s_row (α := Int) [0, 20, 120, 500] (fun _ q => seg_i rfl (seg_i rfl (seg_i rfl (seg_i rfl (seg_nil q))))) rfl (by simp [maxLen]) (fun r577 h578 eh578 zh578 s_r577 fr_r577 => ?_)
       have E579 := E536.trans (Mod.of_ext eh578 _)
       have z580 := eh578.size
       have G581 := gext1 eh578 (by omega) G538
       refine s_nil ⟨fun _ x hx => G581 x hx, ?_⟩
       refine d_eff ?_
       have f582 := ((Ch531.ext eh535).ext eh578)
       have f583 := (s_r534.ext eh578)
       refine s_call [.pointer (some ⟨p_c, 0, none⟩), r534] rfl (spec_l1Cur_among_ok p_c t_c ((((m_c + 10 + 12 * (ts.length : Int)) + 2) + 2) + 2) lo_c r534 [0, 40, 999, g530] _ f582 f583.toSl (fun b hb hc => by simp at hc; have := fr_r534 b hb; omega) (by omega) (by first | omega | assumption | (simp; done) | (simp; omega))) ?_
       rintro _ h585 ⟨g584, rfl, qh585, Ch585, mh585⟩
       have zh585 := mh585.size
       have E586 := E579.new mh585 (fun b hb => .inl (by simp at hb; simp [hb]))
       have G587 := gmod1 (b := b5) (h := h578) (h0 := h510) mh585 (by omega) (by simp; omega) G581
       simp only [List.mem_cons, List.not_mem_nil, or_false] at qh585
       refine s_nil ⟨fun _ x hx => G587 x hx, ?_⟩
       refine d_eff ?_
       have f588 := (s_r577.mod mh585 (fun b hb hc => by simp at hc; have := fr_r577 b hb; omega))
       refine s_call [.pointer (some ⟨p_c, 0, none⟩), r577] rfl (spec_l1Cur_among_ok p_c t_c (((((m_c + 10 + 12 * (ts.length : Int)) + 2) + 2) + 2) + 2) lo_c r577 [0, 20, 120, 500] _ Ch585 f588.toSl (fun b hb hc => by simp at hc; have := fr_r577 b hb; omega) (by omega) (by first | omega | assumption | (simp; done) | (simp; omega))) ?_
       rintro _ h590 ⟨g589, rfl, qh590, Ch590, mh590⟩
       have zh590 := mh590.size
       have E591 := E586.new mh590 (fun b hb => .inl (by simp at hb; simp [hb]))
       have G592 := gmod1 (b := b5) (h := h585) (h0 := h510) mh590 (by omega) (by simp; omega) G587
       simp only [List.mem_cons, List.not_mem_nil, or_false] at qh590
       refine s_nil ⟨fun _ x hx => G592 x hx, ?_⟩
       refine d_pureT (.agg #[.int .i64 g526, .int .i64 g584, .int .i64 g589]) (fun _ q => w_build (seg_i rfl (seg_i rfl (seg_i rfl (seg_nil q))))) <| d_eff ?_
       refine s_row (α := TowerD) [(⟨g526, g584, g589⟩ : TowerD)] (fun _ q => seg_agg rfl rfl (seg_nil q)) rfl (by simp [maxLen]) (fun r593 h594 eh594 zh594 s_r593 fr_r593 => ?_)
       have E595 := E591.trans (Mod.of_ext eh594 _)
       have z596 := eh594.size
       have G597 := gext1 eh594 (by omega) G592
       refine s_nil ⟨fun _ x hx => G597 x hx, ?_⟩
       refine d_eff ?_
       have f598 := (((((((((s_o3.mod mh517 (nb1 np_c_o3)).ext eh521).mod mh527 (nb1 np_c_o3)).mod mh531 (nb1 np_c_o3)).ext eh535).ext eh578).mod mh585 (nb1 np_c_o3)).mod mh590 (nb1 np_c_o3)).ext eh594)
       refine s_app f598 s_r593 rfl rfl rfl (by first | (simp [maxLen]; done) | (simp [maxLen]; omega)) (by first | (simp; done) | (simp; omega)) (fun r599 h600 mh600 zh600 s_r599 ab_r599 => ?_)
       have E601 := E595.new mh600 (fun b hb => .inr (by have := fr_o3 b hb; omega))
       have fr_r599 := fr_o3.app ab_r599 (by omega)
       have np602 : p_c ∉ blks r599 := fun hc => (ab_r599 _ hc).elim np_c_o3 (fun hc => by omega)
       have np603 : b1 ∉ blks r599 := fun hc => (ab_r599 _ hc).elim np_b1_o3 (fun hc => by omega)
       have np604 : b5 ∉ blks r599 := fun hc => (ab_r599 _ hc).elim np_b5_o3 (fun hc => by omega)
       refine s_nil ⟨fun hl => (by cases hl), ?_⟩
       refine d_pq (.pointer (some ⟨b5, 0, none⟩)) <| d_eff ?_
       have f609 := ((((((((((bxb5.mod mh517 (by simp; omega)).ext eh521).mod mh527 (by simp; omega)).mod mh531 (by simp; omega)).ext eh535).ext eh578).mod mh585 (by simp; omega)).mod mh590 (by simp; omega)).ext eh594).mod mh600 np_b5_o3)
       refine s_stBx r599 [r599] [r599, .slice none 0 0] f609 rfl rfl s_r599.cellsv rfl (by simp) (all_cons s_r599.one1 all_nil) rfl (fun h610 mh610 sh610 bxx611 => ?_)
       have E612 := E601.new mh610 (fun b hb => .inr (by simp at hb; omega))
       refine s_nil ⟨fun hl => (by cases hl), ?_⟩
       refine d_done <| p_blkN ?_
       have f613 := (((Ch590.ext eh594).mod mh600 np_c_o3 (fun b hb => by have := fr_o3 b hb; omega)).mod mh610 (by simp; omega) (fun b hb => by simp at hb; omega))
       have f614 := (((((((((((bxb1.mod mh517 (by simp; omega)).ext eh521).mod mh527 (by simp; omega)).mod mh531 (by simp; omega)).ext eh535).ext eh578).mod mh585 (by simp; omega)).mod mh590 (by simp; omega)).ext eh594).mod mh600 np_b1_o3).mod mh610 (by simp; omega))
       have f615 := (s_r599.mod mh610 (nb1 np604))
       exact p_lpN ⟨(ts ++ [(⟨g526, g584, g589⟩ : TowerD)]), r599, ⟨rfl, rfl, rfl, rfl⟩, ⟨E612, (f613.le (by first | omega | (simp; done) | (simp; omega))), f614, bxx611, (sl_eq f615 (by simp)), (fr_r599.mono (by omega)), np602, np603, np604, (by first | omega | (simp; done) | (simp; omega))⟩, by first | omega | (simp; done) | (simp; omega)⟩
      refine d_eff ?_
      refine s_row (α := Int) [0, 20, 120, 500] (fun _ q => seg_i rfl (seg_i rfl (seg_i rfl (seg_i rfl (seg_nil q))))) rfl (by simp [maxLen]) (fun r616 h617 eh617 zh617 s_r616 fr_r616 => ?_)
      have E618 := E532.trans (Mod.of_ext eh617 _)
      have z619 := eh617.size
      have G620 := gext1 eh617 (by omega) G533
      refine s_nil ⟨fun _ x hx => G620 x hx, ?_⟩
      refine d_eff ?_
      refine s_row (α := Int) [0, 40, 999, g530] (fun _ q => seg_i rfl (seg_i rfl (seg_i rfl (seg_i rfl (seg_nil q))))) rfl (by simp [maxLen]) (fun r621 h622 eh622 zh622 s_r621 fr_r621 => ?_)
      have E623 := E618.trans (Mod.of_ext eh622 _)
      have z624 := eh622.size
      have G625 := gext1 eh622 (by omega) G620
      refine s_nil ⟨fun _ x hx => G625 x hx, ?_⟩
      refine d_eff ?_
      have f626 := ((Ch531.ext eh617).ext eh622)
      refine s_call [.pointer (some ⟨p_c, 0, none⟩), r621] rfl (spec_l1Cur_among_ok p_c t_c ((((m_c + 10 + 12 * (ts.length : Int)) + 2) + 2) + 2) lo_c r621 [0, 40, 999, g530] _ f626 s_r621.toSl (fun b hb hc => by simp at hc; have := fr_r621 b hb; omega) (by omega) (by first | omega | assumption | (simp; done) | (simp; omega))) ?_
      rintro _ h628 ⟨g627, rfl, qh628, Ch628, mh628⟩
      have zh628 := mh628.size
      have E629 := E623.new mh628 (fun b hb => .inl (by simp at hb; simp [hb]))
      have G630 := gmod1 (b := b5) (h := h622) (h0 := h510) mh628 (by omega) (by simp; omega) G625
      simp only [List.mem_cons, List.not_mem_nil, or_false] at qh628
      refine s_nil ⟨fun _ x hx => G630 x hx, ?_⟩
      refine d_eff ?_
      have f631 := ((s_r616.ext eh622).mod mh628 (fun b hb hc => by simp at hc; have := fr_r616 b hb; omega))
      refine s_call [.pointer (some ⟨p_c, 0, none⟩), r616] rfl (spec_l1Cur_among_ok p_c t_c (((((m_c + 10 + 12 * (ts.length : Int)) + 2) + 2) + 2) + 2) lo_c r616 [0, 20, 120, 500] _ Ch628 f631.toSl (fun b hb hc => by simp at hc; have := fr_r616 b hb; omega) (by omega) (by first | omega | assumption | (simp; done) | (simp; omega))) ?_
      rintro _ h633 ⟨g632, rfl, qh633, Ch633, mh633⟩
      have zh633 := mh633.size
      have E634 := E629.new mh633 (fun b hb => .inl (by simp at hb; simp [hb]))
      have G635 := gmod1 (b := b5) (h := h628) (h0 := h510) mh633 (by omega) (by simp; omega) G630
      simp only [List.mem_cons, List.not_mem_nil, or_false] at qh633
      refine s_nil ⟨fun _ x hx => G635 x hx, ?_⟩
      refine d_pureT (.agg #[.int .i64 g526, .int .i64 g627, .int .i64 g632]) (fun _ q => w_build (seg_i rfl (seg_i rfl (seg_i rfl (seg_nil q))))) <| d_eff ?_
      refine s_row (α := TowerD) [(⟨g526, g627, g632⟩ : TowerD)] (fun _ q => seg_agg rfl rfl (seg_nil q)) rfl (by simp [maxLen]) (fun r636 h637 eh637 zh637 s_r636 fr_r636 => ?_)
      have E638 := E634.trans (Mod.of_ext eh637 _)
      have z639 := eh637.size
      have G640 := gext1 eh637 (by omega) G635
      refine s_nil ⟨fun _ x hx => G640 x hx, ?_⟩
      refine d_eff ?_
      have f641 := (((((((((s_o3.mod mh517 (nb1 np_c_o3)).ext eh521).mod mh527 (nb1 np_c_o3)).mod mh531 (nb1 np_c_o3)).ext eh617).ext eh622).mod mh628 (nb1 np_c_o3)).mod mh633 (nb1 np_c_o3)).ext eh637)
      refine s_app f641 s_r636 rfl rfl rfl (by first | (simp [maxLen]; done) | (simp [maxLen]; omega)) (by first | (simp; done) | (simp; omega)) (fun r642 h643 mh643 zh643 s_r642 ab_r642 => ?_)
      have E644 := E638.new mh643 (fun b hb => .inr (by have := fr_o3 b hb; omega))
      have fr_r642 := fr_o3.app ab_r642 (by omega)
      have np645 : p_c ∉ blks r642 := fun hc => (ab_r642 _ hc).elim np_c_o3 (fun hc => by omega)
      have np646 : b1 ∉ blks r642 := fun hc => (ab_r642 _ hc).elim np_b1_o3 (fun hc => by omega)
      have np647 : b5 ∉ blks r642 := fun hc => (ab_r642 _ hc).elim np_b5_o3 (fun hc => by omega)
      refine s_nil ⟨fun hl => (by cases hl), ?_⟩
      refine d_pq (.pointer (some ⟨b5, 0, none⟩)) <| d_eff ?_
      have f652 := ((((((((((bxb5.mod mh517 (by simp; omega)).ext eh521).mod mh527 (by simp; omega)).mod mh531 (by simp; omega)).ext eh617).ext eh622).mod mh628 (by simp; omega)).mod mh633 (by simp; omega)).ext eh637).mod mh643 np_b5_o3)
      refine s_stBx r642 [r642] [r642, .slice none 0 0] f652 rfl rfl s_r642.cellsv rfl (by simp) (all_cons s_r642.one1 all_nil) rfl (fun h653 mh653 sh653 bxx654 => ?_)
      have E655 := E644.new mh653 (fun b hb => .inr (by simp at hb; omega))
      refine s_nil ⟨fun hl => (by cases hl), ?_⟩
      refine d_done <| p_blkN ?_
      have f656 := (((Ch633.ext eh637).mod mh643 np_c_o3 (fun b hb => by have := fr_o3 b hb; omega)).mod mh653 (by simp; omega) (fun b hb => by simp at hb; omega))
      have f657 := (((((((((((bxb1.mod mh517 (by simp; omega)).ext eh521).mod mh527 (by simp; omega)).mod mh531 (by simp; omega)).ext eh617).ext eh622).mod mh628 (by simp; omega)).mod mh633 (by simp; omega)).ext eh637).mod mh643 np_b1_o3).mod mh653 (by simp; omega))
      have f658 := (s_r642.mod mh653 (nb1 np647))
      exact p_lpN ⟨(ts ++ [(⟨g526, g627, g632⟩ : TowerD)]), r642, ⟨rfl, rfl, rfl, rfl⟩, ⟨E655, (f656.le (by first | omega | (simp; done) | (simp; omega))), f657, bxx654, (sl_eq f658 (by simp)), (fr_r642.mono (by omega)), np645, np646, np647, (by first | omega | (simp; done) | (simp; omega))⟩, by first | omega | (simp; done) | (simp; omega)⟩
     refine d_eff ?_
     refine s_row (α := Int) [0, 20, 120, 500] (fun _ q => seg_i rfl (seg_i rfl (seg_i rfl (seg_i rfl (seg_nil q))))) rfl (by simp [maxLen]) (fun r659 h660 eh660 zh660 s_r659 fr_r659 => ?_)
     have E661 := E528.trans (Mod.of_ext eh660 _)
     have z662 := eh660.size
     have G663 := gext1 eh660 (by omega) G529
     refine s_nil ⟨fun _ x hx => G663 x hx, ?_⟩
     refine d_eff ?_
     have f664 := (Ch527.ext eh660)
     refine s_call [.pointer (some ⟨p_c, 0, none⟩), .int .i64 400] rfl (spec_l1Cur_pick_ok p_c t_c (((m_c + 10 + 12 * (ts.length : Int)) + 2) + 2) lo_c 400 _ f664 (by omega)) ?_
     rintro _ h666 ⟨g665, rfl, qh666, Ch666, mh666⟩
     have zh666 := mh666.size
     have E667 := E661.new mh666 (fun b hb => .inl (by simp at hb; simp [hb]))
     have G668 := gmod1 (b := b5) (h := h660) (h0 := h510) mh666 (by omega) (by simp; omega) G663
     refine s_nil ⟨fun _ x hx => G668 x hx, ?_⟩
     refine d_eff ?_
     refine s_row (α := Int) [0, 40, 999, g665] (fun _ q => seg_i rfl (seg_i rfl (seg_i rfl (seg_i rfl (seg_nil q))))) rfl (by simp [maxLen]) (fun r669 h670 eh670 zh670 s_r669 fr_r669 => ?_)
     have E671 := E667.trans (Mod.of_ext eh670 _)
     have z672 := eh670.size
     have G673 := gext1 eh670 (by omega) G668
     refine s_nil ⟨fun _ x hx => G673 x hx, ?_⟩
     refine d_eff ?_
     have f674 := (Ch666.ext eh670)
     refine s_call [.pointer (some ⟨p_c, 0, none⟩), r669] rfl (spec_l1Cur_among_ok p_c t_c ((((m_c + 10 + 12 * (ts.length : Int)) + 2) + 2) + 2) lo_c r669 [0, 40, 999, g665] _ f674 s_r669.toSl (fun b hb hc => by simp at hc; have := fr_r669 b hb; omega) (by omega) (by first | omega | assumption | (simp; done) | (simp; omega))) ?_
     rintro _ h676 ⟨g675, rfl, qh676, Ch676, mh676⟩
     have zh676 := mh676.size
     have E677 := E671.new mh676 (fun b hb => .inl (by simp at hb; simp [hb]))
     have G678 := gmod1 (b := b5) (h := h670) (h0 := h510) mh676 (by omega) (by simp; omega) G673
     simp only [List.mem_cons, List.not_mem_nil, or_false] at qh676
     refine s_nil ⟨fun _ x hx => G678 x hx, ?_⟩
     refine d_eff ?_
     have f679 := (((s_r659.mod mh666 (fun b hb hc => by simp at hc; have := fr_r659 b hb; omega)).ext eh670).mod mh676 (fun b hb hc => by simp at hc; have := fr_r659 b hb; omega))
     refine s_call [.pointer (some ⟨p_c, 0, none⟩), r659] rfl (spec_l1Cur_among_ok p_c t_c (((((m_c + 10 + 12 * (ts.length : Int)) + 2) + 2) + 2) + 2) lo_c r659 [0, 20, 120, 500] _ Ch676 f679.toSl (fun b hb hc => by simp at hc; have := fr_r659 b hb; omega) (by omega) (by first | omega | assumption | (simp; done) | (simp; omega))) ?_
     rintro _ h681 ⟨g680, rfl, qh681, Ch681, mh681⟩
     have zh681 := mh681.size
     have E682 := E677.new mh681 (fun b hb => .inl (by simp at hb; simp [hb]))
     have G683 := gmod1 (b := b5) (h := h676) (h0 := h510) mh681 (by omega) (by simp; omega) G678
     simp only [List.mem_cons, List.not_mem_nil, or_false] at qh681
     refine s_nil ⟨fun _ x hx => G683 x hx, ?_⟩
     refine d_pureT (.agg #[.int .i64 g526, .int .i64 g675, .int .i64 g680]) (fun _ q => w_build (seg_i rfl (seg_i rfl (seg_i rfl (seg_nil q))))) <| d_eff ?_
     refine s_row (α := TowerD) [(⟨g526, g675, g680⟩ : TowerD)] (fun _ q => seg_agg rfl rfl (seg_nil q)) rfl (by simp [maxLen]) (fun r684 h685 eh685 zh685 s_r684 fr_r684 => ?_)
     have E686 := E682.trans (Mod.of_ext eh685 _)
     have z687 := eh685.size
     have G688 := gext1 eh685 (by omega) G683
     refine s_nil ⟨fun _ x hx => G688 x hx, ?_⟩
     refine d_eff ?_
     have f689 := (((((((((s_o3.mod mh517 (nb1 np_c_o3)).ext eh521).mod mh527 (nb1 np_c_o3)).ext eh660).mod mh666 (nb1 np_c_o3)).ext eh670).mod mh676 (nb1 np_c_o3)).mod mh681 (nb1 np_c_o3)).ext eh685)
     refine s_app f689 s_r684 rfl rfl rfl (by first | (simp [maxLen]; done) | (simp [maxLen]; omega)) (by first | (simp; done) | (simp; omega)) (fun r690 h691 mh691 zh691 s_r690 ab_r690 => ?_)
     have E692 := E686.new mh691 (fun b hb => .inr (by have := fr_o3 b hb; omega))
     have fr_r690 := fr_o3.app ab_r690 (by omega)
     have np693 : p_c ∉ blks r690 := fun hc => (ab_r690 _ hc).elim np_c_o3 (fun hc => by omega)
     have np694 : b1 ∉ blks r690 := fun hc => (ab_r690 _ hc).elim np_b1_o3 (fun hc => by omega)
     have np695 : b5 ∉ blks r690 := fun hc => (ab_r690 _ hc).elim np_b5_o3 (fun hc => by omega)
     refine s_nil ⟨fun hl => (by cases hl), ?_⟩
     refine d_pq (.pointer (some ⟨b5, 0, none⟩)) <| d_eff ?_
     have f700 := ((((((((((bxb5.mod mh517 (by simp; omega)).ext eh521).mod mh527 (by simp; omega)).ext eh660).mod mh666 (by simp; omega)).ext eh670).mod mh676 (by simp; omega)).mod mh681 (by simp; omega)).ext eh685).mod mh691 np_b5_o3)
     refine s_stBx r690 [r690] [r690, .slice none 0 0] f700 rfl rfl s_r690.cellsv rfl (by simp) (all_cons s_r690.one1 all_nil) rfl (fun h701 mh701 sh701 bxx702 => ?_)
     have E703 := E692.new mh701 (fun b hb => .inr (by simp at hb; omega))
     refine s_nil ⟨fun hl => (by cases hl), ?_⟩
     refine d_done <| p_blkN ?_
     have f704 := (((Ch681.ext eh685).mod mh691 np_c_o3 (fun b hb => by have := fr_o3 b hb; omega)).mod mh701 (by simp; omega) (fun b hb => by simp at hb; omega))
     have f705 := (((((((((((bxb1.mod mh517 (by simp; omega)).ext eh521).mod mh527 (by simp; omega)).ext eh660).mod mh666 (by simp; omega)).ext eh670).mod mh676 (by simp; omega)).mod mh681 (by simp; omega)).ext eh685).mod mh691 np_b1_o3).mod mh701 (by simp; omega))
     have f706 := (s_r690.mod mh701 (nb1 np695))
     exact p_lpN ⟨(ts ++ [(⟨g526, g675, g680⟩ : TowerD)]), r690, ⟨rfl, rfl, rfl, rfl⟩, ⟨E703, (f704.le (by first | omega | (simp; done) | (simp; omega))), f705, bxx702, (sl_eq f706 (by simp)), (fr_r690.mono (by omega)), np693, np694, np695, (by first | omega | (simp; done) | (simp; omega))⟩, by first | omega | (simp; done) | (simp; omega)⟩
    refine d_eff ?_
    refine s_row (α := Int) [0, 20, 120, 500] (fun _ q => seg_i rfl (seg_i rfl (seg_i rfl (seg_i rfl (seg_nil q))))) rfl (by simp [maxLen]) (fun r707 h708 eh708 zh708 s_r707 fr_r707 => ?_)
    have E709 := E522.trans (Mod.of_ext eh708 _)
    have z710 := eh708.size
    have G711 := gext1 eh708 (by omega) G524
    refine s_nil ⟨fun _ x hx => G711 x hx, ?_⟩
    refine d_eff ?_
    have f712 := ((Ch517.ext eh521).ext eh708)
    have f713 := (s_r520.ext eh708)
    refine s_call [.pointer (some ⟨p_c, 0, none⟩), r520] rfl (spec_l1Cur_among_ok p_c t_c ((m_c + 10 + 12 * (ts.length : Int)) + 2) lo_c r520 [0, 30, 100, 999, g516] _ f712 f713.toSl (fun b hb hc => by simp at hc; have := fr_r520 b hb; omega) (by omega) (by first | omega | assumption | (simp; done) | (simp; omega))) ?_
    rintro _ h715 ⟨g714, rfl, qh715, Ch715, mh715⟩
    have zh715 := mh715.size
    have E716 := E709.new mh715 (fun b hb => .inl (by simp at hb; simp [hb]))
    have G717 := gmod1 (b := b5) (h := h708) (h0 := h510) mh715 (by omega) (by simp; omega) G711
    simp only [List.mem_cons, List.not_mem_nil, or_false] at qh715
    refine s_nil ⟨fun _ x hx => G717 x hx, ?_⟩
    refine d_eff <| s_call [.pointer (some ⟨p_c, 0, none⟩), .int .i64 400] rfl (spec_l1Cur_pick_ok p_c t_c (((m_c + 10 + 12 * (ts.length : Int)) + 2) + 2) lo_c 400 _ Ch715 (by omega)) ?_
    rintro _ h719 ⟨g718, rfl, qh719, Ch719, mh719⟩
    have zh719 := mh719.size
    have E720 := E716.new mh719 (fun b hb => .inl (by simp at hb; simp [hb]))
    have G721 := gmod1 (b := b5) (h := h715) (h0 := h510) mh719 (by omega) (by simp; omega) G717
    refine s_nil ⟨fun _ x hx => G721 x hx, ?_⟩
    refine d_eff ?_
    refine s_row (α := Int) [0, 40, 999, g718] (fun _ q => seg_i rfl (seg_i rfl (seg_i rfl (seg_i rfl (seg_nil q))))) rfl (by simp [maxLen]) (fun r722 h723 eh723 zh723 s_r722 fr_r722 => ?_)
    have E724 := E720.trans (Mod.of_ext eh723 _)
    have z725 := eh723.size
    have G726 := gext1 eh723 (by omega) G721
    refine s_nil ⟨fun _ x hx => G726 x hx, ?_⟩
    refine d_eff ?_
    have f727 := (Ch719.ext eh723)
    refine s_call [.pointer (some ⟨p_c, 0, none⟩), r722] rfl (spec_l1Cur_among_ok p_c t_c ((((m_c + 10 + 12 * (ts.length : Int)) + 2) + 2) + 2) lo_c r722 [0, 40, 999, g718] _ f727 s_r722.toSl (fun b hb hc => by simp at hc; have := fr_r722 b hb; omega) (by omega) (by first | omega | assumption | (simp; done) | (simp; omega))) ?_
    rintro _ h729 ⟨g728, rfl, qh729, Ch729, mh729⟩
    have zh729 := mh729.size
    have E730 := E724.new mh729 (fun b hb => .inl (by simp at hb; simp [hb]))
    have G731 := gmod1 (b := b5) (h := h723) (h0 := h510) mh729 (by omega) (by simp; omega) G726
    simp only [List.mem_cons, List.not_mem_nil, or_false] at qh729
    refine s_nil ⟨fun _ x hx => G731 x hx, ?_⟩
    refine d_eff ?_
    have f732 := ((((s_r707.mod mh715 (fun b hb hc => by simp at hc; have := fr_r707 b hb; omega)).mod mh719 (fun b hb hc => by simp at hc; have := fr_r707 b hb; omega)).ext eh723).mod mh729 (fun b hb hc => by simp at hc; have := fr_r707 b hb; omega))
    refine s_call [.pointer (some ⟨p_c, 0, none⟩), r707] rfl (spec_l1Cur_among_ok p_c t_c (((((m_c + 10 + 12 * (ts.length : Int)) + 2) + 2) + 2) + 2) lo_c r707 [0, 20, 120, 500] _ Ch729 f732.toSl (fun b hb hc => by simp at hc; have := fr_r707 b hb; omega) (by omega) (by first | omega | assumption | (simp; done) | (simp; omega))) ?_
    rintro _ h734 ⟨g733, rfl, qh734, Ch734, mh734⟩
    have zh734 := mh734.size
    have E735 := E730.new mh734 (fun b hb => .inl (by simp at hb; simp [hb]))
    have G736 := gmod1 (b := b5) (h := h729) (h0 := h510) mh734 (by omega) (by simp; omega) G731
    simp only [List.mem_cons, List.not_mem_nil, or_false] at qh734
    refine s_nil ⟨fun _ x hx => G736 x hx, ?_⟩
    refine d_pureT (.agg #[.int .i64 g714, .int .i64 g728, .int .i64 g733]) (fun _ q => w_build (seg_i rfl (seg_i rfl (seg_i rfl (seg_nil q))))) <| d_eff ?_
    refine s_row (α := TowerD) [(⟨g714, g728, g733⟩ : TowerD)] (fun _ q => seg_agg rfl rfl (seg_nil q)) rfl (by simp [maxLen]) (fun r737 h738 eh738 zh738 s_r737 fr_r737 => ?_)
    have E739 := E735.trans (Mod.of_ext eh738 _)
    have z740 := eh738.size
    have G741 := gext1 eh738 (by omega) G736
    refine s_nil ⟨fun _ x hx => G741 x hx, ?_⟩
    refine d_eff ?_
    have f742 := (((((((((s_o3.mod mh517 (nb1 np_c_o3)).ext eh521).ext eh708).mod mh715 (nb1 np_c_o3)).mod mh719 (nb1 np_c_o3)).ext eh723).mod mh729 (nb1 np_c_o3)).mod mh734 (nb1 np_c_o3)).ext eh738)
    refine s_app f742 s_r737 rfl rfl rfl (by first | (simp [maxLen]; done) | (simp [maxLen]; omega)) (by first | (simp; done) | (simp; omega)) (fun r743 h744 mh744 zh744 s_r743 ab_r743 => ?_)
    have E745 := E739.new mh744 (fun b hb => .inr (by have := fr_o3 b hb; omega))
    have fr_r743 := fr_o3.app ab_r743 (by omega)
    have np746 : p_c ∉ blks r743 := fun hc => (ab_r743 _ hc).elim np_c_o3 (fun hc => by omega)
    have np747 : b1 ∉ blks r743 := fun hc => (ab_r743 _ hc).elim np_b1_o3 (fun hc => by omega)
    have np748 : b5 ∉ blks r743 := fun hc => (ab_r743 _ hc).elim np_b5_o3 (fun hc => by omega)
    refine s_nil ⟨fun hl => (by cases hl), ?_⟩
    refine d_pq (.pointer (some ⟨b5, 0, none⟩)) <| d_eff ?_
    have f753 := ((((((((((bxb5.mod mh517 (by simp; omega)).ext eh521).ext eh708).mod mh715 (by simp; omega)).mod mh719 (by simp; omega)).ext eh723).mod mh729 (by simp; omega)).mod mh734 (by simp; omega)).ext eh738).mod mh744 np_b5_o3)
    refine s_stBx r743 [r743] [r743, .slice none 0 0] f753 rfl rfl s_r743.cellsv rfl (by simp) (all_cons s_r743.one1 all_nil) rfl (fun h754 mh754 sh754 bxx755 => ?_)
    have E756 := E745.new mh754 (fun b hb => .inr (by simp at hb; omega))
    refine s_nil ⟨fun hl => (by cases hl), ?_⟩
    refine d_done <| p_blkN ?_
    have f757 := (((Ch734.ext eh738).mod mh744 np_c_o3 (fun b hb => by have := fr_o3 b hb; omega)).mod mh754 (by simp; omega) (fun b hb => by simp at hb; omega))
    have f758 := (((((((((((bxb1.mod mh517 (by simp; omega)).ext eh521).ext eh708).mod mh715 (by simp; omega)).mod mh719 (by simp; omega)).ext eh723).mod mh729 (by simp; omega)).mod mh734 (by simp; omega)).ext eh738).mod mh744 np_b1_o3).mod mh754 (by simp; omega))
    have f759 := (s_r743.mod mh754 (nb1 np748))
    exact p_lpN ⟨(ts ++ [(⟨g714, g728, g733⟩ : TowerD)]), r743, ⟨rfl, rfl, rfl, rfl⟩, ⟨E756, (f757.le (by first | omega | (simp; done) | (simp; omega))), f758, bxx755, (sl_eq f759 (by simp)), (fr_r743.mono (by omega)), np746, np747, np748, (by first | omega | (simp; done) | (simp; omega))⟩, by first | omega | (simp; done) | (simp; omega)⟩
   refine d_eff ?_
   refine s_row (α := Int) [0, 20, 120, 500] (fun _ q => seg_i rfl (seg_i rfl (seg_i rfl (seg_i rfl (seg_nil q))))) rfl (by simp [maxLen]) (fun r760 h761 eh761 zh761 s_r760 fr_r760 => ?_)
   have E762 := E518.trans (Mod.of_ext eh761 _)
   have z763 := eh761.size
   have G764 := gext1 eh761 (by omega) G519
   refine s_nil ⟨fun _ x hx => G764 x hx, ?_⟩
   refine d_eff ?_
   refine s_row (α := Int) [0, 30, 100, 999, g516] (fun _ q => seg_i rfl (seg_i rfl (seg_i rfl (seg_i rfl (seg_i rfl (seg_nil q)))))) rfl (by simp [maxLen]) (fun r765 h766 eh766 zh766 s_r765 fr_r765 => ?_)
   have E767 := E762.trans (Mod.of_ext eh766 _)
   have z768 := eh766.size
   have G769 := gext1 eh766 (by omega) G764
   refine s_nil ⟨fun _ x hx => G769 x hx, ?_⟩
   refine d_eff ?_
   have f770 := ((Ch517.ext eh761).ext eh766)
   refine s_call [.pointer (some ⟨p_c, 0, none⟩), r765] rfl (spec_l1Cur_among_ok p_c t_c ((m_c + 10 + 12 * (ts.length : Int)) + 2) lo_c r765 [0, 30, 100, 999, g516] _ f770 s_r765.toSl (fun b hb hc => by simp at hc; have := fr_r765 b hb; omega) (by omega) (by first | omega | assumption | (simp; done) | (simp; omega))) ?_
   rintro _ h772 ⟨g771, rfl, qh772, Ch772, mh772⟩
   have zh772 := mh772.size
   have E773 := E767.new mh772 (fun b hb => .inl (by simp at hb; simp [hb]))
   have G774 := gmod1 (b := b5) (h := h766) (h0 := h510) mh772 (by omega) (by simp; omega) G769
   simp only [List.mem_cons, List.not_mem_nil, or_false] at qh772
   refine s_nil ⟨fun _ x hx => G774 x hx, ?_⟩
   refine d_eff <| s_call [.pointer (some ⟨p_c, 0, none⟩), .int .i64 400] rfl (spec_l1Cur_pick_ok p_c t_c (((m_c + 10 + 12 * (ts.length : Int)) + 2) + 2) lo_c 400 _ Ch772 (by omega)) ?_
   rintro _ h776 ⟨g775, rfl, qh776, Ch776, mh776⟩
   have zh776 := mh776.size
   have E777 := E773.new mh776 (fun b hb => .inl (by simp at hb; simp [hb]))
   have G778 := gmod1 (b := b5) (h := h772) (h0 := h510) mh776 (by omega) (by simp; omega) G774
   refine s_nil ⟨fun _ x hx => G778 x hx, ?_⟩
   refine d_eff ?_
   refine s_row (α := Int) [0, 40, 999, g775] (fun _ q => seg_i rfl (seg_i rfl (seg_i rfl (seg_i rfl (seg_nil q))))) rfl (by simp [maxLen]) (fun r779 h780 eh780 zh780 s_r779 fr_r779 => ?_)
   have E781 := E777.trans (Mod.of_ext eh780 _)
   have z782 := eh780.size
   have G783 := gext1 eh780 (by omega) G778
   refine s_nil ⟨fun _ x hx => G783 x hx, ?_⟩
   refine d_eff ?_
   have f784 := (Ch776.ext eh780)
   refine s_call [.pointer (some ⟨p_c, 0, none⟩), r779] rfl (spec_l1Cur_among_ok p_c t_c ((((m_c + 10 + 12 * (ts.length : Int)) + 2) + 2) + 2) lo_c r779 [0, 40, 999, g775] _ f784 s_r779.toSl (fun b hb hc => by simp at hc; have := fr_r779 b hb; omega) (by omega) (by first | omega | assumption | (simp; done) | (simp; omega))) ?_
   rintro _ h786 ⟨g785, rfl, qh786, Ch786, mh786⟩
   have zh786 := mh786.size
   have E787 := E781.new mh786 (fun b hb => .inl (by simp at hb; simp [hb]))
   have G788 := gmod1 (b := b5) (h := h780) (h0 := h510) mh786 (by omega) (by simp; omega) G783
   simp only [List.mem_cons, List.not_mem_nil, or_false] at qh786
   refine s_nil ⟨fun _ x hx => G788 x hx, ?_⟩
   refine d_eff ?_
   have f789 := (((((s_r760.ext eh766).mod mh772 (fun b hb hc => by simp at hc; have := fr_r760 b hb; omega)).mod mh776 (fun b hb hc => by simp at hc; have := fr_r760 b hb; omega)).ext eh780).mod mh786 (fun b hb hc => by simp at hc; have := fr_r760 b hb; omega))
   refine s_call [.pointer (some ⟨p_c, 0, none⟩), r760] rfl (spec_l1Cur_among_ok p_c t_c (((((m_c + 10 + 12 * (ts.length : Int)) + 2) + 2) + 2) + 2) lo_c r760 [0, 20, 120, 500] _ Ch786 f789.toSl (fun b hb hc => by simp at hc; have := fr_r760 b hb; omega) (by omega) (by first | omega | assumption | (simp; done) | (simp; omega))) ?_
   rintro _ h791 ⟨g790, rfl, qh791, Ch791, mh791⟩
   have zh791 := mh791.size
   have E792 := E787.new mh791 (fun b hb => .inl (by simp at hb; simp [hb]))
   have G793 := gmod1 (b := b5) (h := h786) (h0 := h510) mh791 (by omega) (by simp; omega) G788
   simp only [List.mem_cons, List.not_mem_nil, or_false] at qh791
   refine s_nil ⟨fun _ x hx => G793 x hx, ?_⟩
   refine d_pureT (.agg #[.int .i64 g771, .int .i64 g785, .int .i64 g790]) (fun _ q => w_build (seg_i rfl (seg_i rfl (seg_i rfl (seg_nil q))))) <| d_eff ?_
   refine s_row (α := TowerD) [(⟨g771, g785, g790⟩ : TowerD)] (fun _ q => seg_agg rfl rfl (seg_nil q)) rfl (by simp [maxLen]) (fun r794 h795 eh795 zh795 s_r794 fr_r794 => ?_)
   have E796 := E792.trans (Mod.of_ext eh795 _)
   have z797 := eh795.size
   have G798 := gext1 eh795 (by omega) G793
   refine s_nil ⟨fun _ x hx => G798 x hx, ?_⟩
   refine d_eff ?_
   have f799 := (((((((((s_o3.mod mh517 (nb1 np_c_o3)).ext eh761).ext eh766).mod mh772 (nb1 np_c_o3)).mod mh776 (nb1 np_c_o3)).ext eh780).mod mh786 (nb1 np_c_o3)).mod mh791 (nb1 np_c_o3)).ext eh795)
   refine s_app f799 s_r794 rfl rfl rfl (by first | (simp [maxLen]; done) | (simp [maxLen]; omega)) (by first | (simp; done) | (simp; omega)) (fun r800 h801 mh801 zh801 s_r800 ab_r800 => ?_)
   have E802 := E796.new mh801 (fun b hb => .inr (by have := fr_o3 b hb; omega))
   have fr_r800 := fr_o3.app ab_r800 (by omega)
   have np803 : p_c ∉ blks r800 := fun hc => (ab_r800 _ hc).elim np_c_o3 (fun hc => by omega)
   have np804 : b1 ∉ blks r800 := fun hc => (ab_r800 _ hc).elim np_b1_o3 (fun hc => by omega)
   have np805 : b5 ∉ blks r800 := fun hc => (ab_r800 _ hc).elim np_b5_o3 (fun hc => by omega)
   refine s_nil ⟨fun hl => (by cases hl), ?_⟩
   refine d_pq (.pointer (some ⟨b5, 0, none⟩)) <| d_eff ?_
   have f810 := ((((((((((bxb5.mod mh517 (by simp; omega)).ext eh761).ext eh766).mod mh772 (by simp; omega)).mod mh776 (by simp; omega)).ext eh780).mod mh786 (by simp; omega)).mod mh791 (by simp; omega)).ext eh795).mod mh801 np_b5_o3)
   refine s_stBx r800 [r800] [r800, .slice none 0 0] f810 rfl rfl s_r800.cellsv rfl (by simp) (all_cons s_r800.one1 all_nil) rfl (fun h811 mh811 sh811 bxx812 => ?_)
   have E813 := E802.new mh811 (fun b hb => .inr (by simp at hb; omega))
   refine s_nil ⟨fun hl => (by cases hl), ?_⟩
   refine d_done <| p_blkN ?_
   have f814 := (((Ch791.ext eh795).mod mh801 np_c_o3 (fun b hb => by have := fr_o3 b hb; omega)).mod mh811 (by simp; omega) (fun b hb => by simp at hb; omega))
   have f815 := (((((((((((bxb1.mod mh517 (by simp; omega)).ext eh761).ext eh766).mod mh772 (by simp; omega)).mod mh776 (by simp; omega)).ext eh780).mod mh786 (by simp; omega)).mod mh791 (by simp; omega)).ext eh795).mod mh801 np_b1_o3).mod mh811 (by simp; omega))
   have f816 := (s_r800.mod mh811 (nb1 np805))
   exact p_lpN ⟨(ts ++ [(⟨g771, g785, g790⟩ : TowerD)]), r800, ⟨rfl, rfl, rfl, rfl⟩, ⟨E813, (f814.le (by first | omega | (simp; done) | (simp; omega))), f815, bxx812, (sl_eq f816 (by simp)), (fr_r800.mono (by omega)), np803, np804, np805, (by first | omega | (simp; done) | (simp; omega))⟩, by first | omega | (simp; done) | (simp; omega)⟩
  refine d_eff ?_
  refine s_row (α := Int) [0, 20, 120, 500] (fun _ q => seg_i rfl (seg_i rfl (seg_i rfl (seg_i rfl (seg_nil q))))) rfl (by simp [maxLen]) (fun r817 h818 eh818 zh818 s_r817 fr_r817 => ?_)
  have E819 := Eh.trans (Mod.of_ext eh818 _)
  have z820 := eh818.size
  have G821 := eh818
  refine s_nil ⟨fun _ x hx => G821.blk x (by simp at hx; omega), ?_⟩
  refine d_eff ?_
  have f822 := (bxc.ext eh818)
  refine s_call [.pointer (some ⟨p_c, 0, none⟩), .int .i64 400] rfl (spec_l1Cur_pick_ok p_c t_c (m_c + 10 + 12 * (ts.length : Int)) lo_c 400 _ f822 (by omega)) ?_
  rintro _ h824 ⟨g823, rfl, qh824, Ch824, mh824⟩
  have zh824 := mh824.size
  have E825 := E819.new mh824 (fun b hb => .inl (by simp at hb; simp [hb]))
  have G826 := gmod1 (b := b5) (h := h818) (h0 := h510) mh824 (by omega) (by simp; omega) (fun x hx => G821.blk x (by simp at hx; omega))
  refine s_nil ⟨fun _ x hx => G826 x hx, ?_⟩
  refine d_eff ?_
  refine s_row (α := Int) [0, 30, 100, 999, g823] (fun _ q => seg_i rfl (seg_i rfl (seg_i rfl (seg_i rfl (seg_i rfl (seg_nil q)))))) rfl (by simp [maxLen]) (fun r827 h828 eh828 zh828 s_r827 fr_r827 => ?_)
  have E829 := E825.trans (Mod.of_ext eh828 _)
  have z830 := eh828.size
  have G831 := gext1 eh828 (by omega) G826
  refine s_nil ⟨fun _ x hx => G831 x hx, ?_⟩
  refine d_eff ?_
  have f832 := (Ch824.ext eh828)
  refine s_call [.pointer (some ⟨p_c, 0, none⟩), r827] rfl (spec_l1Cur_among_ok p_c t_c ((m_c + 10 + 12 * (ts.length : Int)) + 2) lo_c r827 [0, 30, 100, 999, g823] _ f832 s_r827.toSl (fun b hb hc => by simp at hc; have := fr_r827 b hb; omega) (by omega) (by first | omega | assumption | (simp; done) | (simp; omega))) ?_
  rintro _ h834 ⟨g833, rfl, qh834, Ch834, mh834⟩
  have zh834 := mh834.size
  have E835 := E829.new mh834 (fun b hb => .inl (by simp at hb; simp [hb]))
  have G836 := gmod1 (b := b5) (h := h828) (h0 := h510) mh834 (by omega) (by simp; omega) G831
  simp only [List.mem_cons, List.not_mem_nil, or_false] at qh834
  refine s_nil ⟨fun _ x hx => G836 x hx, ?_⟩
  refine d_eff <| s_call [.pointer (some ⟨p_c, 0, none⟩), .int .i64 400] rfl (spec_l1Cur_pick_ok p_c t_c (((m_c + 10 + 12 * (ts.length : Int)) + 2) + 2) lo_c 400 _ Ch834 (by omega)) ?_
  rintro _ h838 ⟨g837, rfl, qh838, Ch838, mh838⟩
  have zh838 := mh838.size
  have E839 := E835.new mh838 (fun b hb => .inl (by simp at hb; simp [hb]))
  have G840 := gmod1 (b := b5) (h := h834) (h0 := h510) mh838 (by omega) (by simp; omega) G836
  refine s_nil ⟨fun _ x hx => G840 x hx, ?_⟩
  refine d_eff ?_
  refine s_row (α := Int) [0, 40, 999, g837] (fun _ q => seg_i rfl (seg_i rfl (seg_i rfl (seg_i rfl (seg_nil q))))) rfl (by simp [maxLen]) (fun r841 h842 eh842 zh842 s_r841 fr_r841 => ?_)
  have E843 := E839.trans (Mod.of_ext eh842 _)
  have z844 := eh842.size
  have G845 := gext1 eh842 (by omega) G840
  refine s_nil ⟨fun _ x hx => G845 x hx, ?_⟩
  refine d_eff ?_
  have f846 := (Ch838.ext eh842)
  refine s_call [.pointer (some ⟨p_c, 0, none⟩), r841] rfl (spec_l1Cur_among_ok p_c t_c ((((m_c + 10 + 12 * (ts.length : Int)) + 2) + 2) + 2) lo_c r841 [0, 40, 999, g837] _ f846 s_r841.toSl (fun b hb hc => by simp at hc; have := fr_r841 b hb; omega) (by omega) (by first | omega | assumption | (simp; done) | (simp; omega))) ?_
  rintro _ h848 ⟨g847, rfl, qh848, Ch848, mh848⟩
  have zh848 := mh848.size
  have E849 := E843.new mh848 (fun b hb => .inl (by simp at hb; simp [hb]))
  have G850 := gmod1 (b := b5) (h := h842) (h0 := h510) mh848 (by omega) (by simp; omega) G845
  simp only [List.mem_cons, List.not_mem_nil, or_false] at qh848
  refine s_nil ⟨fun _ x hx => G850 x hx, ?_⟩
  refine d_eff ?_
  have f851 := ((((((s_r817.mod mh824 (fun b hb hc => by simp at hc; have := fr_r817 b hb; omega)).ext eh828).mod mh834 (fun b hb hc => by simp at hc; have := fr_r817 b hb; omega)).mod mh838 (fun b hb hc => by simp at hc; have := fr_r817 b hb; omega)).ext eh842).mod mh848 (fun b hb hc => by simp at hc; have := fr_r817 b hb; omega))
  refine s_call [.pointer (some ⟨p_c, 0, none⟩), r817] rfl (spec_l1Cur_among_ok p_c t_c (((((m_c + 10 + 12 * (ts.length : Int)) + 2) + 2) + 2) + 2) lo_c r817 [0, 20, 120, 500] _ Ch848 f851.toSl (fun b hb hc => by simp at hc; have := fr_r817 b hb; omega) (by omega) (by first | omega | assumption | (simp; done) | (simp; omega))) ?_
  rintro _ h853 ⟨g852, rfl, qh853, Ch853, mh853⟩
  have zh853 := mh853.size
  have E854 := E849.new mh853 (fun b hb => .inl (by simp at hb; simp [hb]))
  have G855 := gmod1 (b := b5) (h := h848) (h0 := h510) mh853 (by omega) (by simp; omega) G850
  simp only [List.mem_cons, List.not_mem_nil, or_false] at qh853
  refine s_nil ⟨fun _ x hx => G855 x hx, ?_⟩
  refine d_pureT (.agg #[.int .i64 g833, .int .i64 g847, .int .i64 g852]) (fun _ q => w_build (seg_i rfl (seg_i rfl (seg_i rfl (seg_nil q))))) <| d_eff ?_
  refine s_row (α := TowerD) [(⟨g833, g847, g852⟩ : TowerD)] (fun _ q => seg_agg rfl rfl (seg_nil q)) rfl (by simp [maxLen]) (fun r856 h857 eh857 zh857 s_r856 fr_r856 => ?_)
  have E858 := E854.trans (Mod.of_ext eh857 _)
  have z859 := eh857.size
  have G860 := gext1 eh857 (by omega) G855
  refine s_nil ⟨fun _ x hx => G860 x hx, ?_⟩
  refine d_eff ?_
  have f861 := (((((((((s_o3.ext eh818).mod mh824 (nb1 np_c_o3)).ext eh828).mod mh834 (nb1 np_c_o3)).mod mh838 (nb1 np_c_o3)).ext eh842).mod mh848 (nb1 np_c_o3)).mod mh853 (nb1 np_c_o3)).ext eh857)
  refine s_app f861 s_r856 rfl rfl rfl (by first | (simp [maxLen]; done) | (simp [maxLen]; omega)) (by first | (simp; done) | (simp; omega)) (fun r862 h863 mh863 zh863 s_r862 ab_r862 => ?_)
  have E864 := E858.new mh863 (fun b hb => .inr (by have := fr_o3 b hb; omega))
  have fr_r862 := fr_o3.app ab_r862 (by omega)
  have np865 : p_c ∉ blks r862 := fun hc => (ab_r862 _ hc).elim np_c_o3 (fun hc => by omega)
  have np866 : b1 ∉ blks r862 := fun hc => (ab_r862 _ hc).elim np_b1_o3 (fun hc => by omega)
  have np867 : b5 ∉ blks r862 := fun hc => (ab_r862 _ hc).elim np_b5_o3 (fun hc => by omega)
  refine s_nil ⟨fun hl => (by cases hl), ?_⟩
  refine d_pq (.pointer (some ⟨b5, 0, none⟩)) <| d_eff ?_
  have f872 := ((((((((((bxb5.ext eh818).mod mh824 (by simp; omega)).ext eh828).mod mh834 (by simp; omega)).mod mh838 (by simp; omega)).ext eh842).mod mh848 (by simp; omega)).mod mh853 (by simp; omega)).ext eh857).mod mh863 np_b5_o3)
  refine s_stBx r862 [r862] [r862, .slice none 0 0] f872 rfl rfl s_r862.cellsv rfl (by simp) (all_cons s_r862.one1 all_nil) rfl (fun h873 mh873 sh873 bxx874 => ?_)
  have E875 := E864.new mh873 (fun b hb => .inr (by simp at hb; omega))
  refine s_nil ⟨fun hl => (by cases hl), ?_⟩
  refine d_done <| p_blkN ?_
  have f876 := (((Ch853.ext eh857).mod mh863 np_c_o3 (fun b hb => by have := fr_o3 b hb; omega)).mod mh873 (by simp; omega) (fun b hb => by simp at hb; omega))
  have f877 := (((((((((((bxb1.ext eh818).mod mh824 (by simp; omega)).ext eh828).mod mh834 (by simp; omega)).mod mh838 (by simp; omega)).ext eh842).mod mh848 (by simp; omega)).mod mh853 (by simp; omega)).ext eh857).mod mh863 np_b1_o3).mod mh873 (by simp; omega))
  have f878 := (s_r862.mod mh873 (nb1 np867))
  exact p_lpN ⟨(ts ++ [(⟨g833, g847, g852⟩ : TowerD)]), r862, ⟨rfl, rfl, rfl, rfl⟩, ⟨E875, (f876.le (by first | omega | (simp; done) | (simp; omega))), f877, bxx874, (sl_eq f878 (by simp)), (fr_r862.mono (by omega)), np865, np866, np867, (by first | omega | (simp; done) | (simp; omega))⟩, by first | omega | (simp; done) | (simp; omega)⟩
 refine v_exit <| p_seqX <| p_lpX <| p_blkX <| p_seqN <| v_seq <| v_ops <| s_pq (.pointer (some ⟨p_c, 0, none⟩)) ?_
 refine s_row (α := Int) [2, 2, 3] (fun _ q => seg_i rfl (seg_i rfl (seg_i rfl (seg_nil q)))) rfl (by simp [maxLen]) (fun r879 h880 eh880 zh880 s_r879 fr_r879 => ?_)
 have E881 := Eh.trans (Mod.of_ext eh880 _)
 have z882 := eh880.size
 have f883 := (bxc.ext eh880)
 refine s_call [.pointer (some ⟨p_c, 0, none⟩), r879] rfl (spec_l1Cur_among_ok p_c t_c (m_c + 10 + 12 * (ts.length : Int)) lo_c r879 [2, 2, 3] _ f883 s_r879.toSl (fun b hb hc => by simp at hc; have := fr_r879 b hb; omega) (by omega) (by first | omega | assumption | (simp; done) | (simp; omega))) ?_
 rintro _ h885 ⟨g884, rfl, qh885, Ch885, mh885⟩
 have zh885 := mh885.size
 have E886 := E881.new mh885 (fun b hb => .inl (by simp at hb; simp [hb]))
 simp only [List.mem_cons, List.not_mem_nil, or_false] at qh885
 refine s_pq (.int .i64 g884) <| s_nil <| p_seqN <| v_seq <| v_seq <| v_ops <| s_pq (.int .i64 0) <| s_nil <| p_seqN <| v_block ?_
 have f888 := ((bxb1.ext eh880).mod mh885 (by simp; omega))
 have f889 := ((bxb5.ext eh880).mod mh885 (by simp; omega))
 have f890 := ((s_o3.ext eh880).mod mh885 (nb1 np_c_o3))
 refine v_loop3 (α := Int) (β := List LinkD) (γ := Value) (fun a l6 o6 => [(0, .pointer (some ⟨p_c, 0, none⟩)), (2, .pointer (some ⟨b1, 0, none⟩)), (3, .pointer (some ⟨b5, 0, none⟩)), (4, .int .i64 (1 + g13)), (5, .int .i64 g884), (6, .int .i64 a)]) (fun a l6 o6 hh => Mod [p_c] h hh ∧ Cur hh p_c t_c (m_c + 300 + 170 * a) lo_c ∧ Bx hh b1 [.slice none 0 0, .slice none 0 0] 27 ∧ Bx hh b5 [o3, o6] 27 ∧ SlO hh o3 ts ∧ SlO hh o6 l6 ∧ Fr h.size o6 ∧ p_c ∉ blks o6 ∧ b1 ∉ blks o6 ∧ b5 ∉ blks o6 ∧ (∀ b ∈ blks o3, b ∉ blks o6) ∧ 0 ≤ a ∧ a ≤ (1 + g13) ∧ l6.length ≤ 40) (fun a l6 o6 => (((1 + g13) : Int) - a).toNat) 0 [] (.slice none 0 0) ⟨rfl, rfl, rfl, rfl, rfl, rfl⟩ ⟨E886, (Ch885.le (by first | omega | (simp; done) | (simp; omega))), f888, f889, f890, (sl_eq (SlX.nil (α := LinkD) true h885) (by simp)), (Fr.nil _), (by simp [blks, fpts]), (by simp [blks, fpts]), (by simp [blks, fpts]), (fun b hb hc => by simp [blks, fpts] at hc), (by exact ⟨by omega, by omega, by first | omega | (simp; done)⟩)⟩ ?_
 rintro a l6 o6 R891 h887 ⟨Eh, bxc, bxb1, bxb5, s_o3, s_o6, fr_o6, np_c_o6, np_b1_o6, np_b5_o6, np_o3_o6, ⟨ha0, ha1, hl6⟩⟩
 have zEh := Eh.size
 have lbc := bxc.lt
 have lbb1 := bxb1.lt
 have lbb5 := bxb5.lt
 have ltk_o3 := s_o3.lt
 refine v_seq <| v_seq <| v_ops <| s_pq (.int .i64 a) <| s_pq (.int .i64 (1 + g13)) <| s_pq (.bool (decide (a < (1 + g13)))) <| s_nil <| p_seqN ?_
 refine v_cond rfl (fun c893 => ?_) (fun c893 => ?_)
 ·
  refine v_skip <| p_seqN <| v_seq <| v_block <| v_seq <| v_ops <| s_pq (.int .i64 a) <| s_pure (.int .i64 (a + 1)) (fun _ q => ArithVC.mk (by omega) q) <| s_pq (.int .i64 (a + 1)) <| s_nil <| p_seqN <| v_block <| v_loop3 (α := Int) (β := List LinkD) (γ := Value) (fun b l7 o7 => [(0, .pointer (some ⟨p_c, 0, none⟩)), (2, .pointer (some ⟨b1, 0, none⟩)), (3, .pointer (some ⟨b5, 0, none⟩)), (4, .int .i64 (1 + g13)), (5, .int .i64 g884), (6, .int .i64 a), (7, .int .i64 b)]) (fun b l7 o7 hh => Mod [p_c] h hh ∧ Cur hh p_c t_c (m_c + 300 + 170 * a + 10 * (b - a)) lo_c ∧ Bx hh b1 [.slice none 0 0, .slice none 0 0] 27 ∧ Bx hh b5 [o3, o7] 27 ∧ SlO hh o3 ts ∧ SlO hh o7 l7 ∧ Fr h.size o7 ∧ p_c ∉ blks o7 ∧ b1 ∉ blks o7 ∧ b5 ∉ blks o7 ∧ (∀ b ∈ blks o3, b ∉ blks o7) ∧ a < b ∧ b ≤ (1 + g13) ∧ l7.length ≤ 40) (fun b l7 o7 => (((1 + g13) : Int) - b).toNat) (a + 1) l6 o6 ⟨rfl, rfl, rfl, rfl, rfl, rfl, rfl⟩ ⟨Eh, (bxc.le (by first | omega | (simp; done) | (simp; omega))), bxb1, bxb5, s_o3, (sl_eq s_o6 (by simp)), (fr_o6.mono (by omega)), np_c_o6, np_b1_o6, np_b5_o6, np_o3_o6, (by exact ⟨by omega, by omega, by first | omega | (simp; done)⟩)⟩ ?_
  rintro b l7 o7 R895 h894 ⟨Eh, bxc, bxb1, bxb5, s_o3, s_o7, fr_o7, np_c_o7, np_b1_o7, np_b5_o7, np_o3_o7, ⟨hb0, hb1, hl7⟩⟩
  have zEh := Eh.size
  have lbc := bxc.lt
  have lbb1 := bxb1.lt
  have lbb5 := bxb5.lt
  have ltk_o3 := s_o3.lt
  refine v_seq <| v_seq <| v_ops <| s_pq (.int .i64 b) <| s_pq (.int .i64 (1 + g13)) <| s_pq (.bool (decide (b < (1 + g13)))) <| s_pq (.bool (decide (b < (1 + g13)))) ?_
  refine s_splitT rfl (fun c897 => ?_) (fun c897 => ?_)
  ·
   refine s_run rfl <| s_pq (.pointer (some ⟨b5, 1, none⟩)) <| s_run rfl <| s_load o7 (fun _ q => bxb5.load rfl q) <| s_run rfl <| s_pure (.int .i64 (l7.length : Int)) (fun _ q => s_o7.lenVC q) <| s_run rfl <| s_pq (.bool (decide ((l7.length : Int) < 40))) <| s_pq (.bool (decide ((l7.length : Int) < 40))) <| s_nil <| p_seqN ?_
   refine v_cond rfl (fun c898 => ?_) (fun c898 => ?_)
   ·
    refine v_skip <| p_seqN <| v_seq <| v_block <| v_seq <| v_ops <| s_pq (.pointer (some ⟨p_c, 0, none⟩)) <| s_pq (.int .i64 g884) <| s_call [.pointer (some ⟨p_c, 0, none⟩), .int .i64 g884] rfl (spec_l1Cur_one_ok p_c t_c (m_c + 300 + 170 * a + 10 * (b - a)) lo_c g884 _ bxc (by omega)) ?_
    rintro _ h900 ⟨g899, rfl, Ch900, mh900⟩
    have zh900 := mh900.size
    have E901 := Eh.new mh900 (fun b hb => .inl (by simp at hb; simp [hb]))
    refine s_pq (.bool g899) ?_
    refine s_splitT rfl (fun c902 => ?_) (fun c902 => ?_)
    ·
     refine s_pass rfl <| s_pass rfl <| s_pass rfl <| s_pass rfl <| s_pass rfl <| s_splitU rfl <| s_passU rfl <| s_passU rfl <| s_passU rfl <| s_pass rfl <| s_pq (.bool true) <| s_nil <| p_seqN <| v_condY rfl rfl ?_
     have f903 := (bxb5.mod mh900 (by simp; omega))
     refine v_draw (DrawVC.hold ([b5]) ?_)
     refine d_pq (.pointer (some ⟨b5, 1, none⟩)) <| d_pq (.int .i64 a) <| d_pq (.int .i64 b) <| d_pq (.pointer (some ⟨p_c, 0, none⟩)) <| d_pq (.pointer (some ⟨p_c, 0, none⟩)) <| d_loadT o7 (fun _ q => f903.take (by simp) rfl q) <| d_eff <| s_call [.pointer (some ⟨p_c, 0, none⟩), .int .i64 30] rfl (spec_l1Cur_pick_ok p_c t_c ((m_c + 300 + 170 * a + 10 * (b - a)) + 2) lo_c 30 _ Ch900 (by omega)) ?_
     rintro _ h905 ⟨g904, rfl, qh905, Ch905, mh905⟩
     have zh905 := mh905.size
     have E906 := E901.new mh905 (fun b hb => .inl (by simp at hb; simp [hb]))
     have G907 := gmod1 (b := b5) (h := h900) (h0 := h900) mh905 (by omega) (by simp; omega) (fun _ _ => rfl)
     refine s_nil ⟨fun _ x hx => G907 x hx, ?_⟩
     refine d_pureT (.int .i64 (1 + g904)) (fun _ q => ArithVC.mk (by omega) q) <| d_eff ?_
     refine s_row (α := Int) [1, 5, 10, 10, 60, (1 + g904)] (fun _ q => seg_i rfl (seg_i rfl (seg_i rfl (seg_i rfl (seg_i rfl (seg_i rfl (seg_nil q))))))) rfl (by simp [maxLen]) (fun r908 h909 eh909 zh909 s_r908 fr_r908 => ?_)
     have E910 := E906.trans (Mod.of_ext eh909 _)
     have z911 := eh909.size
     have G912 := gext1 eh909 (by omega) G907
     refine s_nil ⟨fun _ x hx => G912 x hx, ?_⟩
     refine d_eff ?_
     have f913 := (Ch905.ext eh909)
     refine s_call [.pointer (some ⟨p_c, 0, none⟩), r908] rfl (spec_l1Cur_among_ok p_c t_c (((m_c + 300 + 170 * a + 10 * (b - a)) + 2) + 2) lo_c r908 [1, 5, 10, 10, 60, (1 + g904)] _ f913 s_r908.toSl (fun b hb hc => by simp at hc; have := fr_r908 b hb; omega) (by omega) (by first | omega | assumption | (simp; done) | (simp; omega))) ?_
     rintro _ h915 ⟨g914, rfl, qh915, Ch915, mh915⟩
     have zh915 := mh915.size
     have E916 := E910.new mh915 (fun b hb => .inl (by simp at hb; simp [hb]))
     have G917 := gmod1 (b := b5) (h := h909) (h0 := h900) mh915 (by omega) (by simp; omega) G912
     simp only [List.mem_cons, List.not_mem_nil, or_false] at qh915
     refine s_nil ⟨fun _ x hx => G917 x hx, ?_⟩
     refine d_pureT (.agg #[.int .i64 a, .int .i64 b, .int .i64 g914]) (fun _ q => w_build (seg_i rfl (seg_i rfl (seg_i rfl (seg_nil q))))) <| d_eff ?_
     refine s_row (α := LinkD) [(⟨a, b, g914⟩ : LinkD)] (fun _ q => seg_agg rfl rfl (seg_nil q)) rfl (by simp [maxLen]) (fun r918 h919 eh919 zh919 s_r918 fr_r918 => ?_)
     have E920 := E916.trans (Mod.of_ext eh919 _)
     have z921 := eh919.size
     have G922 := gext1 eh919 (by omega) G917
     refine s_nil ⟨fun _ x hx => G922 x hx, ?_⟩
     refine d_eff ?_
     have f923 := (((((s_o7.mod mh900 (nb1 np_c_o7)).mod mh905 (nb1 np_c_o7)).ext eh909).mod mh915 (nb1 np_c_o7)).ext eh919)
     refine s_app f923 s_r918 rfl rfl rfl (by first | (simp [maxLen]; done) | (simp [maxLen]; omega)) (by first | (simp; done) | (simp; omega)) (fun r924 h925 mh925 zh925 s_r924 ab_r924 => ?_)
     have E926 := E920.new mh925 (fun b hb => .inr (by have := fr_o7 b hb; omega))
     have fr_r924 := fr_o7.app ab_r924 (by omega)
     have np927 : p_c ∉ blks r924 := fun hc => (ab_r924 _ hc).elim np_c_o7 (fun hc => by omega)
     have np928 : b1 ∉ blks r924 := fun hc => (ab_r924 _ hc).elim np_b1_o7 (fun hc => by omega)
     have np929 : b5 ∉ blks r924 := fun hc => (ab_r924 _ hc).elim np_b5_o7 (fun hc => by omega)
     have np931 : ∀ b ∈ blks o3, b ∉ blks r924 := fun b hb hc => (ab_r924 _ hc).elim ((np_o3_o7 : ∀ b ∈ blks o3, b ∉ blks o7) b hb) (fun hc => by have := ltk_o3 b hb; omega)
     refine s_nil ⟨fun hl => (by cases hl), ?_⟩
     refine d_pq (.pointer (some ⟨b5, 1, none⟩)) <| d_eff ?_
     have f934 := (((((f903.mod mh905 (by simp; omega)).ext eh909).mod mh915 (by simp; omega)).ext eh919).mod mh925 np_b5_o7)
     refine s_stBx r924 [r924] [o3, r924] f934 rfl rfl s_r924.cellsv rfl (by simp) (all_cons s_r924.one1 all_nil) rfl (fun h935 mh935 sh935 bxx936 => ?_)
     have E937 := E926.new mh935 (fun b hb => .inr (by simp at hb; omega))
     refine s_nil ⟨fun hl => (by cases hl), ?_⟩
     refine d_done <| p_blkN <| p_seqN <| v_ops <| s_pq (.int .i64 b) <| s_pure (.int .i64 (b + 1)) (fun _ q => ArithVC.mk (by omega) q) <| s_pq (.int .i64 (b + 1)) <| s_nil ?_
     have f938 := (((Ch915.ext eh919).mod mh925 np_c_o7 (fun b hb => by have := fr_o7 b hb; omega)).mod mh935 (by simp; omega) (fun b hb => by simp at hb; omega))
     have f939 := (((((((bxb1.mod mh900 (by simp; omega)).mod mh905 (by simp; omega)).ext eh909).mod mh915 (by simp; omega)).ext eh919).mod mh925 np_b1_o7).mod mh935 (by simp; omega))
     have f940 := (((((((s_o3.mod mh900 (nb1 np_c_o3)).mod mh905 (nb1 np_c_o3)).ext eh909).mod mh915 (nb1 np_c_o3)).ext eh919).mod mh925 np_o3_o7).mod mh935 (nb1 np_b5_o3))
     have f941 := (s_r924.mod mh935 (nb1 np929))
     exact p_lpN ⟨(b + 1), (l7 ++ [(⟨a, b, g914⟩ : LinkD)]), r924, ⟨rfl, rfl, rfl, rfl, rfl, rfl, rfl⟩, ⟨E937, (f938.le (by first | omega | (simp; done) | (simp; omega))), f939, bxx936, f940, (sl_eq f941 (by simp)), (fr_r924.mono (by omega)), np927, np928, np929, np931, (by exact ⟨by omega, by omega, by first | omega | (simp; omega)⟩)⟩, by first | omega | (simp; done) | (simp; omega)⟩
    refine s_run rfl <| s_pq (.int .i64 b) <| s_run rfl <| s_pq (.int .i64 a) <| s_run rfl <| s_pure (.int .i64 (a + 1)) (fun _ q => ArithVC.mk (by omega) q) <| s_run rfl <| s_pq (.bool (b == (a + 1))) <| s_run rfl <| s_pq (.bool (b == (a + 1))) ?_
    refine s_splitT rfl (fun c942 => ?_) (fun c942 => ?_)
    ·
     refine s_run rfl <| s_pq (.pointer (some ⟨p_c, 0, none⟩)) <| s_run rfl <| s_call [.pointer (some ⟨p_c, 0, none⟩), .int .i64 8] rfl (spec_l1Cur_one_ok p_c t_c ((m_c + 300 + 170 * a + 10 * (b - a)) + 2) lo_c 8 _ Ch900 (by omega)) ?_
     rintro _ h944 ⟨g943, rfl, Ch944, mh944⟩
     have zh944 := mh944.size
     have E945 := E901.new mh944 (fun b hb => .inl (by simp at hb; simp [hb]))
     refine s_run rfl <| s_pq (.bool (!g943)) <| s_run rfl <| s_pq (.bool (!g943)) <| s_pq (.bool (!g943)) <| s_nil <| p_seqN ?_
     refine v_cond rfl (fun c946 => ?_) (fun c946 => ?_)
     ·
      have f947 := ((bxb5.mod mh900 (by simp; omega)).mod mh944 (by simp; omega))
      refine v_draw (DrawVC.hold ([b5]) ?_)
      refine d_pq (.pointer (some ⟨b5, 1, none⟩)) <| d_pq (.int .i64 a) <| d_pq (.int .i64 b) <| d_pq (.pointer (some ⟨p_c, 0, none⟩)) <| d_pq (.pointer (some ⟨p_c, 0, none⟩)) <| d_loadT o7 (fun _ q => f947.take (by simp) rfl q) <| d_eff <| s_call [.pointer (some ⟨p_c, 0, none⟩), .int .i64 30] rfl (spec_l1Cur_pick_ok p_c t_c (((m_c + 300 + 170 * a + 10 * (b - a)) + 2) + 2) lo_c 30 _ Ch944 (by omega)) ?_
      rintro _ h949 ⟨g948, rfl, qh949, Ch949, mh949⟩
      have zh949 := mh949.size
      have E950 := E945.new mh949 (fun b hb => .inl (by simp at hb; simp [hb]))
      have G951 := gmod1 (b := b5) (h := h944) (h0 := h944) mh949 (by omega) (by simp; omega) (fun _ _ => rfl)
      refine s_nil ⟨fun _ x hx => G951 x hx, ?_⟩
      refine d_pureT (.int .i64 (1 + g948)) (fun _ q => ArithVC.mk (by omega) q) <| d_eff ?_
      refine s_row (α := Int) [1, 5, 10, 10, 60, (1 + g948)] (fun _ q => seg_i rfl (seg_i rfl (seg_i rfl (seg_i rfl (seg_i rfl (seg_i rfl (seg_nil q))))))) rfl (by simp [maxLen]) (fun r952 h953 eh953 zh953 s_r952 fr_r952 => ?_)
      have E954 := E950.trans (Mod.of_ext eh953 _)
      have z955 := eh953.size
      have G956 := gext1 eh953 (by omega) G951
      refine s_nil ⟨fun _ x hx => G956 x hx, ?_⟩
      refine d_eff ?_
      have f957 := (Ch949.ext eh953)
      refine s_call [.pointer (some ⟨p_c, 0, none⟩), r952] rfl (spec_l1Cur_among_ok p_c t_c ((((m_c + 300 + 170 * a + 10 * (b - a)) + 2) + 2) + 2) lo_c r952 [1, 5, 10, 10, 60, (1 + g948)] _ f957 s_r952.toSl (fun b hb hc => by simp at hc; have := fr_r952 b hb; omega) (by omega) (by first | omega | assumption | (simp; done) | (simp; omega))) ?_
      rintro _ h959 ⟨g958, rfl, qh959, Ch959, mh959⟩
      have zh959 := mh959.size
      have E960 := E954.new mh959 (fun b hb => .inl (by simp at hb; simp [hb]))
      have G961 := gmod1 (b := b5) (h := h953) (h0 := h944) mh959 (by omega) (by simp; omega) G956
      simp only [List.mem_cons, List.not_mem_nil, or_false] at qh959
      refine s_nil ⟨fun _ x hx => G961 x hx, ?_⟩
      refine d_pureT (.agg #[.int .i64 a, .int .i64 b, .int .i64 g958]) (fun _ q => w_build (seg_i rfl (seg_i rfl (seg_i rfl (seg_nil q))))) <| d_eff ?_
      refine s_row (α := LinkD) [(⟨a, b, g958⟩ : LinkD)] (fun _ q => seg_agg rfl rfl (seg_nil q)) rfl (by simp [maxLen]) (fun r962 h963 eh963 zh963 s_r962 fr_r962 => ?_)
      have E964 := E960.trans (Mod.of_ext eh963 _)
      have z965 := eh963.size
      have G966 := gext1 eh963 (by omega) G961
      refine s_nil ⟨fun _ x hx => G966 x hx, ?_⟩
      refine d_eff ?_
      have f967 := ((((((s_o7.mod mh900 (nb1 np_c_o7)).mod mh944 (nb1 np_c_o7)).mod mh949 (nb1 np_c_o7)).ext eh953).mod mh959 (nb1 np_c_o7)).ext eh963)
      refine s_app f967 s_r962 rfl rfl rfl (by first | (simp [maxLen]; done) | (simp [maxLen]; omega)) (by first | (simp; done) | (simp; omega)) (fun r968 h969 mh969 zh969 s_r968 ab_r968 => ?_)
      have E970 := E964.new mh969 (fun b hb => .inr (by have := fr_o7 b hb; omega))
      have fr_r968 := fr_o7.app ab_r968 (by omega)
      have np971 : p_c ∉ blks r968 := fun hc => (ab_r968 _ hc).elim np_c_o7 (fun hc => by omega)
      have np972 : b1 ∉ blks r968 := fun hc => (ab_r968 _ hc).elim np_b1_o7 (fun hc => by omega)
      have np973 : b5 ∉ blks r968 := fun hc => (ab_r968 _ hc).elim np_b5_o7 (fun hc => by omega)
      have np975 : ∀ b ∈ blks o3, b ∉ blks r968 := fun b hb hc => (ab_r968 _ hc).elim ((np_o3_o7 : ∀ b ∈ blks o3, b ∉ blks o7) b hb) (fun hc => by have := ltk_o3 b hb; omega)
      refine s_nil ⟨fun hl => (by cases hl), ?_⟩
      refine d_pq (.pointer (some ⟨b5, 1, none⟩)) <| d_eff ?_
      have f978 := (((((f947.mod mh949 (by simp; omega)).ext eh953).mod mh959 (by simp; omega)).ext eh963).mod mh969 np_b5_o7)
      refine s_stBx r968 [r968] [o3, r968] f978 rfl rfl s_r968.cellsv rfl (by simp) (all_cons s_r968.one1 all_nil) rfl (fun h979 mh979 sh979 bxx980 => ?_)
      have E981 := E970.new mh979 (fun b hb => .inr (by simp at hb; omega))
      refine s_nil ⟨fun hl => (by cases hl), ?_⟩
      refine d_done <| p_blkN <| p_seqN <| v_ops <| s_pq (.int .i64 b) <| s_pure (.int .i64 (b + 1)) (fun _ q => ArithVC.mk (by omega) q) <| s_pq (.int .i64 (b + 1)) <| s_nil ?_
      have f982 := (((Ch959.ext eh963).mod mh969 np_c_o7 (fun b hb => by have := fr_o7 b hb; omega)).mod mh979 (by simp; omega) (fun b hb => by simp at hb; omega))
      have f983 := ((((((((bxb1.mod mh900 (by simp; omega)).mod mh944 (by simp; omega)).mod mh949 (by simp; omega)).ext eh953).mod mh959 (by simp; omega)).ext eh963).mod mh969 np_b1_o7).mod mh979 (by simp; omega))
      have f984 := ((((((((s_o3.mod mh900 (nb1 np_c_o3)).mod mh944 (nb1 np_c_o3)).mod mh949 (nb1 np_c_o3)).ext eh953).mod mh959 (nb1 np_c_o3)).ext eh963).mod mh969 np_o3_o7).mod mh979 (nb1 np_b5_o3))
      have f985 := (s_r968.mod mh979 (nb1 np973))
      exact p_lpN ⟨(b + 1), (l7 ++ [(⟨a, b, g958⟩ : LinkD)]), r968, ⟨rfl, rfl, rfl, rfl, rfl, rfl, rfl⟩, ⟨E981, (f982.le (by first | omega | (simp; done) | (simp; omega))), f983, bxx980, f984, (sl_eq f985 (by simp)), (fr_r968.mono (by omega)), np971, np972, np973, np975, (by exact ⟨by omega, by omega, by first | omega | (simp; omega)⟩)⟩, by first | omega | (simp; done) | (simp; omega)⟩
     have c946 := Classical.not_not.1 c946
     refine v_skip <| p_blkN <| p_seqN <| v_ops <| s_pq (.int .i64 b) <| s_pure (.int .i64 (b + 1)) (fun _ q => ArithVC.mk (by omega) q) <| s_pq (.int .i64 (b + 1)) <| s_nil ?_
     have f986 := ((bxb1.mod mh900 (by simp; omega)).mod mh944 (by simp; omega))
     have f987 := ((bxb5.mod mh900 (by simp; omega)).mod mh944 (by simp; omega))
     have f988 := ((s_o3.mod mh900 (nb1 np_c_o3)).mod mh944 (nb1 np_c_o3))
     have f989 := ((s_o7.mod mh900 (nb1 np_c_o7)).mod mh944 (nb1 np_c_o7))
     exact p_lpN ⟨(b + 1), l7, o7, ⟨rfl, rfl, rfl, rfl, rfl, rfl, rfl⟩, ⟨E945, (Ch944.le (by first | omega | (simp; done) | (simp; omega))), f986, f987, f988, (sl_eq f989 (by simp)), (fr_o7.mono (by omega)), np_c_o7, np_b1_o7, np_b5_o7, np_o3_o7, (by exact ⟨by omega, by omega, by first | omega | (simp; omega)⟩)⟩, by first | omega | (simp; done) | (simp; omega)⟩
    refine s_pass rfl <| s_pass rfl <| s_pass rfl <| s_run rfl <| s_pq (.bool false) <| s_pq (.bool false) <| s_nil <| p_seqN <| v_condN rfl (by simp) <| v_skip <| p_blkN <| p_seqN <| v_ops <| s_pq (.int .i64 b) <| s_pure (.int .i64 (b + 1)) (fun _ q => ArithVC.mk (by omega) q) <| s_pq (.int .i64 (b + 1)) <| s_nil ?_
    have f990 := (bxb1.mod mh900 (by simp; omega))
    have f991 := (bxb5.mod mh900 (by simp; omega))
    have f992 := (s_o3.mod mh900 (nb1 np_c_o3))
    have f993 := (s_o7.mod mh900 (nb1 np_c_o7))
    exact p_lpN ⟨(b + 1), l7, o7, ⟨rfl, rfl, rfl, rfl, rfl, rfl, rfl⟩, ⟨E901, (Ch900.le (by first | omega | (simp; done) | (simp; omega))), f990, f991, f992, (sl_eq f993 (by simp)), (fr_o7.mono (by omega)), np_c_o7, np_b1_o7, np_b5_o7, np_o3_o7, (by exact ⟨by omega, by omega, by first | omega | (simp; omega)⟩)⟩, by first | omega | (simp; done) | (simp; omega)⟩
   refine v_exit <| p_seqX <| p_lpX <| p_blkX <| p_blkN <| p_seqN <| v_ops <| s_pq (.int .i64 a) <| s_pure (.int .i64 (a + 1)) (fun _ q => ArithVC.mk (by omega) q) <| s_pq (.int .i64 (a + 1)) <| s_nil ?_
   exact p_lpN ⟨(a + 1), l7, o7, ⟨rfl, rfl, rfl, rfl, rfl, rfl⟩, ⟨Eh, (bxc.le (by first | omega | (simp; done) | (simp; omega))), bxb1, bxb5, s_o3, (sl_eq s_o7 (by simp)), (fr_o7.mono (by omega)), np_c_o7, np_b1_o7, np_b5_o7, np_o3_o7, (by exact ⟨by omega, by omega, by first | omega | (simp; omega)⟩)⟩, by first | omega | (simp; done) | (simp; omega)⟩
  refine s_pass rfl <| s_pass rfl <| s_pass rfl <| s_pass rfl <| s_pq (.bool false) <| s_nil <| p_seqN <| v_condN rfl (by simp) <| v_exit <| p_seqX <| p_lpX <| p_blkX <| p_blkN <| p_seqN <| v_ops <| s_pq (.int .i64 a) <| s_pure (.int .i64 (a + 1)) (fun _ q => ArithVC.mk (by omega) q) <| s_pq (.int .i64 (a + 1)) <| s_nil ?_
  exact p_lpN ⟨(a + 1), l7, o7, ⟨rfl, rfl, rfl, rfl, rfl, rfl⟩, ⟨Eh, (bxc.le (by first | omega | (simp; done) | (simp; omega))), bxb1, bxb5, s_o3, (sl_eq s_o7 (by simp)), (fr_o7.mono (by omega)), np_c_o7, np_b1_o7, np_b5_o7, np_o3_o7, (by exact ⟨by omega, by omega, by first | omega | (simp; omega)⟩)⟩, by first | omega | (simp; done) | (simp; omega)⟩
 refine v_exit <| p_seqX <| p_lpX <| p_blkX <| p_seqN <| v_seq <| v_ops <| s_load (.agg #[o3, o6]) (fun _ q => bxb5.loadA rfl q) ?_
 refine s_stBx (.agg #[o3, o6]) [o3, o6] [o3, o6] bxb1 rfl rfl rfl rfl (by simp) (all_cons s_o3.one1 (all_cons s_o6.one1 all_nil)) rfl (fun h994 mh994 sh994 bxx995 => ?_)
 have E996 := Eh.new mh994 (fun b hb => .inr (by simp at hb; omega))
 refine s_nil <| p_seqN <| v_ret <| p_ret [.agg #[o3, o6]] (.agg #[o3, o6]) (fun _ q => (bxx995.loadA rfl q)) rfl ?_
 have f997 := (s_o3.mod mh994 (nb1 np_b1_o3))
 have f998 := (s_o6.mod mh994 (nb1 np_b1_o6))
 have f999 := (bxc.mod mh994 (by simp; omega) (fun b hb => by simp at hb; omega))
 exact ⟨⟨ts, l6⟩, o3, o6, rfl, f997, (fr_o3.mono (by omega)), f998, (fr_o6.mono (by omega)), np_o3_o6, (by (try simp only); exact ⟨by omega, by omega, by omega⟩), (f999.le (by omega)), E996⟩

end Go.Proofs.Ytloicopmcagikaa

