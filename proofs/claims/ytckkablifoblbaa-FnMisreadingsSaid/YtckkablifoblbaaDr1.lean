/- What is drawn for lines. Condition: none. Printed in part by a program. -/
import Derived.Test.YtckkablifoblbaaCu1
import Derived.Test.YtckkablifoblbaaRw4
import Derived.Test.YtckkablifoblbaaLn10
import Derived.Test.YtckkablifoblbaaLn8b
namespace Go.Proofs.Ytckkablifoblbaa
open Go.Vc
set_option linter.all false
theorem spec_l1Cur_content_ok (p_c : Nat) (t_c : TypeId) (m_c : Int) (lo_c : Nat) (h : Heap) (C_c : Cur h p_c t_c m_c lo_c) (hm : m_c + 2 ≤ 4000000000000000000) : Cn f_spec_l1Cur_content [.pointer (some ⟨p_c, 0, none⟩)] h fun v h' => ∃ g0 : Int, v = .int .i64 g0 ∧ Cur h' p_c t_c (m_c + 2) lo_c ∧ Mod [p_c] h h' := by
  have lc_c := C_c.lt
  have ll_c := C_c.low
  have lm_c := C_c.top
  refine calls_of r_spec_l1Cur_content ?_
  refine v_seq ?_
  refine v_ops ?_
  refine s_pure (.int .i64 0) (fun _ q => q) ?_
  refine s_nil ?_
  refine p_seqN ?_
  refine v_seq ?_
  refine v_ops ?_
  refine s_pure (.pointer (some ⟨p_c, 0, none⟩)) (fun _ q => q) ?_
  refine s_call [.pointer (some ⟨p_c, 0, none⟩), .int .i64 60] rfl (spec_l1Cur_pick_ok p_c t_c m_c lo_c 60 _ C_c (by first | omega | assumption | (simp; done) | (simp; omega))) ?_
  rintro _ h2 ⟨g1, rfl, qh2, Ch2, mh2⟩
  have zh2 := mh2.size
  have E3 := (Mod.refl [p_c] h).new mh2 (fun b hb => .inl (by simp at hb; simp [hb]))
  refine s_pure (.int .i64 (1 + g1)) (fun _ q => ArithVC.mk (by omega) q) ?_
  refine s_pure (.int .i64 (1 + g1)) (fun _ q => q) ?_
  refine s_nil ?_
  refine p_seqN ?_
  refine v_ret ?_
  refine p_ret [.int .i64 (1 + g1)] (.int .i64 (1 + g1)) (fun _ q => q) rfl ?_
  exact ⟨(1 + g1), rfl, (Ch2.le (by omega)), E3⟩

theorem spec_l1Cur_contents_ok (p_c : Nat) (t_c : TypeId) (m_c : Int) (lo_c : Nat) (n : Int) (h : Heap) (C_c : Cur h p_c t_c m_c lo_c) (hm : m_c + (6 * n) ≤ 4000000000000000000) (hn : 0 ≤ n ∧ n ≤ 100000) : Cn f_spec_l1Cur_contents [.pointer (some ⟨p_c, 0, none⟩), .int .i64 n] h fun v h' => ∃ g0 : List Int, ∃ r0 : Value, v = r0 ∧ SlO h' r0 g0 ∧ Fr h.size r0 ∧ (g0.length = n.toNat) ∧ Cur h' p_c t_c (m_c + (6 * n)) lo_c ∧ Mod [p_c] h h' := by
  have lc_c := C_c.lt
  have ll_c := C_c.low
  have lm_c := C_c.top
  refine calls_of r_spec_l1Cur_contents ?_
  refine v_seq ?_
  refine v_ops ?_
  refine s_pure (.slice none 0 0) (fun _ q => q) ?_
  refine s_nil ?_
  refine p_seqN ?_
  refine v_seq ?_
  refine v_ops ?_
  refine s_pure (.slice none 0 0) (fun _ q => q) ?_
  refine s_nil ?_
  refine p_seqN ?_
  refine v_seq ?_
  refine v_block ?_
  refine v_loop3 (α := Int) (β := List Int) (γ := Value) (fun i ll o => [(0, .pointer (some ⟨p_c, 0, none⟩)), (1, .int .i64 i), (5, o)]) (fun i ll o hh => Mod [p_c] h hh ∧ Cur hh p_c t_c (m_c + 6 * (n - i)) lo_c ∧ SlO hh o ll ∧ Fr h.size o ∧ p_c ∉ blks o ∧ 0 ≤ i ∧ i ≤ n ∧ (ll.length : Int) = n - i) (fun i ll o => i.toNat) n [] (.slice none 0 0) ⟨rfl, rfl, rfl⟩ ⟨(Mod.refl [p_c] h), (C_c.le (by omega)), (sl_eq (SlX.nil (α := Int) true h) (by simp)), (Fr.nil _), (by simp [blks, fpts]), (by exact ⟨by omega, by omega, by simp⟩)⟩ ?_
  rintro i ll o R2 h1 ⟨Eh, bxc, s_o, fr_o, np_c_o, ⟨hi, hin, hl⟩⟩
  have zEh := Eh.size
  have lbc := bxc.lt
  have lt_o := s_o.lt
  refine v_seq ?_
  refine v_seq ?_
  refine v_ops ?_
  refine s_pure (.int .i64 i) (fun _ q => q) ?_
  refine s_pure (.bool (decide (i > 0))) (fun _ q => q) ?_
  refine s_nil ?_
  refine p_seqN ?_
  refine v_cond rfl (fun c3 => ?_) (fun c3 => ?_)
  ·
    refine v_skip ?_
    refine p_seqN ?_
    refine v_seq ?_
    refine v_block ?_
    refine v_ops ?_
    refine s_pure o (fun _ q => q) ?_
    refine s_pure (.pointer (some ⟨p_c, 0, none⟩)) (fun _ q => q) ?_
    refine s_pure (.pointer (some ⟨p_c, 0, none⟩)) (fun _ q => q) ?_
    refine s_call [.pointer (some ⟨p_c, 0, none⟩)] rfl (spec_l1Cur_content_ok p_c t_c (m_c + 6 * (n - i)) lo_c _ bxc (by first | omega | assumption | (simp; done) | (simp; omega))) ?_
    rintro _ h5 ⟨g4, rfl, Ch5, mh5⟩
    have zh5 := mh5.size
    have E6 := Eh.new mh5 (fun b hb => .inl (by simp at hb; simp [hb]))
    refine s_pure (.pointer (some ⟨p_c, 0, none⟩)) (fun _ q => q) ?_
    refine s_call [.pointer (some ⟨p_c, 0, none⟩)] rfl (spec_l1Cur_content_ok p_c t_c ((m_c + 6 * (n - i)) + 2) lo_c _ Ch5 (by first | omega | assumption | (simp; done) | (simp; omega))) ?_
    rintro _ h8 ⟨g7, rfl, Ch8, mh8⟩
    have zh8 := mh8.size
    have E9 := E6.new mh8 (fun b hb => .inl (by simp at hb; simp [hb]))
    refine s_row (α := Int) [1, 5, 12, 60, g4, g7] (fun _ q => seg_i rfl (seg_i rfl (seg_i rfl (seg_i rfl (seg_i rfl (seg_i rfl (seg_nil q))))))) rfl (by simp [maxLen]) (fun r10 h11 eh11 zh11 s_r10 fr_r10 => ?_)
    have E12 := E9.trans (Mod.of_ext eh11 _)
    have z13 := eh11.size
    have lt_r10 := s_r10.lt
    have f14 := (Ch8.ext eh11)
    refine s_call [.pointer (some ⟨p_c, 0, none⟩), r10] rfl (spec_l1Cur_among_ok p_c t_c (((m_c + 6 * (n - i)) + 2) + 2) lo_c r10 [1, 5, 12, 60, g4, g7] _ f14 s_r10.toSl (fun b hb hc => by simp at hc; have := fr_r10 b hb; omega) (by first | omega | assumption | (simp; done) | (simp; omega)) (by first | omega | assumption | (simp; done) | (simp; omega))) ?_
    rintro _ h16 ⟨g15, rfl, qh16, Ch16, mh16⟩
    have zh16 := mh16.size
    have E17 := E12.new mh16 (fun b hb => .inl (by simp at hb; simp [hb]))
    simp only [List.mem_cons, List.not_mem_nil, or_false] at qh16
    refine s_row (α := Int) [g15] (fun _ q => seg_i rfl (seg_nil q)) rfl (by simp [maxLen]) (fun r18 h19 eh19 zh19 s_r18 fr_r18 => ?_)
    have E20 := E17.trans (Mod.of_ext eh19 _)
    have z21 := eh19.size
    have lt_r18 := s_r18.lt
    have f22 := (((((s_o.mod mh5 (fun b hb hc => np_c_o (by simp at hc; rw [← hc]; exact hb))).mod mh8 (fun b hb hc => np_c_o (by simp at hc; rw [← hc]; exact hb))).ext eh11).mod mh16 (fun b hb hc => np_c_o (by simp at hc; rw [← hc]; exact hb))).ext eh19)
    refine s_app f22 s_r18 rfl rfl rfl (by simp [maxLen]; omega) (by simp; omega) (fun r23 h24 mh24 zh24 s_r23 ab_r23 => ?_)
    have E25 := E20.new mh24 (fun b hb => .inr (by have := fr_o b hb; omega))
    have fr_r23 := fr_o.app ab_r23 (by omega)
    have np26 : p_c ∉ blks r23 := fun hc => (ab_r23 _ hc).elim np_c_o (fun hc => by omega)
    have np27 : ∀ b ∈ blks r10, b ∉ blks r23 := fun b hb hc => (ab_r23 _ hc).elim (((fun b hb hc => by have := fr_r10 b hb; have := lt_o b hc; omega) : ∀ b ∈ blks r10, b ∉ blks o) b hb) (fun hc => by have := lt_r10 b hb; omega)
    have np28 : ∀ b ∈ blks r18, b ∉ blks r23 := fun b hb hc => (ab_r23 _ hc).elim (((fun b hb hc => by have := fr_r18 b hb; have := lt_o b hc; omega) : ∀ b ∈ blks r18, b ∉ blks o) b hb) (fun hc => by have := lt_r18 b hb; omega)
    have lt_r23 := s_r23.lt
    refine s_pure r23 (fun _ q => q) ?_
    refine s_nil ?_
    refine p_blkN ?_
    refine p_seqN ?_
    refine v_ops ?_
    refine s_pure (.int .i64 i) (fun _ q => q) ?_
    refine s_pure (.int .i64 (i - 1)) (fun _ q => ArithVC.mk (by omega) q) ?_
    refine s_pure (.int .i64 (i - 1)) (fun _ q => q) ?_
    refine s_nil ?_
    have f29 := ((Ch16.ext eh19).mod mh24 np_c_o (fun b hb => by have := fr_o b hb; omega))
    exact p_lpN ⟨(i - 1), (ll ++ [g15]), r23, ⟨rfl, rfl, rfl⟩, ⟨E25, (f29.le (by omega)), (sl_eq s_r23 (by simp)), (fr_r23.mono (by omega)), np26, (by exact ⟨by omega, by omega, by simp; omega⟩)⟩, by omega⟩
  ·
    refine v_exit ?_
    refine p_seqX ?_
    refine p_lpX ?_
    refine p_blkX ?_
    refine p_seqN ?_
    refine v_seq ?_
    refine v_ops ?_
    refine s_pure o (fun _ q => q) ?_
    refine s_pure o (fun _ q => q) ?_
    refine s_nil ?_
    refine p_seqN ?_
    refine v_ret ?_
    refine p_ret [o] o (fun _ q => q) rfl ?_
    exact ⟨ll, o, rfl, s_o, (fr_o.mono (by omega)), (by omega), (bxc.le (by omega)), Eh⟩

set_option maxRecDepth 10000 in
set_option maxHeartbeats 4000000 in
theorem spec_l1Cur_line_ok (p_c : Nat) (t_c : TypeId) (m_c : Int) (lo_c : Nat) (h : Heap) (C_c : Cur h p_c t_c m_c lo_c) (hm : m_c + 10 ≤ 4000000000000000000) : Cn f_spec_l1Cur_line [.pointer (some ⟨p_c, 0, none⟩)] h fun v h' => ∃ g0 : LineD, v = .agg #[.int .i64 g0.towers, .int .i64 g0.tries] ∧ (0 ≤ g0.towers ∧ g0.towers ≤ 11 ∧ 0 ≤ g0.tries ∧ g0.tries ≤ 6) ∧ Cur h' p_c t_c (m_c + 10) lo_c ∧ Mod [p_c] h h' := by
  have lc_c := C_c.lt
  have ll_c := C_c.low
  have lm_c := C_c.top
  refine calls_of r_spec_l1Cur_line ?_
  refine v_seq ?_
  refine v_ops ?_
  refine s_new (fun h2 b1 hbb1 hzb1 eh2 bxb1 => ?_)
  have E3 := (Mod.refl [p_c] h).trans (Mod.of_ext eh2 _)
  have z4 := eh2.size
  have lbb1 := bxb1.lt
  refine s_nil ?_
  refine p_seqN ?_
  refine v_seq ?_
  refine v_ops ?_
  refine s_pure (.pointer (some ⟨p_c, 0, none⟩)) (fun _ q => q) ?_
  refine s_row (α := Int) [2, 3, 3, 4, 10] (fun _ q => seg_i rfl (seg_i rfl (seg_i rfl (seg_i rfl (seg_i rfl (seg_nil q)))))) rfl (by simp [maxLen]) (fun r5 h6 eh6 zh6 s_r5 fr_r5 => ?_)
  have E7 := E3.trans (Mod.of_ext eh6 _)
  have z8 := eh6.size
  have lt_r5 := s_r5.lt
  have f9 := ((C_c.ext eh2).ext eh6)
  refine s_call [.pointer (some ⟨p_c, 0, none⟩), r5] rfl (spec_l1Cur_among_ok p_c t_c m_c lo_c r5 [2, 3, 3, 4, 10] _ f9 s_r5.toSl (fun b hb hc => by simp at hc; have := fr_r5 b hb; omega) (by first | omega | assumption | (simp; done) | (simp; omega)) (by first | omega | assumption | (simp; done) | (simp; omega))) ?_
  rintro _ h11 ⟨g10, rfl, qh11, Ch11, mh11⟩
  have zh11 := mh11.size
  have E12 := E7.new mh11 (fun b hb => .inl (by simp at hb; simp [hb]))
  simp only [List.mem_cons, List.not_mem_nil, or_false] at qh11
  refine s_pure (.pointer (some ⟨p_c, 0, none⟩)) (fun _ q => q) ?_
  refine s_row (α := Int) [1, 2, 3, 5] (fun _ q => seg_i rfl (seg_i rfl (seg_i rfl (seg_i rfl (seg_nil q))))) rfl (by simp [maxLen]) (fun r13 h14 eh14 zh14 s_r13 fr_r13 => ?_)
  have E15 := E12.trans (Mod.of_ext eh14 _)
  have z16 := eh14.size
  have lt_r13 := s_r13.lt
  have f17 := (Ch11.ext eh14)
  refine s_call [.pointer (some ⟨p_c, 0, none⟩), r13] rfl (spec_l1Cur_among_ok p_c t_c (m_c + 2) lo_c r13 [1, 2, 3, 5] _ f17 s_r13.toSl (fun b hb hc => by simp at hc; have := fr_r13 b hb; omega) (by first | omega | assumption | (simp; done) | (simp; omega)) (by first | omega | assumption | (simp; done) | (simp; omega))) ?_
  rintro _ h19 ⟨g18, rfl, qh19, Ch19, mh19⟩
  have zh19 := mh19.size
  have E20 := E15.new mh19 (fun b hb => .inl (by simp at hb; simp [hb]))
  simp only [List.mem_cons, List.not_mem_nil, or_false] at qh19
  refine s_pure (.agg #[.int .i64 g10, .int .i64 g18]) (fun _ q => w_build (seg_i rfl (seg_i rfl (seg_nil q)))) ?_
  refine s_new (fun h22 b21 hbb21 hzb21 eh22 bxb21 => ?_)
  have E23 := E20.trans (Mod.of_ext eh22 _)
  have z24 := eh22.size
  have lbb21 := bxb21.lt
  refine s_stBx (.agg #[.int .i64 g10, .int .i64 g18]) [.int .i64 g10, .int .i64 g18] [.int .i64 g10, .int .i64 g18] bxb21 rfl rfl rfl rfl (by simp) (all_cons rfl (all_cons rfl all_nil)) rfl (fun h25 mh25 sh25 bxx26 => ?_)
  have E27 := E23.new mh25 (fun b hb => .inr (by simp at hb; omega))
  refine s_nil ?_
  refine p_seqN ?_
  refine v_seq ?_
  refine v_seq ?_
  refine v_ops ?_
  refine s_pure (.pointer (some ⟨p_c, 0, none⟩)) (fun _ q => q) ?_
  have f28 := ((Ch19.ext eh22).mod mh25 (by simp; omega) (fun b hb => by simp at hb; omega))
  refine s_call [.pointer (some ⟨p_c, 0, none⟩), .int .i64 30] rfl (spec_l1Cur_pick_ok p_c t_c ((m_c + 2) + 2) lo_c 30 _ f28 (by first | omega | assumption | (simp; done) | (simp; omega))) ?_
  rintro _ h30 ⟨g29, rfl, qh30, Ch30, mh30⟩
  have zh30 := mh30.size
  have E31 := E27.new mh30 (fun b hb => .inl (by simp at hb; simp [hb]))
  refine s_nil ?_
  refine p_seqN ?_
  refine v_block ?_
  refine v_seq ?_
  refine v_ops ?_
  refine s_pure (.bool (g29 == 0)) (fun _ q => q) ?_
  refine s_pure (.bool (g29 == 0)) (fun _ q => q) ?_
  refine s_nil ?_
  refine p_seqN ?_
  refine v_cond rfl (fun c32 => ?_) (fun c32 => ?_)
  ·
    refine v_ops ?_
    refine s_pure (.pointer (some ⟨p_c, 0, none⟩)) (fun _ q => q) ?_
    refine s_row (α := Int) [1, 11] (fun _ q => seg_i rfl (seg_i rfl (seg_nil q))) rfl (by simp [maxLen]) (fun r33 h34 eh34 zh34 s_r33 fr_r33 => ?_)
    have E35 := E31.trans (Mod.of_ext eh34 _)
    have z36 := eh34.size
    have lt_r33 := s_r33.lt
    have f37 := (Ch30.ext eh34)
    refine s_call [.pointer (some ⟨p_c, 0, none⟩), r33] rfl (spec_l1Cur_among_ok p_c t_c (((m_c + 2) + 2) + 2) lo_c r33 [1, 11] _ f37 s_r33.toSl (fun b hb hc => by simp at hc; have := fr_r33 b hb; omega) (by first | omega | assumption | (simp; done) | (simp; omega)) (by first | omega | assumption | (simp; done) | (simp; omega))) ?_
    rintro _ h39 ⟨g38, rfl, qh39, Ch39, mh39⟩
    have zh39 := mh39.size
    have E40 := E35.new mh39 (fun b hb => .inl (by simp at hb; simp [hb]))
    simp only [List.mem_cons, List.not_mem_nil, or_false] at qh39
    refine s_pure (.pointer (some ⟨b21, 0, none⟩)) (fun _ q => q) ?_
    have f41 := (((bxx26.mod mh30 (by simp; omega)).ext eh34).mod mh39 (by simp; omega))
    refine s_stBx (.int .i64 g38) [.int .i64 g38] [.int .i64 g38, .int .i64 g18] f41 rfl rfl rfl rfl (by simp) (all_cons rfl all_nil) rfl (fun h42 mh42 sh42 bxx43 => ?_)
    have E44 := E40.new mh42 (fun b hb => .inr (by simp at hb; omega))
    refine s_nil ?_
    refine p_blkN ?_
    refine p_seqN ?_
    refine v_seq ?_
    refine v_ops ?_
    refine s_load (.agg #[.int .i64 g38, .int .i64 g18]) (fun _ q => bxx43.loadA rfl q) ?_
    have f45 := ((((((((((bxb1.ext eh6).mod mh11 (by simp; omega)).ext eh14).mod mh19 (by simp; omega)).ext eh22).mod mh25 (by simp; omega)).mod mh30 (by simp; omega)).ext eh34).mod mh39 (by simp; omega)).mod mh42 (by simp; omega))
    refine s_stBx (.agg #[.int .i64 g38, .int .i64 g18]) [.int .i64 g38, .int .i64 g18] [.int .i64 g38, .int .i64 g18] f45 rfl rfl rfl rfl (by simp) (all_cons rfl (all_cons rfl all_nil)) rfl (fun h46 mh46 sh46 bxx47 => ?_)
    have E48 := E44.new mh46 (fun b hb => .inr (by simp at hb; omega))
    refine s_nil ?_
    refine p_seqN ?_
    refine v_ret ?_
    refine p_ret [.agg #[.int .i64 g38, .int .i64 g18]] (.agg #[.int .i64 g38, .int .i64 g18]) (fun _ q => (bxx47.loadA rfl q)) rfl ?_
    have f49 := ((Ch39.mod mh42 (by simp; omega) (fun b hb => by simp at hb; omega)).mod mh46 (by simp; omega) (fun b hb => by simp at hb; omega))
    exact ⟨⟨g38, g18⟩, rfl, (by simp only; omega), (f49.le (by omega)), E48⟩
  ·
    refine v_seq ?_
    refine v_ops ?_
    refine s_pure (.bool (g29 == 1)) (fun _ q => q) ?_
    refine s_pure (.bool (g29 == 1)) (fun _ q => q) ?_
    refine s_nil ?_
    refine p_seqN ?_
    refine v_cond rfl (fun c50 => ?_) (fun c50 => ?_)
    ·
      refine v_ops ?_
      refine s_pure (.pointer (some ⟨p_c, 0, none⟩)) (fun _ q => q) ?_
      refine s_row (α := Int) [0, 6] (fun _ q => seg_i rfl (seg_i rfl (seg_nil q))) rfl (by simp [maxLen]) (fun r51 h52 eh52 zh52 s_r51 fr_r51 => ?_)
      have E53 := E31.trans (Mod.of_ext eh52 _)
      have z54 := eh52.size
      have lt_r51 := s_r51.lt
      have f55 := (Ch30.ext eh52)
      refine s_call [.pointer (some ⟨p_c, 0, none⟩), r51] rfl (spec_l1Cur_among_ok p_c t_c (((m_c + 2) + 2) + 2) lo_c r51 [0, 6] _ f55 s_r51.toSl (fun b hb hc => by simp at hc; have := fr_r51 b hb; omega) (by first | omega | assumption | (simp; done) | (simp; omega)) (by first | omega | assumption | (simp; done) | (simp; omega))) ?_
      rintro _ h57 ⟨g56, rfl, qh57, Ch57, mh57⟩
      have zh57 := mh57.size
      have E58 := E53.new mh57 (fun b hb => .inl (by simp at hb; simp [hb]))
      simp only [List.mem_cons, List.not_mem_nil, or_false] at qh57
      refine s_pure (.pointer (some ⟨b21, 1, none⟩)) (fun _ q => q) ?_
      have f59 := (((bxx26.mod mh30 (by simp; omega)).ext eh52).mod mh57 (by simp; omega))
      refine s_stBx (.int .i64 g56) [.int .i64 g56] [.int .i64 g10, .int .i64 g56] f59 rfl rfl rfl rfl (by simp) (all_cons rfl all_nil) rfl (fun h60 mh60 sh60 bxx61 => ?_)
      have E62 := E58.new mh60 (fun b hb => .inr (by simp at hb; omega))
      refine s_nil ?_
      refine p_blkN ?_
      refine p_seqN ?_
      refine v_seq ?_
      refine v_ops ?_
      refine s_load (.agg #[.int .i64 g10, .int .i64 g56]) (fun _ q => bxx61.loadA rfl q) ?_
      have f63 := ((((((((((bxb1.ext eh6).mod mh11 (by simp; omega)).ext eh14).mod mh19 (by simp; omega)).ext eh22).mod mh25 (by simp; omega)).mod mh30 (by simp; omega)).ext eh52).mod mh57 (by simp; omega)).mod mh60 (by simp; omega))
      refine s_stBx (.agg #[.int .i64 g10, .int .i64 g56]) [.int .i64 g10, .int .i64 g56] [.int .i64 g10, .int .i64 g56] f63 rfl rfl rfl rfl (by simp) (all_cons rfl (all_cons rfl all_nil)) rfl (fun h64 mh64 sh64 bxx65 => ?_)
      have E66 := E62.new mh64 (fun b hb => .inr (by simp at hb; omega))
      refine s_nil ?_
      refine p_seqN ?_
      refine v_ret ?_
      refine p_ret [.agg #[.int .i64 g10, .int .i64 g56]] (.agg #[.int .i64 g10, .int .i64 g56]) (fun _ q => (bxx65.loadA rfl q)) rfl ?_
      have f67 := ((Ch57.mod mh60 (by simp; omega) (fun b hb => by simp at hb; omega)).mod mh64 (by simp; omega) (fun b hb => by simp at hb; omega))
      exact ⟨⟨g10, g56⟩, rfl, (by simp only; omega), (f67.le (by omega)), E66⟩
    ·
      refine v_skip ?_
      refine p_blkN ?_
      refine p_seqN ?_
      refine v_seq ?_
      refine v_ops ?_
      have f68 := (bxx26.mod mh30 (by simp; omega))
      refine s_load (.agg #[.int .i64 g10, .int .i64 g18]) (fun _ q => f68.loadA rfl q) ?_
      have f69 := (((((((bxb1.ext eh6).mod mh11 (by simp; omega)).ext eh14).mod mh19 (by simp; omega)).ext eh22).mod mh25 (by simp; omega)).mod mh30 (by simp; omega))
      refine s_stBx (.agg #[.int .i64 g10, .int .i64 g18]) [.int .i64 g10, .int .i64 g18] [.int .i64 g10, .int .i64 g18] f69 rfl rfl rfl rfl (by simp) (all_cons rfl (all_cons rfl all_nil)) rfl (fun h70 mh70 sh70 bxx71 => ?_)
      have E72 := E31.new mh70 (fun b hb => .inr (by simp at hb; omega))
      refine s_nil ?_
      refine p_seqN ?_
      refine v_ret ?_
      refine p_ret [.agg #[.int .i64 g10, .int .i64 g18]] (.agg #[.int .i64 g10, .int .i64 g18]) (fun _ q => (bxx71.loadA rfl q)) rfl ?_
      have f73 := (Ch30.mod mh70 (by simp; omega) (fun b hb => by simp at hb; omega))
      exact ⟨⟨g10, g18⟩, rfl, (by simp only; omega), (f73.le (by omega)), E72⟩

set_option maxRecDepth 10000 in
set_option maxHeartbeats 4000000 in
theorem spec_l1Cur_passed_ok (p_c : Nat) (t_c : TypeId) (m_c : Int) (lo_c : Nat) (h : Heap) (C_c : Cur h p_c t_c m_c lo_c) (hm : m_c + 1000 ≤ 4000000000000000000) : Cn f_spec_l1Cur_passed [.pointer (some ⟨p_c, 0, none⟩)] h fun v h' => ∃ g0 : List Int, ∃ r0 : Value, v = r0 ∧ SlO h' r0 g0 ∧ Fr h.size r0 ∧ (g0.length ≤ 21) ∧ Cur h' p_c t_c (m_c + 1000) lo_c ∧ Mod [p_c] h h' := by
  have lc_c := C_c.lt
  have ll_c := C_c.low
  have lm_c := C_c.top
  refine calls_of r_spec_l1Cur_passed ?_
  refine v_seq ?_
  refine v_ops ?_
  refine s_pure (.slice none 0 0) (fun _ q => q) ?_
  refine s_nil ?_
  refine p_seqN ?_
  refine v_seq ?_
  refine v_ops ?_
  refine s_pure (.pointer (some ⟨p_c, 0, none⟩)) (fun _ q => q) ?_
  refine s_pure (.pointer (some ⟨p_c, 0, none⟩)) (fun _ q => q) ?_
  refine s_call [.pointer (some ⟨p_c, 0, none⟩), .int .i64 6] rfl (spec_l1Cur_pick_ok p_c t_c m_c lo_c 6 _ C_c (by first | omega | assumption | (simp; done) | (simp; omega))) ?_
  rintro _ h2 ⟨g1, rfl, qh2, Ch2, mh2⟩
  have zh2 := mh2.size
  have E3 := (Mod.refl [p_c] h).new mh2 (fun b hb => .inl (by simp at hb; simp [hb]))
  refine s_call [.pointer (some ⟨p_c, 0, none⟩), .int .i64 g1] rfl (spec_l1Cur_contents_ok p_c t_c (m_c + 2) lo_c g1 _ Ch2 (by first | omega | assumption | (simp; done) | (simp; omega)) (by first | omega | assumption | (simp; done) | (simp; omega))) ?_
  rintro r5 h6 ⟨g4, _, rfl, s_r5, fr_r5, qh6, Ch6, mh6⟩
  have zh6 := mh6.size
  have E7 := E3.new mh6 (fun b hb => .inl (by simp at hb; simp [hb]))
  have lt_r5 := s_r5.lt
  refine s_pure r5 (fun _ q => q) ?_
  refine s_nil ?_
  refine p_seqN ?_
  refine v_seq ?_
  refine v_seq ?_
  refine v_ops ?_
  refine s_pure (.pointer (some ⟨p_c, 0, none⟩)) (fun _ q => q) ?_
  refine s_call [.pointer (some ⟨p_c, 0, none⟩), .int .i64 20] rfl (spec_l1Cur_one_ok p_c t_c ((m_c + 2) + (6 * g1)) lo_c 20 _ Ch6 (by first | omega | assumption | (simp; done) | (simp; omega))) ?_
  rintro _ h9 ⟨g8, rfl, Ch9, mh9⟩
  have zh9 := mh9.size
  have E10 := E7.new mh9 (fun b hb => .inl (by simp at hb; simp [hb]))
  refine s_nil ?_
  refine p_seqN ?_
  refine v_cond rfl (fun c11 => ?_) (fun c11 => ?_)
  ·
    refine v_ops ?_
    refine s_pure (.pointer (some ⟨p_c, 0, none⟩)) (fun _ q => q) ?_
    refine s_pure (.pointer (some ⟨p_c, 0, none⟩)) (fun _ q => q) ?_
    refine s_call [.pointer (some ⟨p_c, 0, none⟩), .int .i64 2] rfl (spec_l1Cur_pick_ok p_c t_c (((m_c + 2) + (6 * g1)) + 2) lo_c 2 _ Ch9 (by first | omega | assumption | (simp; done) | (simp; omega))) ?_
    rintro _ h13 ⟨g12, rfl, qh13, Ch13, mh13⟩
    have zh13 := mh13.size
    have E14 := E10.new mh13 (fun b hb => .inl (by simp at hb; simp [hb]))
    refine s_pure (.int .i64 (20 + g12)) (fun _ q => ArithVC.mk (by omega) q) ?_
    refine s_call [.pointer (some ⟨p_c, 0, none⟩), .int .i64 (20 + g12)] rfl (spec_l1Cur_contents_ok p_c t_c ((((m_c + 2) + (6 * g1)) + 2) + 2) lo_c (20 + g12) _ Ch13 (by first | omega | assumption | (simp; done) | (simp; omega)) (by first | omega | assumption | (simp; done) | (simp; omega))) ?_
    rintro r16 h17 ⟨g15, _, rfl, s_r16, fr_r16, qh17, Ch17, mh17⟩
    have zh17 := mh17.size
    have E18 := E14.new mh17 (fun b hb => .inl (by simp at hb; simp [hb]))
    have lt_r16 := s_r16.lt
    refine s_pure r16 (fun _ q => q) ?_
    refine s_nil ?_
    refine p_seqN ?_
    refine v_seq ?_
    refine v_seq ?_
    refine v_ops ?_
    refine s_pure r16 (fun _ q => q) ?_
    refine s_pure (.int .i64 (g15.length : Int)) (fun _ q => s_r16.lenVC q) ?_
    refine s_pure (.bool (decide ((g15.length : Int) > 0))) (fun _ q => q) ?_
    refine s_pure (.bool (decide ((g15.length : Int) > 0))) (fun _ q => q) ?_
    refine s_splitT rfl (fun c19 => ?_) (fun c19 => ?_)
    ·
      refine s_run rfl ?_
      refine s_pure (.pointer (some ⟨p_c, 0, none⟩)) (fun _ q => q) ?_
      refine s_run rfl ?_
      refine s_call [.pointer (some ⟨p_c, 0, none⟩), .int .i64 24] rfl (spec_l1Cur_one_ok p_c t_c (((((m_c + 2) + (6 * g1)) + 2) + 2) + (6 * (20 + g12))) lo_c 24 _ Ch17 (by first | omega | assumption | (simp; done) | (simp; omega))) ?_
      rintro _ h21 ⟨g20, rfl, Ch21, mh21⟩
      have zh21 := mh21.size
      have E22 := E18.new mh21 (fun b hb => .inl (by simp at hb; simp [hb]))
      refine s_pure (.bool g20) (fun _ q => q) ?_
      refine s_nil ?_
      refine p_seqN ?_
      refine v_cond rfl (fun c23 => ?_) (fun c23 => ?_)
      ·
        refine v_ops ?_
        refine s_pure r16 (fun _ q => q) ?_
        refine s_pure (.pointer (some ⟨p_c, 0, none⟩)) (fun _ q => q) ?_
        refine s_row (α := Int) [0, 63, 64, (-1)] (fun _ q => seg_i rfl (seg_i rfl (seg_i rfl (seg_i rfl (seg_nil q))))) rfl (by simp [maxLen]) (fun r24 h25 eh25 zh25 s_r24 fr_r24 => ?_)
        have E26 := E22.trans (Mod.of_ext eh25 _)
        have z27 := eh25.size
        have lt_r24 := s_r24.lt
        have f28 := (Ch21.ext eh25)
        refine s_call [.pointer (some ⟨p_c, 0, none⟩), r24] rfl (spec_l1Cur_among_ok p_c t_c ((((((m_c + 2) + (6 * g1)) + 2) + 2) + (6 * (20 + g12))) + 2) lo_c r24 [0, 63, 64, (-1)] _ f28 s_r24.toSl (fun b hb hc => by simp at hc; have := fr_r24 b hb; omega) (by first | omega | assumption | (simp; done) | (simp; omega)) (by first | omega | assumption | (simp; done) | (simp; omega))) ?_
        rintro _ h30 ⟨g29, rfl, qh30, Ch30, mh30⟩
        have zh30 := mh30.size
        have E31 := E26.new mh30 (fun b hb => .inl (by simp at hb; simp [hb]))
        simp only [List.mem_cons, List.not_mem_nil, or_false] at qh30
        have f32 := (((s_r16.mod mh21 (fun b hb hc => by simp at hc; have := fr_r16 b hb; omega)).ext eh25).mod mh30 (fun b hb hc => by simp at hc; have := fr_r16 b hb; omega))
        have hk33 : 0 < g15.length := (by first | omega | (simp; omega))
        obtain ⟨x34, hx34⟩ : ∃ x, g15[0]? = some x := ⟨_, List.getElem?_eq_getElem hk33⟩
        refine s_pure (.pointer (some ⟨sblk r16, soff r16 + 0 * 1, none⟩)) (fun _ q => f32.idx (k := 0) rfl hk33 q) ?_
        refine s_stSl (k := 0) (j := 0) g29 (.int .i64 g29) [.int .i64 g29] f32 rfl rfl rfl rfl rfl hx34 (Nat.le_of_ble_eq_true rfl) rfl (all_cons rfl all_nil) (fun h35 mh35 sh35 s36 => ?_)
        have E37 := E31.new mh35 (fun b hb => .inr (by have := fr_r16 b hb; omega))
        refine s_nil ?_
        refine p_seqN ?_
        refine v_seq ?_
        refine v_ops ?_
        refine s_pure r16 (fun _ q => q) ?_
        refine s_pure r16 (fun _ q => q) ?_
        refine s_nil ?_
        refine p_seqN ?_
        refine v_ret ?_
        refine p_ret [r16] r16 (fun _ q => q) rfl ?_
        have f38 := (Ch30.mod mh35 (fun hc => by have := fr_r16 _ hc; omega) (fun b hb => by have := fr_r16 b hb; omega))
        exact ⟨(g15.set 0 g29), r16, rfl, s36, (fr_r16.mono (by omega)), (by first | omega | (simp; omega)), (f38.le (by omega)), E37⟩
      ·
        refine v_skip ?_
        refine p_seqN ?_
        refine v_seq ?_
        refine v_ops ?_
        refine s_pure r16 (fun _ q => q) ?_
        refine s_pure r16 (fun _ q => q) ?_
        refine s_nil ?_
        refine p_seqN ?_
        refine v_ret ?_
        refine p_ret [r16] r16 (fun _ q => q) rfl ?_
        have f39 := (s_r16.mod mh21 (fun b hb hc => by simp at hc; have := fr_r16 b hb; omega))
        exact ⟨g15, r16, rfl, f39, (fr_r16.mono (by omega)), (by first | omega | (simp; omega)), (Ch21.le (by omega)), E22⟩
    ·
      refine s_pass rfl ?_
      refine s_pass rfl ?_
      refine s_pure (.bool false) (fun _ q => q) ?_
      refine s_nil ?_
      refine p_seqN ?_
      refine v_condN rfl (by simp) ?_
      refine v_skip ?_
      refine p_seqN ?_
      refine v_seq ?_
      refine v_ops ?_
      refine s_pure r16 (fun _ q => q) ?_
      refine s_pure r16 (fun _ q => q) ?_
      refine s_nil ?_
      refine p_seqN ?_
      refine v_ret ?_
      refine p_ret [r16] r16 (fun _ q => q) rfl ?_
      exact ⟨g15, r16, rfl, s_r16, (fr_r16.mono (by omega)), (by first | omega | (simp; omega)), (Ch17.le (by omega)), E18⟩
  ·
    refine v_skip ?_
    refine p_seqN ?_
    refine v_seq ?_
    refine v_seq ?_
    refine v_ops ?_
    refine s_pure r5 (fun _ q => q) ?_
    refine s_pure (.int .i64 (g4.length : Int)) (fun _ q => s_r5.lenVC q) ?_
    refine s_pure (.bool (decide ((g4.length : Int) > 0))) (fun _ q => q) ?_
    refine s_pure (.bool (decide ((g4.length : Int) > 0))) (fun _ q => q) ?_
    refine s_splitT rfl (fun c40 => ?_) (fun c40 => ?_)
    ·
      refine s_run rfl ?_
      refine s_pure (.pointer (some ⟨p_c, 0, none⟩)) (fun _ q => q) ?_
      refine s_run rfl ?_
      refine s_call [.pointer (some ⟨p_c, 0, none⟩), .int .i64 24] rfl (spec_l1Cur_one_ok p_c t_c (((m_c + 2) + (6 * g1)) + 2) lo_c 24 _ Ch9 (by first | omega | assumption | (simp; done) | (simp; omega))) ?_
      rintro _ h42 ⟨g41, rfl, Ch42, mh42⟩
      have zh42 := mh42.size
      have E43 := E10.new mh42 (fun b hb => .inl (by simp at hb; simp [hb]))
      refine s_pure (.bool g41) (fun _ q => q) ?_
      refine s_nil ?_
      refine p_seqN ?_
      refine v_cond rfl (fun c44 => ?_) (fun c44 => ?_)
      ·
        refine v_ops ?_
        refine s_pure r5 (fun _ q => q) ?_
        refine s_pure (.pointer (some ⟨p_c, 0, none⟩)) (fun _ q => q) ?_
        refine s_row (α := Int) [0, 63, 64, (-1)] (fun _ q => seg_i rfl (seg_i rfl (seg_i rfl (seg_i rfl (seg_nil q))))) rfl (by simp [maxLen]) (fun r45 h46 eh46 zh46 s_r45 fr_r45 => ?_)
        have E47 := E43.trans (Mod.of_ext eh46 _)
        have z48 := eh46.size
        have lt_r45 := s_r45.lt
        have f49 := (Ch42.ext eh46)
        refine s_call [.pointer (some ⟨p_c, 0, none⟩), r45] rfl (spec_l1Cur_among_ok p_c t_c ((((m_c + 2) + (6 * g1)) + 2) + 2) lo_c r45 [0, 63, 64, (-1)] _ f49 s_r45.toSl (fun b hb hc => by simp at hc; have := fr_r45 b hb; omega) (by first | omega | assumption | (simp; done) | (simp; omega)) (by first | omega | assumption | (simp; done) | (simp; omega))) ?_
        rintro _ h51 ⟨g50, rfl, qh51, Ch51, mh51⟩
        have zh51 := mh51.size
        have E52 := E47.new mh51 (fun b hb => .inl (by simp at hb; simp [hb]))
        simp only [List.mem_cons, List.not_mem_nil, or_false] at qh51
        have f53 := ((((s_r5.mod mh9 (fun b hb hc => by simp at hc; have := fr_r5 b hb; omega)).mod mh42 (fun b hb hc => by simp at hc; have := fr_r5 b hb; omega)).ext eh46).mod mh51 (fun b hb hc => by simp at hc; have := fr_r5 b hb; omega))
        have hk54 : 0 < g4.length := (by first | omega | (simp; omega))
        obtain ⟨x55, hx55⟩ : ∃ x, g4[0]? = some x := ⟨_, List.getElem?_eq_getElem hk54⟩
        refine s_pure (.pointer (some ⟨sblk r5, soff r5 + 0 * 1, none⟩)) (fun _ q => f53.idx (k := 0) rfl hk54 q) ?_
        refine s_stSl (k := 0) (j := 0) g50 (.int .i64 g50) [.int .i64 g50] f53 rfl rfl rfl rfl rfl hx55 (Nat.le_of_ble_eq_true rfl) rfl (all_cons rfl all_nil) (fun h56 mh56 sh56 s57 => ?_)
        have E58 := E52.new mh56 (fun b hb => .inr (by have := fr_r5 b hb; omega))
        refine s_nil ?_
        refine p_seqN ?_
        refine v_seq ?_
        refine v_ops ?_
        refine s_pure r5 (fun _ q => q) ?_
        refine s_pure r5 (fun _ q => q) ?_
        refine s_nil ?_
        refine p_seqN ?_
        refine v_ret ?_
        refine p_ret [r5] r5 (fun _ q => q) rfl ?_
        have f59 := (Ch51.mod mh56 (fun hc => by have := fr_r5 _ hc; omega) (fun b hb => by have := fr_r5 b hb; omega))
        exact ⟨(g4.set 0 g50), r5, rfl, s57, (fr_r5.mono (by omega)), (by first | omega | (simp; omega)), (f59.le (by omega)), E58⟩
      ·
        refine v_skip ?_
        refine p_seqN ?_
        refine v_seq ?_
        refine v_ops ?_
        refine s_pure r5 (fun _ q => q) ?_
        refine s_pure r5 (fun _ q => q) ?_
        refine s_nil ?_
        refine p_seqN ?_
        refine v_ret ?_
        refine p_ret [r5] r5 (fun _ q => q) rfl ?_
        have f60 := ((s_r5.mod mh9 (fun b hb hc => by simp at hc; have := fr_r5 b hb; omega)).mod mh42 (fun b hb hc => by simp at hc; have := fr_r5 b hb; omega))
        exact ⟨g4, r5, rfl, f60, (fr_r5.mono (by omega)), (by first | omega | (simp; omega)), (Ch42.le (by omega)), E43⟩
    ·
      refine s_pass rfl ?_
      refine s_pass rfl ?_
      refine s_pure (.bool false) (fun _ q => q) ?_
      refine s_nil ?_
      refine p_seqN ?_
      refine v_condN rfl (by simp) ?_
      refine v_skip ?_
      refine p_seqN ?_
      refine v_seq ?_
      refine v_ops ?_
      refine s_pure r5 (fun _ q => q) ?_
      refine s_pure r5 (fun _ q => q) ?_
      refine s_nil ?_
      refine p_seqN ?_
      refine v_ret ?_
      refine p_ret [r5] r5 (fun _ q => q) rfl ?_
      have f61 := (s_r5.mod mh9 (fun b hb hc => by simp at hc; have := fr_r5 b hb; omega))
      exact ⟨g4, r5, rfl, f61, (fr_r5.mono (by omega)), (by first | omega | (simp; omega)), (Ch9.le (by omega)), E10⟩

set_option maxRecDepth 10000 in
set_option maxHeartbeats 4000000 in
theorem spec_l1Cur_patterns_ok (p_c : Nat) (t_c : TypeId) (m_c : Int) (lo_c : Nat) (h : Heap) (C_c : Cur h p_c t_c m_c lo_c) (hm : m_c + 2000 ≤ 4000000000000000000) : Cn f_spec_l1Cur_patterns [.pointer (some ⟨p_c, 0, none⟩)] h fun v h' => ∃ g0 : List Int, ∃ r0 : Value, v = r0 ∧ SlO h' r0 g0 ∧ Fr h.size r0 ∧ (g0.length ≤ 201) ∧ Cur h' p_c t_c (m_c + 2000) lo_c ∧ Mod [p_c] h h' := by
  have lc_c := C_c.lt
  have ll_c := C_c.low
  have lm_c := C_c.top
  refine calls_of r_spec_l1Cur_patterns ?_
  refine v_seq ?_
  refine v_ops ?_
  refine s_pure (.slice none 0 0) (fun _ q => q) ?_
  refine s_nil ?_
  refine p_seqN ?_
  refine v_seq ?_
  refine v_ops ?_
  refine s_pure (.slice none 0 0) (fun _ q => q) ?_
  refine s_nil ?_
  refine p_seqN ?_
  refine v_seq ?_
  refine v_ops ?_
  refine s_pure (.pointer (some ⟨p_c, 0, none⟩)) (fun _ q => q) ?_
  refine s_call [.pointer (some ⟨p_c, 0, none⟩), .int .i64 20] rfl (spec_l1Cur_pick_ok p_c t_c m_c lo_c 20 _ C_c (by first | omega | assumption | (simp; done) | (simp; omega))) ?_
  rintro _ h2 ⟨g1, rfl, qh2, Ch2, mh2⟩
  have zh2 := mh2.size
  have E3 := (Mod.refl [p_c] h).new mh2 (fun b hb => .inl (by simp at hb; simp [hb]))
  refine s_pure (.int .i64 g1) (fun _ q => q) ?_
  refine s_nil ?_
  refine p_seqN ?_
  refine v_seq ?_
  refine v_seq ?_
  refine v_ops ?_
  refine s_pure (.pointer (some ⟨p_c, 0, none⟩)) (fun _ q => q) ?_
  refine s_call [.pointer (some ⟨p_c, 0, none⟩), .int .i64 24] rfl (spec_l1Cur_one_ok p_c t_c (m_c + 2) lo_c 24 _ Ch2 (by first | omega | assumption | (simp; done) | (simp; omega))) ?_
  rintro _ h5 ⟨g4, rfl, Ch5, mh5⟩
  have zh5 := mh5.size
  have E6 := E3.new mh5 (fun b hb => .inl (by simp at hb; simp [hb]))
  refine s_nil ?_
  refine p_seqN ?_
  refine v_cond rfl (fun c7 => ?_) (fun c7 => ?_)
  ·
    refine v_ops ?_
    refine s_pure (.pointer (some ⟨p_c, 0, none⟩)) (fun _ q => q) ?_
    refine s_call [.pointer (some ⟨p_c, 0, none⟩), .int .i64 2] rfl (spec_l1Cur_pick_ok p_c t_c ((m_c + 2) + 2) lo_c 2 _ Ch5 (by first | omega | assumption | (simp; done) | (simp; omega))) ?_
    rintro _ h9 ⟨g8, rfl, qh9, Ch9, mh9⟩
    have zh9 := mh9.size
    have E10 := E6.new mh9 (fun b hb => .inl (by simp at hb; simp [hb]))
    refine s_pure (.int .i64 (200 + g8)) (fun _ q => ArithVC.mk (by omega) q) ?_
    refine s_pure (.int .i64 (200 + g8)) (fun _ q => q) ?_
    refine s_nil ?_
    refine p_seqN ?_
    refine v_seq ?_
    refine v_ops ?_
    refine s_pure (.pointer (some ⟨p_c, 0, none⟩)) (fun _ q => q) ?_
    refine s_row (α := Int) [2, 4, 8] (fun _ q => seg_i rfl (seg_i rfl (seg_i rfl (seg_nil q)))) rfl (by simp [maxLen]) (fun r11 h12 eh12 zh12 s_r11 fr_r11 => ?_)
    have E13 := E10.trans (Mod.of_ext eh12 _)
    have z14 := eh12.size
    have lt_r11 := s_r11.lt
    have f15 := (Ch9.ext eh12)
    refine s_call [.pointer (some ⟨p_c, 0, none⟩), r11] rfl (spec_l1Cur_among_ok p_c t_c (((m_c + 2) + 2) + 2) lo_c r11 [2, 4, 8] _ f15 s_r11.toSl (fun b hb hc => by simp at hc; have := fr_r11 b hb; omega) (by first | omega | assumption | (simp; done) | (simp; omega)) (by first | omega | assumption | (simp; done) | (simp; omega))) ?_
    rintro _ h17 ⟨g16, rfl, qh17, Ch17, mh17⟩
    have zh17 := mh17.size
    have E18 := E13.new mh17 (fun b hb => .inl (by simp at hb; simp [hb]))
    simp only [List.mem_cons, List.not_mem_nil, or_false] at qh17
    refine s_pure (.int .i64 g16) (fun _ q => q) ?_
    refine s_nil ?_
    refine p_seqN ?_
    refine v_seq ?_
    refine v_block ?_
    refine v_loop2 (α := List Int) (β := Value) (fun ll o => [(0, .pointer (some ⟨p_c, 0, none⟩)), (3, o), (4, .int .i64 (200 + g8)), (5, .int .i64 g16)]) (fun ll o hh => Mod [p_c] h hh ∧ Cur hh p_c t_c (m_c + 10 + 8 * (ll.length : Int)) lo_c ∧ SlO hh o ll ∧ Fr h.size o ∧ p_c ∉ blks o ∧ ll.length ≤ (200 + g8).toNat) (fun ll o => (200 + g8).toNat - ll.length) [] (.slice none 0 0) ⟨rfl, rfl, rfl, rfl⟩ ⟨E18, (Ch17.le (by first | omega | (simp; done) | (simp; omega))), (sl_eq (SlX.nil (α := Int) true h17) (by simp)), (Fr.nil _), (by simp [blks, fpts]), (by simp)⟩ ?_
    rintro ll o R20 h19 ⟨Eh, bxc, s_o, fr_o, np_c_o, hl⟩
    have zEh := Eh.size
    have lbc := bxc.lt
    have lt_o := s_o.lt
    refine v_seq ?_
    refine v_seq ?_
    refine v_ops ?_
    refine s_pure o (fun _ q => q) ?_
    refine s_pure (.int .i64 (ll.length : Int)) (fun _ q => s_o.lenVC q) ?_
    refine s_pure (.int .i64 (200 + g8)) (fun _ q => q) ?_
    refine s_pure (.bool (decide ((ll.length : Int) < (200 + g8)))) (fun _ q => q) ?_
    refine s_nil ?_
    refine p_seqN ?_
    refine v_cond rfl (fun c21 => ?_) (fun c21 => ?_)
    ·
      refine v_skip ?_
      refine p_seqN ?_
      refine v_block ?_
      refine v_seq ?_
      refine v_ops ?_
      refine s_pure (.int .i64 0) (fun _ q => q) ?_
      refine s_nil ?_
      refine p_seqN ?_
      refine v_seq ?_
      refine v_seq ?_
      refine v_ops ?_
      refine s_pure (.pointer (some ⟨p_c, 0, none⟩)) (fun _ q => q) ?_
      refine s_pure (.int .i64 g16) (fun _ q => q) ?_
      refine s_call [.pointer (some ⟨p_c, 0, none⟩), .int .i64 g16] rfl (spec_l1Cur_one_ok p_c t_c (m_c + 10 + 8 * (ll.length : Int)) lo_c g16 _ bxc (by first | omega | assumption | (simp; done) | (simp; omega))) ?_
      rintro _ h23 ⟨g22, rfl, Ch23, mh23⟩
      have zh23 := mh23.size
      have E24 := Eh.new mh23 (fun b hb => .inl (by simp at hb; simp [hb]))
      refine s_nil ?_
      refine p_seqN ?_
      refine v_cond rfl (fun c25 => ?_) (fun c25 => ?_)
      ·
        refine v_ops ?_
        refine s_pure (.pointer (some ⟨p_c, 0, none⟩)) (fun _ q => q) ?_
        refine s_pure (.pointer (some ⟨p_c, 0, none⟩)) (fun _ q => q) ?_
        refine s_call [.pointer (some ⟨p_c, 0, none⟩), .int .i64 64] rfl (spec_l1Cur_pick_ok p_c t_c ((m_c + 10 + 8 * (ll.length : Int)) + 2) lo_c 64 _ Ch23 (by first | omega | assumption | (simp; done) | (simp; omega))) ?_
        rintro _ h27 ⟨g26, rfl, qh27, Ch27, mh27⟩
        have zh27 := mh27.size
        have E28 := E24.new mh27 (fun b hb => .inl (by simp at hb; simp [hb]))
        refine s_row (α := Int) [1, 2, 4, 8, 32, 3, g26] (fun _ q => seg_i rfl (seg_i rfl (seg_i rfl (seg_i rfl (seg_i rfl (seg_i rfl (seg_i rfl (seg_nil q)))))))) rfl (by simp [maxLen]) (fun r29 h30 eh30 zh30 s_r29 fr_r29 => ?_)
        have E31 := E28.trans (Mod.of_ext eh30 _)
        have z32 := eh30.size
        have lt_r29 := s_r29.lt
        have f33 := (Ch27.ext eh30)
        refine s_call [.pointer (some ⟨p_c, 0, none⟩), r29] rfl (spec_l1Cur_among_ok p_c t_c (((m_c + 10 + 8 * (ll.length : Int)) + 2) + 2) lo_c r29 [1, 2, 4, 8, 32, 3, g26] _ f33 s_r29.toSl (fun b hb hc => by simp at hc; have := fr_r29 b hb; omega) (by first | omega | assumption | (simp; done) | (simp; omega)) (by first | omega | assumption | (simp; done) | (simp; omega))) ?_
        rintro _ h35 ⟨g34, rfl, qh35, Ch35, mh35⟩
        have zh35 := mh35.size
        have E36 := E31.new mh35 (fun b hb => .inl (by simp at hb; simp [hb]))
        simp only [List.mem_cons, List.not_mem_nil, or_false] at qh35
        refine s_pure (.int .i64 g34) (fun _ q => q) ?_
        refine s_nil ?_
        refine p_seqN ?_
        refine v_seq ?_
        refine v_seq ?_
        refine v_ops ?_
        refine s_pure o (fun _ q => q) ?_
        refine s_pure (.int .i64 (ll.length : Int)) (fun _ q => s_o.lenVC q) ?_
        refine s_pure (.int .i64 (ll.length : Int)) (fun _ q => q) ?_
        refine s_nil ?_
        refine p_seqN ?_
        refine v_seq ?_
        refine v_ops ?_
        refine s_pure (.int .i64 (ll.length : Int)) (fun _ q => q) ?_
        refine s_pure (.bool (decide ((ll.length : Int) > 0))) (fun _ q => q) ?_
        refine s_pure (.bool (decide ((ll.length : Int) > 0))) (fun _ q => q) ?_
        refine s_splitT rfl (fun c37 => ?_) (fun c37 => ?_)
        ·
          refine s_run rfl ?_
          refine s_pure (.pointer (some ⟨p_c, 0, none⟩)) (fun _ q => q) ?_
          refine s_run rfl ?_
          refine s_call [.pointer (some ⟨p_c, 0, none⟩), .int .i64 6] rfl (spec_l1Cur_one_ok p_c t_c ((((m_c + 10 + 8 * (ll.length : Int)) + 2) + 2) + 2) lo_c 6 _ Ch35 (by first | omega | assumption | (simp; done) | (simp; omega))) ?_
          rintro _ h39 ⟨g38, rfl, Ch39, mh39⟩
          have zh39 := mh39.size
          have E40 := E36.new mh39 (fun b hb => .inl (by simp at hb; simp [hb]))
          refine s_pure (.bool g38) (fun _ q => q) ?_
          refine s_nil ?_
          refine p_seqN ?_
          refine v_cond rfl (fun c41 => ?_) (fun c41 => ?_)
          ·
            refine v_ops ?_
            refine s_pure o (fun _ q => q) ?_
            refine s_pure (.int .i64 (ll.length : Int)) (fun _ q => q) ?_
            refine s_pure (.int .i64 ((ll.length : Int) - 1)) (fun _ q => ArithVC.mk (by omega) q) ?_
            have f42 := (((((s_o.mod mh23 (fun b hb hc => np_c_o (by simp at hc; rw [← hc]; exact hb))).mod mh27 (fun b hb hc => np_c_o (by simp at hc; rw [← hc]; exact hb))).ext eh30).mod mh35 (fun b hb hc => np_c_o (by simp at hc; rw [← hc]; exact hb))).mod mh39 (fun b hb hc => np_c_o (by simp at hc; rw [← hc]; exact hb)))
            have hk43 : (((ll.length : Int) - 1)).toNat < ll.length := (by first | omega | (simp; omega))
            obtain ⟨x44, hx44⟩ : ∃ x, ll[(((ll.length : Int) - 1)).toNat]? = some x := ⟨_, List.getElem?_eq_getElem hk43⟩
            refine s_pure (.pointer (some ⟨sblk o, soff o + ((((ll.length : Int) - 1)).toNat) * 1, none⟩)) (fun _ q => f42.idx (k := (((ll.length : Int) - 1)).toNat) (by omega) hk43 q) ?_
            refine s_load (.int .i64 x44) (fun _ q => f42.load1 hx44 rfl q) ?_
            refine s_pure (.int .i64 x44) (fun _ q => q) ?_
            refine s_nil ?_
            refine p_seqN ?_
            refine v_ops ?_
            refine s_pure o (fun _ q => q) ?_
            refine s_pure (.int .i64 x44) (fun _ q => q) ?_
            refine s_row (α := Int) [x44] (fun _ q => seg_i rfl (seg_nil q)) rfl (by simp [maxLen]) (fun r45 h46 eh46 zh46 s_r45 fr_r45 => ?_)
            have E47 := E40.trans (Mod.of_ext eh46 _)
            have z48 := eh46.size
            have lt_r45 := s_r45.lt
            have f49 := (f42.ext eh46)
            refine s_app f49 s_r45 rfl rfl rfl (by simp [maxLen]; omega) (by simp; omega) (fun r50 h51 mh51 zh51 s_r50 ab_r50 => ?_)
            have E52 := E47.new mh51 (fun b hb => .inr (by have := fr_o b hb; omega))
            have fr_r50 := fr_o.app ab_r50 (by omega)
            have np53 : p_c ∉ blks r50 := fun hc => (ab_r50 _ hc).elim np_c_o (fun hc => by omega)
            have np54 : ∀ b ∈ blks r29, b ∉ blks r50 := fun b hb hc => (ab_r50 _ hc).elim (((fun b hb hc => by have := fr_r29 b hb; have := lt_o b hc; omega) : ∀ b ∈ blks r29, b ∉ blks o) b hb) (fun hc => by have := lt_r29 b hb; omega)
            have np55 : ∀ b ∈ blks r45, b ∉ blks r50 := fun b hb hc => (ab_r50 _ hc).elim (((fun b hb hc => by have := fr_r45 b hb; have := lt_o b hc; omega) : ∀ b ∈ blks r45, b ∉ blks o) b hb) (fun hc => by have := lt_r45 b hb; omega)
            have lt_r50 := s_r50.lt
            refine s_pure r50 (fun _ q => q) ?_
            refine s_nil ?_
            refine p_blkN ?_
            have f56 := ((Ch39.ext eh46).mod mh51 np_c_o (fun b hb => by have := fr_o b hb; omega))
            exact p_lpN ⟨(ll ++ [x44]), r50, ⟨rfl, rfl, rfl, rfl⟩, ⟨E52, (f56.le (by simp; omega)), (sl_eq s_r50 (by simp)), (fr_r50.mono (by omega)), np53, (by simp; omega)⟩, by simp; omega⟩
          ·
            refine v_skip ?_
            refine p_seqN ?_
            refine v_ops ?_
            refine s_pure o (fun _ q => q) ?_
            refine s_pure (.int .i64 g34) (fun _ q => q) ?_
            refine s_row (α := Int) [g34] (fun _ q => seg_i rfl (seg_nil q)) rfl (by simp [maxLen]) (fun r57 h58 eh58 zh58 s_r57 fr_r57 => ?_)
            have E59 := E40.trans (Mod.of_ext eh58 _)
            have z60 := eh58.size
            have lt_r57 := s_r57.lt
            have f61 := ((((((s_o.mod mh23 (fun b hb hc => np_c_o (by simp at hc; rw [← hc]; exact hb))).mod mh27 (fun b hb hc => np_c_o (by simp at hc; rw [← hc]; exact hb))).ext eh30).mod mh35 (fun b hb hc => np_c_o (by simp at hc; rw [← hc]; exact hb))).mod mh39 (fun b hb hc => np_c_o (by simp at hc; rw [← hc]; exact hb))).ext eh58)
            refine s_app f61 s_r57 rfl rfl rfl (by simp [maxLen]; omega) (by simp; omega) (fun r62 h63 mh63 zh63 s_r62 ab_r62 => ?_)
            have E64 := E59.new mh63 (fun b hb => .inr (by have := fr_o b hb; omega))
            have fr_r62 := fr_o.app ab_r62 (by omega)
            have np65 : p_c ∉ blks r62 := fun hc => (ab_r62 _ hc).elim np_c_o (fun hc => by omega)
            have np66 : ∀ b ∈ blks r29, b ∉ blks r62 := fun b hb hc => (ab_r62 _ hc).elim (((fun b hb hc => by have := fr_r29 b hb; have := lt_o b hc; omega) : ∀ b ∈ blks r29, b ∉ blks o) b hb) (fun hc => by have := lt_r29 b hb; omega)
            have np67 : ∀ b ∈ blks r57, b ∉ blks r62 := fun b hb hc => (ab_r62 _ hc).elim (((fun b hb hc => by have := fr_r57 b hb; have := lt_o b hc; omega) : ∀ b ∈ blks r57, b ∉ blks o) b hb) (fun hc => by have := lt_r57 b hb; omega)
            have lt_r62 := s_r62.lt
            refine s_pure r62 (fun _ q => q) ?_
            refine s_nil ?_
            refine p_blkN ?_
            have f68 := ((Ch39.ext eh58).mod mh63 np_c_o (fun b hb => by have := fr_o b hb; omega))
            exact p_lpN ⟨(ll ++ [g34]), r62, ⟨rfl, rfl, rfl, rfl⟩, ⟨E64, (f68.le (by simp; omega)), (sl_eq s_r62 (by simp)), (fr_r62.mono (by omega)), np65, (by simp; omega)⟩, by simp; omega⟩
        ·
          refine s_pass rfl ?_
          refine s_pass rfl ?_
          refine s_pure (.bool false) (fun _ q => q) ?_
          refine s_nil ?_
          refine p_seqN ?_
          refine v_condN rfl (by simp) ?_
          refine v_skip ?_
          refine p_seqN ?_
          refine v_ops ?_
          refine s_pure o (fun _ q => q) ?_
          refine s_pure (.int .i64 g34) (fun _ q => q) ?_
          refine s_row (α := Int) [g34] (fun _ q => seg_i rfl (seg_nil q)) rfl (by simp [maxLen]) (fun r69 h70 eh70 zh70 s_r69 fr_r69 => ?_)
          have E71 := E36.trans (Mod.of_ext eh70 _)
          have z72 := eh70.size
          have lt_r69 := s_r69.lt
          have f73 := (((((s_o.mod mh23 (fun b hb hc => np_c_o (by simp at hc; rw [← hc]; exact hb))).mod mh27 (fun b hb hc => np_c_o (by simp at hc; rw [← hc]; exact hb))).ext eh30).mod mh35 (fun b hb hc => np_c_o (by simp at hc; rw [← hc]; exact hb))).ext eh70)
          refine s_app f73 s_r69 rfl rfl rfl (by simp [maxLen]; omega) (by simp; omega) (fun r74 h75 mh75 zh75 s_r74 ab_r74 => ?_)
          have E76 := E71.new mh75 (fun b hb => .inr (by have := fr_o b hb; omega))
          have fr_r74 := fr_o.app ab_r74 (by omega)
          have np77 : p_c ∉ blks r74 := fun hc => (ab_r74 _ hc).elim np_c_o (fun hc => by omega)
          have np78 : ∀ b ∈ blks r29, b ∉ blks r74 := fun b hb hc => (ab_r74 _ hc).elim (((fun b hb hc => by have := fr_r29 b hb; have := lt_o b hc; omega) : ∀ b ∈ blks r29, b ∉ blks o) b hb) (fun hc => by have := lt_r29 b hb; omega)
          have np79 : ∀ b ∈ blks r69, b ∉ blks r74 := fun b hb hc => (ab_r74 _ hc).elim (((fun b hb hc => by have := fr_r69 b hb; have := lt_o b hc; omega) : ∀ b ∈ blks r69, b ∉ blks o) b hb) (fun hc => by have := lt_r69 b hb; omega)
          have lt_r74 := s_r74.lt
          refine s_pure r74 (fun _ q => q) ?_
          refine s_nil ?_
          refine p_blkN ?_
          have f80 := ((Ch35.ext eh70).mod mh75 np_c_o (fun b hb => by have := fr_o b hb; omega))
          exact p_lpN ⟨(ll ++ [g34]), r74, ⟨rfl, rfl, rfl, rfl⟩, ⟨E76, (f80.le (by simp; omega)), (sl_eq s_r74 (by simp)), (fr_r74.mono (by omega)), np77, (by simp; omega)⟩, by simp; omega⟩
      ·
        refine v_skip ?_
        refine p_seqN ?_
        refine v_seq ?_
        refine v_seq ?_
        refine v_ops ?_
        refine s_pure o (fun _ q => q) ?_
        refine s_pure (.int .i64 (ll.length : Int)) (fun _ q => s_o.lenVC q) ?_
        refine s_pure (.int .i64 (ll.length : Int)) (fun _ q => q) ?_
        refine s_nil ?_
        refine p_seqN ?_
        refine v_seq ?_
        refine v_ops ?_
        refine s_pure (.int .i64 (ll.length : Int)) (fun _ q => q) ?_
        refine s_pure (.bool (decide ((ll.length : Int) > 0))) (fun _ q => q) ?_
        refine s_pure (.bool (decide ((ll.length : Int) > 0))) (fun _ q => q) ?_
        refine s_splitT rfl (fun c81 => ?_) (fun c81 => ?_)
        ·
          refine s_run rfl ?_
          refine s_pure (.pointer (some ⟨p_c, 0, none⟩)) (fun _ q => q) ?_
          refine s_run rfl ?_
          refine s_call [.pointer (some ⟨p_c, 0, none⟩), .int .i64 6] rfl (spec_l1Cur_one_ok p_c t_c ((m_c + 10 + 8 * (ll.length : Int)) + 2) lo_c 6 _ Ch23 (by first | omega | assumption | (simp; done) | (simp; omega))) ?_
          rintro _ h83 ⟨g82, rfl, Ch83, mh83⟩
          have zh83 := mh83.size
          have E84 := E24.new mh83 (fun b hb => .inl (by simp at hb; simp [hb]))
          refine s_pure (.bool g82) (fun _ q => q) ?_
          refine s_nil ?_
          refine p_seqN ?_
          refine v_cond rfl (fun c85 => ?_) (fun c85 => ?_)
          ·
            refine v_ops ?_
            refine s_pure o (fun _ q => q) ?_
            refine s_pure (.int .i64 (ll.length : Int)) (fun _ q => q) ?_
            refine s_pure (.int .i64 ((ll.length : Int) - 1)) (fun _ q => ArithVC.mk (by omega) q) ?_
            have f86 := ((s_o.mod mh23 (fun b hb hc => np_c_o (by simp at hc; rw [← hc]; exact hb))).mod mh83 (fun b hb hc => np_c_o (by simp at hc; rw [← hc]; exact hb)))
            have hk87 : (((ll.length : Int) - 1)).toNat < ll.length := (by first | omega | (simp; omega))
            obtain ⟨x88, hx88⟩ : ∃ x, ll[(((ll.length : Int) - 1)).toNat]? = some x := ⟨_, List.getElem?_eq_getElem hk87⟩
            refine s_pure (.pointer (some ⟨sblk o, soff o + ((((ll.length : Int) - 1)).toNat) * 1, none⟩)) (fun _ q => f86.idx (k := (((ll.length : Int) - 1)).toNat) (by omega) hk87 q) ?_
            refine s_load (.int .i64 x88) (fun _ q => f86.load1 hx88 rfl q) ?_
            refine s_pure (.int .i64 x88) (fun _ q => q) ?_
            refine s_nil ?_
            refine p_seqN ?_
            refine v_ops ?_
            refine s_pure o (fun _ q => q) ?_
            refine s_pure (.int .i64 x88) (fun _ q => q) ?_
            refine s_row (α := Int) [x88] (fun _ q => seg_i rfl (seg_nil q)) rfl (by simp [maxLen]) (fun r89 h90 eh90 zh90 s_r89 fr_r89 => ?_)
            have E91 := E84.trans (Mod.of_ext eh90 _)
            have z92 := eh90.size
            have lt_r89 := s_r89.lt
            have f93 := (f86.ext eh90)
            refine s_app f93 s_r89 rfl rfl rfl (by simp [maxLen]; omega) (by simp; omega) (fun r94 h95 mh95 zh95 s_r94 ab_r94 => ?_)
            have E96 := E91.new mh95 (fun b hb => .inr (by have := fr_o b hb; omega))
            have fr_r94 := fr_o.app ab_r94 (by omega)
            have np97 : p_c ∉ blks r94 := fun hc => (ab_r94 _ hc).elim np_c_o (fun hc => by omega)
            have np98 : ∀ b ∈ blks r89, b ∉ blks r94 := fun b hb hc => (ab_r94 _ hc).elim (((fun b hb hc => by have := fr_r89 b hb; have := lt_o b hc; omega) : ∀ b ∈ blks r89, b ∉ blks o) b hb) (fun hc => by have := lt_r89 b hb; omega)
            have lt_r94 := s_r94.lt
            refine s_pure r94 (fun _ q => q) ?_
            refine s_nil ?_
            refine p_blkN ?_
            have f99 := ((Ch83.ext eh90).mod mh95 np_c_o (fun b hb => by have := fr_o b hb; omega))
            exact p_lpN ⟨(ll ++ [x88]), r94, ⟨rfl, rfl, rfl, rfl⟩, ⟨E96, (f99.le (by simp; omega)), (sl_eq s_r94 (by simp)), (fr_r94.mono (by omega)), np97, (by simp; omega)⟩, by simp; omega⟩
          ·
            refine v_skip ?_
            refine p_seqN ?_
            refine v_ops ?_
            refine s_pure o (fun _ q => q) ?_
            refine s_pure (.int .i64 0) (fun _ q => q) ?_
            refine s_row (α := Int) [0] (fun _ q => seg_i rfl (seg_nil q)) rfl (by simp [maxLen]) (fun r100 h101 eh101 zh101 s_r100 fr_r100 => ?_)
            have E102 := E84.trans (Mod.of_ext eh101 _)
            have z103 := eh101.size
            have lt_r100 := s_r100.lt
            have f104 := (((s_o.mod mh23 (fun b hb hc => np_c_o (by simp at hc; rw [← hc]; exact hb))).mod mh83 (fun b hb hc => np_c_o (by simp at hc; rw [← hc]; exact hb))).ext eh101)
            refine s_app f104 s_r100 rfl rfl rfl (by simp [maxLen]; omega) (by simp; omega) (fun r105 h106 mh106 zh106 s_r105 ab_r105 => ?_)
            have E107 := E102.new mh106 (fun b hb => .inr (by have := fr_o b hb; omega))
            have fr_r105 := fr_o.app ab_r105 (by omega)
            have np108 : p_c ∉ blks r105 := fun hc => (ab_r105 _ hc).elim np_c_o (fun hc => by omega)
            have np109 : ∀ b ∈ blks r100, b ∉ blks r105 := fun b hb hc => (ab_r105 _ hc).elim (((fun b hb hc => by have := fr_r100 b hb; have := lt_o b hc; omega) : ∀ b ∈ blks r100, b ∉ blks o) b hb) (fun hc => by have := lt_r100 b hb; omega)
            have lt_r105 := s_r105.lt
            refine s_pure r105 (fun _ q => q) ?_
            refine s_nil ?_
            refine p_blkN ?_
            have f110 := ((Ch83.ext eh101).mod mh106 np_c_o (fun b hb => by have := fr_o b hb; omega))
            exact p_lpN ⟨(ll ++ [0]), r105, ⟨rfl, rfl, rfl, rfl⟩, ⟨E107, (f110.le (by simp; omega)), (sl_eq s_r105 (by simp)), (fr_r105.mono (by omega)), np108, (by simp; omega)⟩, by simp; omega⟩
        ·
          refine s_pass rfl ?_
          refine s_pass rfl ?_
          refine s_pure (.bool false) (fun _ q => q) ?_
          refine s_nil ?_
          refine p_seqN ?_
          refine v_condN rfl (by simp) ?_
          refine v_skip ?_
          refine p_seqN ?_
          refine v_ops ?_
          refine s_pure o (fun _ q => q) ?_
          refine s_pure (.int .i64 0) (fun _ q => q) ?_
          refine s_row (α := Int) [0] (fun _ q => seg_i rfl (seg_nil q)) rfl (by simp [maxLen]) (fun r111 h112 eh112 zh112 s_r111 fr_r111 => ?_)
          have E113 := E24.trans (Mod.of_ext eh112 _)
          have z114 := eh112.size
          have lt_r111 := s_r111.lt
          have f115 := ((s_o.mod mh23 (fun b hb hc => np_c_o (by simp at hc; rw [← hc]; exact hb))).ext eh112)
          refine s_app f115 s_r111 rfl rfl rfl (by simp [maxLen]; omega) (by simp; omega) (fun r116 h117 mh117 zh117 s_r116 ab_r116 => ?_)
          have E118 := E113.new mh117 (fun b hb => .inr (by have := fr_o b hb; omega))
          have fr_r116 := fr_o.app ab_r116 (by omega)
          have np119 : p_c ∉ blks r116 := fun hc => (ab_r116 _ hc).elim np_c_o (fun hc => by omega)
          have np120 : ∀ b ∈ blks r111, b ∉ blks r116 := fun b hb hc => (ab_r116 _ hc).elim (((fun b hb hc => by have := fr_r111 b hb; have := lt_o b hc; omega) : ∀ b ∈ blks r111, b ∉ blks o) b hb) (fun hc => by have := lt_r111 b hb; omega)
          have lt_r116 := s_r116.lt
          refine s_pure r116 (fun _ q => q) ?_
          refine s_nil ?_
          refine p_blkN ?_
          have f121 := ((Ch23.ext eh112).mod mh117 np_c_o (fun b hb => by have := fr_o b hb; omega))
          exact p_lpN ⟨(ll ++ [0]), r116, ⟨rfl, rfl, rfl, rfl⟩, ⟨E118, (f121.le (by simp; omega)), (sl_eq s_r116 (by simp)), (fr_r116.mono (by omega)), np119, (by simp; omega)⟩, by simp; omega⟩
    ·
      refine v_exit ?_
      refine p_seqX ?_
      refine p_lpX ?_
      refine p_blkX ?_
      refine p_seqN ?_
      refine v_seq ?_
      refine v_seq ?_
      refine v_ops ?_
      refine s_pure (.int .i64 (200 + g8)) (fun _ q => q) ?_
      refine s_pure (.bool (decide ((200 + g8) > 0))) (fun _ q => q) ?_
      refine s_pure (.bool (decide ((200 + g8) > 0))) (fun _ q => q) ?_
      refine s_splitT rfl (fun c122 => ?_) (fun c122 => ?_)
      ·
        refine s_run rfl ?_
        refine s_pure (.pointer (some ⟨p_c, 0, none⟩)) (fun _ q => q) ?_
        refine s_run rfl ?_
        refine s_call [.pointer (some ⟨p_c, 0, none⟩), .int .i64 24] rfl (spec_l1Cur_one_ok p_c t_c (m_c + 10 + 8 * (ll.length : Int)) lo_c 24 _ bxc (by first | omega | assumption | (simp; done) | (simp; omega))) ?_
        rintro _ h124 ⟨g123, rfl, Ch124, mh124⟩
        have zh124 := mh124.size
        have E125 := Eh.new mh124 (fun b hb => .inl (by simp at hb; simp [hb]))
        refine s_pure (.bool g123) (fun _ q => q) ?_
        refine s_nil ?_
        refine p_seqN ?_
        refine v_cond rfl (fun c126 => ?_) (fun c126 => ?_)
        ·
          refine v_ops ?_
          refine s_pure o (fun _ q => q) ?_
          refine s_pure (.pointer (some ⟨p_c, 0, none⟩)) (fun _ q => q) ?_
          refine s_pure (.int .i64 (200 + g8)) (fun _ q => q) ?_
          refine s_call [.pointer (some ⟨p_c, 0, none⟩), .int .i64 (200 + g8)] rfl (spec_l1Cur_pick_ok p_c t_c ((m_c + 10 + 8 * (ll.length : Int)) + 2) lo_c (200 + g8) _ Ch124 (by first | omega | assumption | (simp; done) | (simp; omega))) ?_
          rintro _ h128 ⟨g127, rfl, qh128, Ch128, mh128⟩
          have zh128 := mh128.size
          have E129 := E125.new mh128 (fun b hb => .inl (by simp at hb; simp [hb]))
          refine s_pure (.pointer (some ⟨p_c, 0, none⟩)) (fun _ q => q) ?_
          refine s_row (α := Int) [(-1), 64] (fun _ q => seg_i rfl (seg_i rfl (seg_nil q))) rfl (by simp [maxLen]) (fun r130 h131 eh131 zh131 s_r130 fr_r130 => ?_)
          have E132 := E129.trans (Mod.of_ext eh131 _)
          have z133 := eh131.size
          have lt_r130 := s_r130.lt
          have f134 := (Ch128.ext eh131)
          refine s_call [.pointer (some ⟨p_c, 0, none⟩), r130] rfl (spec_l1Cur_among_ok p_c t_c (((m_c + 10 + 8 * (ll.length : Int)) + 2) + 2) lo_c r130 [(-1), 64] _ f134 s_r130.toSl (fun b hb hc => by simp at hc; have := fr_r130 b hb; omega) (by first | omega | assumption | (simp; done) | (simp; omega)) (by first | omega | assumption | (simp; done) | (simp; omega))) ?_
          rintro _ h136 ⟨g135, rfl, qh136, Ch136, mh136⟩
          have zh136 := mh136.size
          have E137 := E132.new mh136 (fun b hb => .inl (by simp at hb; simp [hb]))
          simp only [List.mem_cons, List.not_mem_nil, or_false] at qh136
          have f138 := ((((s_o.mod mh124 (fun b hb hc => np_c_o (by simp at hc; rw [← hc]; exact hb))).mod mh128 (fun b hb hc => np_c_o (by simp at hc; rw [← hc]; exact hb))).ext eh131).mod mh136 (fun b hb hc => np_c_o (by simp at hc; rw [← hc]; exact hb)))
          have hk139 : (g127).toNat < ll.length := (by first | omega | (simp; omega))
          obtain ⟨x140, hx140⟩ : ∃ x, ll[(g127).toNat]? = some x := ⟨_, List.getElem?_eq_getElem hk139⟩
          refine s_pure (.pointer (some ⟨sblk o, soff o + ((g127).toNat) * 1, none⟩)) (fun _ q => f138.idx (k := (g127).toNat) (by omega) hk139 q) ?_
          refine s_stSl (k := (g127).toNat) (j := 0) g135 (.int .i64 g135) [.int .i64 g135] f138 rfl rfl rfl rfl rfl hx140 (Nat.le_of_ble_eq_true rfl) rfl (all_cons rfl all_nil) (fun h141 mh141 sh141 s142 => ?_)
          have E143 := E137.new mh141 (fun b hb => .inr (by have := fr_o b hb; omega))
          refine s_nil ?_
          refine p_seqN ?_
          refine v_seq ?_
          refine v_ops ?_
          refine s_pure o (fun _ q => q) ?_
          refine s_pure o (fun _ q => q) ?_
          refine s_nil ?_
          refine p_seqN ?_
          refine v_ret ?_
          refine p_ret [o] o (fun _ q => q) rfl ?_
          have f144 := (Ch136.mod mh141 np_c_o (fun b hb => by have := fr_o b hb; omega))
          exact ⟨(ll.set ((g127).toNat) g135), o, rfl, s142, (fr_o.mono (by omega)), (by first | omega | (simp; omega)), (f144.le (by omega)), E143⟩
        ·
          refine v_skip ?_
          refine p_seqN ?_
          refine v_seq ?_
          refine v_ops ?_
          refine s_pure o (fun _ q => q) ?_
          refine s_pure o (fun _ q => q) ?_
          refine s_nil ?_
          refine p_seqN ?_
          refine v_ret ?_
          refine p_ret [o] o (fun _ q => q) rfl ?_
          have f145 := (s_o.mod mh124 (fun b hb hc => np_c_o (by simp at hc; rw [← hc]; exact hb)))
          exact ⟨ll, o, rfl, f145, (fr_o.mono (by omega)), (by first | omega | (simp; omega)), (Ch124.le (by omega)), E125⟩
      ·
        refine s_pass rfl ?_
        refine s_pass rfl ?_
        refine s_pure (.bool false) (fun _ q => q) ?_
        refine s_nil ?_
        refine p_seqN ?_
        refine v_condN rfl (by simp) ?_
        refine v_skip ?_
        refine p_seqN ?_
        refine v_seq ?_
        refine v_ops ?_
        refine s_pure o (fun _ q => q) ?_
        refine s_pure o (fun _ q => q) ?_
        refine s_nil ?_
        refine p_seqN ?_
        refine v_ret ?_
        refine p_ret [o] o (fun _ q => q) rfl ?_
        exact ⟨ll, o, rfl, s_o, (fr_o.mono (by omega)), (by first | omega | (simp; omega)), (bxc.le (by omega)), Eh⟩
  ·
    refine v_skip ?_
    refine p_seqN ?_
    refine v_seq ?_
    refine v_ops ?_
    refine s_pure (.pointer (some ⟨p_c, 0, none⟩)) (fun _ q => q) ?_
    refine s_row (α := Int) [2, 4, 8] (fun _ q => seg_i rfl (seg_i rfl (seg_i rfl (seg_nil q)))) rfl (by simp [maxLen]) (fun r146 h147 eh147 zh147 s_r146 fr_r146 => ?_)
    have E148 := E6.trans (Mod.of_ext eh147 _)
    have z149 := eh147.size
    have lt_r146 := s_r146.lt
    have f150 := (Ch5.ext eh147)
    refine s_call [.pointer (some ⟨p_c, 0, none⟩), r146] rfl (spec_l1Cur_among_ok p_c t_c ((m_c + 2) + 2) lo_c r146 [2, 4, 8] _ f150 s_r146.toSl (fun b hb hc => by simp at hc; have := fr_r146 b hb; omega) (by first | omega | assumption | (simp; done) | (simp; omega)) (by first | omega | assumption | (simp; done) | (simp; omega))) ?_
    rintro _ h152 ⟨g151, rfl, qh152, Ch152, mh152⟩
    have zh152 := mh152.size
    have E153 := E148.new mh152 (fun b hb => .inl (by simp at hb; simp [hb]))
    simp only [List.mem_cons, List.not_mem_nil, or_false] at qh152
    refine s_pure (.int .i64 g151) (fun _ q => q) ?_
    refine s_nil ?_
    refine p_seqN ?_
    refine v_seq ?_
    refine v_block ?_
    refine v_loop2 (α := List Int) (β := Value) (fun ll o => [(0, .pointer (some ⟨p_c, 0, none⟩)), (3, o), (4, .int .i64 g1), (5, .int .i64 g151)]) (fun ll o hh => Mod [p_c] h hh ∧ Cur hh p_c t_c (m_c + 10 + 8 * (ll.length : Int)) lo_c ∧ SlO hh o ll ∧ Fr h.size o ∧ p_c ∉ blks o ∧ ll.length ≤ g1.toNat) (fun ll o => g1.toNat - ll.length) [] (.slice none 0 0) ⟨rfl, rfl, rfl, rfl⟩ ⟨E153, (Ch152.le (by first | omega | (simp; done) | (simp; omega))), (sl_eq (SlX.nil (α := Int) true h152) (by simp)), (Fr.nil _), (by simp [blks, fpts]), (by simp)⟩ ?_
    rintro ll o R155 h154 ⟨Eh, bxc, s_o, fr_o, np_c_o, hl⟩
    have zEh := Eh.size
    have lbc := bxc.lt
    have lt_o := s_o.lt
    refine v_seq ?_
    refine v_seq ?_
    refine v_ops ?_
    refine s_pure o (fun _ q => q) ?_
    refine s_pure (.int .i64 (ll.length : Int)) (fun _ q => s_o.lenVC q) ?_
    refine s_pure (.int .i64 g1) (fun _ q => q) ?_
    refine s_pure (.bool (decide ((ll.length : Int) < g1))) (fun _ q => q) ?_
    refine s_nil ?_
    refine p_seqN ?_
    refine v_cond rfl (fun c156 => ?_) (fun c156 => ?_)
    ·
      refine v_skip ?_
      refine p_seqN ?_
      refine v_block ?_
      refine v_seq ?_
      refine v_ops ?_
      refine s_pure (.int .i64 0) (fun _ q => q) ?_
      refine s_nil ?_
      refine p_seqN ?_
      refine v_seq ?_
      refine v_seq ?_
      refine v_ops ?_
      refine s_pure (.pointer (some ⟨p_c, 0, none⟩)) (fun _ q => q) ?_
      refine s_pure (.int .i64 g151) (fun _ q => q) ?_
      refine s_call [.pointer (some ⟨p_c, 0, none⟩), .int .i64 g151] rfl (spec_l1Cur_one_ok p_c t_c (m_c + 10 + 8 * (ll.length : Int)) lo_c g151 _ bxc (by first | omega | assumption | (simp; done) | (simp; omega))) ?_
      rintro _ h158 ⟨g157, rfl, Ch158, mh158⟩
      have zh158 := mh158.size
      have E159 := Eh.new mh158 (fun b hb => .inl (by simp at hb; simp [hb]))
      refine s_nil ?_
      refine p_seqN ?_
      refine v_cond rfl (fun c160 => ?_) (fun c160 => ?_)
      ·
        refine v_ops ?_
        refine s_pure (.pointer (some ⟨p_c, 0, none⟩)) (fun _ q => q) ?_
        refine s_pure (.pointer (some ⟨p_c, 0, none⟩)) (fun _ q => q) ?_
        refine s_call [.pointer (some ⟨p_c, 0, none⟩), .int .i64 64] rfl (spec_l1Cur_pick_ok p_c t_c ((m_c + 10 + 8 * (ll.length : Int)) + 2) lo_c 64 _ Ch158 (by first | omega | assumption | (simp; done) | (simp; omega))) ?_
        rintro _ h162 ⟨g161, rfl, qh162, Ch162, mh162⟩
        have zh162 := mh162.size
        have E163 := E159.new mh162 (fun b hb => .inl (by simp at hb; simp [hb]))
        refine s_row (α := Int) [1, 2, 4, 8, 32, 3, g161] (fun _ q => seg_i rfl (seg_i rfl (seg_i rfl (seg_i rfl (seg_i rfl (seg_i rfl (seg_i rfl (seg_nil q)))))))) rfl (by simp [maxLen]) (fun r164 h165 eh165 zh165 s_r164 fr_r164 => ?_)
        have E166 := E163.trans (Mod.of_ext eh165 _)
        have z167 := eh165.size
        have lt_r164 := s_r164.lt
        have f168 := (Ch162.ext eh165)
        refine s_call [.pointer (some ⟨p_c, 0, none⟩), r164] rfl (spec_l1Cur_among_ok p_c t_c (((m_c + 10 + 8 * (ll.length : Int)) + 2) + 2) lo_c r164 [1, 2, 4, 8, 32, 3, g161] _ f168 s_r164.toSl (fun b hb hc => by simp at hc; have := fr_r164 b hb; omega) (by first | omega | assumption | (simp; done) | (simp; omega)) (by first | omega | assumption | (simp; done) | (simp; omega))) ?_
        rintro _ h170 ⟨g169, rfl, qh170, Ch170, mh170⟩
        have zh170 := mh170.size
        have E171 := E166.new mh170 (fun b hb => .inl (by simp at hb; simp [hb]))
        simp only [List.mem_cons, List.not_mem_nil, or_false] at qh170
        refine s_pure (.int .i64 g169) (fun _ q => q) ?_
        refine s_nil ?_
        refine p_seqN ?_
        refine v_seq ?_
        refine v_seq ?_
        refine v_ops ?_
        refine s_pure o (fun _ q => q) ?_
        refine s_pure (.int .i64 (ll.length : Int)) (fun _ q => s_o.lenVC q) ?_
        refine s_pure (.int .i64 (ll.length : Int)) (fun _ q => q) ?_
        refine s_nil ?_
        refine p_seqN ?_
        refine v_seq ?_
        refine v_ops ?_
        refine s_pure (.int .i64 (ll.length : Int)) (fun _ q => q) ?_
        refine s_pure (.bool (decide ((ll.length : Int) > 0))) (fun _ q => q) ?_
        refine s_pure (.bool (decide ((ll.length : Int) > 0))) (fun _ q => q) ?_
        refine s_splitT rfl (fun c172 => ?_) (fun c172 => ?_)
        ·
          refine s_run rfl ?_
          refine s_pure (.pointer (some ⟨p_c, 0, none⟩)) (fun _ q => q) ?_
          refine s_run rfl ?_
          refine s_call [.pointer (some ⟨p_c, 0, none⟩), .int .i64 6] rfl (spec_l1Cur_one_ok p_c t_c ((((m_c + 10 + 8 * (ll.length : Int)) + 2) + 2) + 2) lo_c 6 _ Ch170 (by first | omega | assumption | (simp; done) | (simp; omega))) ?_
          rintro _ h174 ⟨g173, rfl, Ch174, mh174⟩
          have zh174 := mh174.size
          have E175 := E171.new mh174 (fun b hb => .inl (by simp at hb; simp [hb]))
          refine s_pure (.bool g173) (fun _ q => q) ?_
          refine s_nil ?_
          refine p_seqN ?_
          refine v_cond rfl (fun c176 => ?_) (fun c176 => ?_)
          ·
            refine v_ops ?_
            refine s_pure o (fun _ q => q) ?_
            refine s_pure (.int .i64 (ll.length : Int)) (fun _ q => q) ?_
            refine s_pure (.int .i64 ((ll.length : Int) - 1)) (fun _ q => ArithVC.mk (by omega) q) ?_
            have f177 := (((((s_o.mod mh158 (fun b hb hc => np_c_o (by simp at hc; rw [← hc]; exact hb))).mod mh162 (fun b hb hc => np_c_o (by simp at hc; rw [← hc]; exact hb))).ext eh165).mod mh170 (fun b hb hc => np_c_o (by simp at hc; rw [← hc]; exact hb))).mod mh174 (fun b hb hc => np_c_o (by simp at hc; rw [← hc]; exact hb)))
            have hk178 : (((ll.length : Int) - 1)).toNat < ll.length := (by first | omega | (simp; omega))
            obtain ⟨x179, hx179⟩ : ∃ x, ll[(((ll.length : Int) - 1)).toNat]? = some x := ⟨_, List.getElem?_eq_getElem hk178⟩
            refine s_pure (.pointer (some ⟨sblk o, soff o + ((((ll.length : Int) - 1)).toNat) * 1, none⟩)) (fun _ q => f177.idx (k := (((ll.length : Int) - 1)).toNat) (by omega) hk178 q) ?_
            refine s_load (.int .i64 x179) (fun _ q => f177.load1 hx179 rfl q) ?_
            refine s_pure (.int .i64 x179) (fun _ q => q) ?_
            refine s_nil ?_
            refine p_seqN ?_
            refine v_ops ?_
            refine s_pure o (fun _ q => q) ?_
            refine s_pure (.int .i64 x179) (fun _ q => q) ?_
            refine s_row (α := Int) [x179] (fun _ q => seg_i rfl (seg_nil q)) rfl (by simp [maxLen]) (fun r180 h181 eh181 zh181 s_r180 fr_r180 => ?_)
            have E182 := E175.trans (Mod.of_ext eh181 _)
            have z183 := eh181.size
            have lt_r180 := s_r180.lt
            have f184 := (f177.ext eh181)
            refine s_app f184 s_r180 rfl rfl rfl (by simp [maxLen]; omega) (by simp; omega) (fun r185 h186 mh186 zh186 s_r185 ab_r185 => ?_)
            have E187 := E182.new mh186 (fun b hb => .inr (by have := fr_o b hb; omega))
            have fr_r185 := fr_o.app ab_r185 (by omega)
            have np188 : p_c ∉ blks r185 := fun hc => (ab_r185 _ hc).elim np_c_o (fun hc => by omega)
            have np189 : ∀ b ∈ blks r164, b ∉ blks r185 := fun b hb hc => (ab_r185 _ hc).elim (((fun b hb hc => by have := fr_r164 b hb; have := lt_o b hc; omega) : ∀ b ∈ blks r164, b ∉ blks o) b hb) (fun hc => by have := lt_r164 b hb; omega)
            have np190 : ∀ b ∈ blks r180, b ∉ blks r185 := fun b hb hc => (ab_r185 _ hc).elim (((fun b hb hc => by have := fr_r180 b hb; have := lt_o b hc; omega) : ∀ b ∈ blks r180, b ∉ blks o) b hb) (fun hc => by have := lt_r180 b hb; omega)
            have lt_r185 := s_r185.lt
            refine s_pure r185 (fun _ q => q) ?_
            refine s_nil ?_
            refine p_blkN ?_
            have f191 := ((Ch174.ext eh181).mod mh186 np_c_o (fun b hb => by have := fr_o b hb; omega))
            exact p_lpN ⟨(ll ++ [x179]), r185, ⟨rfl, rfl, rfl, rfl⟩, ⟨E187, (f191.le (by simp; omega)), (sl_eq s_r185 (by simp)), (fr_r185.mono (by omega)), np188, (by simp; omega)⟩, by simp; omega⟩
          ·
            refine v_skip ?_
            refine p_seqN ?_
            refine v_ops ?_
            refine s_pure o (fun _ q => q) ?_
            refine s_pure (.int .i64 g169) (fun _ q => q) ?_
            refine s_row (α := Int) [g169] (fun _ q => seg_i rfl (seg_nil q)) rfl (by simp [maxLen]) (fun r192 h193 eh193 zh193 s_r192 fr_r192 => ?_)
            have E194 := E175.trans (Mod.of_ext eh193 _)
            have z195 := eh193.size
            have lt_r192 := s_r192.lt
            have f196 := ((((((s_o.mod mh158 (fun b hb hc => np_c_o (by simp at hc; rw [← hc]; exact hb))).mod mh162 (fun b hb hc => np_c_o (by simp at hc; rw [← hc]; exact hb))).ext eh165).mod mh170 (fun b hb hc => np_c_o (by simp at hc; rw [← hc]; exact hb))).mod mh174 (fun b hb hc => np_c_o (by simp at hc; rw [← hc]; exact hb))).ext eh193)
            refine s_app f196 s_r192 rfl rfl rfl (by simp [maxLen]; omega) (by simp; omega) (fun r197 h198 mh198 zh198 s_r197 ab_r197 => ?_)
            have E199 := E194.new mh198 (fun b hb => .inr (by have := fr_o b hb; omega))
            have fr_r197 := fr_o.app ab_r197 (by omega)
            have np200 : p_c ∉ blks r197 := fun hc => (ab_r197 _ hc).elim np_c_o (fun hc => by omega)
            have np201 : ∀ b ∈ blks r164, b ∉ blks r197 := fun b hb hc => (ab_r197 _ hc).elim (((fun b hb hc => by have := fr_r164 b hb; have := lt_o b hc; omega) : ∀ b ∈ blks r164, b ∉ blks o) b hb) (fun hc => by have := lt_r164 b hb; omega)
            have np202 : ∀ b ∈ blks r192, b ∉ blks r197 := fun b hb hc => (ab_r197 _ hc).elim (((fun b hb hc => by have := fr_r192 b hb; have := lt_o b hc; omega) : ∀ b ∈ blks r192, b ∉ blks o) b hb) (fun hc => by have := lt_r192 b hb; omega)
            have lt_r197 := s_r197.lt
            refine s_pure r197 (fun _ q => q) ?_
            refine s_nil ?_
            refine p_blkN ?_
            have f203 := ((Ch174.ext eh193).mod mh198 np_c_o (fun b hb => by have := fr_o b hb; omega))
            exact p_lpN ⟨(ll ++ [g169]), r197, ⟨rfl, rfl, rfl, rfl⟩, ⟨E199, (f203.le (by simp; omega)), (sl_eq s_r197 (by simp)), (fr_r197.mono (by omega)), np200, (by simp; omega)⟩, by simp; omega⟩
        ·
          refine s_pass rfl ?_
          refine s_pass rfl ?_
          refine s_pure (.bool false) (fun _ q => q) ?_
          refine s_nil ?_
          refine p_seqN ?_
          refine v_condN rfl (by simp) ?_
          refine v_skip ?_
          refine p_seqN ?_
          refine v_ops ?_
          refine s_pure o (fun _ q => q) ?_
          refine s_pure (.int .i64 g169) (fun _ q => q) ?_
          refine s_row (α := Int) [g169] (fun _ q => seg_i rfl (seg_nil q)) rfl (by simp [maxLen]) (fun r204 h205 eh205 zh205 s_r204 fr_r204 => ?_)
          have E206 := E171.trans (Mod.of_ext eh205 _)
          have z207 := eh205.size
          have lt_r204 := s_r204.lt
          have f208 := (((((s_o.mod mh158 (fun b hb hc => np_c_o (by simp at hc; rw [← hc]; exact hb))).mod mh162 (fun b hb hc => np_c_o (by simp at hc; rw [← hc]; exact hb))).ext eh165).mod mh170 (fun b hb hc => np_c_o (by simp at hc; rw [← hc]; exact hb))).ext eh205)
          refine s_app f208 s_r204 rfl rfl rfl (by simp [maxLen]; omega) (by simp; omega) (fun r209 h210 mh210 zh210 s_r209 ab_r209 => ?_)
          have E211 := E206.new mh210 (fun b hb => .inr (by have := fr_o b hb; omega))
          have fr_r209 := fr_o.app ab_r209 (by omega)
          have np212 : p_c ∉ blks r209 := fun hc => (ab_r209 _ hc).elim np_c_o (fun hc => by omega)
          have np213 : ∀ b ∈ blks r164, b ∉ blks r209 := fun b hb hc => (ab_r209 _ hc).elim (((fun b hb hc => by have := fr_r164 b hb; have := lt_o b hc; omega) : ∀ b ∈ blks r164, b ∉ blks o) b hb) (fun hc => by have := lt_r164 b hb; omega)
          have np214 : ∀ b ∈ blks r204, b ∉ blks r209 := fun b hb hc => (ab_r209 _ hc).elim (((fun b hb hc => by have := fr_r204 b hb; have := lt_o b hc; omega) : ∀ b ∈ blks r204, b ∉ blks o) b hb) (fun hc => by have := lt_r204 b hb; omega)
          have lt_r209 := s_r209.lt
          refine s_pure r209 (fun _ q => q) ?_
          refine s_nil ?_
          refine p_blkN ?_
          have f215 := ((Ch170.ext eh205).mod mh210 np_c_o (fun b hb => by have := fr_o b hb; omega))
          exact p_lpN ⟨(ll ++ [g169]), r209, ⟨rfl, rfl, rfl, rfl⟩, ⟨E211, (f215.le (by simp; omega)), (sl_eq s_r209 (by simp)), (fr_r209.mono (by omega)), np212, (by simp; omega)⟩, by simp; omega⟩
      ·
        refine v_skip ?_
        refine p_seqN ?_
        refine v_seq ?_
        refine v_seq ?_
        refine v_ops ?_
        refine s_pure o (fun _ q => q) ?_
        refine s_pure (.int .i64 (ll.length : Int)) (fun _ q => s_o.lenVC q) ?_
        refine s_pure (.int .i64 (ll.length : Int)) (fun _ q => q) ?_
        refine s_nil ?_
        refine p_seqN ?_
        refine v_seq ?_
        refine v_ops ?_
        refine s_pure (.int .i64 (ll.length : Int)) (fun _ q => q) ?_
        refine s_pure (.bool (decide ((ll.length : Int) > 0))) (fun _ q => q) ?_
        refine s_pure (.bool (decide ((ll.length : Int) > 0))) (fun _ q => q) ?_
        refine s_splitT rfl (fun c216 => ?_) (fun c216 => ?_)
        ·
          refine s_run rfl ?_
          refine s_pure (.pointer (some ⟨p_c, 0, none⟩)) (fun _ q => q) ?_
          refine s_run rfl ?_
          refine s_call [.pointer (some ⟨p_c, 0, none⟩), .int .i64 6] rfl (spec_l1Cur_one_ok p_c t_c ((m_c + 10 + 8 * (ll.length : Int)) + 2) lo_c 6 _ Ch158 (by first | omega | assumption | (simp; done) | (simp; omega))) ?_
          rintro _ h218 ⟨g217, rfl, Ch218, mh218⟩
          have zh218 := mh218.size
          have E219 := E159.new mh218 (fun b hb => .inl (by simp at hb; simp [hb]))
          refine s_pure (.bool g217) (fun _ q => q) ?_
          refine s_nil ?_
          refine p_seqN ?_
          refine v_cond rfl (fun c220 => ?_) (fun c220 => ?_)
          ·
            refine v_ops ?_
            refine s_pure o (fun _ q => q) ?_
            refine s_pure (.int .i64 (ll.length : Int)) (fun _ q => q) ?_
            refine s_pure (.int .i64 ((ll.length : Int) - 1)) (fun _ q => ArithVC.mk (by omega) q) ?_
            have f221 := ((s_o.mod mh158 (fun b hb hc => np_c_o (by simp at hc; rw [← hc]; exact hb))).mod mh218 (fun b hb hc => np_c_o (by simp at hc; rw [← hc]; exact hb)))
            have hk222 : (((ll.length : Int) - 1)).toNat < ll.length := (by first | omega | (simp; omega))
            obtain ⟨x223, hx223⟩ : ∃ x, ll[(((ll.length : Int) - 1)).toNat]? = some x := ⟨_, List.getElem?_eq_getElem hk222⟩
            refine s_pure (.pointer (some ⟨sblk o, soff o + ((((ll.length : Int) - 1)).toNat) * 1, none⟩)) (fun _ q => f221.idx (k := (((ll.length : Int) - 1)).toNat) (by omega) hk222 q) ?_
            refine s_load (.int .i64 x223) (fun _ q => f221.load1 hx223 rfl q) ?_
            refine s_pure (.int .i64 x223) (fun _ q => q) ?_
            refine s_nil ?_
            refine p_seqN ?_
            refine v_ops ?_
            refine s_pure o (fun _ q => q) ?_
            refine s_pure (.int .i64 x223) (fun _ q => q) ?_
            refine s_row (α := Int) [x223] (fun _ q => seg_i rfl (seg_nil q)) rfl (by simp [maxLen]) (fun r224 h225 eh225 zh225 s_r224 fr_r224 => ?_)
            have E226 := E219.trans (Mod.of_ext eh225 _)
            have z227 := eh225.size
            have lt_r224 := s_r224.lt
            have f228 := (f221.ext eh225)
            refine s_app f228 s_r224 rfl rfl rfl (by simp [maxLen]; omega) (by simp; omega) (fun r229 h230 mh230 zh230 s_r229 ab_r229 => ?_)
            have E231 := E226.new mh230 (fun b hb => .inr (by have := fr_o b hb; omega))
            have fr_r229 := fr_o.app ab_r229 (by omega)
            have np232 : p_c ∉ blks r229 := fun hc => (ab_r229 _ hc).elim np_c_o (fun hc => by omega)
            have np233 : ∀ b ∈ blks r224, b ∉ blks r229 := fun b hb hc => (ab_r229 _ hc).elim (((fun b hb hc => by have := fr_r224 b hb; have := lt_o b hc; omega) : ∀ b ∈ blks r224, b ∉ blks o) b hb) (fun hc => by have := lt_r224 b hb; omega)
            have lt_r229 := s_r229.lt
            refine s_pure r229 (fun _ q => q) ?_
            refine s_nil ?_
            refine p_blkN ?_
            have f234 := ((Ch218.ext eh225).mod mh230 np_c_o (fun b hb => by have := fr_o b hb; omega))
            exact p_lpN ⟨(ll ++ [x223]), r229, ⟨rfl, rfl, rfl, rfl⟩, ⟨E231, (f234.le (by simp; omega)), (sl_eq s_r229 (by simp)), (fr_r229.mono (by omega)), np232, (by simp; omega)⟩, by simp; omega⟩
          ·
            refine v_skip ?_
            refine p_seqN ?_
            refine v_ops ?_
            refine s_pure o (fun _ q => q) ?_
            refine s_pure (.int .i64 0) (fun _ q => q) ?_
            refine s_row (α := Int) [0] (fun _ q => seg_i rfl (seg_nil q)) rfl (by simp [maxLen]) (fun r235 h236 eh236 zh236 s_r235 fr_r235 => ?_)
            have E237 := E219.trans (Mod.of_ext eh236 _)
            have z238 := eh236.size
            have lt_r235 := s_r235.lt
            have f239 := (((s_o.mod mh158 (fun b hb hc => np_c_o (by simp at hc; rw [← hc]; exact hb))).mod mh218 (fun b hb hc => np_c_o (by simp at hc; rw [← hc]; exact hb))).ext eh236)
            refine s_app f239 s_r235 rfl rfl rfl (by simp [maxLen]; omega) (by simp; omega) (fun r240 h241 mh241 zh241 s_r240 ab_r240 => ?_)
            have E242 := E237.new mh241 (fun b hb => .inr (by have := fr_o b hb; omega))
            have fr_r240 := fr_o.app ab_r240 (by omega)
            have np243 : p_c ∉ blks r240 := fun hc => (ab_r240 _ hc).elim np_c_o (fun hc => by omega)
            have np244 : ∀ b ∈ blks r235, b ∉ blks r240 := fun b hb hc => (ab_r240 _ hc).elim (((fun b hb hc => by have := fr_r235 b hb; have := lt_o b hc; omega) : ∀ b ∈ blks r235, b ∉ blks o) b hb) (fun hc => by have := lt_r235 b hb; omega)
            have lt_r240 := s_r240.lt
            refine s_pure r240 (fun _ q => q) ?_
            refine s_nil ?_
            refine p_blkN ?_
            have f245 := ((Ch218.ext eh236).mod mh241 np_c_o (fun b hb => by have := fr_o b hb; omega))
            exact p_lpN ⟨(ll ++ [0]), r240, ⟨rfl, rfl, rfl, rfl⟩, ⟨E242, (f245.le (by simp; omega)), (sl_eq s_r240 (by simp)), (fr_r240.mono (by omega)), np243, (by simp; omega)⟩, by simp; omega⟩
        ·
          refine s_pass rfl ?_
          refine s_pass rfl ?_
          refine s_pure (.bool false) (fun _ q => q) ?_
          refine s_nil ?_
          refine p_seqN ?_
          refine v_condN rfl (by simp) ?_
          refine v_skip ?_
          refine p_seqN ?_
          refine v_ops ?_
          refine s_pure o (fun _ q => q) ?_
          refine s_pure (.int .i64 0) (fun _ q => q) ?_
          refine s_row (α := Int) [0] (fun _ q => seg_i rfl (seg_nil q)) rfl (by simp [maxLen]) (fun r246 h247 eh247 zh247 s_r246 fr_r246 => ?_)
          have E248 := E159.trans (Mod.of_ext eh247 _)
          have z249 := eh247.size
          have lt_r246 := s_r246.lt
          have f250 := ((s_o.mod mh158 (fun b hb hc => np_c_o (by simp at hc; rw [← hc]; exact hb))).ext eh247)
          refine s_app f250 s_r246 rfl rfl rfl (by simp [maxLen]; omega) (by simp; omega) (fun r251 h252 mh252 zh252 s_r251 ab_r251 => ?_)
          have E253 := E248.new mh252 (fun b hb => .inr (by have := fr_o b hb; omega))
          have fr_r251 := fr_o.app ab_r251 (by omega)
          have np254 : p_c ∉ blks r251 := fun hc => (ab_r251 _ hc).elim np_c_o (fun hc => by omega)
          have np255 : ∀ b ∈ blks r246, b ∉ blks r251 := fun b hb hc => (ab_r251 _ hc).elim (((fun b hb hc => by have := fr_r246 b hb; have := lt_o b hc; omega) : ∀ b ∈ blks r246, b ∉ blks o) b hb) (fun hc => by have := lt_r246 b hb; omega)
          have lt_r251 := s_r251.lt
          refine s_pure r251 (fun _ q => q) ?_
          refine s_nil ?_
          refine p_blkN ?_
          have f256 := ((Ch158.ext eh247).mod mh252 np_c_o (fun b hb => by have := fr_o b hb; omega))
          exact p_lpN ⟨(ll ++ [0]), r251, ⟨rfl, rfl, rfl, rfl⟩, ⟨E253, (f256.le (by simp; omega)), (sl_eq s_r251 (by simp)), (fr_r251.mono (by omega)), np254, (by simp; omega)⟩, by simp; omega⟩
    ·
      refine v_exit ?_
      refine p_seqX ?_
      refine p_lpX ?_
      refine p_blkX ?_
      refine p_seqN ?_
      refine v_seq ?_
      refine v_seq ?_
      refine v_ops ?_
      refine s_pure (.int .i64 g1) (fun _ q => q) ?_
      refine s_pure (.bool (decide (g1 > 0))) (fun _ q => q) ?_
      refine s_pure (.bool (decide (g1 > 0))) (fun _ q => q) ?_
      refine s_splitT rfl (fun c257 => ?_) (fun c257 => ?_)
      ·
        refine s_run rfl ?_
        refine s_pure (.pointer (some ⟨p_c, 0, none⟩)) (fun _ q => q) ?_
        refine s_run rfl ?_
        refine s_call [.pointer (some ⟨p_c, 0, none⟩), .int .i64 24] rfl (spec_l1Cur_one_ok p_c t_c (m_c + 10 + 8 * (ll.length : Int)) lo_c 24 _ bxc (by first | omega | assumption | (simp; done) | (simp; omega))) ?_
        rintro _ h259 ⟨g258, rfl, Ch259, mh259⟩
        have zh259 := mh259.size
        have E260 := Eh.new mh259 (fun b hb => .inl (by simp at hb; simp [hb]))
        refine s_pure (.bool g258) (fun _ q => q) ?_
        refine s_nil ?_
        refine p_seqN ?_
        refine v_cond rfl (fun c261 => ?_) (fun c261 => ?_)
        ·
          refine v_ops ?_
          refine s_pure o (fun _ q => q) ?_
          refine s_pure (.pointer (some ⟨p_c, 0, none⟩)) (fun _ q => q) ?_
          refine s_pure (.int .i64 g1) (fun _ q => q) ?_
          refine s_call [.pointer (some ⟨p_c, 0, none⟩), .int .i64 g1] rfl (spec_l1Cur_pick_ok p_c t_c ((m_c + 10 + 8 * (ll.length : Int)) + 2) lo_c g1 _ Ch259 (by first | omega | assumption | (simp; done) | (simp; omega))) ?_
          rintro _ h263 ⟨g262, rfl, qh263, Ch263, mh263⟩
          have zh263 := mh263.size
          have E264 := E260.new mh263 (fun b hb => .inl (by simp at hb; simp [hb]))
          refine s_pure (.pointer (some ⟨p_c, 0, none⟩)) (fun _ q => q) ?_
          refine s_row (α := Int) [(-1), 64] (fun _ q => seg_i rfl (seg_i rfl (seg_nil q))) rfl (by simp [maxLen]) (fun r265 h266 eh266 zh266 s_r265 fr_r265 => ?_)
          have E267 := E264.trans (Mod.of_ext eh266 _)
          have z268 := eh266.size
          have lt_r265 := s_r265.lt
          have f269 := (Ch263.ext eh266)
          refine s_call [.pointer (some ⟨p_c, 0, none⟩), r265] rfl (spec_l1Cur_among_ok p_c t_c (((m_c + 10 + 8 * (ll.length : Int)) + 2) + 2) lo_c r265 [(-1), 64] _ f269 s_r265.toSl (fun b hb hc => by simp at hc; have := fr_r265 b hb; omega) (by first | omega | assumption | (simp; done) | (simp; omega)) (by first | omega | assumption | (simp; done) | (simp; omega))) ?_
          rintro _ h271 ⟨g270, rfl, qh271, Ch271, mh271⟩
          have zh271 := mh271.size
          have E272 := E267.new mh271 (fun b hb => .inl (by simp at hb; simp [hb]))
          simp only [List.mem_cons, List.not_mem_nil, or_false] at qh271
          have f273 := ((((s_o.mod mh259 (fun b hb hc => np_c_o (by simp at hc; rw [← hc]; exact hb))).mod mh263 (fun b hb hc => np_c_o (by simp at hc; rw [← hc]; exact hb))).ext eh266).mod mh271 (fun b hb hc => np_c_o (by simp at hc; rw [← hc]; exact hb)))
          have hk274 : (g262).toNat < ll.length := (by first | omega | (simp; omega))
          obtain ⟨x275, hx275⟩ : ∃ x, ll[(g262).toNat]? = some x := ⟨_, List.getElem?_eq_getElem hk274⟩
          refine s_pure (.pointer (some ⟨sblk o, soff o + ((g262).toNat) * 1, none⟩)) (fun _ q => f273.idx (k := (g262).toNat) (by omega) hk274 q) ?_
          refine s_stSl (k := (g262).toNat) (j := 0) g270 (.int .i64 g270) [.int .i64 g270] f273 rfl rfl rfl rfl rfl hx275 (Nat.le_of_ble_eq_true rfl) rfl (all_cons rfl all_nil) (fun h276 mh276 sh276 s277 => ?_)
          have E278 := E272.new mh276 (fun b hb => .inr (by have := fr_o b hb; omega))
          refine s_nil ?_
          refine p_seqN ?_
          refine v_seq ?_
          refine v_ops ?_
          refine s_pure o (fun _ q => q) ?_
          refine s_pure o (fun _ q => q) ?_
          refine s_nil ?_
          refine p_seqN ?_
          refine v_ret ?_
          refine p_ret [o] o (fun _ q => q) rfl ?_
          have f279 := (Ch271.mod mh276 np_c_o (fun b hb => by have := fr_o b hb; omega))
          exact ⟨(ll.set ((g262).toNat) g270), o, rfl, s277, (fr_o.mono (by omega)), (by first | omega | (simp; omega)), (f279.le (by omega)), E278⟩
        ·
          refine v_skip ?_
          refine p_seqN ?_
          refine v_seq ?_
          refine v_ops ?_
          refine s_pure o (fun _ q => q) ?_
          refine s_pure o (fun _ q => q) ?_
          refine s_nil ?_
          refine p_seqN ?_
          refine v_ret ?_
          refine p_ret [o] o (fun _ q => q) rfl ?_
          have f280 := (s_o.mod mh259 (fun b hb hc => np_c_o (by simp at hc; rw [← hc]; exact hb)))
          exact ⟨ll, o, rfl, f280, (fr_o.mono (by omega)), (by first | omega | (simp; omega)), (Ch259.le (by omega)), E260⟩
      ·
        refine s_pass rfl ?_
        refine s_pass rfl ?_
        refine s_pure (.bool false) (fun _ q => q) ?_
        refine s_nil ?_
        refine p_seqN ?_
        refine v_condN rfl (by simp) ?_
        refine v_skip ?_
        refine p_seqN ?_
        refine v_seq ?_
        refine v_ops ?_
        refine s_pure o (fun _ q => q) ?_
        refine s_pure o (fun _ q => q) ?_
        refine s_nil ?_
        refine p_seqN ?_
        refine v_ret ?_
        refine p_ret [o] o (fun _ q => q) rfl ?_
        exact ⟨ll, o, rfl, s_o, (fr_o.mono (by omega)), (by first | omega | (simp; omega)), (bxc.le (by omega)), Eh⟩

theorem spec_DrawPassLine_ok (v_code : Value) (code : List By) (h : Heap) (s_code : Sl h v_code code) (hby : ∀ y ∈ code, 0 ≤ y.n ∧ y.n ≤ 255) (hsz : code.length ≤ 2000000) : Cn f_spec_DrawPassLine [v_code] h fun v h' => ∃ g0 : LineD, ∃ g1 : List Int, ∃ g2 : List Int, ∃ r0 : Value, ∃ r1 : Value, v = .tuple #[.agg #[.int .i64 g0.towers, .int .i64 g0.tries], r0, r1] ∧ SlO h' r0 g1 ∧ Fr h.size r0 ∧ SlO h' r1 g2 ∧ Fr h.size r1 ∧ ((0 ≤ g0.towers ∧ g0.towers ≤ 11 ∧ 0 ≤ g0.tries ∧ g0.tries ≤ 6) ∧ g1.length ≤ 21 ∧ g2.length ≤ 201) ∧ Ext h h' := by
  have lt_code := s_code.lt
  have l63_code := s_code.len63
  refine calls_of r_spec_DrawPassLine ?_
  refine v_seq ?_
  refine v_ops ?_
  refine s_new (fun h2 b1 hbb1 hzb1 eh2 bxb1 => ?_)
  have E3 := (Ext.refl h).trans eh2
  have z4 := eh2.size
  have lbb1 := bxb1.lt
  refine s_pure (.slice none 0 0) (fun _ q => q) ?_
  refine s_pure (.slice none 0 0) (fun _ q => q) ?_
  refine s_nil ?_
  refine p_seqN ?_
  refine v_seq ?_
  refine v_ops ?_
  refine s_pure v_code (fun _ q => q) ?_
  refine s_pure (.agg #[v_code, .int .i64 0, .int .u64 0]) (fun _ q => w_build (seg_sl s_code rfl (seg_nil q))) ?_
  refine s_box [v_code, .int .i64 0, .int .u64 0] rfl (fun h6 b5 hbb5 hzb5 eh6 bxb5 => ?_)
  have E7 := E3.trans eh6
  have z8 := eh6.size
  have lbb5 := bxb5.lt
  refine s_pure (.pointer (some ⟨b5, 0, none⟩)) (fun _ q => q) ?_
  refine s_nil ?_
  refine p_seqN ?_
  refine v_seq ?_
  refine v_ops ?_
  refine s_pure (.pointer (some ⟨b5, 0, none⟩)) (fun _ q => q) ?_
  have f9 := ((s_code.ext eh2).ext eh6)
  have C10 : Cur h6 b5 81 0 h.size := Cur.mk2 bxb5 f9 lt_code hby (by omega) (by omega)
  refine s_call [.pointer (some ⟨b5, 0, none⟩)] rfl (spec_l1Cur_line_ok b5 81 0 h.size _ C10 (by first | omega | assumption | (simp; done) | (simp; omega))) ?_
  rintro _ h12 ⟨g11, rfl, qh12, Ch12, mh12⟩
  have zh12 := mh12.size
  have E13 := E7.mod mh12 (fun b hb => by simp at hb; omega)
  refine s_pure (.pointer (some ⟨b5, 0, none⟩)) (fun _ q => q) ?_
  refine s_call [.pointer (some ⟨b5, 0, none⟩)] rfl (spec_l1Cur_passed_ok b5 81 (0 + 10) h.size _ Ch12 (by first | omega | assumption | (simp; done) | (simp; omega))) ?_
  rintro r15 h16 ⟨g14, _, rfl, s_r15, fr_r15, qh16, Ch16, mh16⟩
  have zh16 := mh16.size
  have E17 := E13.mod mh16 (fun b hb => by simp at hb; omega)
  have lt_r15 := s_r15.lt
  refine s_pure (.pointer (some ⟨b5, 0, none⟩)) (fun _ q => q) ?_
  refine s_call [.pointer (some ⟨b5, 0, none⟩)] rfl (spec_l1Cur_patterns_ok b5 81 ((0 + 10) + 1000) h.size _ Ch16 (by first | omega | assumption | (simp; done) | (simp; omega))) ?_
  rintro r19 h20 ⟨g18, _, rfl, s_r19, fr_r19, qh20, Ch20, mh20⟩
  have zh20 := mh20.size
  have E21 := E17.mod mh20 (fun b hb => by simp at hb; omega)
  have lt_r19 := s_r19.lt
  have f22 := ((((bxb1.ext eh6).mod mh12 (by simp; omega)).mod mh16 (by simp; omega)).mod mh20 (by simp; omega))
  refine s_stBx (.agg #[.int .i64 g11.towers, .int .i64 g11.tries]) [.int .i64 g11.towers, .int .i64 g11.tries] [.int .i64 g11.towers, .int .i64 g11.tries] f22 rfl rfl rfl rfl (by simp) (all_cons rfl (all_cons rfl all_nil)) rfl (fun h23 mh23 sh23 bxx24 => ?_)
  have E25 := E21.mod mh23 (fun b hb => by simp at hb; omega)
  refine s_pure r15 (fun _ q => q) ?_
  refine s_pure r19 (fun _ q => q) ?_
  refine s_nil ?_
  refine p_seqN ?_
  refine v_ret ?_
  refine p_ret [.agg #[.int .i64 g11.towers, .int .i64 g11.tries], r15, r19] (.tuple #[.agg #[.int .i64 g11.towers, .int .i64 g11.tries], r15, r19]) (fun _ q => (bxx24.loadA rfl q)) rfl ?_
  have f26 := ((s_r15.mod mh20 (fun b hb hc => by simp at hc; have := fr_r15 b hb; omega)).mod mh23 (fun b hb hc => by simp at hc; have := fr_r15 b hb; omega))
  have f27 := (s_r19.mod mh23 (fun b hb hc => by simp at hc; have := fr_r19 b hb; omega))
  exact ⟨⟨g11.towers, g11.tries⟩, g14, g18, r15, r19, rfl, f26, (fr_r15.mono (by omega)), f27, (fr_r19.mono (by omega)), (by (try simp only); exact ⟨by omega, by omega, by omega⟩), E25⟩

theorem spec_DrawStuckAt_ok (v_code : Value) (code : List By) (h : Heap) (s_code : Sl h v_code code) (hby : ∀ y ∈ code, 0 ≤ y.n ∧ y.n ≤ 255) (hsz : code.length ≤ 2000000) : Cn f_spec_DrawStuckAt [v_code] h fun v h' => ∃ g0 : LineD, ∃ g1 : List Int, ∃ g2 : List Int, ∃ r0 : Value, ∃ r1 : Value, v = .tuple #[.agg #[.int .i64 g0.towers, .int .i64 g0.tries], r0, r1] ∧ SlO h' r0 g1 ∧ Fr h.size r0 ∧ SlO h' r1 g2 ∧ Fr h.size r1 ∧ ((0 ≤ g0.towers ∧ g0.towers ≤ 11 ∧ 0 ≤ g0.tries ∧ g0.tries ≤ 6) ∧ g1.length ≤ 21 ∧ g2.length ≤ 201) ∧ Ext h h' := by
  have lt_code := s_code.lt
  have l63_code := s_code.len63
  refine calls_of r_spec_DrawStuckAt ?_
  refine v_seq ?_
  refine v_ops ?_
  refine s_new (fun h2 b1 hbb1 hzb1 eh2 bxb1 => ?_)
  have E3 := (Ext.refl h).trans eh2
  have z4 := eh2.size
  have lbb1 := bxb1.lt
  refine s_pure (.slice none 0 0) (fun _ q => q) ?_
  refine s_pure (.slice none 0 0) (fun _ q => q) ?_
  refine s_nil ?_
  refine p_seqN ?_
  refine v_seq ?_
  refine v_ops ?_
  refine s_pure v_code (fun _ q => q) ?_
  have f5 := (s_code.ext eh2)
  refine s_call [v_code] rfl (spec_DrawPassLine_ok v_code code _ f5 (by first | omega | assumption | (simp; done) | (simp; omega)) (by first | omega | assumption | (simp; done) | (simp; omega))) ?_
  rintro _ h11 ⟨g6, g7, g9, r8, r10, rfl, s_r8, fr_r8, s_r10, fr_r10, qh11, eh11⟩
  have E12 := E3.trans eh11
  have z13 := eh11.size
  have lt_r8 := s_r8.lt
  have lt_r10 := s_r10.lt
  refine s_pure (.agg #[.int .i64 g6.towers, .int .i64 g6.tries]) (fun _ q => q) ?_
  refine s_pure r8 (fun _ q => q) ?_
  refine s_pure r10 (fun _ q => q) ?_
  have f14 := (bxb1.ext eh11)
  refine s_stBx (.agg #[.int .i64 g6.towers, .int .i64 g6.tries]) [.int .i64 g6.towers, .int .i64 g6.tries] [.int .i64 g6.towers, .int .i64 g6.tries] f14 rfl rfl rfl rfl (by simp) (all_cons rfl (all_cons rfl all_nil)) rfl (fun h15 mh15 sh15 bxx16 => ?_)
  have E17 := E12.mod mh15 (fun b hb => by simp at hb; omega)
  refine s_pure r8 (fun _ q => q) ?_
  refine s_pure r10 (fun _ q => q) ?_
  refine s_nil ?_
  refine p_seqN ?_
  refine v_ret ?_
  refine p_ret [.agg #[.int .i64 g6.towers, .int .i64 g6.tries], r8, r10] (.tuple #[.agg #[.int .i64 g6.towers, .int .i64 g6.tries], r8, r10]) (fun _ q => (bxx16.loadA rfl q)) rfl ?_
  have f18 := (s_r8.mod mh15 (fun b hb hc => by simp at hc; have := fr_r8 b hb; omega))
  have f19 := (s_r10.mod mh15 (fun b hb hc => by simp at hc; have := fr_r10 b hb; omega))
  exact ⟨⟨g6.towers, g6.tries⟩, g7, g9, r8, r10, rfl, f18, (fr_r8.mono (by omega)), f19, (fr_r10.mono (by omega)), (by (try simp only); exact ⟨by omega, by omega, by omega⟩), E17⟩

theorem spec_DrawLeastLineTries_ok (v_code : Value) (code : List By) (h : Heap) (s_code : Sl h v_code code) (hby : ∀ y ∈ code, 0 ≤ y.n ∧ y.n ≤ 255) (hsz : code.length ≤ 2000000) : Cn f_spec_DrawLeastLineTries [v_code] h fun v h' => ∃ g0 : LineD, ∃ g1 : List Int, ∃ g2 : List Int, ∃ r0 : Value, ∃ r1 : Value, v = .tuple #[.agg #[.int .i64 g0.towers, .int .i64 g0.tries], r0, r1] ∧ SlO h' r0 g1 ∧ Fr h.size r0 ∧ SlO h' r1 g2 ∧ Fr h.size r1 ∧ ((0 ≤ g0.towers ∧ g0.towers ≤ 11 ∧ 0 ≤ g0.tries ∧ g0.tries ≤ 6) ∧ g1.length ≤ 21 ∧ g2.length ≤ 201) ∧ Ext h h' := by
  have lt_code := s_code.lt
  have l63_code := s_code.len63
  refine calls_of r_spec_DrawLeastLineTries ?_
  refine v_seq ?_
  refine v_ops ?_
  refine s_new (fun h2 b1 hbb1 hzb1 eh2 bxb1 => ?_)
  have E3 := (Ext.refl h).trans eh2
  have z4 := eh2.size
  have lbb1 := bxb1.lt
  refine s_pure (.slice none 0 0) (fun _ q => q) ?_
  refine s_pure (.slice none 0 0) (fun _ q => q) ?_
  refine s_nil ?_
  refine p_seqN ?_
  refine v_seq ?_
  refine v_ops ?_
  refine s_pure v_code (fun _ q => q) ?_
  have f5 := (s_code.ext eh2)
  refine s_call [v_code] rfl (spec_DrawPassLine_ok v_code code _ f5 (by first | omega | assumption | (simp; done) | (simp; omega)) (by first | omega | assumption | (simp; done) | (simp; omega))) ?_
  rintro _ h11 ⟨g6, g7, g9, r8, r10, rfl, s_r8, fr_r8, s_r10, fr_r10, qh11, eh11⟩
  have E12 := E3.trans eh11
  have z13 := eh11.size
  have lt_r8 := s_r8.lt
  have lt_r10 := s_r10.lt
  refine s_pure (.agg #[.int .i64 g6.towers, .int .i64 g6.tries]) (fun _ q => q) ?_
  refine s_pure r8 (fun _ q => q) ?_
  refine s_pure r10 (fun _ q => q) ?_
  have f14 := (bxb1.ext eh11)
  refine s_stBx (.agg #[.int .i64 g6.towers, .int .i64 g6.tries]) [.int .i64 g6.towers, .int .i64 g6.tries] [.int .i64 g6.towers, .int .i64 g6.tries] f14 rfl rfl rfl rfl (by simp) (all_cons rfl (all_cons rfl all_nil)) rfl (fun h15 mh15 sh15 bxx16 => ?_)
  have E17 := E12.mod mh15 (fun b hb => by simp at hb; omega)
  refine s_pure r8 (fun _ q => q) ?_
  refine s_pure r10 (fun _ q => q) ?_
  refine s_nil ?_
  refine p_seqN ?_
  refine v_ret ?_
  refine p_ret [.agg #[.int .i64 g6.towers, .int .i64 g6.tries], r8, r10] (.tuple #[.agg #[.int .i64 g6.towers, .int .i64 g6.tries], r8, r10]) (fun _ q => (bxx16.loadA rfl q)) rfl ?_
  have f18 := (s_r8.mod mh15 (fun b hb hc => by simp at hc; have := fr_r8 b hb; omega))
  have f19 := (s_r10.mod mh15 (fun b hb hc => by simp at hc; have := fr_r10 b hb; omega))
  exact ⟨⟨g6.towers, g6.tries⟩, g7, g9, r8, r10, rfl, f18, (fr_r8.mono (by omega)), f19, (fr_r10.mono (by omega)), (by (try simp only); exact ⟨by omega, by omega, by omega⟩), E17⟩

theorem spec_DrawPlainCount_ok (v_code : Value) (code : List By) (h : Heap) (s_code : Sl h v_code code) (hby : ∀ y ∈ code, 0 ≤ y.n ∧ y.n ≤ 255) (hsz : code.length ≤ 2000000) : Cn f_spec_DrawPlainCount [v_code] h fun v h' => ∃ g0 : LineD, ∃ g1 : Int, v = .tuple #[.agg #[.int .i64 g0.towers, .int .i64 g0.tries], .int .i64 g1] ∧ (0 ≤ g0.towers ∧ g0.towers ≤ 11 ∧ 0 ≤ g0.tries ∧ g0.tries ≤ 6 ∧ -1 ≤ g1 ∧ g1 ≤ 21) ∧ Ext h h' := by
  have lt_code := s_code.lt
  have l63_code := s_code.len63
  refine calls_of r_spec_DrawPlainCount ?_
  refine v_seq ?_
  refine v_ops ?_
  refine s_new (fun h2 b1 hbb1 hzb1 eh2 bxb1 => ?_)
  have E3 := (Ext.refl h).trans eh2
  have z4 := eh2.size
  have lbb1 := bxb1.lt
  refine s_pure (.int .i64 0) (fun _ q => q) ?_
  refine s_nil ?_
  refine p_seqN ?_
  refine v_seq ?_
  refine v_ops ?_
  refine s_pure v_code (fun _ q => q) ?_
  refine s_pure (.agg #[v_code, .int .i64 0, .int .u64 0]) (fun _ q => w_build (seg_sl s_code rfl (seg_nil q))) ?_
  refine s_box [v_code, .int .i64 0, .int .u64 0] rfl (fun h6 b5 hbb5 hzb5 eh6 bxb5 => ?_)
  have E7 := E3.trans eh6
  have z8 := eh6.size
  have lbb5 := bxb5.lt
  refine s_pure (.pointer (some ⟨b5, 0, none⟩)) (fun _ q => q) ?_
  refine s_nil ?_
  refine p_seqN ?_
  refine v_seq ?_
  refine v_ops ?_
  refine s_pure (.pointer (some ⟨b5, 0, none⟩)) (fun _ q => q) ?_
  have f9 := ((s_code.ext eh2).ext eh6)
  have C10 : Cur h6 b5 81 0 h.size := Cur.mk2 bxb5 f9 lt_code hby (by omega) (by omega)
  refine s_call [.pointer (some ⟨b5, 0, none⟩)] rfl (spec_l1Cur_line_ok b5 81 0 h.size _ C10 (by first | omega | assumption | (simp; done) | (simp; omega))) ?_
  rintro _ h12 ⟨g11, rfl, qh12, Ch12, mh12⟩
  have zh12 := mh12.size
  have E13 := E7.mod mh12 (fun b hb => by simp at hb; omega)
  refine s_pure (.pointer (some ⟨b5, 0, none⟩)) (fun _ q => q) ?_
  refine s_pure (.pointer (some ⟨b5, 0, none⟩)) (fun _ q => q) ?_
  refine s_row (α := Int) [21, (-1)] (fun _ q => seg_i rfl (seg_i rfl (seg_nil q))) rfl (by simp [maxLen]) (fun r14 h15 eh15 zh15 s_r14 fr_r14 => ?_)
  have E16 := E13.trans eh15
  have z17 := eh15.size
  have lt_r14 := s_r14.lt
  have f18 := (Ch12.ext eh15)
  refine s_call [.pointer (some ⟨b5, 0, none⟩), r14] rfl (spec_l1Cur_among_ok b5 81 (0 + 10) h.size r14 [21, (-1)] _ f18 s_r14.toSl (fun b hb hc => by simp at hc; have := fr_r14 b hb; omega) (by first | omega | assumption | (simp; done) | (simp; omega)) (by first | omega | assumption | (simp; done) | (simp; omega))) ?_
  rintro _ h20 ⟨g19, rfl, qh20, Ch20, mh20⟩
  have zh20 := mh20.size
  have E21 := E16.mod mh20 (fun b hb => by simp at hb; omega)
  simp only [List.mem_cons, List.not_mem_nil, or_false] at qh20
  refine s_row (α := Int) [0, 1, 2, 5, 20, g19] (fun _ q => seg_i rfl (seg_i rfl (seg_i rfl (seg_i rfl (seg_i rfl (seg_i rfl (seg_nil q))))))) rfl (by simp [maxLen]) (fun r22 h23 eh23 zh23 s_r22 fr_r22 => ?_)
  have E24 := E21.trans eh23
  have z25 := eh23.size
  have lt_r22 := s_r22.lt
  have f26 := (Ch20.ext eh23)
  refine s_call [.pointer (some ⟨b5, 0, none⟩), r22] rfl (spec_l1Cur_among_ok b5 81 ((0 + 10) + 2) h.size r22 [0, 1, 2, 5, 20, g19] _ f26 s_r22.toSl (fun b hb hc => by simp at hc; have := fr_r22 b hb; omega) (by first | omega | assumption | (simp; done) | (simp; omega)) (by first | omega | assumption | (simp; done) | (simp; omega))) ?_
  rintro _ h28 ⟨g27, rfl, qh28, Ch28, mh28⟩
  have zh28 := mh28.size
  have E29 := E24.mod mh28 (fun b hb => by simp at hb; omega)
  simp only [List.mem_cons, List.not_mem_nil, or_false] at qh28
  have f30 := ((((((bxb1.ext eh6).mod mh12 (by simp; omega)).ext eh15).mod mh20 (by simp; omega)).ext eh23).mod mh28 (by simp; omega))
  refine s_stBx (.agg #[.int .i64 g11.towers, .int .i64 g11.tries]) [.int .i64 g11.towers, .int .i64 g11.tries] [.int .i64 g11.towers, .int .i64 g11.tries] f30 rfl rfl rfl rfl (by simp) (all_cons rfl (all_cons rfl all_nil)) rfl (fun h31 mh31 sh31 bxx32 => ?_)
  have E33 := E29.mod mh31 (fun b hb => by simp at hb; omega)
  refine s_pure (.int .i64 g27) (fun _ q => q) ?_
  refine s_nil ?_
  refine p_seqN ?_
  refine v_ret ?_
  refine p_ret [.agg #[.int .i64 g11.towers, .int .i64 g11.tries], .int .i64 g27] (.tuple #[.agg #[.int .i64 g11.towers, .int .i64 g11.tries], .int .i64 g27]) (fun _ q => (bxx32.loadA rfl q)) rfl ?_
  exact ⟨⟨g11.towers, g11.tries⟩, g27, rfl, (by simp only; omega), E33⟩

theorem spec_DrawHeldAtTower_ok (v_code : Value) (code : List By) (h : Heap) (s_code : Sl h v_code code) (hby : ∀ y ∈ code, 0 ≤ y.n ∧ y.n ≤ 255) (hsz : code.length ≤ 2000000) : Cn f_spec_DrawHeldAtTower [v_code] h fun v h' => ∃ g0 : LineD, ∃ g1 : List Int, ∃ g2 : List Int, ∃ g3 : Int, ∃ r0 : Value, ∃ r1 : Value, v = .tuple #[.agg #[.int .i64 g0.towers, .int .i64 g0.tries], r0, r1, .int .i64 g3] ∧ SlO h' r0 g1 ∧ Fr h.size r0 ∧ SlO h' r1 g2 ∧ Fr h.size r1 ∧ ((0 ≤ g0.towers ∧ g0.towers ≤ 11 ∧ 0 ≤ g0.tries ∧ g0.tries ≤ 6) ∧ g1.length ≤ 21 ∧ g2.length ≤ 201) ∧ Ext h h' := by
  have lt_code := s_code.lt
  have l63_code := s_code.len63
  refine calls_of r_spec_DrawHeldAtTower ?_
  refine v_seq ?_
  refine v_ops ?_
  refine s_new (fun h2 b1 hbb1 hzb1 eh2 bxb1 => ?_)
  have E3 := (Ext.refl h).trans eh2
  have z4 := eh2.size
  have lbb1 := bxb1.lt
  refine s_pure (.slice none 0 0) (fun _ q => q) ?_
  refine s_pure (.slice none 0 0) (fun _ q => q) ?_
  refine s_pure (.int .i64 0) (fun _ q => q) ?_
  refine s_nil ?_
  refine p_seqN ?_
  refine v_seq ?_
  refine v_ops ?_
  refine s_pure v_code (fun _ q => q) ?_
  refine s_pure (.agg #[v_code, .int .i64 0, .int .u64 0]) (fun _ q => w_build (seg_sl s_code rfl (seg_nil q))) ?_
  refine s_box [v_code, .int .i64 0, .int .u64 0] rfl (fun h6 b5 hbb5 hzb5 eh6 bxb5 => ?_)
  have E7 := E3.trans eh6
  have z8 := eh6.size
  have lbb5 := bxb5.lt
  refine s_pure (.pointer (some ⟨b5, 0, none⟩)) (fun _ q => q) ?_
  refine s_nil ?_
  refine p_seqN ?_
  refine v_seq ?_
  refine v_ops ?_
  refine s_pure (.pointer (some ⟨b5, 0, none⟩)) (fun _ q => q) ?_
  have f9 := ((s_code.ext eh2).ext eh6)
  have C10 : Cur h6 b5 81 0 h.size := Cur.mk2 bxb5 f9 lt_code hby (by omega) (by omega)
  refine s_call [.pointer (some ⟨b5, 0, none⟩)] rfl (spec_l1Cur_line_ok b5 81 0 h.size _ C10 (by first | omega | assumption | (simp; done) | (simp; omega))) ?_
  rintro _ h12 ⟨g11, rfl, qh12, Ch12, mh12⟩
  have zh12 := mh12.size
  have E13 := E7.mod mh12 (fun b hb => by simp at hb; omega)
  refine s_new (fun h15 b14 hbb14 hzb14 eh15 bxb14 => ?_)
  have E16 := E13.trans eh15
  have z17 := eh15.size
  have lbb14 := bxb14.lt
  refine s_stBx (.agg #[.int .i64 g11.towers, .int .i64 g11.tries]) [.int .i64 g11.towers, .int .i64 g11.tries] [.int .i64 g11.towers, .int .i64 g11.tries] bxb14 rfl rfl rfl rfl (by simp) (all_cons rfl (all_cons rfl all_nil)) rfl (fun h18 mh18 sh18 bxx19 => ?_)
  have E20 := E16.mod mh18 (fun b hb => by simp at hb; omega)
  refine s_nil ?_
  refine p_seqN ?_
  refine v_seq ?_
  refine v_draw (DrawVC.hold ([b14]) ?_)
  refine d_pureT (.pointer (some ⟨b5, 0, none⟩)) (fun _ q => q) ?_
  refine d_pureT (.pointer (some ⟨b5, 0, none⟩)) (fun _ q => q) ?_
  refine d_pureT (.pointer (some ⟨b5, 0, none⟩)) (fun _ q => q) ?_
  refine d_pureT (.pointer (some ⟨b14, 0, none⟩)) (fun _ q => q) ?_
  refine d_pureT (.pointer (some ⟨b5, 0, none⟩)) (fun _ q => q) ?_
  refine d_pureT (.pointer (some ⟨b5, 0, none⟩)) (fun _ q => q) ?_
  refine d_loadT (.agg #[.int .i64 g11.towers, .int .i64 g11.tries]) (fun _ q => bxx19.takeA (by simp) rfl q) ?_
  refine d_loadT (.int .i64 g11.towers) (fun _ q => bxx19.take (by simp) rfl q) ?_
  refine d_eff ?_
  have f21 := ((Ch12.ext eh15).mod mh18 (by simp; omega) (fun b hb => by simp at hb; omega))
  refine s_call [.pointer (some ⟨b5, 0, none⟩)] rfl (spec_l1Cur_passed_ok b5 81 (0 + 10) h.size _ f21 (by first | omega | assumption | (simp; done) | (simp; omega))) ?_
  rintro r23 h24 ⟨g22, _, rfl, s_r23, fr_r23, qh24, Ch24, mh24⟩
  have zh24 := mh24.size
  have E25 := E20.mod mh24 (fun b hb => by simp at hb; omega)
  have G26 : ∀ x ∈ ([b14]), h24[x]? = h18[x]? := fun x hx => (mh24.blk x (Nat.lt_of_lt_of_le ((by simp at hx; omega) : x < (h18).size) (by omega)) (((fun xx hxx => by simp at hxx; rw [hxx]; exact (by simp; omega)) : ∀ xx ∈ ([b14]), xx ∉ [b5]) x hx)).trans rfl
  have lt_r23 := s_r23.lt
  refine s_nil ⟨fun _ x hx => G26 x hx, ?_⟩
  refine d_eff ?_
  refine s_call [.pointer (some ⟨b5, 0, none⟩)] rfl (spec_l1Cur_patterns_ok b5 81 ((0 + 10) + 1000) h.size _ Ch24 (by first | omega | assumption | (simp; done) | (simp; omega))) ?_
  rintro r28 h29 ⟨g27, _, rfl, s_r28, fr_r28, qh29, Ch29, mh29⟩
  have zh29 := mh29.size
  have E30 := E25.mod mh29 (fun b hb => by simp at hb; omega)
  have G31 : ∀ x ∈ ([b14]), h29[x]? = h18[x]? := fun x hx => (mh29.blk x (Nat.lt_of_lt_of_le ((by simp at hx; omega) : x < (h18).size) (by omega)) (((fun xx hxx => by simp at hxx; rw [hxx]; exact (by simp; omega)) : ∀ xx ∈ ([b14]), xx ∉ [b5]) x hx)).trans (G26 x hx)
  have lt_r28 := s_r28.lt
  refine s_nil ⟨fun _ x hx => G31 x hx, ?_⟩
  refine d_eff ?_
  refine s_call [.pointer (some ⟨b5, 0, none⟩), .int .i64 16] rfl (spec_l1Cur_pick_ok b5 81 (((0 + 10) + 1000) + 2000) h.size 16 _ Ch29 (by first | omega | assumption | (simp; done) | (simp; omega))) ?_
  rintro _ h33 ⟨g32, rfl, qh33, Ch33, mh33⟩
  have zh33 := mh33.size
  have E34 := E30.mod mh33 (fun b hb => by simp at hb; omega)
  have G35 : ∀ x ∈ ([b14]), h33[x]? = h18[x]? := fun x hx => (mh33.blk x (Nat.lt_of_lt_of_le ((by simp at hx; omega) : x < (h18).size) (by omega)) (((fun xx hxx => by simp at hxx; rw [hxx]; exact (by simp; omega)) : ∀ xx ∈ ([b14]), xx ∉ [b5]) x hx)).trans (G31 x hx)
  refine s_nil ⟨fun _ x hx => G35 x hx, ?_⟩
  refine d_pureT (.int .i64 (g32 / 15)) (fun _ q => QuoVC.mk (by omega) (by omega) (by omega) q) ?_
  refine d_pureT (.int .i64 (g11.towers + (g32 / 15))) (fun _ q => ArithVC.mk (by omega) q) ?_
  refine d_eff ?_
  refine s_call [.pointer (some ⟨b5, 0, none⟩), .int .i64 (g11.towers + (g32 / 15))] rfl (spec_l1Cur_pick_ok b5 81 ((((0 + 10) + 1000) + 2000) + 2) h.size (g11.towers + (g32 / 15)) _ Ch33 (by first | omega | assumption | (simp; done) | (simp; omega))) ?_
  rintro _ h37 ⟨g36, rfl, qh37, Ch37, mh37⟩
  have zh37 := mh37.size
  have E38 := E34.mod mh37 (fun b hb => by simp at hb; omega)
  have G39 : ∀ x ∈ ([b14]), h37[x]? = h18[x]? := fun x hx => (mh37.blk x (Nat.lt_of_lt_of_le ((by simp at hx; omega) : x < (h18).size) (by omega)) (((fun xx hxx => by simp at hxx; rw [hxx]; exact (by simp; omega)) : ∀ xx ∈ ([b14]), xx ∉ [b5]) x hx)).trans (G35 x hx)
  refine s_nil ⟨fun _ x hx => G39 x hx, ?_⟩
  refine d_eff ?_
  refine s_call [.pointer (some ⟨b5, 0, none⟩), .int .i64 24] rfl (spec_l1Cur_pick_ok b5 81 (((((0 + 10) + 1000) + 2000) + 2) + 2) h.size 24 _ Ch37 (by first | omega | assumption | (simp; done) | (simp; omega))) ?_
  rintro _ h41 ⟨g40, rfl, qh41, Ch41, mh41⟩
  have zh41 := mh41.size
  have E42 := E38.mod mh41 (fun b hb => by simp at hb; omega)
  have G43 : ∀ x ∈ ([b14]), h41[x]? = h18[x]? := fun x hx => (mh41.blk x (Nat.lt_of_lt_of_le ((by simp at hx; omega) : x < (h18).size) (by omega)) (((fun xx hxx => by simp at hxx; rw [hxx]; exact (by simp; omega)) : ∀ xx ∈ ([b14]), xx ∉ [b5]) x hx)).trans (G39 x hx)
  refine s_nil ⟨fun _ x hx => G43 x hx, ?_⟩
  refine d_pureT (.int .i64 (g40 / 23)) (fun _ q => QuoVC.mk (by omega) (by omega) (by omega) q) ?_
  refine d_pureT (.int .i64 (g36 - (g40 / 23))) (fun _ q => ArithVC.mk (by omega) q) ?_
  refine d_eff ?_
  have f44 := (((((((((bxb1.ext eh6).mod mh12 (by simp; omega)).ext eh15).mod mh18 (by simp; omega)).mod mh24 (by simp; omega)).mod mh29 (by simp; omega)).mod mh33 (by simp; omega)).mod mh37 (by simp; omega)).mod mh41 (by simp; omega))
  refine s_stBx (.agg #[.int .i64 g11.towers, .int .i64 g11.tries]) [.int .i64 g11.towers, .int .i64 g11.tries] [.int .i64 g11.towers, .int .i64 g11.tries] f44 rfl rfl rfl rfl (by simp) (all_cons rfl (all_cons rfl all_nil)) rfl (fun h45 mh45 sh45 bxx46 => ?_)
  have E47 := E42.mod mh45 (fun b hb => by simp at hb; omega)
  refine s_nil ⟨fun hl => (by cases hl), ?_⟩
  refine d_pureT r23 (fun _ q => q) ?_
  refine d_pureT r28 (fun _ q => q) ?_
  refine d_pureT (.int .i64 (g36 - (g40 / 23))) (fun _ q => q) ?_
  refine d_done ?_
  refine p_seqN ?_
  refine v_ret ?_
  refine p_ret [.agg #[.int .i64 g11.towers, .int .i64 g11.tries], r23, r28, .int .i64 (g36 - (g40 / 23))] (.tuple #[.agg #[.int .i64 g11.towers, .int .i64 g11.tries], r23, r28, .int .i64 (g36 - (g40 / 23))]) (fun _ q => (bxx46.loadA rfl q)) rfl ?_
  have f48 := (((((s_r23.mod mh29 (fun b hb hc => by simp at hc; have := fr_r23 b hb; omega)).mod mh33 (fun b hb hc => by simp at hc; have := fr_r23 b hb; omega)).mod mh37 (fun b hb hc => by simp at hc; have := fr_r23 b hb; omega)).mod mh41 (fun b hb hc => by simp at hc; have := fr_r23 b hb; omega)).mod mh45 (fun b hb hc => by simp at hc; have := fr_r23 b hb; omega))
  have f49 := ((((s_r28.mod mh33 (fun b hb hc => by simp at hc; have := fr_r28 b hb; omega)).mod mh37 (fun b hb hc => by simp at hc; have := fr_r28 b hb; omega)).mod mh41 (fun b hb hc => by simp at hc; have := fr_r28 b hb; omega)).mod mh45 (fun b hb hc => by simp at hc; have := fr_r28 b hb; omega))
  exact ⟨⟨g11.towers, g11.tries⟩, g22, g27, (g36 - (g40 / 23)), r23, r28, rfl, f48, (fr_r23.mono (by omega)), f49, (fr_r28.mono (by omega)), (by (try simp only); exact ⟨by omega, by omega, by omega⟩), E47⟩

theorem spec_DrawWithPattern_ok (v_code : Value) (code : List By) (h : Heap) (s_code : Sl h v_code code) (hby : ∀ y ∈ code, 0 ≤ y.n ∧ y.n ≤ 255) (hsz : code.length ≤ 2000000) : Cn f_spec_DrawWithPattern [v_code] h fun v h' => ∃ g0 : List Int, ∃ g1 : Int, ∃ g2 : Int, ∃ r0 : Value, v = .tuple #[r0, .int .i64 g1, .int .i64 g2] ∧ SlO h' r0 g0 ∧ Fr h.size r0 ∧ (g0.length ≤ 201) ∧ Ext h h' := by
  have lt_code := s_code.lt
  have l63_code := s_code.len63
  refine calls_of r_spec_DrawWithPattern ?_
  refine v_seq ?_
  refine v_ops ?_
  refine s_pure (.slice none 0 0) (fun _ q => q) ?_
  refine s_pure (.int .i64 0) (fun _ q => q) ?_
  refine s_pure (.int .i64 0) (fun _ q => q) ?_
  refine s_nil ?_
  refine p_seqN ?_
  refine v_seq ?_
  refine v_ops ?_
  refine s_pure v_code (fun _ q => q) ?_
  refine s_pure (.agg #[v_code, .int .i64 0, .int .u64 0]) (fun _ q => w_build (seg_sl s_code rfl (seg_nil q))) ?_
  refine s_box [v_code, .int .i64 0, .int .u64 0] rfl (fun h2 b1 hbb1 hzb1 eh2 bxb1 => ?_)
  have E3 := (Ext.refl h).trans eh2
  have z4 := eh2.size
  have lbb1 := bxb1.lt
  refine s_pure (.pointer (some ⟨b1, 0, none⟩)) (fun _ q => q) ?_
  refine s_nil ?_
  refine p_seqN ?_
  refine v_seq ?_
  refine v_ops ?_
  refine s_pure (.pointer (some ⟨b1, 0, none⟩)) (fun _ q => q) ?_
  have f5 := (s_code.ext eh2)
  have C6 : Cur h2 b1 81 0 h.size := Cur.mk2 bxb1 f5 lt_code hby (by omega) (by omega)
  refine s_call [.pointer (some ⟨b1, 0, none⟩)] rfl (spec_l1Cur_patterns_ok b1 81 0 h.size _ C6 (by first | omega | assumption | (simp; done) | (simp; omega))) ?_
  rintro r8 h9 ⟨g7, _, rfl, s_r8, fr_r8, qh9, Ch9, mh9⟩
  have zh9 := mh9.size
  have E10 := E3.mod mh9 (fun b hb => by simp at hb; omega)
  have lt_r8 := s_r8.lt
  refine s_pure r8 (fun _ q => q) ?_
  refine s_nil ?_
  refine p_seqN ?_
  refine v_seq ?_
  refine v_ops ?_
  refine s_pure r8 (fun _ q => q) ?_
  refine s_pure (.pointer (some ⟨b1, 0, none⟩)) (fun _ q => q) ?_
  refine s_pure r8 (fun _ q => q) ?_
  refine s_pure (.int .i64 (g7.length : Int)) (fun _ q => s_r8.lenVC q) ?_
  refine s_pure (.pointer (some ⟨b1, 0, none⟩)) (fun _ q => q) ?_
  refine s_row (α := Int) [200, (-1)] (fun _ q => seg_i rfl (seg_i rfl (seg_nil q))) rfl (by simp [maxLen]) (fun r11 h12 eh12 zh12 s_r11 fr_r11 => ?_)
  have E13 := E10.trans eh12
  have z14 := eh12.size
  have lt_r11 := s_r11.lt
  have f15 := (Ch9.ext eh12)
  refine s_call [.pointer (some ⟨b1, 0, none⟩), r11] rfl (spec_l1Cur_among_ok b1 81 (0 + 2000) h.size r11 [200, (-1)] _ f15 s_r11.toSl (fun b hb hc => by simp at hc; have := fr_r11 b hb; omega) (by first | omega | assumption | (simp; done) | (simp; omega)) (by first | omega | assumption | (simp; done) | (simp; omega))) ?_
  rintro _ h17 ⟨g16, rfl, qh17, Ch17, mh17⟩
  have zh17 := mh17.size
  have E18 := E13.mod mh17 (fun b hb => by simp at hb; omega)
  simp only [List.mem_cons, List.not_mem_nil, or_false] at qh17
  refine s_row (α := Int) [0, 1, 5, (g7.length : Int), 199, g16] (fun _ q => seg_i rfl (seg_i rfl (seg_i rfl (seg_i rfl (seg_i rfl (seg_i rfl (seg_nil q))))))) rfl (by simp [maxLen]) (fun r19 h20 eh20 zh20 s_r19 fr_r19 => ?_)
  have E21 := E18.trans eh20
  have z22 := eh20.size
  have lt_r19 := s_r19.lt
  have f23 := (Ch17.ext eh20)
  refine s_call [.pointer (some ⟨b1, 0, none⟩), r19] rfl (spec_l1Cur_among_ok b1 81 ((0 + 2000) + 2) h.size r19 [0, 1, 5, (g7.length : Int), 199, g16] _ f23 s_r19.toSl (fun b hb hc => by simp at hc; have := fr_r19 b hb; omega) (by first | omega | assumption | (simp; done) | (simp; omega)) (by first | omega | assumption | (simp; done) | (simp; omega))) ?_
  rintro _ h25 ⟨g24, rfl, qh25, Ch25, mh25⟩
  have zh25 := mh25.size
  have E26 := E21.mod mh25 (fun b hb => by simp at hb; omega)
  simp only [List.mem_cons, List.not_mem_nil, or_false] at qh25
  refine s_pure (.pointer (some ⟨b1, 0, none⟩)) (fun _ q => q) ?_
  refine s_pure (.pointer (some ⟨b1, 0, none⟩)) (fun _ q => q) ?_
  refine s_row (α := Int) [64, (-1)] (fun _ q => seg_i rfl (seg_i rfl (seg_nil q))) rfl (by simp [maxLen]) (fun r27 h28 eh28 zh28 s_r27 fr_r27 => ?_)
  have E29 := E26.trans eh28
  have z30 := eh28.size
  have lt_r27 := s_r27.lt
  have f31 := (Ch25.ext eh28)
  refine s_call [.pointer (some ⟨b1, 0, none⟩), r27] rfl (spec_l1Cur_among_ok b1 81 (((0 + 2000) + 2) + 2) h.size r27 [64, (-1)] _ f31 s_r27.toSl (fun b hb hc => by simp at hc; have := fr_r27 b hb; omega) (by first | omega | assumption | (simp; done) | (simp; omega)) (by first | omega | assumption | (simp; done) | (simp; omega))) ?_
  rintro _ h33 ⟨g32, rfl, qh33, Ch33, mh33⟩
  have zh33 := mh33.size
  have E34 := E29.mod mh33 (fun b hb => by simp at hb; omega)
  simp only [List.mem_cons, List.not_mem_nil, or_false] at qh33
  refine s_row (α := Int) [0, 1, 63, g32] (fun _ q => seg_i rfl (seg_i rfl (seg_i rfl (seg_i rfl (seg_nil q))))) rfl (by simp [maxLen]) (fun r35 h36 eh36 zh36 s_r35 fr_r35 => ?_)
  have E37 := E34.trans eh36
  have z38 := eh36.size
  have lt_r35 := s_r35.lt
  have f39 := (Ch33.ext eh36)
  refine s_call [.pointer (some ⟨b1, 0, none⟩), r35] rfl (spec_l1Cur_among_ok b1 81 ((((0 + 2000) + 2) + 2) + 2) h.size r35 [0, 1, 63, g32] _ f39 s_r35.toSl (fun b hb hc => by simp at hc; have := fr_r35 b hb; omega) (by first | omega | assumption | (simp; done) | (simp; omega)) (by first | omega | assumption | (simp; done) | (simp; omega))) ?_
  rintro _ h41 ⟨g40, rfl, qh41, Ch41, mh41⟩
  have zh41 := mh41.size
  have E42 := E37.mod mh41 (fun b hb => by simp at hb; omega)
  simp only [List.mem_cons, List.not_mem_nil, or_false] at qh41
  refine s_pure r8 (fun _ q => q) ?_
  refine s_pure (.int .i64 g24) (fun _ q => q) ?_
  refine s_pure (.int .i64 g40) (fun _ q => q) ?_
  refine s_nil ?_
  refine p_seqN ?_
  refine v_ret ?_
  refine p_ret [r8, .int .i64 g24, .int .i64 g40] (.tuple #[r8, .int .i64 g24, .int .i64 g40]) (fun _ q => q) rfl ?_
  have f43 := ((((((((s_r8.ext eh12).mod mh17 (fun b hb hc => by simp at hc; have := fr_r8 b hb; omega)).ext eh20).mod mh25 (fun b hb hc => by simp at hc; have := fr_r8 b hb; omega)).ext eh28).mod mh33 (fun b hb hc => by simp at hc; have := fr_r8 b hb; omega)).ext eh36).mod mh41 (fun b hb hc => by simp at hc; have := fr_r8 b hb; omega))
  exact ⟨g7, g24, g40, r8, rfl, f43, (fr_r8.mono (by omega)), (by omega), E42⟩

set_option maxRecDepth 10000 in
set_option maxHeartbeats 4000000 in
theorem spec_DrawLineTable_ok (v_code : Value) (code : List By) (h : Heap) (s_code : Sl h v_code code) (hby : ∀ y ∈ code, 0 ≤ y.n ∧ y.n ≤ 255) (hsz : code.length ≤ 2000000) : Cn f_spec_DrawLineTable [v_code] h fun v h' => ∃ g0 : LineD, ∃ g1 : List Int, ∃ g2 : List RowI, ∃ r0 : Value, ∃ r1 : Value, v = .tuple #[.agg #[.int .i64 g0.towers, .int .i64 g0.tries], r0, r1] ∧ SlO h' r0 g1 ∧ Fr h.size r0 ∧ DeepO h' r1 g2 h.size ∧ ((0 ≤ g0.towers ∧ g0.towers ≤ 11 ∧ 0 ≤ g0.tries ∧ g0.tries ≤ 6) ∧ g1.length ≤ 21 ∧ g2.length ≤ 11 ∧ ∀ p ∈ g2, p.sig.length ≤ 201) ∧ Ext h h' := by
  have lt_code := s_code.lt
  have l63_code := s_code.len63
  refine calls_of r_spec_DrawLineTable ?_
  refine v_seq ?_
  refine v_ops ?_
  refine s_new (fun h2 b1 hbb1 hzb1 eh2 bxb1 => ?_)
  have E3 := (Ext.refl h).trans eh2
  have z4 := eh2.size
  have lbb1 := bxb1.lt
  refine s_pure (.slice none 0 0) (fun _ q => q) ?_
  refine s_pure (.slice none 0 0) (fun _ q => q) ?_
  refine s_nil ?_
  refine p_seqN ?_
  refine v_seq ?_
  refine v_ops ?_
  refine s_pure v_code (fun _ q => q) ?_
  refine s_pure (.agg #[v_code, .int .i64 0, .int .u64 0]) (fun _ q => w_build (seg_sl s_code rfl (seg_nil q))) ?_
  refine s_box [v_code, .int .i64 0, .int .u64 0] rfl (fun h6 b5 hbb5 hzb5 eh6 bxb5 => ?_)
  have E7 := E3.trans eh6
  have z8 := eh6.size
  have lbb5 := bxb5.lt
  refine s_pure (.pointer (some ⟨b5, 0, none⟩)) (fun _ q => q) ?_
  refine s_nil ?_
  refine p_seqN ?_
  refine v_seq ?_
  refine v_ops ?_
  refine s_pure (.pointer (some ⟨b5, 0, none⟩)) (fun _ q => q) ?_
  have f9 := ((s_code.ext eh2).ext eh6)
  have C10 : Cur h6 b5 81 0 h.size := Cur.mk2 bxb5 f9 lt_code hby (by omega) (by omega)
  refine s_call [.pointer (some ⟨b5, 0, none⟩)] rfl (spec_l1Cur_line_ok b5 81 0 h.size _ C10 (by first | omega | assumption | (simp; done) | (simp; omega))) ?_
  rintro _ h12 ⟨g11, rfl, qh12, Ch12, mh12⟩
  have zh12 := mh12.size
  have E13 := E7.mod mh12 (fun b hb => by simp at hb; omega)
  refine s_pure (.pointer (some ⟨b5, 0, none⟩)) (fun _ q => q) ?_
  refine s_call [.pointer (some ⟨b5, 0, none⟩)] rfl (spec_l1Cur_passed_ok b5 81 (0 + 10) h.size _ Ch12 (by first | omega | assumption | (simp; done) | (simp; omega))) ?_
  rintro r15 h16 ⟨g14, _, rfl, s_r15, fr_r15, qh16, Ch16, mh16⟩
  have zh16 := mh16.size
  have E17 := E13.mod mh16 (fun b hb => by simp at hb; omega)
  have lt_r15 := s_r15.lt
  refine s_new (fun h19 b18 hbb18 hzb18 eh19 bxb18 => ?_)
  have E20 := E17.trans eh19
  have z21 := eh19.size
  have lbb18 := bxb18.lt
  refine s_stBx (.agg #[.int .i64 g11.towers, .int .i64 g11.tries]) [.int .i64 g11.towers, .int .i64 g11.tries] [.int .i64 g11.towers, .int .i64 g11.tries] bxb18 rfl rfl rfl rfl (by simp) (all_cons rfl (all_cons rfl all_nil)) rfl (fun h22 mh22 sh22 bxx23 => ?_)
  have E24 := E20.mod mh22 (fun b hb => by simp at hb; omega)
  refine s_pure r15 (fun _ q => q) ?_
  refine s_nil ?_
  refine p_seqN ?_
  refine v_seq ?_
  refine v_ops ?_
  refine s_pure (.slice none 0 0) (fun _ q => q) ?_
  refine s_nil ?_
  refine p_seqN ?_
  refine v_seq ?_
  refine v_ops ?_
  refine s_pure (.pointer (some ⟨b5, 0, none⟩)) (fun _ q => q) ?_
  have f25 := ((Ch16.ext eh19).mod mh22 (by simp; omega) (fun b hb => by simp at hb; omega))
  refine s_call [.pointer (some ⟨b5, 0, none⟩), .int .i64 5] rfl (spec_l1Cur_pick_ok b5 81 ((0 + 10) + 1000) h.size 5 _ f25 (by first | omega | assumption | (simp; done) | (simp; omega))) ?_
  rintro _ h27 ⟨g26, rfl, qh27, Ch27, mh27⟩
  have zh27 := mh27.size
  have E28 := E24.mod mh27 (fun b hb => by simp at hb; omega)
  refine s_pure (.int .i64 g26) (fun _ q => q) ?_
  refine s_nil ?_
  refine p_seqN ?_
  refine v_seq ?_
  refine v_seq ?_
  refine v_ops ?_
  refine s_pure (.pointer (some ⟨b5, 0, none⟩)) (fun _ q => q) ?_
  refine s_call [.pointer (some ⟨b5, 0, none⟩), .int .i64 20] rfl (spec_l1Cur_one_ok b5 81 (((0 + 10) + 1000) + 2) h.size 20 _ Ch27 (by first | omega | assumption | (simp; done) | (simp; omega))) ?_
  rintro _ h30 ⟨g29, rfl, Ch30, mh30⟩
  have zh30 := mh30.size
  have E31 := E28.mod mh30 (fun b hb => by simp at hb; omega)
  refine s_nil ?_
  refine p_seqN ?_
  refine v_cond rfl (fun c32 => ?_) (fun c32 => ?_)
  ·
    refine v_ops ?_
    refine s_pure (.pointer (some ⟨b5, 0, none⟩)) (fun _ q => q) ?_
    refine s_call [.pointer (some ⟨b5, 0, none⟩), .int .i64 2] rfl (spec_l1Cur_pick_ok b5 81 ((((0 + 10) + 1000) + 2) + 2) h.size 2 _ Ch30 (by first | omega | assumption | (simp; done) | (simp; omega))) ?_
    rintro _ h34 ⟨g33, rfl, qh34, Ch34, mh34⟩
    have zh34 := mh34.size
    have E35 := E31.mod mh34 (fun b hb => by simp at hb; omega)
    refine s_pure (.int .i64 (10 + g33)) (fun _ q => ArithVC.mk (by omega) q) ?_
    refine s_pure (.int .i64 (10 + g33)) (fun _ q => q) ?_
    refine s_nil ?_
    refine p_seqN ?_
    refine v_seq ?_
    refine v_block ?_
    have nk37 : b1 ∉ blks r15 := (fun hc => by have := fr_r15 _ hc; omega)
    have nk38 : b5 ∉ blks r15 := (fun hc => by have := fr_r15 _ hc; omega)
    have nk39 : b18 ∉ blks r15 := (fun hc => by have := lt_r15 _ hc; omega)
    have f40 := ((((((((bxb1.ext eh6).mod mh12 (by simp; omega)).mod mh16 (by simp; omega)).ext eh19).mod mh22 (by simp; omega)).mod mh27 (by simp; omega)).mod mh30 (by simp; omega)).mod mh34 (by simp; omega))
    have f41 := (((bxx23.mod mh27 (by simp; omega)).mod mh30 (by simp; omega)).mod mh34 (by simp; omega))
    have f42 := (((((s_r15.ext eh19).mod mh22 (fun b hb hc => by simp at hc; have := lt_r15 b hb; omega)).mod mh27 (fun b hb hc => by simp at hc; have := fr_r15 b hb; omega)).mod mh30 (fun b hb hc => by simp at hc; have := fr_r15 b hb; omega)).mod mh34 (fun b hb hc => by simp at hc; have := fr_r15 b hb; omega))
    refine v_loop2 (α := List RowI) (β := Value) (fun qq o => [(2, .pointer (some ⟨b1, 0, none⟩)), (5, .pointer (some ⟨b5, 0, none⟩)), (6, .pointer (some ⟨b18, 0, none⟩)), (7, r15), (8, o), (9, .int .i64 (10 + g33))]) (fun qq o hh => Ext h hh ∧ Bx hh b1 [.int .i64 0, .int .i64 0] 25 ∧ Cur hh b5 81 (2000 + 2000 * (qq.length : Int)) h.size ∧ Bx hh b18 [.int .i64 g11.towers, .int .i64 g11.tries] 25 ∧ SlO hh r15 g14 ∧ DeepO hh o qq h.size ∧ b1 ∉ fpts o qq ∧ b5 ∉ fpts o qq ∧ b18 ∉ fpts o qq ∧ (∀ b ∈ blks r15, b ∉ fpts o qq) ∧ qq.length ≤ (10 + g33).toNat ∧ ∀ p ∈ qq, p.sig.length ≤ 201) (fun qq o => (10 + g33).toNat - qq.length) [] (.slice none 0 0) ⟨rfl, rfl, rfl, rfl, rfl, rfl⟩ ⟨E35, f40, (Ch34.le (by first | omega | (simp; done) | (simp; omega))), f41, f42, (DeepO.nil _ _), (by simp [blks, fpts]), (by simp [blks, fpts]), (by simp [blks, fpts]), (fun b hb hc => by simp [blks, fpts] at hc), (by simp)⟩ ?_
    rintro qq o R43 h36 ⟨Eh, bxb1, bxb5, bxb18, s_r15, s_o, np_b1_o, np_b5_o, np_b18_o, np_r15_o, ⟨hl, hp⟩⟩
    have zEh := Eh.size
    have f44 := s_code.ext Eh
    have lbb1 := bxb1.lt
    have lbb5 := bxb5.lt
    have ltk_r15 := s_r15.lt
    have lbb18 := bxb18.lt
    have lt_o := s_o.lt
    have fr_o := s_o.fr
    refine v_seq ?_
    refine v_seq ?_
    refine v_ops ?_
    refine s_pure o (fun _ q => q) ?_
    refine s_pure (.int .i64 (qq.length : Int)) (fun _ q => s_o.row.lenVC q) ?_
    refine s_pure (.int .i64 (10 + g33)) (fun _ q => q) ?_
    refine s_pure (.bool (decide ((qq.length : Int) < (10 + g33)))) (fun _ q => q) ?_
    refine s_nil ?_
    refine p_seqN ?_
    refine v_cond rfl (fun c45 => ?_) (fun c45 => ?_)
    ·
      refine v_skip ?_
      refine p_seqN ?_
      refine v_block ?_
      refine v_ops ?_
      refine s_pure o (fun _ q => q) ?_
      refine s_pure (.pointer (some ⟨b5, 0, none⟩)) (fun _ q => q) ?_
      refine s_call [.pointer (some ⟨b5, 0, none⟩)] rfl (spec_l1Cur_patterns_ok b5 81 (2000 + 2000 * (qq.length : Int)) h.size _ bxb5 (by first | omega | assumption | (simp; done) | (simp; omega))) ?_
      rintro r47 h48 ⟨g46, _, rfl, s_r47, fr_r47, qh48, Ch48, mh48⟩
      have zh48 := mh48.size
      have E49 := Eh.mod mh48 (fun b hb => by simp at hb; omega)
      have lt_r47 := s_r47.lt
      obtain ⟨sv50, rfl⟩ := s_r47.sv
      refine s_row (α := RowI) [(⟨sv50, g46⟩ : RowI)] (fun _ q => seg_sl s_r47 rfl (seg_nil q)) rfl (by simp [maxLen]) (fun r51 h52 eh52 zh52 s_r51 fr_r51 => ?_)
      have E53 := E49.trans eh52
      have z54 := eh52.size
      have lt_r51 := s_r51.lt
      have f57 := (s_r47.ext eh52)
      have f58 := ((s_o.mod mh48 (fun b hb hc => np_b5_o (by simp at hc; rw [← hc]; exact hb))).ext eh52)
      refine s_app f58.row s_r51 rfl rfl rfl (by simp [maxLen]; omega) (by simp; omega) (fun r55 h56 mh56 zh56 s_r55 ab_r55 => ?_)
      have D_r55 := DeepO.snoc (e := (⟨sv50, g46⟩ : RowI)) f58 f57 (fr_r47.mono (by omega)) (fun b hb hc => by have := fr_r47 b hb; have := lt_o b hc; omega) (by omega) mh56 s_r55 ab_r55
      have E59 := E53.mod mh56 (fun b hb => by have := (fun b hb => fr_o b (mem_fpts.2 (.inl hb))) b hb; omega)
      have lt_r55 := D_r55.lt
      have fr_r55 := D_r55.fr
      have np60a : ∀ b ∈ blks v_code, b ∉ fpts o qq := (fun b hb hc => by have := lt_code b hb; have := fr_o b hc; omega)
      have np60b : ∀ b ∈ blks v_code, b ∉ blks sv50.v := (fun b hb hc => by have := lt_code b hb; have := fr_r47 b hc; omega)
      have np60 : ∀ b ∈ blks v_code, b ∉ fpts r55 (qq ++ [(⟨sv50, g46⟩ : RowI)]) := fun b hb => DeepO.snocOut ab_r55 (np60a b hb) (np60b b hb) (by have := lt_code b hb; omega)
      have np61 : b1 ∉ fpts r55 (qq ++ [(⟨sv50, g46⟩ : RowI)]) := DeepO.snocOut ab_r55 np_b1_o (fun hc => by have := fr_r47 _ hc; omega) (by omega)
      have np62 : b5 ∉ fpts r55 (qq ++ [(⟨sv50, g46⟩ : RowI)]) := DeepO.snocOut ab_r55 np_b5_o (fun hc => by have := fr_r47 _ hc; omega) (by omega)
      have np63a : ∀ b ∈ blks r15, b ∉ fpts o qq := np_r15_o
      have np63b : ∀ b ∈ blks r15, b ∉ blks sv50.v := (fun b hb hc => by have := ltk_r15 b hb; have := fr_r47 b hc; omega)
      have np63 : ∀ b ∈ blks r15, b ∉ fpts r55 (qq ++ [(⟨sv50, g46⟩ : RowI)]) := fun b hb => DeepO.snocOut ab_r55 (np63a b hb) (np63b b hb) (by have := ltk_r15 b hb; omega)
      have np64 : b18 ∉ fpts r55 (qq ++ [(⟨sv50, g46⟩ : RowI)]) := DeepO.snocOut ab_r55 np_b18_o (fun hc => by have := fr_r47 _ hc; omega) (by omega)
      refine s_pure r55 (fun _ q => q) ?_
      refine s_nil ?_
      refine p_blkN ?_
      have f65 := (((bxb1.mod mh48 (by simp; omega)).ext eh52).mod mh56 (fun hc => np_b1_o (mem_fpts.2 (.inl hc))))
      have f66 := ((Ch48.ext eh52).mod mh56 (fun hc => np_b5_o (mem_fpts.2 (.inl hc))) (fun b hb => by have := fr_o b (mem_fpts.2 (.inl hb)); omega))
      have f67 := (((bxb18.mod mh48 (by simp; omega)).ext eh52).mod mh56 (fun hc => np_b18_o (mem_fpts.2 (.inl hc))))
      have f68 := (((s_r15.mod mh48 (fun b hb hc => nk38 (by simp at hc; rw [← hc]; exact hb))).ext eh52).mod mh56 (fun b hb hc => np_r15_o b hb (mem_fpts.2 (.inl hc))))
      exact p_lpN ⟨(qq ++ [(⟨sv50, g46⟩ : RowI)]), r55, ⟨rfl, rfl, rfl, rfl, rfl, rfl⟩, ⟨E59, f65, (f66.le (by simp; omega)), f67, f68, (D_r55.mono (by omega)), np61, np62, np64, np63, (by refine ⟨by simp; omega, fun p hq => ?_⟩; (rcases List.mem_append.1 hq with hq | hq); exact hp p hq; (obtain rfl := List.mem_singleton.1 hq); assumption)⟩, by simp; omega⟩
    ·
      refine v_exit ?_
      refine p_seqX ?_
      refine p_lpX ?_
      refine p_blkX ?_
      refine p_seqN ?_
      refine v_seq ?_
      refine v_ops ?_
      refine s_load (.agg #[.int .i64 g11.towers, .int .i64 g11.tries]) (fun _ q => bxb18.loadA rfl q) ?_
      refine s_pure r15 (fun _ q => q) ?_
      refine s_pure o (fun _ q => q) ?_
      refine s_stBx (.agg #[.int .i64 g11.towers, .int .i64 g11.tries]) [.int .i64 g11.towers, .int .i64 g11.tries] [.int .i64 g11.towers, .int .i64 g11.tries] bxb1 rfl rfl rfl rfl (by simp) (all_cons rfl (all_cons rfl all_nil)) rfl (fun h69 mh69 sh69 bxx70 => ?_)
      have E71 := Eh.mod mh69 (fun b hb => by simp at hb; omega)
      refine s_pure r15 (fun _ q => q) ?_
      refine s_pure o (fun _ q => q) ?_
      refine s_nil ?_
      refine p_seqN ?_
      refine v_ret ?_
      refine p_ret [.agg #[.int .i64 g11.towers, .int .i64 g11.tries], r15, o] (.tuple #[.agg #[.int .i64 g11.towers, .int .i64 g11.tries], r15, o]) (fun _ q => (bxx70.loadA rfl q)) rfl ?_
      have f72 := (s_r15.mod mh69 (fun b hb hc => nk37 (by simp at hc; rw [← hc]; exact hb)))
      have f73 := (s_o.mod mh69 (fun b hb hc => np_b1_o (by simp at hc; rw [← hc]; exact hb)))
      exact ⟨⟨g11.towers, g11.tries⟩, g14, qq, r15, o, rfl, f72, (fr_r15.mono (by omega)), (f73.mono (by omega)), (by (try simp only); exact ⟨by omega, by omega, by omega, hp⟩), E71⟩
  ·
    refine v_skip ?_
    refine p_seqN ?_
    refine v_seq ?_
    refine v_block ?_
    have nk75 : b1 ∉ blks r15 := (fun hc => by have := fr_r15 _ hc; omega)
    have nk76 : b5 ∉ blks r15 := (fun hc => by have := fr_r15 _ hc; omega)
    have nk77 : b18 ∉ blks r15 := (fun hc => by have := lt_r15 _ hc; omega)
    have f78 := (((((((bxb1.ext eh6).mod mh12 (by simp; omega)).mod mh16 (by simp; omega)).ext eh19).mod mh22 (by simp; omega)).mod mh27 (by simp; omega)).mod mh30 (by simp; omega))
    have f79 := ((bxx23.mod mh27 (by simp; omega)).mod mh30 (by simp; omega))
    have f80 := ((((s_r15.ext eh19).mod mh22 (fun b hb hc => by simp at hc; have := lt_r15 b hb; omega)).mod mh27 (fun b hb hc => by simp at hc; have := fr_r15 b hb; omega)).mod mh30 (fun b hb hc => by simp at hc; have := fr_r15 b hb; omega))
    refine v_loop2 (α := List RowI) (β := Value) (fun qq o => [(2, .pointer (some ⟨b1, 0, none⟩)), (5, .pointer (some ⟨b5, 0, none⟩)), (6, .pointer (some ⟨b18, 0, none⟩)), (7, r15), (8, o), (9, .int .i64 g26)]) (fun qq o hh => Ext h hh ∧ Bx hh b1 [.int .i64 0, .int .i64 0] 25 ∧ Cur hh b5 81 (2000 + 2000 * (qq.length : Int)) h.size ∧ Bx hh b18 [.int .i64 g11.towers, .int .i64 g11.tries] 25 ∧ SlO hh r15 g14 ∧ DeepO hh o qq h.size ∧ b1 ∉ fpts o qq ∧ b5 ∉ fpts o qq ∧ b18 ∉ fpts o qq ∧ (∀ b ∈ blks r15, b ∉ fpts o qq) ∧ qq.length ≤ g26.toNat ∧ ∀ p ∈ qq, p.sig.length ≤ 201) (fun qq o => g26.toNat - qq.length) [] (.slice none 0 0) ⟨rfl, rfl, rfl, rfl, rfl, rfl⟩ ⟨E31, f78, (Ch30.le (by first | omega | (simp; done) | (simp; omega))), f79, f80, (DeepO.nil _ _), (by simp [blks, fpts]), (by simp [blks, fpts]), (by simp [blks, fpts]), (fun b hb hc => by simp [blks, fpts] at hc), (by simp)⟩ ?_
    rintro qq o R81 h74 ⟨Eh, bxb1, bxb5, bxb18, s_r15, s_o, np_b1_o, np_b5_o, np_b18_o, np_r15_o, ⟨hl, hp⟩⟩
    have zEh := Eh.size
    have f82 := s_code.ext Eh
    have lbb1 := bxb1.lt
    have lbb5 := bxb5.lt
    have ltk_r15 := s_r15.lt
    have lbb18 := bxb18.lt
    have lt_o := s_o.lt
    have fr_o := s_o.fr
    refine v_seq ?_
    refine v_seq ?_
    refine v_ops ?_
    refine s_pure o (fun _ q => q) ?_
    refine s_pure (.int .i64 (qq.length : Int)) (fun _ q => s_o.row.lenVC q) ?_
    refine s_pure (.int .i64 g26) (fun _ q => q) ?_
    refine s_pure (.bool (decide ((qq.length : Int) < g26))) (fun _ q => q) ?_
    refine s_nil ?_
    refine p_seqN ?_
    refine v_cond rfl (fun c83 => ?_) (fun c83 => ?_)
    ·
      refine v_skip ?_
      refine p_seqN ?_
      refine v_block ?_
      refine v_ops ?_
      refine s_pure o (fun _ q => q) ?_
      refine s_pure (.pointer (some ⟨b5, 0, none⟩)) (fun _ q => q) ?_
      refine s_call [.pointer (some ⟨b5, 0, none⟩)] rfl (spec_l1Cur_patterns_ok b5 81 (2000 + 2000 * (qq.length : Int)) h.size _ bxb5 (by first | omega | assumption | (simp; done) | (simp; omega))) ?_
      rintro r85 h86 ⟨g84, _, rfl, s_r85, fr_r85, qh86, Ch86, mh86⟩
      have zh86 := mh86.size
      have E87 := Eh.mod mh86 (fun b hb => by simp at hb; omega)
      have lt_r85 := s_r85.lt
      obtain ⟨sv88, rfl⟩ := s_r85.sv
      refine s_row (α := RowI) [(⟨sv88, g84⟩ : RowI)] (fun _ q => seg_sl s_r85 rfl (seg_nil q)) rfl (by simp [maxLen]) (fun r89 h90 eh90 zh90 s_r89 fr_r89 => ?_)
      have E91 := E87.trans eh90
      have z92 := eh90.size
      have lt_r89 := s_r89.lt
      have f95 := (s_r85.ext eh90)
      have f96 := ((s_o.mod mh86 (fun b hb hc => np_b5_o (by simp at hc; rw [← hc]; exact hb))).ext eh90)
      refine s_app f96.row s_r89 rfl rfl rfl (by simp [maxLen]; omega) (by simp; omega) (fun r93 h94 mh94 zh94 s_r93 ab_r93 => ?_)
      have D_r93 := DeepO.snoc (e := (⟨sv88, g84⟩ : RowI)) f96 f95 (fr_r85.mono (by omega)) (fun b hb hc => by have := fr_r85 b hb; have := lt_o b hc; omega) (by omega) mh94 s_r93 ab_r93
      have E97 := E91.mod mh94 (fun b hb => by have := (fun b hb => fr_o b (mem_fpts.2 (.inl hb))) b hb; omega)
      have lt_r93 := D_r93.lt
      have fr_r93 := D_r93.fr
      have np98a : ∀ b ∈ blks v_code, b ∉ fpts o qq := (fun b hb hc => by have := lt_code b hb; have := fr_o b hc; omega)
      have np98b : ∀ b ∈ blks v_code, b ∉ blks sv88.v := (fun b hb hc => by have := lt_code b hb; have := fr_r85 b hc; omega)
      have np98 : ∀ b ∈ blks v_code, b ∉ fpts r93 (qq ++ [(⟨sv88, g84⟩ : RowI)]) := fun b hb => DeepO.snocOut ab_r93 (np98a b hb) (np98b b hb) (by have := lt_code b hb; omega)
      have np99 : b1 ∉ fpts r93 (qq ++ [(⟨sv88, g84⟩ : RowI)]) := DeepO.snocOut ab_r93 np_b1_o (fun hc => by have := fr_r85 _ hc; omega) (by omega)
      have np100 : b5 ∉ fpts r93 (qq ++ [(⟨sv88, g84⟩ : RowI)]) := DeepO.snocOut ab_r93 np_b5_o (fun hc => by have := fr_r85 _ hc; omega) (by omega)
      have np101a : ∀ b ∈ blks r15, b ∉ fpts o qq := np_r15_o
      have np101b : ∀ b ∈ blks r15, b ∉ blks sv88.v := (fun b hb hc => by have := ltk_r15 b hb; have := fr_r85 b hc; omega)
      have np101 : ∀ b ∈ blks r15, b ∉ fpts r93 (qq ++ [(⟨sv88, g84⟩ : RowI)]) := fun b hb => DeepO.snocOut ab_r93 (np101a b hb) (np101b b hb) (by have := ltk_r15 b hb; omega)
      have np102 : b18 ∉ fpts r93 (qq ++ [(⟨sv88, g84⟩ : RowI)]) := DeepO.snocOut ab_r93 np_b18_o (fun hc => by have := fr_r85 _ hc; omega) (by omega)
      refine s_pure r93 (fun _ q => q) ?_
      refine s_nil ?_
      refine p_blkN ?_
      have f103 := (((bxb1.mod mh86 (by simp; omega)).ext eh90).mod mh94 (fun hc => np_b1_o (mem_fpts.2 (.inl hc))))
      have f104 := ((Ch86.ext eh90).mod mh94 (fun hc => np_b5_o (mem_fpts.2 (.inl hc))) (fun b hb => by have := fr_o b (mem_fpts.2 (.inl hb)); omega))
      have f105 := (((bxb18.mod mh86 (by simp; omega)).ext eh90).mod mh94 (fun hc => np_b18_o (mem_fpts.2 (.inl hc))))
      have f106 := (((s_r15.mod mh86 (fun b hb hc => nk76 (by simp at hc; rw [← hc]; exact hb))).ext eh90).mod mh94 (fun b hb hc => np_r15_o b hb (mem_fpts.2 (.inl hc))))
      exact p_lpN ⟨(qq ++ [(⟨sv88, g84⟩ : RowI)]), r93, ⟨rfl, rfl, rfl, rfl, rfl, rfl⟩, ⟨E97, f103, (f104.le (by simp; omega)), f105, f106, (D_r93.mono (by omega)), np99, np100, np102, np101, (by refine ⟨by simp; omega, fun p hq => ?_⟩; (rcases List.mem_append.1 hq with hq | hq); exact hp p hq; (obtain rfl := List.mem_singleton.1 hq); assumption)⟩, by simp; omega⟩
    ·
      refine v_exit ?_
      refine p_seqX ?_
      refine p_lpX ?_
      refine p_blkX ?_
      refine p_seqN ?_
      refine v_seq ?_
      refine v_ops ?_
      refine s_load (.agg #[.int .i64 g11.towers, .int .i64 g11.tries]) (fun _ q => bxb18.loadA rfl q) ?_
      refine s_pure r15 (fun _ q => q) ?_
      refine s_pure o (fun _ q => q) ?_
      refine s_stBx (.agg #[.int .i64 g11.towers, .int .i64 g11.tries]) [.int .i64 g11.towers, .int .i64 g11.tries] [.int .i64 g11.towers, .int .i64 g11.tries] bxb1 rfl rfl rfl rfl (by simp) (all_cons rfl (all_cons rfl all_nil)) rfl (fun h107 mh107 sh107 bxx108 => ?_)
      have E109 := Eh.mod mh107 (fun b hb => by simp at hb; omega)
      refine s_pure r15 (fun _ q => q) ?_
      refine s_pure o (fun _ q => q) ?_
      refine s_nil ?_
      refine p_seqN ?_
      refine v_ret ?_
      refine p_ret [.agg #[.int .i64 g11.towers, .int .i64 g11.tries], r15, o] (.tuple #[.agg #[.int .i64 g11.towers, .int .i64 g11.tries], r15, o]) (fun _ q => (bxx108.loadA rfl q)) rfl ?_
      have f110 := (s_r15.mod mh107 (fun b hb hc => nk75 (by simp at hc; rw [← hc]; exact hb)))
      have f111 := (s_o.mod mh107 (fun b hb hc => np_b1_o (by simp at hc; rw [← hc]; exact hb)))
      exact ⟨⟨g11.towers, g11.tries⟩, g14, qq, r15, o, rfl, f110, (fr_r15.mono (by omega)), (f111.mono (by omega)), (by (try simp only); exact ⟨by omega, by omega, by omega, hp⟩), E109⟩

end Go.Proofs.Ytckkablifoblbaa
