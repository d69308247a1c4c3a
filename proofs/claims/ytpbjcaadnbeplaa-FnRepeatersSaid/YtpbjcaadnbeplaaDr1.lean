/- What is drawn for repeaters. Condition: none. Printed in part by a program. -/
import Derived.Test.YtpbjcaadnbeplaaCu1
import Derived.Test.YtpbjcaadnbeplaaRp7
namespace Go.Proofs.Ytpbjcaadnbeplaa
open Go.Vc
set_option linter.all false
set_option maxRecDepth 10000 in
set_option maxHeartbeats 4000000 in
theorem spec_l1Cur_glances_ok (p_c : Nat) (t_c : TypeId) (m_c : Int) (lo_c : Nat) (h : Heap) (C_c : Cur h p_c t_c m_c lo_c) (hm : m_c + 2000 ≤ 4000000000000000000) : Cn f_spec_l1Cur_glances [.pointer (some ⟨p_c, 0, none⟩)] h fun v h' => ∃ g0 : List GlanceD, ∃ r0 : Value, v = r0 ∧ SlO h' r0 g0 ∧ Fr h.size r0 ∧ (g0.length ≤ 100) ∧ Cur h' p_c t_c (m_c + 2000) lo_c ∧ Mod [p_c] h h' := by
  have lc_c := C_c.lt
  have ll_c := C_c.low
  have lm_c := C_c.top
  refine calls_of r_spec_l1Cur_glances ?_
  refine v_seq ?_
  refine v_ops ?_
  refine s_pure (.slice none 0 0) (fun _ q => q) ?_
  refine s_nil ?_
  refine p_seqN ?_
  refine v_seq ?_
  refine v_ops ?_
  refine s_pure (.slice none 0 0) (fun _ q => q) ?_
  refine s_nil ?_
  refine p_seqN ?_
  refine v_seq ?_
  refine v_seq ?_
  refine v_ops ?_
  refine s_pure (.pointer (some ⟨p_c, 0, none⟩)) (fun _ q => q) ?_
  refine s_call [.pointer (some ⟨p_c, 0, none⟩), .int .i64 7] rfl (spec_l1Cur_pick_ok p_c t_c m_c lo_c 7 _ C_c (by first | omega | assumption | (simp; done) | (simp; omega))) ?_
  rintro _ h2 ⟨g1, rfl, qh2, Ch2, mh2⟩
  have zh2 := mh2.size
  have E3 := (Mod.refl [p_c] h).new mh2 (fun b hb => .inl (by simp at hb; simp [hb]))
  refine s_pure (.int .i64 g1) (fun _ q => q) ?_
  refine s_nil ?_
  refine p_seqN ?_
  refine v_block ?_
  refine v_loop3 (α := Int) (β := List GlanceD) (γ := Value) (fun k l4 o4 => [(0, .pointer (some ⟨p_c, 0, none⟩)), (3, o4), (4, .int .i64 k)]) (fun k l4 o4 hh => Mod [p_c] h hh ∧ Cur hh p_c t_c (m_c + 2 + 20 * (6 - k) + 6 * (l4.length : Int)) lo_c ∧ SlO hh o4 l4 ∧ Fr h.size o4 ∧ p_c ∉ blks o4 ∧ 0 ≤ k ∧ k ≤ 6 ∧ (l4.length : Int) ≤ 71 + 3 * (6 - k)) (fun k l4 o4 => k.toNat) g1 [] (.slice none 0 0) ⟨rfl, rfl, rfl⟩ ⟨E3, (Ch2.le (by first | omega | (simp; done) | (simp; omega))), (sl_eq (SlX.nil (α := GlanceD) true h2) (by simp)), (Fr.nil _), (by simp [blks, fpts]), (by exact ⟨by omega, by omega, by first | omega | (simp; done) | (simp; omega)⟩)⟩ ?_
  rintro k l4 o4 R5 h4 ⟨Eh, bxc, s_o4, fr_o4, np_c_o4, ⟨hk0, hk6, hl4⟩⟩
  have zEh := Eh.size
  have lbc := bxc.lt
  have lt_o4 := s_o4.lt
  refine v_seq ?_
  refine v_seq ?_
  refine v_ops ?_
  refine s_pure (.int .i64 k) (fun _ q => q) ?_
  refine s_pure (.bool (decide (k > 0))) (fun _ q => q) ?_
  refine s_nil ?_
  refine p_seqN ?_
  refine v_cond rfl (fun c7 => ?_) (fun c7 => ?_)
  ·
    refine v_skip ?_
    refine p_seqN ?_
    refine v_seq ?_
    refine v_block ?_
    refine v_seq ?_
    refine v_ops ?_
    refine s_pure (.pointer (some ⟨p_c, 0, none⟩)) (fun _ q => q) ?_
    refine s_pure (.pointer (some ⟨p_c, 0, none⟩)) (fun _ q => q) ?_
    refine s_call [.pointer (some ⟨p_c, 0, none⟩), .int .i64 60] rfl (spec_l1Cur_pick_ok p_c t_c (m_c + 2 + 20 * (6 - k) + 6 * (l4.length : Int)) lo_c 60 _ bxc (by first | omega | assumption | (simp; done) | (simp; omega))) ?_
    rintro _ h9 ⟨g8, rfl, qh9, Ch9, mh9⟩
    have zh9 := mh9.size
    have E10 := Eh.new mh9 (fun b hb => .inl (by simp at hb; simp [hb]))
    refine s_pure (.int .i64 (1 + g8)) (fun _ q => ArithVC.mk (by omega) q) ?_
    refine s_row (α := Int) [1, 5, 17, 60, (1 + g8), 61] (fun _ q => seg_i rfl (seg_i rfl (seg_i rfl (seg_i rfl (seg_i rfl (seg_i rfl (seg_nil q))))))) rfl (by simp [maxLen]) (fun r11 h12 eh12 zh12 s_r11 fr_r11 => ?_)
    have E13 := E10.trans (Mod.of_ext eh12 _)
    have z14 := eh12.size
    have lt_r11 := s_r11.lt
    have f15 := (Ch9.ext eh12)
    refine s_call [.pointer (some ⟨p_c, 0, none⟩), r11] rfl (spec_l1Cur_among_ok p_c t_c ((m_c + 2 + 20 * (6 - k) + 6 * (l4.length : Int)) + 2) lo_c r11 [1, 5, 17, 60, (1 + g8), 61] _ f15 s_r11.toSl (fun b hb hc => by simp at hc; have := fr_r11 b hb; omega) (by first | omega | assumption | (simp; done) | (simp; omega)) (by first | omega | assumption | (simp; done) | (simp; omega))) ?_
    rintro _ h17 ⟨g16, rfl, qh17, Ch17, mh17⟩
    have zh17 := mh17.size
    have E18 := E13.new mh17 (fun b hb => .inl (by simp at hb; simp [hb]))
    simp only [List.mem_cons, List.not_mem_nil, or_false] at qh17
    refine s_pure (.int .i64 g16) (fun _ q => q) ?_
    refine s_nil ?_
    refine p_seqN ?_
    refine v_seq ?_
    refine v_seq ?_
    refine v_ops ?_
    refine s_pure (.int .i64 g16) (fun _ q => q) ?_
    refine s_pure (.bool (g16 == 61)) (fun _ q => q) ?_
    refine s_pure (.bool (g16 == 61)) (fun _ q => q) ?_
    refine s_splitT rfl (fun c19 => ?_) (fun c19 => ?_)
    ·
      refine s_run rfl ?_
      refine s_pure (.pointer (some ⟨p_c, 0, none⟩)) (fun _ q => q) ?_
      refine s_run rfl ?_
      refine s_call [.pointer (some ⟨p_c, 0, none⟩), .int .i64 3] rfl (spec_l1Cur_one_ok p_c t_c (((m_c + 2 + 20 * (6 - k) + 6 * (l4.length : Int)) + 2) + 2) lo_c 3 _ Ch17 (by first | omega | assumption | (simp; done) | (simp; omega))) ?_
      rintro _ h21 ⟨g20, rfl, Ch21, mh21⟩
      have zh21 := mh21.size
      have E22 := E18.new mh21 (fun b hb => .inl (by simp at hb; simp [hb]))
      refine s_run rfl ?_
      refine s_pure (.bool (!g20)) (fun _ q => q) ?_
      refine s_pure (.bool (!g20)) (fun _ q => q) ?_
      refine s_nil ?_
      refine p_seqN ?_
      refine v_cond rfl (fun c23 => ?_) (fun c23 => ?_)
      ·
        refine v_ops ?_
        refine s_pure (.int .i64 2) (fun _ q => q) ?_
        refine s_nil ?_
        refine p_seqN ?_
        refine v_seq ?_
        refine v_seq ?_
        refine v_ops ?_
        refine s_pure (.pointer (some ⟨p_c, 0, none⟩)) (fun _ q => q) ?_
        refine s_call [.pointer (some ⟨p_c, 0, none⟩), .int .i64 6] rfl (spec_l1Cur_one_ok p_c t_c ((((m_c + 2 + 20 * (6 - k) + 6 * (l4.length : Int)) + 2) + 2) + 2) lo_c 6 _ Ch21 (by first | omega | assumption | (simp; done) | (simp; omega))) ?_
        rintro _ h25 ⟨g24, rfl, Ch25, mh25⟩
        have zh25 := mh25.size
        have E26 := E22.new mh25 (fun b hb => .inl (by simp at hb; simp [hb]))
        refine s_nil ?_
        refine p_seqN ?_
        refine v_cond rfl (fun c27 => ?_) (fun c27 => ?_)
        ·
          refine v_ops ?_
          refine s_pure o4 (fun _ q => q) ?_
          refine s_pure (.pointer (some ⟨p_c, 0, none⟩)) (fun _ q => q) ?_
          refine s_row (α := Int) [0, 62, 63] (fun _ q => seg_i rfl (seg_i rfl (seg_i rfl (seg_nil q)))) rfl (by simp [maxLen]) (fun r28 h29 eh29 zh29 s_r28 fr_r28 => ?_)
          have E30 := E26.trans (Mod.of_ext eh29 _)
          have z31 := eh29.size
          have lt_r28 := s_r28.lt
          have f32 := (Ch25.ext eh29)
          refine s_call [.pointer (some ⟨p_c, 0, none⟩), r28] rfl (spec_l1Cur_among_ok p_c t_c (((((m_c + 2 + 20 * (6 - k) + 6 * (l4.length : Int)) + 2) + 2) + 2) + 2) lo_c r28 [0, 62, 63] _ f32 s_r28.toSl (fun b hb hc => by simp at hc; have := fr_r28 b hb; omega) (by first | omega | assumption | (simp; done) | (simp; omega)) (by first | omega | assumption | (simp; done) | (simp; omega))) ?_
          rintro _ h34 ⟨g33, rfl, qh34, Ch34, mh34⟩
          have zh34 := mh34.size
          have E35 := E30.new mh34 (fun b hb => .inl (by simp at hb; simp [hb]))
          simp only [List.mem_cons, List.not_mem_nil, or_false] at qh34
          refine s_pure (.agg #[.bool false, .int .i64 g33]) (fun _ q => w_build (seg_i rfl (seg_nil q))) ?_
          refine s_row (α := GlanceD) [(⟨false, g33⟩ : GlanceD)] (fun _ q => seg_agg rfl rfl (seg_nil q)) rfl (by simp [maxLen]) (fun r36 h37 eh37 zh37 s_r36 fr_r36 => ?_)
          have E38 := E35.trans (Mod.of_ext eh37 _)
          have z39 := eh37.size
          have lt_r36 := s_r36.lt
          have f40 := ((((((((s_o4.mod mh9 (fun b hb hc => np_c_o4 (by simp at hc; rw [← hc]; exact hb))).ext eh12).mod mh17 (fun b hb hc => np_c_o4 (by simp at hc; rw [← hc]; exact hb))).mod mh21 (fun b hb hc => np_c_o4 (by simp at hc; rw [← hc]; exact hb))).mod mh25 (fun b hb hc => np_c_o4 (by simp at hc; rw [← hc]; exact hb))).ext eh29).mod mh34 (fun b hb hc => np_c_o4 (by simp at hc; rw [← hc]; exact hb))).ext eh37)
          refine s_app f40 s_r36 rfl rfl rfl (by simp [maxLen]; omega) (by simp; omega) (fun r41 h42 mh42 zh42 s_r41 ab_r41 => ?_)
          have E43 := E38.new mh42 (fun b hb => .inr (by have := fr_o4 b hb; omega))
          have fr_r41 := fr_o4.app ab_r41 (by omega)
          have np44 : p_c ∉ blks r41 := fun hc => (ab_r41 _ hc).elim np_c_o4 (fun hc => by omega)
          have np45 : ∀ b ∈ blks r11, b ∉ blks r41 := fun b hb hc => (ab_r41 _ hc).elim (((fun b hb hc => by have := fr_r11 b hb; have := lt_o4 b hc; omega) : ∀ b ∈ blks r11, b ∉ blks o4) b hb) (fun hc => by have := lt_r11 b hb; omega)
          have np46 : ∀ b ∈ blks r28, b ∉ blks r41 := fun b hb hc => (ab_r41 _ hc).elim (((fun b hb hc => by have := fr_r28 b hb; have := lt_o4 b hc; omega) : ∀ b ∈ blks r28, b ∉ blks o4) b hb) (fun hc => by have := lt_r28 b hb; omega)
          have np47 : ∀ b ∈ blks r36, b ∉ blks r41 := fun b hb hc => (ab_r41 _ hc).elim (((fun b hb hc => by have := fr_r36 b hb; have := lt_o4 b hc; omega) : ∀ b ∈ blks r36, b ∉ blks o4) b hb) (fun hc => by have := lt_r36 b hb; omega)
          have lt_r41 := s_r41.lt
          refine s_pure r41 (fun _ q => q) ?_
          refine s_nil ?_
          refine p_seqN ?_
          refine v_seq ?_
          refine v_ops ?_
          refine s_pure r41 (fun _ q => q) ?_
          refine s_pure (.int .i64 2) (fun _ q => q) ?_
          refine s_pure (.agg #[.bool false, .int .i64 2]) (fun _ q => w_build (seg_i rfl (seg_nil q))) ?_
          refine s_row (α := GlanceD) [(⟨false, 2⟩ : GlanceD)] (fun _ q => seg_agg rfl rfl (seg_nil q)) rfl (by simp [maxLen]) (fun r48 h49 eh49 zh49 s_r48 fr_r48 => ?_)
          have E50 := E43.trans (Mod.of_ext eh49 _)
          have z51 := eh49.size
          have lt_r48 := s_r48.lt
          have f52 := (s_r41.ext eh49)
          refine s_app f52 s_r48 rfl rfl rfl (by simp [maxLen]; omega) (by simp; omega) (fun r53 h54 mh54 zh54 s_r53 ab_r53 => ?_)
          have E55 := E50.new mh54 (fun b hb => .inr (by have := fr_r41 b hb; omega))
          have fr_r53 := fr_r41.app ab_r53 (by omega)
          have np56 : p_c ∉ blks r53 := fun hc => (ab_r53 _ hc).elim np44 (fun hc => by omega)
          have np57 : ∀ b ∈ blks r11, b ∉ blks r53 := fun b hb hc => (ab_r53 _ hc).elim ((np45 : ∀ b ∈ blks r11, b ∉ blks r41) b hb) (fun hc => by have := lt_r11 b hb; omega)
          have np58 : ∀ b ∈ blks r11, b ∉ blks r53 := fun b hb hc => (ab_r53 _ hc).elim ((np45 : ∀ b ∈ blks r11, b ∉ blks r41) b hb) (fun hc => by have := lt_r11 b hb; omega)
          have np59 : ∀ b ∈ blks r28, b ∉ blks r53 := fun b hb hc => (ab_r53 _ hc).elim ((np46 : ∀ b ∈ blks r28, b ∉ blks r41) b hb) (fun hc => by have := lt_r28 b hb; omega)
          have np60 : ∀ b ∈ blks r28, b ∉ blks r53 := fun b hb hc => (ab_r53 _ hc).elim ((np46 : ∀ b ∈ blks r28, b ∉ blks r41) b hb) (fun hc => by have := lt_r28 b hb; omega)
          have np61 : ∀ b ∈ blks r36, b ∉ blks r53 := fun b hb hc => (ab_r53 _ hc).elim ((np47 : ∀ b ∈ blks r36, b ∉ blks r41) b hb) (fun hc => by have := lt_r36 b hb; omega)
          have np62 : ∀ b ∈ blks r36, b ∉ blks r53 := fun b hb hc => (ab_r53 _ hc).elim ((np47 : ∀ b ∈ blks r36, b ∉ blks r41) b hb) (fun hc => by have := lt_r36 b hb; omega)
          have np63 : ∀ b ∈ blks r48, b ∉ blks r53 := fun b hb hc => (ab_r53 _ hc).elim (((fun b hb hc => by have := fr_r48 b hb; have := lt_r41 b hc; omega) : ∀ b ∈ blks r48, b ∉ blks r41) b hb) (fun hc => by have := lt_r48 b hb; omega)
          have lt_r53 := s_r53.lt
          refine s_pure r53 (fun _ q => q) ?_
          refine s_nil ?_
          refine p_seqN ?_
          refine v_seq ?_
          refine v_block ?_
          have f65 := ((((Ch34.ext eh37).mod mh42 np_c_o4 (fun b hb => by have := fr_o4 b hb; omega)).ext eh49).mod mh54 np44 (fun b hb => by have := fr_r41 b hb; omega))
          refine v_loop2 (α := List GlanceD) (β := Value) (fun l5 o5 => [(0, .pointer (some ⟨p_c, 0, none⟩)), (3, o5), (4, .int .i64 k), (5, .int .i64 2), (23, .pointer (some ⟨p_c, 0, none⟩)), (24, .bool g20), (25, .bool (!g20))]) (fun l5 o5 hh => Mod [p_c] h hh ∧ Cur hh p_c t_c (m_c + 12 + 20 * (6 - k) + 6 * (l5.length : Int)) lo_c ∧ SlO hh o5 l5 ∧ Fr h.size o5 ∧ p_c ∉ blks o5 ∧ (l5.length : Int) ≤ 73 + 3 * (6 - k)) (fun l5 o5 => 70 - l5.length) ((l4 ++ [(⟨false, g33⟩ : GlanceD)]) ++ [(⟨false, 2⟩ : GlanceD)]) r53 ⟨rfl, rfl, rfl, rfl, rfl, rfl, rfl⟩ ⟨E55, (f65.le (by first | omega | (simp; done) | (simp; omega))), (sl_eq s_r53 (by simp)), (fr_r53.mono (by omega)), np56, (by first | omega | (simp; done) | (simp; omega))⟩ ?_
          rintro l5 o5 R66 h64 ⟨Eh, bxc, s_o5, fr_o5, np_c_o5, hl5⟩
          have zEh := Eh.size
          have lbc := bxc.lt
          have lt_o5 := s_o5.lt
          refine v_seq ?_
          refine v_seq ?_
          refine v_ops ?_
          refine s_pure (.pointer (some ⟨p_c, 0, none⟩)) (fun _ q => q) ?_
          refine s_call [.pointer (some ⟨p_c, 0, none⟩), .int .i64 3] rfl (spec_l1Cur_one_ok p_c t_c (m_c + 12 + 20 * (6 - k) + 6 * (l5.length : Int)) lo_c 3 _ bxc (by first | omega | assumption | (simp; done) | (simp; omega))) ?_
          rintro _ h69 ⟨g68, rfl, Ch69, mh69⟩
          have zh69 := mh69.size
          have E70 := Eh.new mh69 (fun b hb => .inl (by simp at hb; simp [hb]))
          refine s_pure (.bool g68) (fun _ q => q) ?_
          refine s_splitT rfl (fun c71 => ?_) (fun c71 => ?_)
          ·
            refine s_run rfl ?_
            refine s_pure o5 (fun _ q => q) ?_
            refine s_run rfl ?_
            refine s_pure (.int .i64 (l5.length : Int)) (fun _ q => s_o5.lenVC q) ?_
            refine s_run rfl ?_
            refine s_pure (.bool (decide ((l5.length : Int) < 70))) (fun _ q => q) ?_
            refine s_pure (.bool (decide ((l5.length : Int) < 70))) (fun _ q => q) ?_
            refine s_nil ?_
            refine p_seqN ?_
            refine v_cond rfl (fun c72 => ?_) (fun c72 => ?_)
            ·
              refine v_skip ?_
              refine p_seqN ?_
              refine v_block ?_
              refine v_ops ?_
              refine s_pure o5 (fun _ q => q) ?_
              refine s_pure (.pointer (some ⟨p_c, 0, none⟩)) (fun _ q => q) ?_
              refine s_call [.pointer (some ⟨p_c, 0, none⟩), .int .i64 6] rfl (spec_l1Cur_one_ok p_c t_c ((m_c + 12 + 20 * (6 - k) + 6 * (l5.length : Int)) + 2) lo_c 6 _ Ch69 (by first | omega | assumption | (simp; done) | (simp; omega))) ?_
              rintro _ h74 ⟨g73, rfl, Ch74, mh74⟩
              have zh74 := mh74.size
              have E75 := E70.new mh74 (fun b hb => .inl (by simp at hb; simp [hb]))
              refine s_pure (.bool (!g73)) (fun _ q => q) ?_
              refine s_pure (.pointer (some ⟨p_c, 0, none⟩)) (fun _ q => q) ?_
              refine s_pure (.int .i64 2) (fun _ q => q) ?_
              refine s_pure (.int .i64 (bits .xor .i64 2 1)) (fun _ q => BitsVC.mk q) ?_
              refine s_pure (.int .i64 2) (fun _ q => q) ?_
              refine s_pure (.int .i64 (bits .xor .i64 2 8)) (fun _ q => BitsVC.mk q) ?_
              refine s_row (α := Int) [0, 62, 63, (bits .xor .i64 2 1), (bits .xor .i64 2 8)] (fun _ q => seg_i rfl (seg_i rfl (seg_i rfl (seg_i rfl (seg_i rfl (seg_nil q)))))) rfl (by simp [maxLen]) (fun r76 h77 eh77 zh77 s_r76 fr_r76 => ?_)
              have E78 := E75.trans (Mod.of_ext eh77 _)
              have z79 := eh77.size
              have lt_r76 := s_r76.lt
              have f80 := (Ch74.ext eh77)
              refine s_call [.pointer (some ⟨p_c, 0, none⟩), r76] rfl (spec_l1Cur_among_ok p_c t_c (((m_c + 12 + 20 * (6 - k) + 6 * (l5.length : Int)) + 2) + 2) lo_c r76 [0, 62, 63, (bits .xor .i64 2 1), (bits .xor .i64 2 8)] _ f80 s_r76.toSl (fun b hb hc => by simp at hc; have := fr_r76 b hb; omega) (by first | omega | assumption | (simp; done) | (simp; omega)) (by first | omega | assumption | (simp; done) | (simp; omega))) ?_
              rintro _ h82 ⟨g81, rfl, qh82, Ch82, mh82⟩
              have zh82 := mh82.size
              have E83 := E78.new mh82 (fun b hb => .inl (by simp at hb; simp [hb]))
              simp only [List.mem_cons, List.not_mem_nil, or_false] at qh82
              refine s_pure (.agg #[.bool (!g73), .int .i64 g81]) (fun _ q => w_build (seg_b rfl (seg_i rfl (seg_nil q)))) ?_
              refine s_row (α := GlanceD) [(⟨(!g73), g81⟩ : GlanceD)] (fun _ q => seg_agg rfl rfl (seg_nil q)) rfl (by simp [maxLen]) (fun r84 h85 eh85 zh85 s_r84 fr_r84 => ?_)
              have E86 := E83.trans (Mod.of_ext eh85 _)
              have z87 := eh85.size
              have lt_r84 := s_r84.lt
              have f88 := (((((s_o5.mod mh69 (fun b hb hc => np_c_o5 (by simp at hc; rw [← hc]; exact hb))).mod mh74 (fun b hb hc => np_c_o5 (by simp at hc; rw [← hc]; exact hb))).ext eh77).mod mh82 (fun b hb hc => np_c_o5 (by simp at hc; rw [← hc]; exact hb))).ext eh85)
              refine s_app f88 s_r84 rfl rfl rfl (by simp [maxLen]; omega) (by simp; omega) (fun r89 h90 mh90 zh90 s_r89 ab_r89 => ?_)
              have E91 := E86.new mh90 (fun b hb => .inr (by have := fr_o5 b hb; omega))
              have fr_r89 := fr_o5.app ab_r89 (by omega)
              have np92 : p_c ∉ blks r89 := fun hc => (ab_r89 _ hc).elim np_c_o5 (fun hc => by omega)
              have np93 : ∀ b ∈ blks r76, b ∉ blks r89 := fun b hb hc => (ab_r89 _ hc).elim (((fun b hb hc => by have := fr_r76 b hb; have := lt_o5 b hc; omega) : ∀ b ∈ blks r76, b ∉ blks o5) b hb) (fun hc => by have := lt_r76 b hb; omega)
              have np94 : ∀ b ∈ blks r84, b ∉ blks r89 := fun b hb hc => (ab_r89 _ hc).elim (((fun b hb hc => by have := fr_r84 b hb; have := lt_o5 b hc; omega) : ∀ b ∈ blks r84, b ∉ blks o5) b hb) (fun hc => by have := lt_r84 b hb; omega)
              have lt_r89 := s_r89.lt
              refine s_pure r89 (fun _ q => q) ?_
              refine s_nil ?_
              refine p_blkN ?_
              have f95 := ((Ch82.ext eh85).mod mh90 np_c_o5 (fun b hb => by have := fr_o5 b hb; omega))
              exact p_lpN ⟨(l5 ++ [(⟨(!g73), g81⟩ : GlanceD)]), r89, ⟨rfl, rfl, rfl, rfl, rfl, rfl, rfl⟩, ⟨E91, (f95.le (by first | omega | (simp; done) | (simp; omega))), (sl_eq s_r89 (by simp)), (fr_r89.mono (by omega)), np92, (by first | omega | (simp; done) | (simp; omega))⟩, by first | omega | (simp; done) | (simp; omega)⟩
            ·
              refine v_exit ?_
              refine p_seqX ?_
              refine p_lpX ?_
              refine p_blkX ?_
              refine p_seqN ?_
              refine v_ops ?_
              refine s_pure o5 (fun _ q => q) ?_
              refine s_pure (.int .i64 2) (fun _ q => q) ?_
              refine s_pure (.agg #[.bool true, .int .i64 2]) (fun _ q => w_build (seg_b rfl (seg_i rfl (seg_nil q)))) ?_
              refine s_row (α := GlanceD) [(⟨true, 2⟩ : GlanceD)] (fun _ q => seg_agg rfl rfl (seg_nil q)) rfl (by simp [maxLen]) (fun r96 h97 eh97 zh97 s_r96 fr_r96 => ?_)
              have E98 := E70.trans (Mod.of_ext eh97 _)
              have z99 := eh97.size
              have lt_r96 := s_r96.lt
              have f100 := ((s_o5.mod mh69 (fun b hb hc => np_c_o5 (by simp at hc; rw [← hc]; exact hb))).ext eh97)
              refine s_app f100 s_r96 rfl rfl rfl (by simp [maxLen]; omega) (by simp; omega) (fun r101 h102 mh102 zh102 s_r101 ab_r101 => ?_)
              have E103 := E98.new mh102 (fun b hb => .inr (by have := fr_o5 b hb; omega))
              have fr_r101 := fr_o5.app ab_r101 (by omega)
              have np104 : p_c ∉ blks r101 := fun hc => (ab_r101 _ hc).elim np_c_o5 (fun hc => by omega)
              have np105 : ∀ b ∈ blks r96, b ∉ blks r101 := fun b hb hc => (ab_r101 _ hc).elim (((fun b hb hc => by have := fr_r96 b hb; have := lt_o5 b hc; omega) : ∀ b ∈ blks r96, b ∉ blks o5) b hb) (fun hc => by have := lt_r96 b hb; omega)
              have lt_r101 := s_r101.lt
              refine s_pure r101 (fun _ q => q) ?_
              refine s_nil ?_
              refine p_blkN ?_
              refine p_seqN ?_
              refine v_ops ?_
              refine s_pure (.int .i64 k) (fun _ q => q) ?_
              refine s_pure (.int .i64 (k - 1)) (fun _ q => ArithVC.mk (by omega) q) ?_
              refine s_pure (.int .i64 (k - 1)) (fun _ q => q) ?_
              refine s_nil ?_
              have f106 := ((Ch69.ext eh97).mod mh102 np_c_o5 (fun b hb => by have := fr_o5 b hb; omega))
              exact p_lpN ⟨(k - 1), (l5 ++ [(⟨true, 2⟩ : GlanceD)]), r101, ⟨rfl, rfl, rfl⟩, ⟨E103, (f106.le (by first | omega | (simp; done) | (simp; omega))), (sl_eq s_r101 (by simp)), (fr_r101.mono (by omega)), np104, (by exact ⟨by omega, by omega, by first | omega | (simp; done) | (simp; omega)⟩)⟩, by omega⟩
          ·
            refine s_pass rfl ?_
            refine s_pass rfl ?_
            refine s_pass rfl ?_
            refine s_pure (.bool false) (fun _ q => q) ?_
            refine s_nil ?_
            refine p_seqN ?_
            refine v_condN rfl (by simp) ?_
            refine v_exit ?_
            refine p_seqX ?_
            refine p_lpX ?_
            refine p_blkX ?_
            refine p_seqN ?_
            refine v_ops ?_
            refine s_pure o5 (fun _ q => q) ?_
            refine s_pure (.int .i64 2) (fun _ q => q) ?_
            refine s_pure (.agg #[.bool true, .int .i64 2]) (fun _ q => w_build (seg_b rfl (seg_i rfl (seg_nil q)))) ?_
            refine s_row (α := GlanceD) [(⟨true, 2⟩ : GlanceD)] (fun _ q => seg_agg rfl rfl (seg_nil q)) rfl (by simp [maxLen]) (fun r107 h108 eh108 zh108 s_r107 fr_r107 => ?_)
            have E109 := E70.trans (Mod.of_ext eh108 _)
            have z110 := eh108.size
            have lt_r107 := s_r107.lt
            have f111 := ((s_o5.mod mh69 (fun b hb hc => np_c_o5 (by simp at hc; rw [← hc]; exact hb))).ext eh108)
            refine s_app f111 s_r107 rfl rfl rfl (by simp [maxLen]; omega) (by simp; omega) (fun r112 h113 mh113 zh113 s_r112 ab_r112 => ?_)
            have E114 := E109.new mh113 (fun b hb => .inr (by have := fr_o5 b hb; omega))
            have fr_r112 := fr_o5.app ab_r112 (by omega)
            have np115 : p_c ∉ blks r112 := fun hc => (ab_r112 _ hc).elim np_c_o5 (fun hc => by omega)
            have np116 : ∀ b ∈ blks r107, b ∉ blks r112 := fun b hb hc => (ab_r112 _ hc).elim (((fun b hb hc => by have := fr_r107 b hb; have := lt_o5 b hc; omega) : ∀ b ∈ blks r107, b ∉ blks o5) b hb) (fun hc => by have := lt_r107 b hb; omega)
            have lt_r112 := s_r112.lt
            refine s_pure r112 (fun _ q => q) ?_
            refine s_nil ?_
            refine p_blkN ?_
            refine p_seqN ?_
            refine v_ops ?_
            refine s_pure (.int .i64 k) (fun _ q => q) ?_
            refine s_pure (.int .i64 (k - 1)) (fun _ q => ArithVC.mk (by omega) q) ?_
            refine s_pure (.int .i64 (k - 1)) (fun _ q => q) ?_
            refine s_nil ?_
            have f117 := ((Ch69.ext eh108).mod mh113 np_c_o5 (fun b hb => by have := fr_o5 b hb; omega))
            exact p_lpN ⟨(k - 1), (l5 ++ [(⟨true, 2⟩ : GlanceD)]), r112, ⟨rfl, rfl, rfl⟩, ⟨E114, (f117.le (by first | omega | (simp; done) | (simp; omega))), (sl_eq s_r112 (by simp)), (fr_r112.mono (by omega)), np115, (by exact ⟨by omega, by omega, by first | omega | (simp; done) | (simp; omega)⟩)⟩, by omega⟩
        ·
          refine v_skip ?_
          refine p_seqN ?_
          refine v_seq ?_
          refine v_ops ?_
          refine s_pure o4 (fun _ q => q) ?_
          refine s_pure (.int .i64 2) (fun _ q => q) ?_
          refine s_pure (.agg #[.bool false, .int .i64 2]) (fun _ q => w_build (seg_i rfl (seg_nil q))) ?_
          refine s_row (α := GlanceD) [(⟨false, 2⟩ : GlanceD)] (fun _ q => seg_agg rfl rfl (seg_nil q)) rfl (by simp [maxLen]) (fun r118 h119 eh119 zh119 s_r118 fr_r118 => ?_)
          have E120 := E26.trans (Mod.of_ext eh119 _)
          have z121 := eh119.size
          have lt_r118 := s_r118.lt
          have f122 := ((((((s_o4.mod mh9 (fun b hb hc => np_c_o4 (by simp at hc; rw [← hc]; exact hb))).ext eh12).mod mh17 (fun b hb hc => np_c_o4 (by simp at hc; rw [← hc]; exact hb))).mod mh21 (fun b hb hc => np_c_o4 (by simp at hc; rw [← hc]; exact hb))).mod mh25 (fun b hb hc => np_c_o4 (by simp at hc; rw [← hc]; exact hb))).ext eh119)
          refine s_app f122 s_r118 rfl rfl rfl (by simp [maxLen]; omega) (by simp; omega) (fun r123 h124 mh124 zh124 s_r123 ab_r123 => ?_)
          have E125 := E120.new mh124 (fun b hb => .inr (by have := fr_o4 b hb; omega))
          have fr_r123 := fr_o4.app ab_r123 (by omega)
          have np126 : p_c ∉ blks r123 := fun hc => (ab_r123 _ hc).elim np_c_o4 (fun hc => by omega)
          have np127 : ∀ b ∈ blks r11, b ∉ blks r123 := fun b hb hc => (ab_r123 _ hc).elim (((fun b hb hc => by have := fr_r11 b hb; have := lt_o4 b hc; omega) : ∀ b ∈ blks r11, b ∉ blks o4) b hb) (fun hc => by have := lt_r11 b hb; omega)
          have np128 : ∀ b ∈ blks r118, b ∉ blks r123 := fun b hb hc => (ab_r123 _ hc).elim (((fun b hb hc => by have := fr_r118 b hb; have := lt_o4 b hc; omega) : ∀ b ∈ blks r118, b ∉ blks o4) b hb) (fun hc => by have := lt_r118 b hb; omega)
          have lt_r123 := s_r123.lt
          refine s_pure r123 (fun _ q => q) ?_
          refine s_nil ?_
          refine p_seqN ?_
          refine v_seq ?_
          refine v_block ?_
          have f130 := ((Ch25.ext eh119).mod mh124 np_c_o4 (fun b hb => by have := fr_o4 b hb; omega))
          refine v_loop2 (α := List GlanceD) (β := Value) (fun l5 o5 => [(0, .pointer (some ⟨p_c, 0, none⟩)), (3, o5), (4, .int .i64 k), (5, .int .i64 2), (23, .pointer (some ⟨p_c, 0, none⟩)), (24, .bool g20), (25, .bool (!g20))]) (fun l5 o5 hh => Mod [p_c] h hh ∧ Cur hh p_c t_c (m_c + 12 + 20 * (6 - k) + 6 * (l5.length : Int)) lo_c ∧ SlO hh o5 l5 ∧ Fr h.size o5 ∧ p_c ∉ blks o5 ∧ (l5.length : Int) ≤ 73 + 3 * (6 - k)) (fun l5 o5 => 70 - l5.length) (l4 ++ [(⟨false, 2⟩ : GlanceD)]) r123 ⟨rfl, rfl, rfl, rfl, rfl, rfl, rfl⟩ ⟨E125, (f130.le (by first | omega | (simp; done) | (simp; omega))), (sl_eq s_r123 (by simp)), (fr_r123.mono (by omega)), np126, (by first | omega | (simp; done) | (simp; omega))⟩ ?_
          rintro l5 o5 R131 h129 ⟨Eh, bxc, s_o5, fr_o5, np_c_o5, hl5⟩
          have zEh := Eh.size
          have lbc := bxc.lt
          have lt_o5 := s_o5.lt
          refine v_seq ?_
          refine v_seq ?_
          refine v_ops ?_
          refine s_pure (.pointer (some ⟨p_c, 0, none⟩)) (fun _ q => q) ?_
          refine s_call [.pointer (some ⟨p_c, 0, none⟩), .int .i64 3] rfl (spec_l1Cur_one_ok p_c t_c (m_c + 12 + 20 * (6 - k) + 6 * (l5.length : Int)) lo_c 3 _ bxc (by first | omega | assumption | (simp; done) | (simp; omega))) ?_
          rintro _ h134 ⟨g133, rfl, Ch134, mh134⟩
          have zh134 := mh134.size
          have E135 := Eh.new mh134 (fun b hb => .inl (by simp at hb; simp [hb]))
          refine s_pure (.bool g133) (fun _ q => q) ?_
          refine s_splitT rfl (fun c136 => ?_) (fun c136 => ?_)
          ·
            refine s_run rfl ?_
            refine s_pure o5 (fun _ q => q) ?_
            refine s_run rfl ?_
            refine s_pure (.int .i64 (l5.length : Int)) (fun _ q => s_o5.lenVC q) ?_
            refine s_run rfl ?_
            refine s_pure (.bool (decide ((l5.length : Int) < 70))) (fun _ q => q) ?_
            refine s_pure (.bool (decide ((l5.length : Int) < 70))) (fun _ q => q) ?_
            refine s_nil ?_
            refine p_seqN ?_
            refine v_cond rfl (fun c137 => ?_) (fun c137 => ?_)
            ·
              refine v_skip ?_
              refine p_seqN ?_
              refine v_block ?_
              refine v_ops ?_
              refine s_pure o5 (fun _ q => q) ?_
              refine s_pure (.pointer (some ⟨p_c, 0, none⟩)) (fun _ q => q) ?_
              refine s_call [.pointer (some ⟨p_c, 0, none⟩), .int .i64 6] rfl (spec_l1Cur_one_ok p_c t_c ((m_c + 12 + 20 * (6 - k) + 6 * (l5.length : Int)) + 2) lo_c 6 _ Ch134 (by first | omega | assumption | (simp; done) | (simp; omega))) ?_
              rintro _ h139 ⟨g138, rfl, Ch139, mh139⟩
              have zh139 := mh139.size
              have E140 := E135.new mh139 (fun b hb => .inl (by simp at hb; simp [hb]))
              refine s_pure (.bool (!g138)) (fun _ q => q) ?_
              refine s_pure (.pointer (some ⟨p_c, 0, none⟩)) (fun _ q => q) ?_
              refine s_pure (.int .i64 2) (fun _ q => q) ?_
              refine s_pure (.int .i64 (bits .xor .i64 2 1)) (fun _ q => BitsVC.mk q) ?_
              refine s_pure (.int .i64 2) (fun _ q => q) ?_
              refine s_pure (.int .i64 (bits .xor .i64 2 8)) (fun _ q => BitsVC.mk q) ?_
              refine s_row (α := Int) [0, 62, 63, (bits .xor .i64 2 1), (bits .xor .i64 2 8)] (fun _ q => seg_i rfl (seg_i rfl (seg_i rfl (seg_i rfl (seg_i rfl (seg_nil q)))))) rfl (by simp [maxLen]) (fun r141 h142 eh142 zh142 s_r141 fr_r141 => ?_)
              have E143 := E140.trans (Mod.of_ext eh142 _)
              have z144 := eh142.size
              have lt_r141 := s_r141.lt
              have f145 := (Ch139.ext eh142)
              refine s_call [.pointer (some ⟨p_c, 0, none⟩), r141] rfl (spec_l1Cur_among_ok p_c t_c (((m_c + 12 + 20 * (6 - k) + 6 * (l5.length : Int)) + 2) + 2) lo_c r141 [0, 62, 63, (bits .xor .i64 2 1), (bits .xor .i64 2 8)] _ f145 s_r141.toSl (fun b hb hc => by simp at hc; have := fr_r141 b hb; omega) (by first | omega | assumption | (simp; done) | (simp; omega)) (by first | omega | assumption | (simp; done) | (simp; omega))) ?_
              rintro _ h147 ⟨g146, rfl, qh147, Ch147, mh147⟩
              have zh147 := mh147.size
              have E148 := E143.new mh147 (fun b hb => .inl (by simp at hb; simp [hb]))
              simp only [List.mem_cons, List.not_mem_nil, or_false] at qh147
              refine s_pure (.agg #[.bool (!g138), .int .i64 g146]) (fun _ q => w_build (seg_b rfl (seg_i rfl (seg_nil q)))) ?_
              refine s_row (α := GlanceD) [(⟨(!g138), g146⟩ : GlanceD)] (fun _ q => seg_agg rfl rfl (seg_nil q)) rfl (by simp [maxLen]) (fun r149 h150 eh150 zh150 s_r149 fr_r149 => ?_)
              have E151 := E148.trans (Mod.of_ext eh150 _)
              have z152 := eh150.size
              have lt_r149 := s_r149.lt
              have f153 := (((((s_o5.mod mh134 (fun b hb hc => np_c_o5 (by simp at hc; rw [← hc]; exact hb))).mod mh139 (fun b hb hc => np_c_o5 (by simp at hc; rw [← hc]; exact hb))).ext eh142).mod mh147 (fun b hb hc => np_c_o5 (by simp at hc; rw [← hc]; exact hb))).ext eh150)
              refine s_app f153 s_r149 rfl rfl rfl (by simp [maxLen]; omega) (by simp; omega) (fun r154 h155 mh155 zh155 s_r154 ab_r154 => ?_)
              have E156 := E151.new mh155 (fun b hb => .inr (by have := fr_o5 b hb; omega))
              have fr_r154 := fr_o5.app ab_r154 (by omega)
              have np157 : p_c ∉ blks r154 := fun hc => (ab_r154 _ hc).elim np_c_o5 (fun hc => by omega)
              have np158 : ∀ b ∈ blks r141, b ∉ blks r154 := fun b hb hc => (ab_r154 _ hc).elim (((fun b hb hc => by have := fr_r141 b hb; have := lt_o5 b hc; omega) : ∀ b ∈ blks r141, b ∉ blks o5) b hb) (fun hc => by have := lt_r141 b hb; omega)
              have np159 : ∀ b ∈ blks r149, b ∉ blks r154 := fun b hb hc => (ab_r154 _ hc).elim (((fun b hb hc => by have := fr_r149 b hb; have := lt_o5 b hc; omega) : ∀ b ∈ blks r149, b ∉ blks o5) b hb) (fun hc => by have := lt_r149 b hb; omega)
              have lt_r154 := s_r154.lt
              refine s_pure r154 (fun _ q => q) ?_
              refine s_nil ?_
              refine p_blkN ?_
              have f160 := ((Ch147.ext eh150).mod mh155 np_c_o5 (fun b hb => by have := fr_o5 b hb; omega))
              exact p_lpN ⟨(l5 ++ [(⟨(!g138), g146⟩ : GlanceD)]), r154, ⟨rfl, rfl, rfl, rfl, rfl, rfl, rfl⟩, ⟨E156, (f160.le (by first | omega | (simp; done) | (simp; omega))), (sl_eq s_r154 (by simp)), (fr_r154.mono (by omega)), np157, (by first | omega | (simp; done) | (simp; omega))⟩, by first | omega | (simp; done) | (simp; omega)⟩
            ·
              refine v_exit ?_
              refine p_seqX ?_
              refine p_lpX ?_
              refine p_blkX ?_
              refine p_seqN ?_
              refine v_ops ?_
              refine s_pure o5 (fun _ q => q) ?_
              refine s_pure (.int .i64 2) (fun _ q => q) ?_
              refine s_pure (.agg #[.bool true, .int .i64 2]) (fun _ q => w_build (seg_b rfl (seg_i rfl (seg_nil q)))) ?_
              refine s_row (α := GlanceD) [(⟨true, 2⟩ : GlanceD)] (fun _ q => seg_agg rfl rfl (seg_nil q)) rfl (by simp [maxLen]) (fun r161 h162 eh162 zh162 s_r161 fr_r161 => ?_)
              have E163 := E135.trans (Mod.of_ext eh162 _)
              have z164 := eh162.size
              have lt_r161 := s_r161.lt
              have f165 := ((s_o5.mod mh134 (fun b hb hc => np_c_o5 (by simp at hc; rw [← hc]; exact hb))).ext eh162)
              refine s_app f165 s_r161 rfl rfl rfl (by simp [maxLen]; omega) (by simp; omega) (fun r166 h167 mh167 zh167 s_r166 ab_r166 => ?_)
              have E168 := E163.new mh167 (fun b hb => .inr (by have := fr_o5 b hb; omega))
              have fr_r166 := fr_o5.app ab_r166 (by omega)
              have np169 : p_c ∉ blks r166 := fun hc => (ab_r166 _ hc).elim np_c_o5 (fun hc => by omega)
              have np170 : ∀ b ∈ blks r161, b ∉ blks r166 := fun b hb hc => (ab_r166 _ hc).elim (((fun b hb hc => by have := fr_r161 b hb; have := lt_o5 b hc; omega) : ∀ b ∈ blks r161, b ∉ blks o5) b hb) (fun hc => by have := lt_r161 b hb; omega)
              have lt_r166 := s_r166.lt
              refine s_pure r166 (fun _ q => q) ?_
              refine s_nil ?_
              refine p_blkN ?_
              refine p_seqN ?_
              refine v_ops ?_
              refine s_pure (.int .i64 k) (fun _ q => q) ?_
              refine s_pure (.int .i64 (k - 1)) (fun _ q => ArithVC.mk (by omega) q) ?_
              refine s_pure (.int .i64 (k - 1)) (fun _ q => q) ?_
              refine s_nil ?_
              have f171 := ((Ch134.ext eh162).mod mh167 np_c_o5 (fun b hb => by have := fr_o5 b hb; omega))
              exact p_lpN ⟨(k - 1), (l5 ++ [(⟨true, 2⟩ : GlanceD)]), r166, ⟨rfl, rfl, rfl⟩, ⟨E168, (f171.le (by first | omega | (simp; done) | (simp; omega))), (sl_eq s_r166 (by simp)), (fr_r166.mono (by omega)), np169, (by exact ⟨by omega, by omega, by first | omega | (simp; done) | (simp; omega)⟩)⟩, by omega⟩
          ·
            refine s_pass rfl ?_
            refine s_pass rfl ?_
            refine s_pass rfl ?_
            refine s_pure (.bool false) (fun _ q => q) ?_
            refine s_nil ?_
            refine p_seqN ?_
            refine v_condN rfl (by simp) ?_
            refine v_exit ?_
            refine p_seqX ?_
            refine p_lpX ?_
            refine p_blkX ?_
            refine p_seqN ?_
            refine v_ops ?_
            refine s_pure o5 (fun _ q => q) ?_
            refine s_pure (.int .i64 2) (fun _ q => q) ?_
            refine s_pure (.agg #[.bool true, .int .i64 2]) (fun _ q => w_build (seg_b rfl (seg_i rfl (seg_nil q)))) ?_
            refine s_row (α := GlanceD) [(⟨true, 2⟩ : GlanceD)] (fun _ q => seg_agg rfl rfl (seg_nil q)) rfl (by simp [maxLen]) (fun r172 h173 eh173 zh173 s_r172 fr_r172 => ?_)
            have E174 := E135.trans (Mod.of_ext eh173 _)
            have z175 := eh173.size
            have lt_r172 := s_r172.lt
            have f176 := ((s_o5.mod mh134 (fun b hb hc => np_c_o5 (by simp at hc; rw [← hc]; exact hb))).ext eh173)
            refine s_app f176 s_r172 rfl rfl rfl (by simp [maxLen]; omega) (by simp; omega) (fun r177 h178 mh178 zh178 s_r177 ab_r177 => ?_)
            have E179 := E174.new mh178 (fun b hb => .inr (by have := fr_o5 b hb; omega))
            have fr_r177 := fr_o5.app ab_r177 (by omega)
            have np180 : p_c ∉ blks r177 := fun hc => (ab_r177 _ hc).elim np_c_o5 (fun hc => by omega)
            have np181 : ∀ b ∈ blks r172, b ∉ blks r177 := fun b hb hc => (ab_r177 _ hc).elim (((fun b hb hc => by have := fr_r172 b hb; have := lt_o5 b hc; omega) : ∀ b ∈ blks r172, b ∉ blks o5) b hb) (fun hc => by have := lt_r172 b hb; omega)
            have lt_r177 := s_r177.lt
            refine s_pure r177 (fun _ q => q) ?_
            refine s_nil ?_
            refine p_blkN ?_
            refine p_seqN ?_
            refine v_ops ?_
            refine s_pure (.int .i64 k) (fun _ q => q) ?_
            refine s_pure (.int .i64 (k - 1)) (fun _ q => ArithVC.mk (by omega) q) ?_
            refine s_pure (.int .i64 (k - 1)) (fun _ q => q) ?_
            refine s_nil ?_
            have f182 := ((Ch134.ext eh173).mod mh178 np_c_o5 (fun b hb => by have := fr_o5 b hb; omega))
            exact p_lpN ⟨(k - 1), (l5 ++ [(⟨true, 2⟩ : GlanceD)]), r177, ⟨rfl, rfl, rfl⟩, ⟨E179, (f182.le (by first | omega | (simp; done) | (simp; omega))), (sl_eq s_r177 (by simp)), (fr_r177.mono (by omega)), np180, (by exact ⟨by omega, by omega, by first | omega | (simp; done) | (simp; omega)⟩)⟩, by omega⟩
      ·
        have c23 := Classical.not_not.1 c23
        refine v_skip ?_
        refine p_seqN ?_
        refine v_seq ?_
        refine v_seq ?_
        refine v_ops ?_
        refine s_pure (.pointer (some ⟨p_c, 0, none⟩)) (fun _ q => q) ?_
        refine s_call [.pointer (some ⟨p_c, 0, none⟩), .int .i64 6] rfl (spec_l1Cur_one_ok p_c t_c ((((m_c + 2 + 20 * (6 - k) + 6 * (l4.length : Int)) + 2) + 2) + 2) lo_c 6 _ Ch21 (by first | omega | assumption | (simp; done) | (simp; omega))) ?_
        rintro _ h184 ⟨g183, rfl, Ch184, mh184⟩
        have zh184 := mh184.size
        have E185 := E22.new mh184 (fun b hb => .inl (by simp at hb; simp [hb]))
        refine s_nil ?_
        refine p_seqN ?_
        refine v_cond rfl (fun c186 => ?_) (fun c186 => ?_)
        ·
          refine v_ops ?_
          refine s_pure o4 (fun _ q => q) ?_
          refine s_pure (.pointer (some ⟨p_c, 0, none⟩)) (fun _ q => q) ?_
          refine s_row (α := Int) [0, 62, 63] (fun _ q => seg_i rfl (seg_i rfl (seg_i rfl (seg_nil q)))) rfl (by simp [maxLen]) (fun r187 h188 eh188 zh188 s_r187 fr_r187 => ?_)
          have E189 := E185.trans (Mod.of_ext eh188 _)
          have z190 := eh188.size
          have lt_r187 := s_r187.lt
          have f191 := (Ch184.ext eh188)
          refine s_call [.pointer (some ⟨p_c, 0, none⟩), r187] rfl (spec_l1Cur_among_ok p_c t_c (((((m_c + 2 + 20 * (6 - k) + 6 * (l4.length : Int)) + 2) + 2) + 2) + 2) lo_c r187 [0, 62, 63] _ f191 s_r187.toSl (fun b hb hc => by simp at hc; have := fr_r187 b hb; omega) (by first | omega | assumption | (simp; done) | (simp; omega)) (by first | omega | assumption | (simp; done) | (simp; omega))) ?_
          rintro _ h193 ⟨g192, rfl, qh193, Ch193, mh193⟩
          have zh193 := mh193.size
          have E194 := E189.new mh193 (fun b hb => .inl (by simp at hb; simp [hb]))
          simp only [List.mem_cons, List.not_mem_nil, or_false] at qh193
          refine s_pure (.agg #[.bool false, .int .i64 g192]) (fun _ q => w_build (seg_i rfl (seg_nil q))) ?_
          refine s_row (α := GlanceD) [(⟨false, g192⟩ : GlanceD)] (fun _ q => seg_agg rfl rfl (seg_nil q)) rfl (by simp [maxLen]) (fun r195 h196 eh196 zh196 s_r195 fr_r195 => ?_)
          have E197 := E194.trans (Mod.of_ext eh196 _)
          have z198 := eh196.size
          have lt_r195 := s_r195.lt
          have f199 := ((((((((s_o4.mod mh9 (fun b hb hc => np_c_o4 (by simp at hc; rw [← hc]; exact hb))).ext eh12).mod mh17 (fun b hb hc => np_c_o4 (by simp at hc; rw [← hc]; exact hb))).mod mh21 (fun b hb hc => np_c_o4 (by simp at hc; rw [← hc]; exact hb))).mod mh184 (fun b hb hc => np_c_o4 (by simp at hc; rw [← hc]; exact hb))).ext eh188).mod mh193 (fun b hb hc => np_c_o4 (by simp at hc; rw [← hc]; exact hb))).ext eh196)
          refine s_app f199 s_r195 rfl rfl rfl (by simp [maxLen]; omega) (by simp; omega) (fun r200 h201 mh201 zh201 s_r200 ab_r200 => ?_)
          have E202 := E197.new mh201 (fun b hb => .inr (by have := fr_o4 b hb; omega))
          have fr_r200 := fr_o4.app ab_r200 (by omega)
          have np203 : p_c ∉ blks r200 := fun hc => (ab_r200 _ hc).elim np_c_o4 (fun hc => by omega)
          have np204 : ∀ b ∈ blks r11, b ∉ blks r200 := fun b hb hc => (ab_r200 _ hc).elim (((fun b hb hc => by have := fr_r11 b hb; have := lt_o4 b hc; omega) : ∀ b ∈ blks r11, b ∉ blks o4) b hb) (fun hc => by have := lt_r11 b hb; omega)
          have np205 : ∀ b ∈ blks r187, b ∉ blks r200 := fun b hb hc => (ab_r200 _ hc).elim (((fun b hb hc => by have := fr_r187 b hb; have := lt_o4 b hc; omega) : ∀ b ∈ blks r187, b ∉ blks o4) b hb) (fun hc => by have := lt_r187 b hb; omega)
          have np206 : ∀ b ∈ blks r195, b ∉ blks r200 := fun b hb hc => (ab_r200 _ hc).elim (((fun b hb hc => by have := fr_r195 b hb; have := lt_o4 b hc; omega) : ∀ b ∈ blks r195, b ∉ blks o4) b hb) (fun hc => by have := lt_r195 b hb; omega)
          have lt_r200 := s_r200.lt
          refine s_pure r200 (fun _ q => q) ?_
          refine s_nil ?_
          refine p_seqN ?_
          refine v_seq ?_
          refine v_ops ?_
          refine s_pure r200 (fun _ q => q) ?_
          refine s_pure (.int .i64 g16) (fun _ q => q) ?_
          refine s_pure (.agg #[.bool false, .int .i64 g16]) (fun _ q => w_build (seg_i rfl (seg_nil q))) ?_
          refine s_row (α := GlanceD) [(⟨false, g16⟩ : GlanceD)] (fun _ q => seg_agg rfl rfl (seg_nil q)) rfl (by simp [maxLen]) (fun r207 h208 eh208 zh208 s_r207 fr_r207 => ?_)
          have E209 := E202.trans (Mod.of_ext eh208 _)
          have z210 := eh208.size
          have lt_r207 := s_r207.lt
          have f211 := (s_r200.ext eh208)
          refine s_app f211 s_r207 rfl rfl rfl (by simp [maxLen]; omega) (by simp; omega) (fun r212 h213 mh213 zh213 s_r212 ab_r212 => ?_)
          have E214 := E209.new mh213 (fun b hb => .inr (by have := fr_r200 b hb; omega))
          have fr_r212 := fr_r200.app ab_r212 (by omega)
          have np215 : p_c ∉ blks r212 := fun hc => (ab_r212 _ hc).elim np203 (fun hc => by omega)
          have np216 : ∀ b ∈ blks r11, b ∉ blks r212 := fun b hb hc => (ab_r212 _ hc).elim ((np204 : ∀ b ∈ blks r11, b ∉ blks r200) b hb) (fun hc => by have := lt_r11 b hb; omega)
          have np217 : ∀ b ∈ blks r11, b ∉ blks r212 := fun b hb hc => (ab_r212 _ hc).elim ((np204 : ∀ b ∈ blks r11, b ∉ blks r200) b hb) (fun hc => by have := lt_r11 b hb; omega)
          have np218 : ∀ b ∈ blks r187, b ∉ blks r212 := fun b hb hc => (ab_r212 _ hc).elim ((np205 : ∀ b ∈ blks r187, b ∉ blks r200) b hb) (fun hc => by have := lt_r187 b hb; omega)
          have np219 : ∀ b ∈ blks r187, b ∉ blks r212 := fun b hb hc => (ab_r212 _ hc).elim ((np205 : ∀ b ∈ blks r187, b ∉ blks r200) b hb) (fun hc => by have := lt_r187 b hb; omega)
          have np220 : ∀ b ∈ blks r195, b ∉ blks r212 := fun b hb hc => (ab_r212 _ hc).elim ((np206 : ∀ b ∈ blks r195, b ∉ blks r200) b hb) (fun hc => by have := lt_r195 b hb; omega)
          have np221 : ∀ b ∈ blks r195, b ∉ blks r212 := fun b hb hc => (ab_r212 _ hc).elim ((np206 : ∀ b ∈ blks r195, b ∉ blks r200) b hb) (fun hc => by have := lt_r195 b hb; omega)
          have np222 : ∀ b ∈ blks r207, b ∉ blks r212 := fun b hb hc => (ab_r212 _ hc).elim (((fun b hb hc => by have := fr_r207 b hb; have := lt_r200 b hc; omega) : ∀ b ∈ blks r207, b ∉ blks r200) b hb) (fun hc => by have := lt_r207 b hb; omega)
          have lt_r212 := s_r212.lt
          refine s_pure r212 (fun _ q => q) ?_
          refine s_nil ?_
          refine p_seqN ?_
          refine v_seq ?_
          refine v_block ?_
          have f224 := ((((Ch193.ext eh196).mod mh201 np_c_o4 (fun b hb => by have := fr_o4 b hb; omega)).ext eh208).mod mh213 np203 (fun b hb => by have := fr_r200 b hb; omega))
          refine v_loop2 (α := List GlanceD) (β := Value) (fun l5 o5 => [(0, .pointer (some ⟨p_c, 0, none⟩)), (3, o5), (4, .int .i64 k), (5, .int .i64 g16), (23, .pointer (some ⟨p_c, 0, none⟩)), (24, .bool g20), (25, .bool (!g20))]) (fun l5 o5 hh => Mod [p_c] h hh ∧ Cur hh p_c t_c (m_c + 12 + 20 * (6 - k) + 6 * (l5.length : Int)) lo_c ∧ SlO hh o5 l5 ∧ Fr h.size o5 ∧ p_c ∉ blks o5 ∧ (l5.length : Int) ≤ 73 + 3 * (6 - k)) (fun l5 o5 => 70 - l5.length) ((l4 ++ [(⟨false, g192⟩ : GlanceD)]) ++ [(⟨false, g16⟩ : GlanceD)]) r212 ⟨rfl, rfl, rfl, rfl, rfl, rfl, rfl⟩ ⟨E214, (f224.le (by first | omega | (simp; done) | (simp; omega))), (sl_eq s_r212 (by simp)), (fr_r212.mono (by omega)), np215, (by first | omega | (simp; done) | (simp; omega))⟩ ?_
          rintro l5 o5 R225 h223 ⟨Eh, bxc, s_o5, fr_o5, np_c_o5, hl5⟩
          have zEh := Eh.size
          have lbc := bxc.lt
          have lt_o5 := s_o5.lt
          refine v_seq ?_
          refine v_seq ?_
          refine v_ops ?_
          refine s_pure (.pointer (some ⟨p_c, 0, none⟩)) (fun _ q => q) ?_
          refine s_call [.pointer (some ⟨p_c, 0, none⟩), .int .i64 3] rfl (spec_l1Cur_one_ok p_c t_c (m_c + 12 + 20 * (6 - k) + 6 * (l5.length : Int)) lo_c 3 _ bxc (by first | omega | assumption | (simp; done) | (simp; omega))) ?_
          rintro _ h228 ⟨g227, rfl, Ch228, mh228⟩
          have zh228 := mh228.size
          have E229 := Eh.new mh228 (fun b hb => .inl (by simp at hb; simp [hb]))
          refine s_pure (.bool g227) (fun _ q => q) ?_
          refine s_splitT rfl (fun c230 => ?_) (fun c230 => ?_)
          ·
            refine s_run rfl ?_
            refine s_pure o5 (fun _ q => q) ?_
            refine s_run rfl ?_
            refine s_pure (.int .i64 (l5.length : Int)) (fun _ q => s_o5.lenVC q) ?_
            refine s_run rfl ?_
            refine s_pure (.bool (decide ((l5.length : Int) < 70))) (fun _ q => q) ?_
            refine s_pure (.bool (decide ((l5.length : Int) < 70))) (fun _ q => q) ?_
            refine s_nil ?_
            refine p_seqN ?_
            refine v_cond rfl (fun c231 => ?_) (fun c231 => ?_)
            ·
              refine v_skip ?_
              refine p_seqN ?_
              refine v_block ?_
              refine v_ops ?_
              refine s_pure o5 (fun _ q => q) ?_
              refine s_pure (.pointer (some ⟨p_c, 0, none⟩)) (fun _ q => q) ?_
              refine s_call [.pointer (some ⟨p_c, 0, none⟩), .int .i64 6] rfl (spec_l1Cur_one_ok p_c t_c ((m_c + 12 + 20 * (6 - k) + 6 * (l5.length : Int)) + 2) lo_c 6 _ Ch228 (by first | omega | assumption | (simp; done) | (simp; omega))) ?_
              rintro _ h233 ⟨g232, rfl, Ch233, mh233⟩
              have zh233 := mh233.size
              have E234 := E229.new mh233 (fun b hb => .inl (by simp at hb; simp [hb]))
              refine s_pure (.bool (!g232)) (fun _ q => q) ?_
              refine s_pure (.pointer (some ⟨p_c, 0, none⟩)) (fun _ q => q) ?_
              refine s_pure (.int .i64 g16) (fun _ q => q) ?_
              refine s_pure (.int .i64 (bits .xor .i64 g16 1)) (fun _ q => BitsVC.mk q) ?_
              refine s_pure (.int .i64 g16) (fun _ q => q) ?_
              refine s_pure (.int .i64 (bits .xor .i64 g16 8)) (fun _ q => BitsVC.mk q) ?_
              refine s_row (α := Int) [0, 62, 63, (bits .xor .i64 g16 1), (bits .xor .i64 g16 8)] (fun _ q => seg_i rfl (seg_i rfl (seg_i rfl (seg_i rfl (seg_i rfl (seg_nil q)))))) rfl (by simp [maxLen]) (fun r235 h236 eh236 zh236 s_r235 fr_r235 => ?_)
              have E237 := E234.trans (Mod.of_ext eh236 _)
              have z238 := eh236.size
              have lt_r235 := s_r235.lt
              have f239 := (Ch233.ext eh236)
              refine s_call [.pointer (some ⟨p_c, 0, none⟩), r235] rfl (spec_l1Cur_among_ok p_c t_c (((m_c + 12 + 20 * (6 - k) + 6 * (l5.length : Int)) + 2) + 2) lo_c r235 [0, 62, 63, (bits .xor .i64 g16 1), (bits .xor .i64 g16 8)] _ f239 s_r235.toSl (fun b hb hc => by simp at hc; have := fr_r235 b hb; omega) (by first | omega | assumption | (simp; done) | (simp; omega)) (by first | omega | assumption | (simp; done) | (simp; omega))) ?_
              rintro _ h241 ⟨g240, rfl, qh241, Ch241, mh241⟩
              have zh241 := mh241.size
              have E242 := E237.new mh241 (fun b hb => .inl (by simp at hb; simp [hb]))
              simp only [List.mem_cons, List.not_mem_nil, or_false] at qh241
              refine s_pure (.agg #[.bool (!g232), .int .i64 g240]) (fun _ q => w_build (seg_b rfl (seg_i rfl (seg_nil q)))) ?_
              refine s_row (α := GlanceD) [(⟨(!g232), g240⟩ : GlanceD)] (fun _ q => seg_agg rfl rfl (seg_nil q)) rfl (by simp [maxLen]) (fun r243 h244 eh244 zh244 s_r243 fr_r243 => ?_)
              have E245 := E242.trans (Mod.of_ext eh244 _)
              have z246 := eh244.size
              have lt_r243 := s_r243.lt
              have f247 := (((((s_o5.mod mh228 (fun b hb hc => np_c_o5 (by simp at hc; rw [← hc]; exact hb))).mod mh233 (fun b hb hc => np_c_o5 (by simp at hc; rw [← hc]; exact hb))).ext eh236).mod mh241 (fun b hb hc => np_c_o5 (by simp at hc; rw [← hc]; exact hb))).ext eh244)
              refine s_app f247 s_r243 rfl rfl rfl (by simp [maxLen]; omega) (by simp; omega) (fun r248 h249 mh249 zh249 s_r248 ab_r248 => ?_)
              have E250 := E245.new mh249 (fun b hb => .inr (by have := fr_o5 b hb; omega))
              have fr_r248 := fr_o5.app ab_r248 (by omega)
              have np251 : p_c ∉ blks r248 := fun hc => (ab_r248 _ hc).elim np_c_o5 (fun hc => by omega)
              have np252 : ∀ b ∈ blks r235, b ∉ blks r248 := fun b hb hc => (ab_r248 _ hc).elim (((fun b hb hc => by have := fr_r235 b hb; have := lt_o5 b hc; omega) : ∀ b ∈ blks r235, b ∉ blks o5) b hb) (fun hc => by have := lt_r235 b hb; omega)
              have np253 : ∀ b ∈ blks r243, b ∉ blks r248 := fun b hb hc => (ab_r248 _ hc).elim (((fun b hb hc => by have := fr_r243 b hb; have := lt_o5 b hc; omega) : ∀ b ∈ blks r243, b ∉ blks o5) b hb) (fun hc => by have := lt_r243 b hb; omega)
              have lt_r248 := s_r248.lt
              refine s_pure r248 (fun _ q => q) ?_
              refine s_nil ?_
              refine p_blkN ?_
              have f254 := ((Ch241.ext eh244).mod mh249 np_c_o5 (fun b hb => by have := fr_o5 b hb; omega))
              exact p_lpN ⟨(l5 ++ [(⟨(!g232), g240⟩ : GlanceD)]), r248, ⟨rfl, rfl, rfl, rfl, rfl, rfl, rfl⟩, ⟨E250, (f254.le (by first | omega | (simp; done) | (simp; omega))), (sl_eq s_r248 (by simp)), (fr_r248.mono (by omega)), np251, (by first | omega | (simp; done) | (simp; omega))⟩, by first | omega | (simp; done) | (simp; omega)⟩
            ·
              refine v_exit ?_
              refine p_seqX ?_
              refine p_lpX ?_
              refine p_blkX ?_
              refine p_seqN ?_
              refine v_ops ?_
              refine s_pure o5 (fun _ q => q) ?_
              refine s_pure (.int .i64 g16) (fun _ q => q) ?_
              refine s_pure (.agg #[.bool true, .int .i64 g16]) (fun _ q => w_build (seg_b rfl (seg_i rfl (seg_nil q)))) ?_
              refine s_row (α := GlanceD) [(⟨true, g16⟩ : GlanceD)] (fun _ q => seg_agg rfl rfl (seg_nil q)) rfl (by simp [maxLen]) (fun r255 h256 eh256 zh256 s_r255 fr_r255 => ?_)
              have E257 := E229.trans (Mod.of_ext eh256 _)
              have z258 := eh256.size
              have lt_r255 := s_r255.lt
              have f259 := ((s_o5.mod mh228 (fun b hb hc => np_c_o5 (by simp at hc; rw [← hc]; exact hb))).ext eh256)
              refine s_app f259 s_r255 rfl rfl rfl (by simp [maxLen]; omega) (by simp; omega) (fun r260 h261 mh261 zh261 s_r260 ab_r260 => ?_)
              have E262 := E257.new mh261 (fun b hb => .inr (by have := fr_o5 b hb; omega))
              have fr_r260 := fr_o5.app ab_r260 (by omega)
              have np263 : p_c ∉ blks r260 := fun hc => (ab_r260 _ hc).elim np_c_o5 (fun hc => by omega)
              have np264 : ∀ b ∈ blks r255, b ∉ blks r260 := fun b hb hc => (ab_r260 _ hc).elim (((fun b hb hc => by have := fr_r255 b hb; have := lt_o5 b hc; omega) : ∀ b ∈ blks r255, b ∉ blks o5) b hb) (fun hc => by have := lt_r255 b hb; omega)
              have lt_r260 := s_r260.lt
              refine s_pure r260 (fun _ q => q) ?_
              refine s_nil ?_
              refine p_blkN ?_
              refine p_seqN ?_
              refine v_ops ?_
              refine s_pure (.int .i64 k) (fun _ q => q) ?_
              refine s_pure (.int .i64 (k - 1)) (fun _ q => ArithVC.mk (by omega) q) ?_
              refine s_pure (.int .i64 (k - 1)) (fun _ q => q) ?_
              refine s_nil ?_
              have f265 := ((Ch228.ext eh256).mod mh261 np_c_o5 (fun b hb => by have := fr_o5 b hb; omega))
              exact p_lpN ⟨(k - 1), (l5 ++ [(⟨true, g16⟩ : GlanceD)]), r260, ⟨rfl, rfl, rfl⟩, ⟨E262, (f265.le (by first | omega | (simp; done) | (simp; omega))), (sl_eq s_r260 (by simp)), (fr_r260.mono (by omega)), np263, (by exact ⟨by omega, by omega, by first | omega | (simp; done) | (simp; omega)⟩)⟩, by omega⟩
          ·
            refine s_pass rfl ?_
            refine s_pass rfl ?_
            refine s_pass rfl ?_
            refine s_pure (.bool false) (fun _ q => q) ?_
            refine s_nil ?_
            refine p_seqN ?_
            refine v_condN rfl (by simp) ?_
            refine v_exit ?_
            refine p_seqX ?_
            refine p_lpX ?_
            refine p_blkX ?_
            refine p_seqN ?_
            refine v_ops ?_
            refine s_pure o5 (fun _ q => q) ?_
            refine s_pure (.int .i64 g16) (fun _ q => q) ?_
            refine s_pure (.agg #[.bool true, .int .i64 g16]) (fun _ q => w_build (seg_b rfl (seg_i rfl (seg_nil q)))) ?_
            refine s_row (α := GlanceD) [(⟨true, g16⟩ : GlanceD)] (fun _ q => seg_agg rfl rfl (seg_nil q)) rfl (by simp [maxLen]) (fun r266 h267 eh267 zh267 s_r266 fr_r266 => ?_)
            have E268 := E229.trans (Mod.of_ext eh267 _)
            have z269 := eh267.size
            have lt_r266 := s_r266.lt
            have f270 := ((s_o5.mod mh228 (fun b hb hc => np_c_o5 (by simp at hc; rw [← hc]; exact hb))).ext eh267)
            refine s_app f270 s_r266 rfl rfl rfl (by simp [maxLen]; omega) (by simp; omega) (fun r271 h272 mh272 zh272 s_r271 ab_r271 => ?_)
            have E273 := E268.new mh272 (fun b hb => .inr (by have := fr_o5 b hb; omega))
            have fr_r271 := fr_o5.app ab_r271 (by omega)
            have np274 : p_c ∉ blks r271 := fun hc => (ab_r271 _ hc).elim np_c_o5 (fun hc => by omega)
            have np275 : ∀ b ∈ blks r266, b ∉ blks r271 := fun b hb hc => (ab_r271 _ hc).elim (((fun b hb hc => by have := fr_r266 b hb; have := lt_o5 b hc; omega) : ∀ b ∈ blks r266, b ∉ blks o5) b hb) (fun hc => by have := lt_r266 b hb; omega)
            have lt_r271 := s_r271.lt
            refine s_pure r271 (fun _ q => q) ?_
            refine s_nil ?_
            refine p_blkN ?_
            refine p_seqN ?_
            refine v_ops ?_
            refine s_pure (.int .i64 k) (fun _ q => q) ?_
            refine s_pure (.int .i64 (k - 1)) (fun _ q => ArithVC.mk (by omega) q) ?_
            refine s_pure (.int .i64 (k - 1)) (fun _ q => q) ?_
            refine s_nil ?_
            have f276 := ((Ch228.ext eh267).mod mh272 np_c_o5 (fun b hb => by have := fr_o5 b hb; omega))
            exact p_lpN ⟨(k - 1), (l5 ++ [(⟨true, g16⟩ : GlanceD)]), r271, ⟨rfl, rfl, rfl⟩, ⟨E273, (f276.le (by first | omega | (simp; done) | (simp; omega))), (sl_eq s_r271 (by simp)), (fr_r271.mono (by omega)), np274, (by exact ⟨by omega, by omega, by first | omega | (simp; done) | (simp; omega)⟩)⟩, by omega⟩
        ·
          refine v_skip ?_
          refine p_seqN ?_
          refine v_seq ?_
          refine v_ops ?_
          refine s_pure o4 (fun _ q => q) ?_
          refine s_pure (.int .i64 g16) (fun _ q => q) ?_
          refine s_pure (.agg #[.bool false, .int .i64 g16]) (fun _ q => w_build (seg_i rfl (seg_nil q))) ?_
          refine s_row (α := GlanceD) [(⟨false, g16⟩ : GlanceD)] (fun _ q => seg_agg rfl rfl (seg_nil q)) rfl (by simp [maxLen]) (fun r277 h278 eh278 zh278 s_r277 fr_r277 => ?_)
          have E279 := E185.trans (Mod.of_ext eh278 _)
          have z280 := eh278.size
          have lt_r277 := s_r277.lt
          have f281 := ((((((s_o4.mod mh9 (fun b hb hc => np_c_o4 (by simp at hc; rw [← hc]; exact hb))).ext eh12).mod mh17 (fun b hb hc => np_c_o4 (by simp at hc; rw [← hc]; exact hb))).mod mh21 (fun b hb hc => np_c_o4 (by simp at hc; rw [← hc]; exact hb))).mod mh184 (fun b hb hc => np_c_o4 (by simp at hc; rw [← hc]; exact hb))).ext eh278)
          refine s_app f281 s_r277 rfl rfl rfl (by simp [maxLen]; omega) (by simp; omega) (fun r282 h283 mh283 zh283 s_r282 ab_r282 => ?_)
          have E284 := E279.new mh283 (fun b hb => .inr (by have := fr_o4 b hb; omega))
          have fr_r282 := fr_o4.app ab_r282 (by omega)
          have np285 : p_c ∉ blks r282 := fun hc => (ab_r282 _ hc).elim np_c_o4 (fun hc => by omega)
          have np286 : ∀ b ∈ blks r11, b ∉ blks r282 := fun b hb hc => (ab_r282 _ hc).elim (((fun b hb hc => by have := fr_r11 b hb; have := lt_o4 b hc; omega) : ∀ b ∈ blks r11, b ∉ blks o4) b hb) (fun hc => by have := lt_r11 b hb; omega)
          have np287 : ∀ b ∈ blks r277, b ∉ blks r282 := fun b hb hc => (ab_r282 _ hc).elim (((fun b hb hc => by have := fr_r277 b hb; have := lt_o4 b hc; omega) : ∀ b ∈ blks r277, b ∉ blks o4) b hb) (fun hc => by have := lt_r277 b hb; omega)
          have lt_r282 := s_r282.lt
          refine s_pure r282 (fun _ q => q) ?_
          refine s_nil ?_
          refine p_seqN ?_
          refine v_seq ?_
          refine v_block ?_
          have f289 := ((Ch184.ext eh278).mod mh283 np_c_o4 (fun b hb => by have := fr_o4 b hb; omega))
          refine v_loop2 (α := List GlanceD) (β := Value) (fun l5 o5 => [(0, .pointer (some ⟨p_c, 0, none⟩)), (3, o5), (4, .int .i64 k), (5, .int .i64 g16), (23, .pointer (some ⟨p_c, 0, none⟩)), (24, .bool g20), (25, .bool (!g20))]) (fun l5 o5 hh => Mod [p_c] h hh ∧ Cur hh p_c t_c (m_c + 12 + 20 * (6 - k) + 6 * (l5.length : Int)) lo_c ∧ SlO hh o5 l5 ∧ Fr h.size o5 ∧ p_c ∉ blks o5 ∧ (l5.length : Int) ≤ 73 + 3 * (6 - k)) (fun l5 o5 => 70 - l5.length) (l4 ++ [(⟨false, g16⟩ : GlanceD)]) r282 ⟨rfl, rfl, rfl, rfl, rfl, rfl, rfl⟩ ⟨E284, (f289.le (by first | omega | (simp; done) | (simp; omega))), (sl_eq s_r282 (by simp)), (fr_r282.mono (by omega)), np285, (by first | omega | (simp; done) | (simp; omega))⟩ ?_
          rintro l5 o5 R290 h288 ⟨Eh, bxc, s_o5, fr_o5, np_c_o5, hl5⟩
          have zEh := Eh.size
          have lbc := bxc.lt
          have lt_o5 := s_o5.lt
          refine v_seq ?_
          refine v_seq ?_
          refine v_ops ?_
          refine s_pure (.pointer (some ⟨p_c, 0, none⟩)) (fun _ q => q) ?_
          refine s_call [.pointer (some ⟨p_c, 0, none⟩), .int .i64 3] rfl (spec_l1Cur_one_ok p_c t_c (m_c + 12 + 20 * (6 - k) + 6 * (l5.length : Int)) lo_c 3 _ bxc (by first | omega | assumption | (simp; done) | (simp; omega))) ?_
          rintro _ h293 ⟨g292, rfl, Ch293, mh293⟩
          have zh293 := mh293.size
          have E294 := Eh.new mh293 (fun b hb => .inl (by simp at hb; simp [hb]))
          refine s_pure (.bool g292) (fun _ q => q) ?_
          refine s_splitT rfl (fun c295 => ?_) (fun c295 => ?_)
          ·
            refine s_run rfl ?_
            refine s_pure o5 (fun _ q => q) ?_
            refine s_run rfl ?_
            refine s_pure (.int .i64 (l5.length : Int)) (fun _ q => s_o5.lenVC q) ?_
            refine s_run rfl ?_
            refine s_pure (.bool (decide ((l5.length : Int) < 70))) (fun _ q => q) ?_
            refine s_pure (.bool (decide ((l5.length : Int) < 70))) (fun _ q => q) ?_
            refine s_nil ?_
            refine p_seqN ?_
            refine v_cond rfl (fun c296 => ?_) (fun c296 => ?_)
            ·
              refine v_skip ?_
              refine p_seqN ?_
              refine v_block ?_
              refine v_ops ?_
              refine s_pure o5 (fun _ q => q) ?_
              refine s_pure (.pointer (some ⟨p_c, 0, none⟩)) (fun _ q => q) ?_
              refine s_call [.pointer (some ⟨p_c, 0, none⟩), .int .i64 6] rfl (spec_l1Cur_one_ok p_c t_c ((m_c + 12 + 20 * (6 - k) + 6 * (l5.length : Int)) + 2) lo_c 6 _ Ch293 (by first | omega | assumption | (simp; done) | (simp; omega))) ?_
              rintro _ h298 ⟨g297, rfl, Ch298, mh298⟩
              have zh298 := mh298.size
              have E299 := E294.new mh298 (fun b hb => .inl (by simp at hb; simp [hb]))
              refine s_pure (.bool (!g297)) (fun _ q => q) ?_
              refine s_pure (.pointer (some ⟨p_c, 0, none⟩)) (fun _ q => q) ?_
              refine s_pure (.int .i64 g16) (fun _ q => q) ?_
              refine s_pure (.int .i64 (bits .xor .i64 g16 1)) (fun _ q => BitsVC.mk q) ?_
              refine s_pure (.int .i64 g16) (fun _ q => q) ?_
              refine s_pure (.int .i64 (bits .xor .i64 g16 8)) (fun _ q => BitsVC.mk q) ?_
              refine s_row (α := Int) [0, 62, 63, (bits .xor .i64 g16 1), (bits .xor .i64 g16 8)] (fun _ q => seg_i rfl (seg_i rfl (seg_i rfl (seg_i rfl (seg_i rfl (seg_nil q)))))) rfl (by simp [maxLen]) (fun r300 h301 eh301 zh301 s_r300 fr_r300 => ?_)
              have E302 := E299.trans (Mod.of_ext eh301 _)
              have z303 := eh301.size
              have lt_r300 := s_r300.lt
              have f304 := (Ch298.ext eh301)
              refine s_call [.pointer (some ⟨p_c, 0, none⟩), r300] rfl (spec_l1Cur_among_ok p_c t_c (((m_c + 12 + 20 * (6 - k) + 6 * (l5.length : Int)) + 2) + 2) lo_c r300 [0, 62, 63, (bits .xor .i64 g16 1), (bits .xor .i64 g16 8)] _ f304 s_r300.toSl (fun b hb hc => by simp at hc; have := fr_r300 b hb; omega) (by first | omega | assumption | (simp; done) | (simp; omega)) (by first | omega | assumption | (simp; done) | (simp; omega))) ?_
              rintro _ h306 ⟨g305, rfl, qh306, Ch306, mh306⟩
              have zh306 := mh306.size
              have E307 := E302.new mh306 (fun b hb => .inl (by simp at hb; simp [hb]))
              simp only [List.mem_cons, List.not_mem_nil, or_false] at qh306
              refine s_pure (.agg #[.bool (!g297), .int .i64 g305]) (fun _ q => w_build (seg_b rfl (seg_i rfl (seg_nil q)))) ?_
              refine s_row (α := GlanceD) [(⟨(!g297), g305⟩ : GlanceD)] (fun _ q => seg_agg rfl rfl (seg_nil q)) rfl (by simp [maxLen]) (fun r308 h309 eh309 zh309 s_r308 fr_r308 => ?_)
              have E310 := E307.trans (Mod.of_ext eh309 _)
              have z311 := eh309.size
              have lt_r308 := s_r308.lt
              have f312 := (((((s_o5.mod mh293 (fun b hb hc => np_c_o5 (by simp at hc; rw [← hc]; exact hb))).mod mh298 (fun b hb hc => np_c_o5 (by simp at hc; rw [← hc]; exact hb))).ext eh301).mod mh306 (fun b hb hc => np_c_o5 (by simp at hc; rw [← hc]; exact hb))).ext eh309)
              refine s_app f312 s_r308 rfl rfl rfl (by simp [maxLen]; omega) (by simp; omega) (fun r313 h314 mh314 zh314 s_r313 ab_r313 => ?_)
              have E315 := E310.new mh314 (fun b hb => .inr (by have := fr_o5 b hb; omega))
              have fr_r313 := fr_o5.app ab_r313 (by omega)
              have np316 : p_c ∉ blks r313 := fun hc => (ab_r313 _ hc).elim np_c_o5 (fun hc => by omega)
              have np317 : ∀ b ∈ blks r300, b ∉ blks r313 := fun b hb hc => (ab_r313 _ hc).elim (((fun b hb hc => by have := fr_r300 b hb; have := lt_o5 b hc; omega) : ∀ b ∈ blks r300, b ∉ blks o5) b hb) (fun hc => by have := lt_r300 b hb; omega)
              have np318 : ∀ b ∈ blks r308, b ∉ blks r313 := fun b hb hc => (ab_r313 _ hc).elim (((fun b hb hc => by have := fr_r308 b hb; have := lt_o5 b hc; omega) : ∀ b ∈ blks r308, b ∉ blks o5) b hb) (fun hc => by have := lt_r308 b hb; omega)
              have lt_r313 := s_r313.lt
              refine s_pure r313 (fun _ q => q) ?_
              refine s_nil ?_
              refine p_blkN ?_
              have f319 := ((Ch306.ext eh309).mod mh314 np_c_o5 (fun b hb => by have := fr_o5 b hb; omega))
              exact p_lpN ⟨(l5 ++ [(⟨(!g297), g305⟩ : GlanceD)]), r313, ⟨rfl, rfl, rfl, rfl, rfl, rfl, rfl⟩, ⟨E315, (f319.le (by first | omega | (simp; done) | (simp; omega))), (sl_eq s_r313 (by simp)), (fr_r313.mono (by omega)), np316, (by first | omega | (simp; done) | (simp; omega))⟩, by first | omega | (simp; done) | (simp; omega)⟩
            ·
              refine v_exit ?_
              refine p_seqX ?_
              refine p_lpX ?_
              refine p_blkX ?_
              refine p_seqN ?_
              refine v_ops ?_
              refine s_pure o5 (fun _ q => q) ?_
              refine s_pure (.int .i64 g16) (fun _ q => q) ?_
              refine s_pure (.agg #[.bool true, .int .i64 g16]) (fun _ q => w_build (seg_b rfl (seg_i rfl (seg_nil q)))) ?_
              refine s_row (α := GlanceD) [(⟨true, g16⟩ : GlanceD)] (fun _ q => seg_agg rfl rfl (seg_nil q)) rfl (by simp [maxLen]) (fun r320 h321 eh321 zh321 s_r320 fr_r320 => ?_)
              have E322 := E294.trans (Mod.of_ext eh321 _)
              have z323 := eh321.size
              have lt_r320 := s_r320.lt
              have f324 := ((s_o5.mod mh293 (fun b hb hc => np_c_o5 (by simp at hc; rw [← hc]; exact hb))).ext eh321)
              refine s_app f324 s_r320 rfl rfl rfl (by simp [maxLen]; omega) (by simp; omega) (fun r325 h326 mh326 zh326 s_r325 ab_r325 => ?_)
              have E327 := E322.new mh326 (fun b hb => .inr (by have := fr_o5 b hb; omega))
              have fr_r325 := fr_o5.app ab_r325 (by omega)
              have np328 : p_c ∉ blks r325 := fun hc => (ab_r325 _ hc).elim np_c_o5 (fun hc => by omega)
              have np329 : ∀ b ∈ blks r320, b ∉ blks r325 := fun b hb hc => (ab_r325 _ hc).elim (((fun b hb hc => by have := fr_r320 b hb; have := lt_o5 b hc; omega) : ∀ b ∈ blks r320, b ∉ blks o5) b hb) (fun hc => by have := lt_r320 b hb; omega)
              have lt_r325 := s_r325.lt
              refine s_pure r325 (fun _ q => q) ?_
              refine s_nil ?_
              refine p_blkN ?_
              refine p_seqN ?_
              refine v_ops ?_
              refine s_pure (.int .i64 k) (fun _ q => q) ?_
              refine s_pure (.int .i64 (k - 1)) (fun _ q => ArithVC.mk (by omega) q) ?_
              refine s_pure (.int .i64 (k - 1)) (fun _ q => q) ?_
              refine s_nil ?_
              have f330 := ((Ch293.ext eh321).mod mh326 np_c_o5 (fun b hb => by have := fr_o5 b hb; omega))
              exact p_lpN ⟨(k - 1), (l5 ++ [(⟨true, g16⟩ : GlanceD)]), r325, ⟨rfl, rfl, rfl⟩, ⟨E327, (f330.le (by first | omega | (simp; done) | (simp; omega))), (sl_eq s_r325 (by simp)), (fr_r325.mono (by omega)), np328, (by exact ⟨by omega, by omega, by first | omega | (simp; done) | (simp; omega)⟩)⟩, by omega⟩
          ·
            refine s_pass rfl ?_
            refine s_pass rfl ?_
            refine s_pass rfl ?_
            refine s_pure (.bool false) (fun _ q => q) ?_
            refine s_nil ?_
            refine p_seqN ?_
            refine v_condN rfl (by simp) ?_
            refine v_exit ?_
            refine p_seqX ?_
            refine p_lpX ?_
            refine p_blkX ?_
            refine p_seqN ?_
            refine v_ops ?_
            refine s_pure o5 (fun _ q => q) ?_
            refine s_pure (.int .i64 g16) (fun _ q => q) ?_
            refine s_pure (.agg #[.bool true, .int .i64 g16]) (fun _ q => w_build (seg_b rfl (seg_i rfl (seg_nil q)))) ?_
            refine s_row (α := GlanceD) [(⟨true, g16⟩ : GlanceD)] (fun _ q => seg_agg rfl rfl (seg_nil q)) rfl (by simp [maxLen]) (fun r331 h332 eh332 zh332 s_r331 fr_r331 => ?_)
            have E333 := E294.trans (Mod.of_ext eh332 _)
            have z334 := eh332.size
            have lt_r331 := s_r331.lt
            have f335 := ((s_o5.mod mh293 (fun b hb hc => np_c_o5 (by simp at hc; rw [← hc]; exact hb))).ext eh332)
            refine s_app f335 s_r331 rfl rfl rfl (by simp [maxLen]; omega) (by simp; omega) (fun r336 h337 mh337 zh337 s_r336 ab_r336 => ?_)
            have E338 := E333.new mh337 (fun b hb => .inr (by have := fr_o5 b hb; omega))
            have fr_r336 := fr_o5.app ab_r336 (by omega)
            have np339 : p_c ∉ blks r336 := fun hc => (ab_r336 _ hc).elim np_c_o5 (fun hc => by omega)
            have np340 : ∀ b ∈ blks r331, b ∉ blks r336 := fun b hb hc => (ab_r336 _ hc).elim (((fun b hb hc => by have := fr_r331 b hb; have := lt_o5 b hc; omega) : ∀ b ∈ blks r331, b ∉ blks o5) b hb) (fun hc => by have := lt_r331 b hb; omega)
            have lt_r336 := s_r336.lt
            refine s_pure r336 (fun _ q => q) ?_
            refine s_nil ?_
            refine p_blkN ?_
            refine p_seqN ?_
            refine v_ops ?_
            refine s_pure (.int .i64 k) (fun _ q => q) ?_
            refine s_pure (.int .i64 (k - 1)) (fun _ q => ArithVC.mk (by omega) q) ?_
            refine s_pure (.int .i64 (k - 1)) (fun _ q => q) ?_
            refine s_nil ?_
            have f341 := ((Ch293.ext eh332).mod mh337 np_c_o5 (fun b hb => by have := fr_o5 b hb; omega))
            exact p_lpN ⟨(k - 1), (l5 ++ [(⟨true, g16⟩ : GlanceD)]), r336, ⟨rfl, rfl, rfl⟩, ⟨E338, (f341.le (by first | omega | (simp; done) | (simp; omega))), (sl_eq s_r336 (by simp)), (fr_r336.mono (by omega)), np339, (by exact ⟨by omega, by omega, by first | omega | (simp; done) | (simp; omega)⟩)⟩, by omega⟩
    ·
      refine s_pass rfl ?_
      refine s_pass rfl ?_
      refine s_pass rfl ?_
      refine s_pure (.bool false) (fun _ q => q) ?_
      refine s_nil ?_
      refine p_seqN ?_
      refine v_condN rfl (by simp) ?_
      refine v_skip ?_
      refine p_seqN ?_
      refine v_seq ?_
      refine v_seq ?_
      refine v_ops ?_
      refine s_pure (.pointer (some ⟨p_c, 0, none⟩)) (fun _ q => q) ?_
      refine s_call [.pointer (some ⟨p_c, 0, none⟩), .int .i64 6] rfl (spec_l1Cur_one_ok p_c t_c (((m_c + 2 + 20 * (6 - k) + 6 * (l4.length : Int)) + 2) + 2) lo_c 6 _ Ch17 (by first | omega | assumption | (simp; done) | (simp; omega))) ?_
      rintro _ h343 ⟨g342, rfl, Ch343, mh343⟩
      have zh343 := mh343.size
      have E344 := E18.new mh343 (fun b hb => .inl (by simp at hb; simp [hb]))
      refine s_nil ?_
      refine p_seqN ?_
      refine v_cond rfl (fun c345 => ?_) (fun c345 => ?_)
      ·
        refine v_ops ?_
        refine s_pure o4 (fun _ q => q) ?_
        refine s_pure (.pointer (some ⟨p_c, 0, none⟩)) (fun _ q => q) ?_
        refine s_row (α := Int) [0, 62, 63] (fun _ q => seg_i rfl (seg_i rfl (seg_i rfl (seg_nil q)))) rfl (by simp [maxLen]) (fun r346 h347 eh347 zh347 s_r346 fr_r346 => ?_)
        have E348 := E344.trans (Mod.of_ext eh347 _)
        have z349 := eh347.size
        have lt_r346 := s_r346.lt
        have f350 := (Ch343.ext eh347)
        refine s_call [.pointer (some ⟨p_c, 0, none⟩), r346] rfl (spec_l1Cur_among_ok p_c t_c ((((m_c + 2 + 20 * (6 - k) + 6 * (l4.length : Int)) + 2) + 2) + 2) lo_c r346 [0, 62, 63] _ f350 s_r346.toSl (fun b hb hc => by simp at hc; have := fr_r346 b hb; omega) (by first | omega | assumption | (simp; done) | (simp; omega)) (by first | omega | assumption | (simp; done) | (simp; omega))) ?_
        rintro _ h352 ⟨g351, rfl, qh352, Ch352, mh352⟩
        have zh352 := mh352.size
        have E353 := E348.new mh352 (fun b hb => .inl (by simp at hb; simp [hb]))
        simp only [List.mem_cons, List.not_mem_nil, or_false] at qh352
        refine s_pure (.agg #[.bool false, .int .i64 g351]) (fun _ q => w_build (seg_i rfl (seg_nil q))) ?_
        refine s_row (α := GlanceD) [(⟨false, g351⟩ : GlanceD)] (fun _ q => seg_agg rfl rfl (seg_nil q)) rfl (by simp [maxLen]) (fun r354 h355 eh355 zh355 s_r354 fr_r354 => ?_)
        have E356 := E353.trans (Mod.of_ext eh355 _)
        have z357 := eh355.size
        have lt_r354 := s_r354.lt
        have f358 := (((((((s_o4.mod mh9 (fun b hb hc => np_c_o4 (by simp at hc; rw [← hc]; exact hb))).ext eh12).mod mh17 (fun b hb hc => np_c_o4 (by simp at hc; rw [← hc]; exact hb))).mod mh343 (fun b hb hc => np_c_o4 (by simp at hc; rw [← hc]; exact hb))).ext eh347).mod mh352 (fun b hb hc => np_c_o4 (by simp at hc; rw [← hc]; exact hb))).ext eh355)
        refine s_app f358 s_r354 rfl rfl rfl (by simp [maxLen]; omega) (by simp; omega) (fun r359 h360 mh360 zh360 s_r359 ab_r359 => ?_)
        have E361 := E356.new mh360 (fun b hb => .inr (by have := fr_o4 b hb; omega))
        have fr_r359 := fr_o4.app ab_r359 (by omega)
        have np362 : p_c ∉ blks r359 := fun hc => (ab_r359 _ hc).elim np_c_o4 (fun hc => by omega)
        have np363 : ∀ b ∈ blks r11, b ∉ blks r359 := fun b hb hc => (ab_r359 _ hc).elim (((fun b hb hc => by have := fr_r11 b hb; have := lt_o4 b hc; omega) : ∀ b ∈ blks r11, b ∉ blks o4) b hb) (fun hc => by have := lt_r11 b hb; omega)
        have np364 : ∀ b ∈ blks r346, b ∉ blks r359 := fun b hb hc => (ab_r359 _ hc).elim (((fun b hb hc => by have := fr_r346 b hb; have := lt_o4 b hc; omega) : ∀ b ∈ blks r346, b ∉ blks o4) b hb) (fun hc => by have := lt_r346 b hb; omega)
        have np365 : ∀ b ∈ blks r354, b ∉ blks r359 := fun b hb hc => (ab_r359 _ hc).elim (((fun b hb hc => by have := fr_r354 b hb; have := lt_o4 b hc; omega) : ∀ b ∈ blks r354, b ∉ blks o4) b hb) (fun hc => by have := lt_r354 b hb; omega)
        have lt_r359 := s_r359.lt
        refine s_pure r359 (fun _ q => q) ?_
        refine s_nil ?_
        refine p_seqN ?_
        refine v_seq ?_
        refine v_ops ?_
        refine s_pure r359 (fun _ q => q) ?_
        refine s_pure (.int .i64 g16) (fun _ q => q) ?_
        refine s_pure (.agg #[.bool false, .int .i64 g16]) (fun _ q => w_build (seg_i rfl (seg_nil q))) ?_
        refine s_row (α := GlanceD) [(⟨false, g16⟩ : GlanceD)] (fun _ q => seg_agg rfl rfl (seg_nil q)) rfl (by simp [maxLen]) (fun r366 h367 eh367 zh367 s_r366 fr_r366 => ?_)
        have E368 := E361.trans (Mod.of_ext eh367 _)
        have z369 := eh367.size
        have lt_r366 := s_r366.lt
        have f370 := (s_r359.ext eh367)
        refine s_app f370 s_r366 rfl rfl rfl (by simp [maxLen]; omega) (by simp; omega) (fun r371 h372 mh372 zh372 s_r371 ab_r371 => ?_)
        have E373 := E368.new mh372 (fun b hb => .inr (by have := fr_r359 b hb; omega))
        have fr_r371 := fr_r359.app ab_r371 (by omega)
        have np374 : p_c ∉ blks r371 := fun hc => (ab_r371 _ hc).elim np362 (fun hc => by omega)
        have np375 : ∀ b ∈ blks r11, b ∉ blks r371 := fun b hb hc => (ab_r371 _ hc).elim ((np363 : ∀ b ∈ blks r11, b ∉ blks r359) b hb) (fun hc => by have := lt_r11 b hb; omega)
        have np376 : ∀ b ∈ blks r11, b ∉ blks r371 := fun b hb hc => (ab_r371 _ hc).elim ((np363 : ∀ b ∈ blks r11, b ∉ blks r359) b hb) (fun hc => by have := lt_r11 b hb; omega)
        have np377 : ∀ b ∈ blks r346, b ∉ blks r371 := fun b hb hc => (ab_r371 _ hc).elim ((np364 : ∀ b ∈ blks r346, b ∉ blks r359) b hb) (fun hc => by have := lt_r346 b hb; omega)
        have np378 : ∀ b ∈ blks r346, b ∉ blks r371 := fun b hb hc => (ab_r371 _ hc).elim ((np364 : ∀ b ∈ blks r346, b ∉ blks r359) b hb) (fun hc => by have := lt_r346 b hb; omega)
        have np379 : ∀ b ∈ blks r354, b ∉ blks r371 := fun b hb hc => (ab_r371 _ hc).elim ((np365 : ∀ b ∈ blks r354, b ∉ blks r359) b hb) (fun hc => by have := lt_r354 b hb; omega)
        have np380 : ∀ b ∈ blks r354, b ∉ blks r371 := fun b hb hc => (ab_r371 _ hc).elim ((np365 : ∀ b ∈ blks r354, b ∉ blks r359) b hb) (fun hc => by have := lt_r354 b hb; omega)
        have np381 : ∀ b ∈ blks r366, b ∉ blks r371 := fun b hb hc => (ab_r371 _ hc).elim (((fun b hb hc => by have := fr_r366 b hb; have := lt_r359 b hc; omega) : ∀ b ∈ blks r366, b ∉ blks r359) b hb) (fun hc => by have := lt_r366 b hb; omega)
        have lt_r371 := s_r371.lt
        refine s_pure r371 (fun _ q => q) ?_
        refine s_nil ?_
        refine p_seqN ?_
        refine v_seq ?_
        refine v_block ?_
        have f383 := ((((Ch352.ext eh355).mod mh360 np_c_o4 (fun b hb => by have := fr_o4 b hb; omega)).ext eh367).mod mh372 np362 (fun b hb => by have := fr_r359 b hb; omega))
        refine v_loop2 (α := List GlanceD) (β := Value) (fun l5 o5 => [(0, .pointer (some ⟨p_c, 0, none⟩)), (3, o5), (4, .int .i64 k), (5, .int .i64 g16)]) (fun l5 o5 hh => Mod [p_c] h hh ∧ Cur hh p_c t_c (m_c + 12 + 20 * (6 - k) + 6 * (l5.length : Int)) lo_c ∧ SlO hh o5 l5 ∧ Fr h.size o5 ∧ p_c ∉ blks o5 ∧ (l5.length : Int) ≤ 73 + 3 * (6 - k)) (fun l5 o5 => 70 - l5.length) ((l4 ++ [(⟨false, g351⟩ : GlanceD)]) ++ [(⟨false, g16⟩ : GlanceD)]) r371 ⟨rfl, rfl, rfl, rfl⟩ ⟨E373, (f383.le (by first | omega | (simp; done) | (simp; omega))), (sl_eq s_r371 (by simp)), (fr_r371.mono (by omega)), np374, (by first | omega | (simp; done) | (simp; omega))⟩ ?_
        rintro l5 o5 R384 h382 ⟨Eh, bxc, s_o5, fr_o5, np_c_o5, hl5⟩
        have zEh := Eh.size
        have lbc := bxc.lt
        have lt_o5 := s_o5.lt
        refine v_seq ?_
        refine v_seq ?_
        refine v_ops ?_
        refine s_pure (.pointer (some ⟨p_c, 0, none⟩)) (fun _ q => q) ?_
        refine s_call [.pointer (some ⟨p_c, 0, none⟩), .int .i64 3] rfl (spec_l1Cur_one_ok p_c t_c (m_c + 12 + 20 * (6 - k) + 6 * (l5.length : Int)) lo_c 3 _ bxc (by first | omega | assumption | (simp; done) | (simp; omega))) ?_
        rintro _ h387 ⟨g386, rfl, Ch387, mh387⟩
        have zh387 := mh387.size
        have E388 := Eh.new mh387 (fun b hb => .inl (by simp at hb; simp [hb]))
        refine s_pure (.bool g386) (fun _ q => q) ?_
        refine s_splitT rfl (fun c389 => ?_) (fun c389 => ?_)
        ·
          refine s_run rfl ?_
          refine s_pure o5 (fun _ q => q) ?_
          refine s_run rfl ?_
          refine s_pure (.int .i64 (l5.length : Int)) (fun _ q => s_o5.lenVC q) ?_
          refine s_run rfl ?_
          refine s_pure (.bool (decide ((l5.length : Int) < 70))) (fun _ q => q) ?_
          refine s_pure (.bool (decide ((l5.length : Int) < 70))) (fun _ q => q) ?_
          refine s_nil ?_
          refine p_seqN ?_
          refine v_cond rfl (fun c390 => ?_) (fun c390 => ?_)
          ·
            refine v_skip ?_
            refine p_seqN ?_
            refine v_block ?_
            refine v_ops ?_
            refine s_pure o5 (fun _ q => q) ?_
            refine s_pure (.pointer (some ⟨p_c, 0, none⟩)) (fun _ q => q) ?_
            refine s_call [.pointer (some ⟨p_c, 0, none⟩), .int .i64 6] rfl (spec_l1Cur_one_ok p_c t_c ((m_c + 12 + 20 * (6 - k) + 6 * (l5.length : Int)) + 2) lo_c 6 _ Ch387 (by first | omega | assumption | (simp; done) | (simp; omega))) ?_
            rintro _ h392 ⟨g391, rfl, Ch392, mh392⟩
            have zh392 := mh392.size
            have E393 := E388.new mh392 (fun b hb => .inl (by simp at hb; simp [hb]))
            refine s_pure (.bool (!g391)) (fun _ q => q) ?_
            refine s_pure (.pointer (some ⟨p_c, 0, none⟩)) (fun _ q => q) ?_
            refine s_pure (.int .i64 g16) (fun _ q => q) ?_
            refine s_pure (.int .i64 (bits .xor .i64 g16 1)) (fun _ q => BitsVC.mk q) ?_
            refine s_pure (.int .i64 g16) (fun _ q => q) ?_
            refine s_pure (.int .i64 (bits .xor .i64 g16 8)) (fun _ q => BitsVC.mk q) ?_
            refine s_row (α := Int) [0, 62, 63, (bits .xor .i64 g16 1), (bits .xor .i64 g16 8)] (fun _ q => seg_i rfl (seg_i rfl (seg_i rfl (seg_i rfl (seg_i rfl (seg_nil q)))))) rfl (by simp [maxLen]) (fun r394 h395 eh395 zh395 s_r394 fr_r394 => ?_)
            have E396 := E393.trans (Mod.of_ext eh395 _)
            have z397 := eh395.size
            have lt_r394 := s_r394.lt
            have f398 := (Ch392.ext eh395)
            refine s_call [.pointer (some ⟨p_c, 0, none⟩), r394] rfl (spec_l1Cur_among_ok p_c t_c (((m_c + 12 + 20 * (6 - k) + 6 * (l5.length : Int)) + 2) + 2) lo_c r394 [0, 62, 63, (bits .xor .i64 g16 1), (bits .xor .i64 g16 8)] _ f398 s_r394.toSl (fun b hb hc => by simp at hc; have := fr_r394 b hb; omega) (by first | omega | assumption | (simp; done) | (simp; omega)) (by first | omega | assumption | (simp; done) | (simp; omega))) ?_
            rintro _ h400 ⟨g399, rfl, qh400, Ch400, mh400⟩
            have zh400 := mh400.size
            have E401 := E396.new mh400 (fun b hb => .inl (by simp at hb; simp [hb]))
            simp only [List.mem_cons, List.not_mem_nil, or_false] at qh400
            refine s_pure (.agg #[.bool (!g391), .int .i64 g399]) (fun _ q => w_build (seg_b rfl (seg_i rfl (seg_nil q)))) ?_
            refine s_row (α := GlanceD) [(⟨(!g391), g399⟩ : GlanceD)] (fun _ q => seg_agg rfl rfl (seg_nil q)) rfl (by simp [maxLen]) (fun r402 h403 eh403 zh403 s_r402 fr_r402 => ?_)
            have E404 := E401.trans (Mod.of_ext eh403 _)
            have z405 := eh403.size
            have lt_r402 := s_r402.lt
            have f406 := (((((s_o5.mod mh387 (fun b hb hc => np_c_o5 (by simp at hc; rw [← hc]; exact hb))).mod mh392 (fun b hb hc => np_c_o5 (by simp at hc; rw [← hc]; exact hb))).ext eh395).mod mh400 (fun b hb hc => np_c_o5 (by simp at hc; rw [← hc]; exact hb))).ext eh403)
            refine s_app f406 s_r402 rfl rfl rfl (by simp [maxLen]; omega) (by simp; omega) (fun r407 h408 mh408 zh408 s_r407 ab_r407 => ?_)
            have E409 := E404.new mh408 (fun b hb => .inr (by have := fr_o5 b hb; omega))
            have fr_r407 := fr_o5.app ab_r407 (by omega)
            have np410 : p_c ∉ blks r407 := fun hc => (ab_r407 _ hc).elim np_c_o5 (fun hc => by omega)
            have np411 : ∀ b ∈ blks r394, b ∉ blks r407 := fun b hb hc => (ab_r407 _ hc).elim (((fun b hb hc => by have := fr_r394 b hb; have := lt_o5 b hc; omega) : ∀ b ∈ blks r394, b ∉ blks o5) b hb) (fun hc => by have := lt_r394 b hb; omega)
            have np412 : ∀ b ∈ blks r402, b ∉ blks r407 := fun b hb hc => (ab_r407 _ hc).elim (((fun b hb hc => by have := fr_r402 b hb; have := lt_o5 b hc; omega) : ∀ b ∈ blks r402, b ∉ blks o5) b hb) (fun hc => by have := lt_r402 b hb; omega)
            have lt_r407 := s_r407.lt
            refine s_pure r407 (fun _ q => q) ?_
            refine s_nil ?_
            refine p_blkN ?_
            have f413 := ((Ch400.ext eh403).mod mh408 np_c_o5 (fun b hb => by have := fr_o5 b hb; omega))
            exact p_lpN ⟨(l5 ++ [(⟨(!g391), g399⟩ : GlanceD)]), r407, ⟨rfl, rfl, rfl, rfl⟩, ⟨E409, (f413.le (by first | omega | (simp; done) | (simp; omega))), (sl_eq s_r407 (by simp)), (fr_r407.mono (by omega)), np410, (by first | omega | (simp; done) | (simp; omega))⟩, by first | omega | (simp; done) | (simp; omega)⟩
          ·
            refine v_exit ?_
            refine p_seqX ?_
            refine p_lpX ?_
            refine p_blkX ?_
            refine p_seqN ?_
            refine v_ops ?_
            refine s_pure o5 (fun _ q => q) ?_
            refine s_pure (.int .i64 g16) (fun _ q => q) ?_
            refine s_pure (.agg #[.bool true, .int .i64 g16]) (fun _ q => w_build (seg_b rfl (seg_i rfl (seg_nil q)))) ?_
            refine s_row (α := GlanceD) [(⟨true, g16⟩ : GlanceD)] (fun _ q => seg_agg rfl rfl (seg_nil q)) rfl (by simp [maxLen]) (fun r414 h415 eh415 zh415 s_r414 fr_r414 => ?_)
            have E416 := E388.trans (Mod.of_ext eh415 _)
            have z417 := eh415.size
            have lt_r414 := s_r414.lt
            have f418 := ((s_o5.mod mh387 (fun b hb hc => np_c_o5 (by simp at hc; rw [← hc]; exact hb))).ext eh415)
            refine s_app f418 s_r414 rfl rfl rfl (by simp [maxLen]; omega) (by simp; omega) (fun r419 h420 mh420 zh420 s_r419 ab_r419 => ?_)
            have E421 := E416.new mh420 (fun b hb => .inr (by have := fr_o5 b hb; omega))
            have fr_r419 := fr_o5.app ab_r419 (by omega)
            have np422 : p_c ∉ blks r419 := fun hc => (ab_r419 _ hc).elim np_c_o5 (fun hc => by omega)
            have np423 : ∀ b ∈ blks r414, b ∉ blks r419 := fun b hb hc => (ab_r419 _ hc).elim (((fun b hb hc => by have := fr_r414 b hb; have := lt_o5 b hc; omega) : ∀ b ∈ blks r414, b ∉ blks o5) b hb) (fun hc => by have := lt_r414 b hb; omega)
            have lt_r419 := s_r419.lt
            refine s_pure r419 (fun _ q => q) ?_
            refine s_nil ?_
            refine p_blkN ?_
            refine p_seqN ?_
            refine v_ops ?_
            refine s_pure (.int .i64 k) (fun _ q => q) ?_
            refine s_pure (.int .i64 (k - 1)) (fun _ q => ArithVC.mk (by omega) q) ?_
            refine s_pure (.int .i64 (k - 1)) (fun _ q => q) ?_
            refine s_nil ?_
            have f424 := ((Ch387.ext eh415).mod mh420 np_c_o5 (fun b hb => by have := fr_o5 b hb; omega))
            exact p_lpN ⟨(k - 1), (l5 ++ [(⟨true, g16⟩ : GlanceD)]), r419, ⟨rfl, rfl, rfl⟩, ⟨E421, (f424.le (by first | omega | (simp; done) | (simp; omega))), (sl_eq s_r419 (by simp)), (fr_r419.mono (by omega)), np422, (by exact ⟨by omega, by omega, by first | omega | (simp; done) | (simp; omega)⟩)⟩, by omega⟩
        ·
          refine s_pass rfl ?_
          refine s_pass rfl ?_
          refine s_pass rfl ?_
          refine s_pure (.bool false) (fun _ q => q) ?_
          refine s_nil ?_
          refine p_seqN ?_
          refine v_condN rfl (by simp) ?_
          refine v_exit ?_
          refine p_seqX ?_
          refine p_lpX ?_
          refine p_blkX ?_
          refine p_seqN ?_
          refine v_ops ?_
          refine s_pure o5 (fun _ q => q) ?_
          refine s_pure (.int .i64 g16) (fun _ q => q) ?_
          refine s_pure (.agg #[.bool true, .int .i64 g16]) (fun _ q => w_build (seg_b rfl (seg_i rfl (seg_nil q)))) ?_
          refine s_row (α := GlanceD) [(⟨true, g16⟩ : GlanceD)] (fun _ q => seg_agg rfl rfl (seg_nil q)) rfl (by simp [maxLen]) (fun r425 h426 eh426 zh426 s_r425 fr_r425 => ?_)
          have E427 := E388.trans (Mod.of_ext eh426 _)
          have z428 := eh426.size
          have lt_r425 := s_r425.lt
          have f429 := ((s_o5.mod mh387 (fun b hb hc => np_c_o5 (by simp at hc; rw [← hc]; exact hb))).ext eh426)
          refine s_app f429 s_r425 rfl rfl rfl (by simp [maxLen]; omega) (by simp; omega) (fun r430 h431 mh431 zh431 s_r430 ab_r430 => ?_)
          have E432 := E427.new mh431 (fun b hb => .inr (by have := fr_o5 b hb; omega))
          have fr_r430 := fr_o5.app ab_r430 (by omega)
          have np433 : p_c ∉ blks r430 := fun hc => (ab_r430 _ hc).elim np_c_o5 (fun hc => by omega)
          have np434 : ∀ b ∈ blks r425, b ∉ blks r430 := fun b hb hc => (ab_r430 _ hc).elim (((fun b hb hc => by have := fr_r425 b hb; have := lt_o5 b hc; omega) : ∀ b ∈ blks r425, b ∉ blks o5) b hb) (fun hc => by have := lt_r425 b hb; omega)
          have lt_r430 := s_r430.lt
          refine s_pure r430 (fun _ q => q) ?_
          refine s_nil ?_
          refine p_blkN ?_
          refine p_seqN ?_
          refine v_ops ?_
          refine s_pure (.int .i64 k) (fun _ q => q) ?_
          refine s_pure (.int .i64 (k - 1)) (fun _ q => ArithVC.mk (by omega) q) ?_
          refine s_pure (.int .i64 (k - 1)) (fun _ q => q) ?_
          refine s_nil ?_
          have f435 := ((Ch387.ext eh426).mod mh431 np_c_o5 (fun b hb => by have := fr_o5 b hb; omega))
          exact p_lpN ⟨(k - 1), (l5 ++ [(⟨true, g16⟩ : GlanceD)]), r430, ⟨rfl, rfl, rfl⟩, ⟨E432, (f435.le (by first | omega | (simp; done) | (simp; omega))), (sl_eq s_r430 (by simp)), (fr_r430.mono (by omega)), np433, (by exact ⟨by omega, by omega, by first | omega | (simp; done) | (simp; omega)⟩)⟩, by omega⟩
      ·
        refine v_skip ?_
        refine p_seqN ?_
        refine v_seq ?_
        refine v_ops ?_
        refine s_pure o4 (fun _ q => q) ?_
        refine s_pure (.int .i64 g16) (fun _ q => q) ?_
        refine s_pure (.agg #[.bool false, .int .i64 g16]) (fun _ q => w_build (seg_i rfl (seg_nil q))) ?_
        refine s_row (α := GlanceD) [(⟨false, g16⟩ : GlanceD)] (fun _ q => seg_agg rfl rfl (seg_nil q)) rfl (by simp [maxLen]) (fun r436 h437 eh437 zh437 s_r436 fr_r436 => ?_)
        have E438 := E344.trans (Mod.of_ext eh437 _)
        have z439 := eh437.size
        have lt_r436 := s_r436.lt
        have f440 := (((((s_o4.mod mh9 (fun b hb hc => np_c_o4 (by simp at hc; rw [← hc]; exact hb))).ext eh12).mod mh17 (fun b hb hc => np_c_o4 (by simp at hc; rw [← hc]; exact hb))).mod mh343 (fun b hb hc => np_c_o4 (by simp at hc; rw [← hc]; exact hb))).ext eh437)
        refine s_app f440 s_r436 rfl rfl rfl (by simp [maxLen]; omega) (by simp; omega) (fun r441 h442 mh442 zh442 s_r441 ab_r441 => ?_)
        have E443 := E438.new mh442 (fun b hb => .inr (by have := fr_o4 b hb; omega))
        have fr_r441 := fr_o4.app ab_r441 (by omega)
        have np444 : p_c ∉ blks r441 := fun hc => (ab_r441 _ hc).elim np_c_o4 (fun hc => by omega)
        have np445 : ∀ b ∈ blks r11, b ∉ blks r441 := fun b hb hc => (ab_r441 _ hc).elim (((fun b hb hc => by have := fr_r11 b hb; have := lt_o4 b hc; omega) : ∀ b ∈ blks r11, b ∉ blks o4) b hb) (fun hc => by have := lt_r11 b hb; omega)
        have np446 : ∀ b ∈ blks r436, b ∉ blks r441 := fun b hb hc => (ab_r441 _ hc).elim (((fun b hb hc => by have := fr_r436 b hb; have := lt_o4 b hc; omega) : ∀ b ∈ blks r436, b ∉ blks o4) b hb) (fun hc => by have := lt_r436 b hb; omega)
        have lt_r441 := s_r441.lt
        refine s_pure r441 (fun _ q => q) ?_
        refine s_nil ?_
        refine p_seqN ?_
        refine v_seq ?_
        refine v_block ?_
        have f448 := ((Ch343.ext eh437).mod mh442 np_c_o4 (fun b hb => by have := fr_o4 b hb; omega))
        refine v_loop2 (α := List GlanceD) (β := Value) (fun l5 o5 => [(0, .pointer (some ⟨p_c, 0, none⟩)), (3, o5), (4, .int .i64 k), (5, .int .i64 g16)]) (fun l5 o5 hh => Mod [p_c] h hh ∧ Cur hh p_c t_c (m_c + 12 + 20 * (6 - k) + 6 * (l5.length : Int)) lo_c ∧ SlO hh o5 l5 ∧ Fr h.size o5 ∧ p_c ∉ blks o5 ∧ (l5.length : Int) ≤ 73 + 3 * (6 - k)) (fun l5 o5 => 70 - l5.length) (l4 ++ [(⟨false, g16⟩ : GlanceD)]) r441 ⟨rfl, rfl, rfl, rfl⟩ ⟨E443, (f448.le (by first | omega | (simp; done) | (simp; omega))), (sl_eq s_r441 (by simp)), (fr_r441.mono (by omega)), np444, (by first | omega | (simp; done) | (simp; omega))⟩ ?_
        rintro l5 o5 R449 h447 ⟨Eh, bxc, s_o5, fr_o5, np_c_o5, hl5⟩
        have zEh := Eh.size
        have lbc := bxc.lt
        have lt_o5 := s_o5.lt
        refine v_seq ?_
        refine v_seq ?_
        refine v_ops ?_
        refine s_pure (.pointer (some ⟨p_c, 0, none⟩)) (fun _ q => q) ?_
        refine s_call [.pointer (some ⟨p_c, 0, none⟩), .int .i64 3] rfl (spec_l1Cur_one_ok p_c t_c (m_c + 12 + 20 * (6 - k) + 6 * (l5.length : Int)) lo_c 3 _ bxc (by first | omega | assumption | (simp; done) | (simp; omega))) ?_
        rintro _ h452 ⟨g451, rfl, Ch452, mh452⟩
        have zh452 := mh452.size
        have E453 := Eh.new mh452 (fun b hb => .inl (by simp at hb; simp [hb]))
        refine s_pure (.bool g451) (fun _ q => q) ?_
        refine s_splitT rfl (fun c454 => ?_) (fun c454 => ?_)
        ·
          refine s_run rfl ?_
          refine s_pure o5 (fun _ q => q) ?_
          refine s_run rfl ?_
          refine s_pure (.int .i64 (l5.length : Int)) (fun _ q => s_o5.lenVC q) ?_
          refine s_run rfl ?_
          refine s_pure (.bool (decide ((l5.length : Int) < 70))) (fun _ q => q) ?_
          refine s_pure (.bool (decide ((l5.length : Int) < 70))) (fun _ q => q) ?_
          refine s_nil ?_
          refine p_seqN ?_
          refine v_cond rfl (fun c455 => ?_) (fun c455 => ?_)
          ·
            refine v_skip ?_
            refine p_seqN ?_
            refine v_block ?_
            refine v_ops ?_
            refine s_pure o5 (fun _ q => q) ?_
            refine s_pure (.pointer (some ⟨p_c, 0, none⟩)) (fun _ q => q) ?_
            refine s_call [.pointer (some ⟨p_c, 0, none⟩), .int .i64 6] rfl (spec_l1Cur_one_ok p_c t_c ((m_c + 12 + 20 * (6 - k) + 6 * (l5.length : Int)) + 2) lo_c 6 _ Ch452 (by first | omega | assumption | (simp; done) | (simp; omega))) ?_
            rintro _ h457 ⟨g456, rfl, Ch457, mh457⟩
            have zh457 := mh457.size
            have E458 := E453.new mh457 (fun b hb => .inl (by simp at hb; simp [hb]))
            refine s_pure (.bool (!g456)) (fun _ q => q) ?_
            refine s_pure (.pointer (some ⟨p_c, 0, none⟩)) (fun _ q => q) ?_
            refine s_pure (.int .i64 g16) (fun _ q => q) ?_
            refine s_pure (.int .i64 (bits .xor .i64 g16 1)) (fun _ q => BitsVC.mk q) ?_
            refine s_pure (.int .i64 g16) (fun _ q => q) ?_
            refine s_pure (.int .i64 (bits .xor .i64 g16 8)) (fun _ q => BitsVC.mk q) ?_
            refine s_row (α := Int) [0, 62, 63, (bits .xor .i64 g16 1), (bits .xor .i64 g16 8)] (fun _ q => seg_i rfl (seg_i rfl (seg_i rfl (seg_i rfl (seg_i rfl (seg_nil q)))))) rfl (by simp [maxLen]) (fun r459 h460 eh460 zh460 s_r459 fr_r459 => ?_)
            have E461 := E458.trans (Mod.of_ext eh460 _)
            have z462 := eh460.size
            have lt_r459 := s_r459.lt
            have f463 := (Ch457.ext eh460)
            refine s_call [.pointer (some ⟨p_c, 0, none⟩), r459] rfl (spec_l1Cur_among_ok p_c t_c (((m_c + 12 + 20 * (6 - k) + 6 * (l5.length : Int)) + 2) + 2) lo_c r459 [0, 62, 63, (bits .xor .i64 g16 1), (bits .xor .i64 g16 8)] _ f463 s_r459.toSl (fun b hb hc => by simp at hc; have := fr_r459 b hb; omega) (by first | omega | assumption | (simp; done) | (simp; omega)) (by first | omega | assumption | (simp; done) | (simp; omega))) ?_
            rintro _ h465 ⟨g464, rfl, qh465, Ch465, mh465⟩
            have zh465 := mh465.size
            have E466 := E461.new mh465 (fun b hb => .inl (by simp at hb; simp [hb]))
            simp only [List.mem_cons, List.not_mem_nil, or_false] at qh465
            refine s_pure (.agg #[.bool (!g456), .int .i64 g464]) (fun _ q => w_build (seg_b rfl (seg_i rfl (seg_nil q)))) ?_
            refine s_row (α := GlanceD) [(⟨(!g456), g464⟩ : GlanceD)] (fun _ q => seg_agg rfl rfl (seg_nil q)) rfl (by simp [maxLen]) (fun r467 h468 eh468 zh468 s_r467 fr_r467 => ?_)
            have E469 := E466.trans (Mod.of_ext eh468 _)
            have z470 := eh468.size
            have lt_r467 := s_r467.lt
            have f471 := (((((s_o5.mod mh452 (fun b hb hc => np_c_o5 (by simp at hc; rw [← hc]; exact hb))).mod mh457 (fun b hb hc => np_c_o5 (by simp at hc; rw [← hc]; exact hb))).ext eh460).mod mh465 (fun b hb hc => np_c_o5 (by simp at hc; rw [← hc]; exact hb))).ext eh468)
            refine s_app f471 s_r467 rfl rfl rfl (by simp [maxLen]; omega) (by simp; omega) (fun r472 h473 mh473 zh473 s_r472 ab_r472 => ?_)
            have E474 := E469.new mh473 (fun b hb => .inr (by have := fr_o5 b hb; omega))
            have fr_r472 := fr_o5.app ab_r472 (by omega)
            have np475 : p_c ∉ blks r472 := fun hc => (ab_r472 _ hc).elim np_c_o5 (fun hc => by omega)
            have np476 : ∀ b ∈ blks r459, b ∉ blks r472 := fun b hb hc => (ab_r472 _ hc).elim (((fun b hb hc => by have := fr_r459 b hb; have := lt_o5 b hc; omega) : ∀ b ∈ blks r459, b ∉ blks o5) b hb) (fun hc => by have := lt_r459 b hb; omega)
            have np477 : ∀ b ∈ blks r467, b ∉ blks r472 := fun b hb hc => (ab_r472 _ hc).elim (((fun b hb hc => by have := fr_r467 b hb; have := lt_o5 b hc; omega) : ∀ b ∈ blks r467, b ∉ blks o5) b hb) (fun hc => by have := lt_r467 b hb; omega)
            have lt_r472 := s_r472.lt
            refine s_pure r472 (fun _ q => q) ?_
            refine s_nil ?_
            refine p_blkN ?_
            have f478 := ((Ch465.ext eh468).mod mh473 np_c_o5 (fun b hb => by have := fr_o5 b hb; omega))
            exact p_lpN ⟨(l5 ++ [(⟨(!g456), g464⟩ : GlanceD)]), r472, ⟨rfl, rfl, rfl, rfl⟩, ⟨E474, (f478.le (by first | omega | (simp; done) | (simp; omega))), (sl_eq s_r472 (by simp)), (fr_r472.mono (by omega)), np475, (by first | omega | (simp; done) | (simp; omega))⟩, by first | omega | (simp; done) | (simp; omega)⟩
          ·
            refine v_exit ?_
            refine p_seqX ?_
            refine p_lpX ?_
            refine p_blkX ?_
            refine p_seqN ?_
            refine v_ops ?_
            refine s_pure o5 (fun _ q => q) ?_
            refine s_pure (.int .i64 g16) (fun _ q => q) ?_
            refine s_pure (.agg #[.bool true, .int .i64 g16]) (fun _ q => w_build (seg_b rfl (seg_i rfl (seg_nil q)))) ?_
            refine s_row (α := GlanceD) [(⟨true, g16⟩ : GlanceD)] (fun _ q => seg_agg rfl rfl (seg_nil q)) rfl (by simp [maxLen]) (fun r479 h480 eh480 zh480 s_r479 fr_r479 => ?_)
            have E481 := E453.trans (Mod.of_ext eh480 _)
            have z482 := eh480.size
            have lt_r479 := s_r479.lt
            have f483 := ((s_o5.mod mh452 (fun b hb hc => np_c_o5 (by simp at hc; rw [← hc]; exact hb))).ext eh480)
            refine s_app f483 s_r479 rfl rfl rfl (by simp [maxLen]; omega) (by simp; omega) (fun r484 h485 mh485 zh485 s_r484 ab_r484 => ?_)
            have E486 := E481.new mh485 (fun b hb => .inr (by have := fr_o5 b hb; omega))
            have fr_r484 := fr_o5.app ab_r484 (by omega)
            have np487 : p_c ∉ blks r484 := fun hc => (ab_r484 _ hc).elim np_c_o5 (fun hc => by omega)
            have np488 : ∀ b ∈ blks r479, b ∉ blks r484 := fun b hb hc => (ab_r484 _ hc).elim (((fun b hb hc => by have := fr_r479 b hb; have := lt_o5 b hc; omega) : ∀ b ∈ blks r479, b ∉ blks o5) b hb) (fun hc => by have := lt_r479 b hb; omega)
            have lt_r484 := s_r484.lt
            refine s_pure r484 (fun _ q => q) ?_
            refine s_nil ?_
            refine p_blkN ?_
            refine p_seqN ?_
            refine v_ops ?_
            refine s_pure (.int .i64 k) (fun _ q => q) ?_
            refine s_pure (.int .i64 (k - 1)) (fun _ q => ArithVC.mk (by omega) q) ?_
            refine s_pure (.int .i64 (k - 1)) (fun _ q => q) ?_
            refine s_nil ?_
            have f489 := ((Ch452.ext eh480).mod mh485 np_c_o5 (fun b hb => by have := fr_o5 b hb; omega))
            exact p_lpN ⟨(k - 1), (l5 ++ [(⟨true, g16⟩ : GlanceD)]), r484, ⟨rfl, rfl, rfl⟩, ⟨E486, (f489.le (by first | omega | (simp; done) | (simp; omega))), (sl_eq s_r484 (by simp)), (fr_r484.mono (by omega)), np487, (by exact ⟨by omega, by omega, by first | omega | (simp; done) | (simp; omega)⟩)⟩, by omega⟩
        ·
          refine s_pass rfl ?_
          refine s_pass rfl ?_
          refine s_pass rfl ?_
          refine s_pure (.bool false) (fun _ q => q) ?_
          refine s_nil ?_
          refine p_seqN ?_
          refine v_condN rfl (by simp) ?_
          refine v_exit ?_
          refine p_seqX ?_
          refine p_lpX ?_
          refine p_blkX ?_
          refine p_seqN ?_
          refine v_ops ?_
          refine s_pure o5 (fun _ q => q) ?_
          refine s_pure (.int .i64 g16) (fun _ q => q) ?_
          refine s_pure (.agg #[.bool true, .int .i64 g16]) (fun _ q => w_build (seg_b rfl (seg_i rfl (seg_nil q)))) ?_
          refine s_row (α := GlanceD) [(⟨true, g16⟩ : GlanceD)] (fun _ q => seg_agg rfl rfl (seg_nil q)) rfl (by simp [maxLen]) (fun r490 h491 eh491 zh491 s_r490 fr_r490 => ?_)
          have E492 := E453.trans (Mod.of_ext eh491 _)
          have z493 := eh491.size
          have lt_r490 := s_r490.lt
          have f494 := ((s_o5.mod mh452 (fun b hb hc => np_c_o5 (by simp at hc; rw [← hc]; exact hb))).ext eh491)
          refine s_app f494 s_r490 rfl rfl rfl (by simp [maxLen]; omega) (by simp; omega) (fun r495 h496 mh496 zh496 s_r495 ab_r495 => ?_)
          have E497 := E492.new mh496 (fun b hb => .inr (by have := fr_o5 b hb; omega))
          have fr_r495 := fr_o5.app ab_r495 (by omega)
          have np498 : p_c ∉ blks r495 := fun hc => (ab_r495 _ hc).elim np_c_o5 (fun hc => by omega)
          have np499 : ∀ b ∈ blks r490, b ∉ blks r495 := fun b hb hc => (ab_r495 _ hc).elim (((fun b hb hc => by have := fr_r490 b hb; have := lt_o5 b hc; omega) : ∀ b ∈ blks r490, b ∉ blks o5) b hb) (fun hc => by have := lt_r490 b hb; omega)
          have lt_r495 := s_r495.lt
          refine s_pure r495 (fun _ q => q) ?_
          refine s_nil ?_
          refine p_blkN ?_
          refine p_seqN ?_
          refine v_ops ?_
          refine s_pure (.int .i64 k) (fun _ q => q) ?_
          refine s_pure (.int .i64 (k - 1)) (fun _ q => ArithVC.mk (by omega) q) ?_
          refine s_pure (.int .i64 (k - 1)) (fun _ q => q) ?_
          refine s_nil ?_
          have f500 := ((Ch452.ext eh491).mod mh496 np_c_o5 (fun b hb => by have := fr_o5 b hb; omega))
          exact p_lpN ⟨(k - 1), (l5 ++ [(⟨true, g16⟩ : GlanceD)]), r495, ⟨rfl, rfl, rfl⟩, ⟨E497, (f500.le (by first | omega | (simp; done) | (simp; omega))), (sl_eq s_r495 (by simp)), (fr_r495.mono (by omega)), np498, (by exact ⟨by omega, by omega, by first | omega | (simp; done) | (simp; omega)⟩)⟩, by omega⟩
  ·
    refine v_exit ?_
    refine p_seqX ?_
    refine p_lpX ?_
    refine p_blkX ?_
    refine p_seqN ?_
    refine v_seq ?_
    refine v_seq ?_
    refine v_ops ?_
    refine s_pure (.pointer (some ⟨p_c, 0, none⟩)) (fun _ q => q) ?_
    refine s_call [.pointer (some ⟨p_c, 0, none⟩), .int .i64 24] rfl (spec_l1Cur_pick_ok p_c t_c (m_c + 2 + 20 * (6 - k) + 6 * (l4.length : Int)) lo_c 24 _ bxc (by first | omega | assumption | (simp; done) | (simp; omega))) ?_
    rintro _ h502 ⟨g501, rfl, qh502, Ch502, mh502⟩
    have zh502 := mh502.size
    have E503 := Eh.new mh502 (fun b hb => .inl (by simp at hb; simp [hb]))
    refine s_nil ?_
    refine p_seqN ?_
    refine v_block ?_
    refine v_seq ?_
    refine v_ops ?_
    refine s_pure (.bool (g501 == 0)) (fun _ q => q) ?_
    refine s_pure (.bool (g501 == 0)) (fun _ q => q) ?_
    refine s_nil ?_
    refine p_seqN ?_
    refine v_cond rfl (fun c504 => ?_) (fun c504 => ?_)
    ·
      refine v_ops ?_
      refine s_pure o4 (fun _ q => q) ?_
      refine s_pure (.pointer (some ⟨p_c, 0, none⟩)) (fun _ q => q) ?_
      refine s_row (α := Int) [(-1), 64] (fun _ q => seg_i rfl (seg_i rfl (seg_nil q))) rfl (by simp [maxLen]) (fun r505 h506 eh506 zh506 s_r505 fr_r505 => ?_)
      have E507 := E503.trans (Mod.of_ext eh506 _)
      have z508 := eh506.size
      have lt_r505 := s_r505.lt
      have f509 := (Ch502.ext eh506)
      refine s_call [.pointer (some ⟨p_c, 0, none⟩), r505] rfl (spec_l1Cur_among_ok p_c t_c ((m_c + 2 + 20 * (6 - k) + 6 * (l4.length : Int)) + 2) lo_c r505 [(-1), 64] _ f509 s_r505.toSl (fun b hb hc => by simp at hc; have := fr_r505 b hb; omega) (by first | omega | assumption | (simp; done) | (simp; omega)) (by first | omega | assumption | (simp; done) | (simp; omega))) ?_
      rintro _ h511 ⟨g510, rfl, qh511, Ch511, mh511⟩
      have zh511 := mh511.size
      have E512 := E507.new mh511 (fun b hb => .inl (by simp at hb; simp [hb]))
      simp only [List.mem_cons, List.not_mem_nil, or_false] at qh511
      refine s_pure (.agg #[.bool false, .int .i64 g510]) (fun _ q => w_build (seg_i rfl (seg_nil q))) ?_
      refine s_row (α := GlanceD) [(⟨false, g510⟩ : GlanceD)] (fun _ q => seg_agg rfl rfl (seg_nil q)) rfl (by simp [maxLen]) (fun r513 h514 eh514 zh514 s_r513 fr_r513 => ?_)
      have E515 := E512.trans (Mod.of_ext eh514 _)
      have z516 := eh514.size
      have lt_r513 := s_r513.lt
      have f517 := ((((s_o4.mod mh502 (fun b hb hc => np_c_o4 (by simp at hc; rw [← hc]; exact hb))).ext eh506).mod mh511 (fun b hb hc => np_c_o4 (by simp at hc; rw [← hc]; exact hb))).ext eh514)
      refine s_app f517 s_r513 rfl rfl rfl (by simp [maxLen]; omega) (by simp; omega) (fun r518 h519 mh519 zh519 s_r518 ab_r518 => ?_)
      have E520 := E515.new mh519 (fun b hb => .inr (by have := fr_o4 b hb; omega))
      have fr_r518 := fr_o4.app ab_r518 (by omega)
      have np521 : p_c ∉ blks r518 := fun hc => (ab_r518 _ hc).elim np_c_o4 (fun hc => by omega)
      have np522 : ∀ b ∈ blks r505, b ∉ blks r518 := fun b hb hc => (ab_r518 _ hc).elim (((fun b hb hc => by have := fr_r505 b hb; have := lt_o4 b hc; omega) : ∀ b ∈ blks r505, b ∉ blks o4) b hb) (fun hc => by have := lt_r505 b hb; omega)
      have np523 : ∀ b ∈ blks r513, b ∉ blks r518 := fun b hb hc => (ab_r518 _ hc).elim (((fun b hb hc => by have := fr_r513 b hb; have := lt_o4 b hc; omega) : ∀ b ∈ blks r513, b ∉ blks o4) b hb) (fun hc => by have := lt_r513 b hb; omega)
      have lt_r518 := s_r518.lt
      refine s_pure r518 (fun _ q => q) ?_
      refine s_nil ?_
      refine p_blkN ?_
      refine p_seqN ?_
      refine v_seq ?_
      refine v_ops ?_
      refine s_pure r518 (fun _ q => q) ?_
      refine s_pure r518 (fun _ q => q) ?_
      refine s_nil ?_
      refine p_seqN ?_
      refine v_ret ?_
      refine p_ret [r518] r518 (fun _ q => q) rfl ?_
      have f524 := ((Ch511.ext eh514).mod mh519 np_c_o4 (fun b hb => by have := fr_o4 b hb; omega))
      exact ⟨(l4 ++ [(⟨false, g510⟩ : GlanceD)]), r518, rfl, s_r518, (fr_r518.mono (by omega)), (by first | omega | (simp; done) | (simp; omega)), (f524.le (by first | omega | (simp; done) | (simp; omega))), E520⟩
    ·
      refine v_seq ?_
      refine v_ops ?_
      refine s_pure (.bool (g501 == 1)) (fun _ q => q) ?_
      refine s_pure (.bool (g501 == 1)) (fun _ q => q) ?_
      refine s_nil ?_
      refine p_seqN ?_
      refine v_cond rfl (fun c525 => ?_) (fun c525 => ?_)
      ·
        refine v_seq ?_
        refine v_ops ?_
        refine s_pure (.pointer (some ⟨p_c, 0, none⟩)) (fun _ q => q) ?_
        refine s_call [.pointer (some ⟨p_c, 0, none⟩), .int .i64 2] rfl (spec_l1Cur_pick_ok p_c t_c ((m_c + 2 + 20 * (6 - k) + 6 * (l4.length : Int)) + 2) lo_c 2 _ Ch502 (by first | omega | assumption | (simp; done) | (simp; omega))) ?_
        rintro _ h527 ⟨g526, rfl, qh527, Ch527, mh527⟩
        have zh527 := mh527.size
        have E528 := E503.new mh527 (fun b hb => .inl (by simp at hb; simp [hb]))
        refine s_pure (.int .i64 (80 + g526)) (fun _ q => ArithVC.mk (by omega) q) ?_
        refine s_pure (.int .i64 (80 + g526)) (fun _ q => q) ?_
        refine s_nil ?_
        refine p_seqN ?_
        refine v_block ?_
        have f530 := ((s_o4.mod mh502 (fun b hb hc => np_c_o4 (by simp at hc; rw [← hc]; exact hb))).mod mh527 (fun b hb hc => np_c_o4 (by simp at hc; rw [← hc]; exact hb)))
        refine v_loop2 (α := List GlanceD) (β := Value) (fun l6 o6 => [(3, o6), (6, .int .i64 (80 + g526))]) (fun l6 o6 hh => Mod [p_c] h hh ∧ Cur hh p_c t_c (m_c + 1900) lo_c ∧ SlO hh o6 l6 ∧ Fr h.size o6 ∧ p_c ∉ blks o6 ∧ l6.length ≤ 100) (fun l6 o6 => (80 + g526).toNat - l6.length) l4 o4 ⟨rfl, rfl⟩ ⟨E528, (Ch527.le (by first | omega | (simp; done) | (simp; omega))), (sl_eq f530 (by simp)), (fr_o4.mono (by omega)), np_c_o4, (by first | omega | (simp; done) | (simp; omega))⟩ ?_
        rintro l6 o6 R531 h529 ⟨Eh, bxc, s_o6, fr_o6, np_c_o6, hl6⟩
        have zEh := Eh.size
        have lbc := bxc.lt
        have lt_o6 := s_o6.lt
        refine v_seq ?_
        refine v_seq ?_
        refine v_ops ?_
        refine s_pure o6 (fun _ q => q) ?_
        refine s_pure (.int .i64 (l6.length : Int)) (fun _ q => s_o6.lenVC q) ?_
        refine s_pure (.int .i64 (80 + g526)) (fun _ q => q) ?_
        refine s_pure (.bool (decide ((l6.length : Int) < (80 + g526)))) (fun _ q => q) ?_
        refine s_nil ?_
        refine p_seqN ?_
        refine v_cond rfl (fun c533 => ?_) (fun c533 => ?_)
        ·
          refine v_skip ?_
          refine p_seqN ?_
          refine v_block ?_
          refine v_ops ?_
          refine s_pure o6 (fun _ q => q) ?_
          refine s_pure o6 (fun _ q => q) ?_
          refine s_pure (.int .i64 (l6.length : Int)) (fun _ q => s_o6.lenVC q) ?_
          refine s_pure (.int .i64 ((l6.length : Int) % 2)) (fun _ q => RemVC.mk (by omega) (by omega) q) ?_
          refine s_pure (.bool (((l6.length : Int) % 2) == 1)) (fun _ q => q) ?_
          refine s_pure (.agg #[.bool (((l6.length : Int) % 2) == 1), .int .i64 3]) (fun _ q => w_build (seg_b rfl (seg_i rfl (seg_nil q)))) ?_
          refine s_row (α := GlanceD) [(⟨(((l6.length : Int) % 2) == 1), 3⟩ : GlanceD)] (fun _ q => seg_agg rfl rfl (seg_nil q)) rfl (by simp [maxLen]) (fun r534 h535 eh535 zh535 s_r534 fr_r534 => ?_)
          have E536 := Eh.trans (Mod.of_ext eh535 _)
          have z537 := eh535.size
          have lt_r534 := s_r534.lt
          have f538 := (s_o6.ext eh535)
          refine s_app f538 s_r534 rfl rfl rfl (by simp [maxLen]; omega) (by simp; omega) (fun r539 h540 mh540 zh540 s_r539 ab_r539 => ?_)
          have E541 := E536.new mh540 (fun b hb => .inr (by have := fr_o6 b hb; omega))
          have fr_r539 := fr_o6.app ab_r539 (by omega)
          have np542 : p_c ∉ blks r539 := fun hc => (ab_r539 _ hc).elim np_c_o6 (fun hc => by omega)
          have np543 : ∀ b ∈ blks r534, b ∉ blks r539 := fun b hb hc => (ab_r539 _ hc).elim (((fun b hb hc => by have := fr_r534 b hb; have := lt_o6 b hc; omega) : ∀ b ∈ blks r534, b ∉ blks o6) b hb) (fun hc => by have := lt_r534 b hb; omega)
          have lt_r539 := s_r539.lt
          refine s_pure r539 (fun _ q => q) ?_
          refine s_nil ?_
          refine p_blkN ?_
          have f544 := ((bxc.ext eh535).mod mh540 np_c_o6 (fun b hb => by have := fr_o6 b hb; omega))
          exact p_lpN ⟨(l6 ++ [(⟨(((l6.length : Int) % 2) == 1), 3⟩ : GlanceD)]), r539, ⟨rfl, rfl⟩, ⟨E541, (f544.le (by omega)), (sl_eq s_r539 (by simp)), (fr_r539.mono (by omega)), np542, (by first | omega | (simp; done) | (simp; omega))⟩, by first | omega | (simp; done) | (simp; omega)⟩
        ·
          refine v_exit ?_
          refine p_seqX ?_
          refine p_lpX ?_
          refine p_blkX ?_
          refine p_blkN ?_
          refine p_seqN ?_
          refine v_seq ?_
          refine v_ops ?_
          refine s_pure o6 (fun _ q => q) ?_
          refine s_pure o6 (fun _ q => q) ?_
          refine s_nil ?_
          refine p_seqN ?_
          refine v_ret ?_
          refine p_ret [o6] o6 (fun _ q => q) rfl ?_
          exact ⟨l6, o6, rfl, s_o6, (fr_o6.mono (by omega)), (by first | omega | (simp; done) | (simp; omega)), (bxc.le (by first | omega | (simp; done) | (simp; omega))), Eh⟩
      ·
        refine v_seq ?_
        refine v_ops ?_
        refine s_pure (.bool (g501 == 2)) (fun _ q => q) ?_
        refine s_pure (.bool (g501 == 2)) (fun _ q => q) ?_
        refine s_nil ?_
        refine p_seqN ?_
        refine v_cond rfl (fun c545 => ?_) (fun c545 => ?_)
        ·
          refine v_seq ?_
          refine v_ops ?_
          refine s_pure (.agg #[.bool false, .int .i64 5]) (fun _ q => w_build (seg_i rfl (seg_nil q))) ?_
          refine s_row (α := GlanceD) [(⟨false, 5⟩ : GlanceD)] (fun _ q => seg_agg rfl rfl (seg_nil q)) rfl (by simp [maxLen]) (fun r546 h547 eh547 zh547 s_r546 fr_r546 => ?_)
          have E548 := E503.trans (Mod.of_ext eh547 _)
          have z549 := eh547.size
          have lt_r546 := s_r546.lt
          refine s_pure r546 (fun _ q => q) ?_
          refine s_nil ?_
          refine p_seqN ?_
          refine v_seq ?_
          refine v_ops ?_
          refine s_pure (.pointer (some ⟨p_c, 0, none⟩)) (fun _ q => q) ?_
          have f550 := (Ch502.ext eh547)
          refine s_call [.pointer (some ⟨p_c, 0, none⟩), .int .i64 7] rfl (spec_l1Cur_pick_ok p_c t_c ((m_c + 2 + 20 * (6 - k) + 6 * (l4.length : Int)) + 2) lo_c 7 _ f550 (by first | omega | assumption | (simp; done) | (simp; omega))) ?_
          rintro _ h552 ⟨g551, rfl, qh552, Ch552, mh552⟩
          have zh552 := mh552.size
          have E553 := E548.new mh552 (fun b hb => .inl (by simp at hb; simp [hb]))
          refine s_pure (.int .i64 (1 + g551)) (fun _ q => ArithVC.mk (by omega) q) ?_
          refine s_pure (.int .i64 (1 + g551)) (fun _ q => q) ?_
          refine s_nil ?_
          refine p_seqN ?_
          refine v_block ?_
          have f555 := (s_r546.mod mh552 (fun b hb hc => by simp at hc; have := fr_r546 b hb; omega))
          refine v_loop3 (α := Int) (β := List GlanceD) (γ := Value) (fun j l7 o7 => [(3, o7), (7, .int .i64 j)]) (fun j l7 o7 hh => Mod [p_c] h hh ∧ Cur hh p_c t_c (m_c + 1900) lo_c ∧ SlO hh o7 l7 ∧ Fr h.size o7 ∧ p_c ∉ blks o7 ∧ 0 ≤ j ∧ j ≤ 7 ∧ (l7.length : Int) + j ≤ 10) (fun j l7 o7 => j.toNat) (1 + g551) [(⟨false, 5⟩ : GlanceD)] r546 ⟨rfl, rfl⟩ ⟨E553, (Ch552.le (by first | omega | (simp; done) | (simp; omega))), (sl_eq f555 (by simp)), (fr_r546.mono (by omega)), (fun hc => by have := fr_r546 _ hc; omega), (by exact ⟨by omega, by omega, by first | omega | (simp; done) | (simp; omega)⟩)⟩ ?_
          rintro j l7 o7 R556 h554 ⟨Eh, bxc, s_o7, fr_o7, np_c_o7, ⟨hj0, hj1, hl7⟩⟩
          have zEh := Eh.size
          have lbc := bxc.lt
          have lt_o7 := s_o7.lt
          refine v_seq ?_
          refine v_seq ?_
          refine v_ops ?_
          refine s_pure (.int .i64 j) (fun _ q => q) ?_
          refine s_pure (.bool (decide (j > 0))) (fun _ q => q) ?_
          refine s_nil ?_
          refine p_seqN ?_
          refine v_cond rfl (fun c558 => ?_) (fun c558 => ?_)
          ·
            refine v_skip ?_
            refine p_seqN ?_
            refine v_seq ?_
            refine v_block ?_
            refine v_ops ?_
            refine s_pure o7 (fun _ q => q) ?_
            refine s_pure (.agg #[.bool true, .int .i64 9]) (fun _ q => w_build (seg_b rfl (seg_i rfl (seg_nil q)))) ?_
            refine s_row (α := GlanceD) [(⟨true, 9⟩ : GlanceD)] (fun _ q => seg_agg rfl rfl (seg_nil q)) rfl (by simp [maxLen]) (fun r559 h560 eh560 zh560 s_r559 fr_r559 => ?_)
            have E561 := Eh.trans (Mod.of_ext eh560 _)
            have z562 := eh560.size
            have lt_r559 := s_r559.lt
            have f563 := (s_o7.ext eh560)
            refine s_app f563 s_r559 rfl rfl rfl (by simp [maxLen]; omega) (by simp; omega) (fun r564 h565 mh565 zh565 s_r564 ab_r564 => ?_)
            have E566 := E561.new mh565 (fun b hb => .inr (by have := fr_o7 b hb; omega))
            have fr_r564 := fr_o7.app ab_r564 (by omega)
            have np567 : p_c ∉ blks r564 := fun hc => (ab_r564 _ hc).elim np_c_o7 (fun hc => by omega)
            have np568 : ∀ b ∈ blks r559, b ∉ blks r564 := fun b hb hc => (ab_r564 _ hc).elim (((fun b hb hc => by have := fr_r559 b hb; have := lt_o7 b hc; omega) : ∀ b ∈ blks r559, b ∉ blks o7) b hb) (fun hc => by have := lt_r559 b hb; omega)
            have lt_r564 := s_r564.lt
            refine s_pure r564 (fun _ q => q) ?_
            refine s_nil ?_
            refine p_blkN ?_
            refine p_seqN ?_
            refine v_ops ?_
            refine s_pure (.int .i64 j) (fun _ q => q) ?_
            refine s_pure (.int .i64 (j - 1)) (fun _ q => ArithVC.mk (by omega) q) ?_
            refine s_pure (.int .i64 (j - 1)) (fun _ q => q) ?_
            refine s_nil ?_
            have f569 := ((bxc.ext eh560).mod mh565 np_c_o7 (fun b hb => by have := fr_o7 b hb; omega))
            exact p_lpN ⟨(j - 1), (l7 ++ [(⟨true, 9⟩ : GlanceD)]), r564, ⟨rfl, rfl⟩, ⟨E566, (f569.le (by omega)), (sl_eq s_r564 (by simp)), (fr_r564.mono (by omega)), np567, (by exact ⟨by omega, by omega, by first | omega | (simp; done) | (simp; omega)⟩)⟩, by omega⟩
          ·
            refine v_exit ?_
            refine p_seqX ?_
            refine p_lpX ?_
            refine p_blkX ?_
            refine p_blkN ?_
            refine p_seqN ?_
            refine v_seq ?_
            refine v_ops ?_
            refine s_pure o7 (fun _ q => q) ?_
            refine s_pure o7 (fun _ q => q) ?_
            refine s_nil ?_
            refine p_seqN ?_
            refine v_ret ?_
            refine p_ret [o7] o7 (fun _ q => q) rfl ?_
            exact ⟨l7, o7, rfl, s_o7, (fr_o7.mono (by omega)), (by first | omega | (simp; done) | (simp; omega)), (bxc.le (by first | omega | (simp; done) | (simp; omega))), Eh⟩
        ·
          refine v_skip ?_
          refine p_blkN ?_
          refine p_seqN ?_
          refine v_seq ?_
          refine v_ops ?_
          refine s_pure o4 (fun _ q => q) ?_
          refine s_pure o4 (fun _ q => q) ?_
          refine s_nil ?_
          refine p_seqN ?_
          refine v_ret ?_
          refine p_ret [o4] o4 (fun _ q => q) rfl ?_
          have f570 := (s_o4.mod mh502 (fun b hb hc => np_c_o4 (by simp at hc; rw [← hc]; exact hb)))
          exact ⟨l4, o4, rfl, f570, (fr_o4.mono (by omega)), (by first | omega | (simp; done) | (simp; omega)), (Ch502.le (by first | omega | (simp; done) | (simp; omega))), E503⟩

set_option maxRecDepth 10000 in
set_option maxHeartbeats 4000000 in
theorem spec_l1Cur_repeater_ok (p_c : Nat) (t_c : TypeId) (m_c : Int) (lo_c : Nat) (h : Heap) (C_c : Cur h p_c t_c m_c lo_c) (hm : m_c + 3000 ≤ 4000000000000000000) : Cn f_spec_l1Cur_repeater [.pointer (some ⟨p_c, 0, none⟩)] h fun v h' => ∃ g0 : RepP, ∃ r0 : Value, v = .agg #[.int .i64 g0.phase, .int .i64 g0.holds, .int .i64 g0.again, .int .i64 g0.shown, r0] ∧ SlO h' r0 g0.passed ∧ Fr h.size r0 ∧ (g0.passed.length ≤ 200) ∧ Cur h' p_c t_c (m_c + 3000) lo_c ∧ Mod [p_c] h h' := by
  have lc_c := C_c.lt
  have ll_c := C_c.low
  have lm_c := C_c.top
  refine calls_of r_spec_l1Cur_repeater ?_
  refine v_seq ?_
  refine v_ops ?_
  refine s_new (fun h2 b1 hbb1 hzb1 eh2 bxb1 => ?_)
  have E3 := (Mod.refl [p_c] h).trans (Mod.of_ext eh2 _)
  have z4 := eh2.size
  have lbb1 := bxb1.lt
  refine s_nil ?_
  refine p_seqN ?_
  refine v_seq ?_
  refine v_ops ?_
  refine s_call [] rfl (spec_rpNew_ok  _ ) ?_
  rintro _ h6 ⟨r5, rfl, s_r5, fr_r5, eh6⟩
  have E7 := E3.trans (Mod.of_ext eh6 _)
  have z8 := eh6.size
  have lt_r5 := s_r5.lt
  refine s_new (fun h10 b9 hbb9 hzb9 eh10 bxb9 => ?_)
  have E11 := E7.trans (Mod.of_ext eh10 _)
  have z12 := eh10.size
  have lbb9 := bxb9.lt
  refine s_stBx (.agg #[.int .i64 rz.phase, .int .i64 rz.holds, .int .i64 rz.again, .int .i64 rz.shown, r5]) [.int .i64 rz.phase, .int .i64 rz.holds, .int .i64 rz.again, .int .i64 rz.shown, r5] [.int .i64 rz.phase, .int .i64 rz.holds, .int .i64 rz.again, .int .i64 rz.shown, r5] bxb9 rfl rfl rfl rfl (by simp) (all_cons rfl (all_cons rfl (all_cons rfl (all_cons rfl (all_cons s_r5.one1 all_nil))))) rfl (fun h13 mh13 sh13 bxx14 => ?_)
  have E15 := E11.new mh13 (fun b hb => .inr (by simp at hb; omega))
  refine s_nil ?_
  refine p_seqN ?_
  refine v_seq ?_
  refine v_seq ?_
  refine v_ops ?_
  refine s_pure (.pointer (some ⟨p_c, 0, none⟩)) (fun _ q => q) ?_
  have f16 := ((((C_c.ext eh2).ext eh6).ext eh10).mod mh13 (by simp; omega) (fun b hb => by simp at hb; omega))
  refine s_call [.pointer (some ⟨p_c, 0, none⟩)] rfl (spec_l1Cur_glances_ok p_c t_c m_c lo_c _ f16 (by first | omega | assumption | (simp; done) | (simp; omega))) ?_
  rintro r18 h19 ⟨g17, _, rfl, s_r18, fr_r18, qh19, Ch19, mh19⟩
  have zh19 := mh19.size
  have E20 := E15.new mh19 (fun b hb => .inl (by simp at hb; simp [hb]))
  have lt_r18 := s_r18.lt
  refine s_pure r18 (fun _ q => q) ?_
  refine s_nil ?_
  refine p_seqN ?_
  refine v_seq ?_
  refine v_ops ?_
  refine s_pure r18 (fun _ q => q) ?_
  refine s_call [r18] rfl (rpGlances_ok r18 g17 _ s_r18.toSl) ?_
  rintro _ h21 ⟨rfl, eh21⟩
  have E22 := E20.trans (Mod.of_ext eh21 _)
  have z23 := eh21.size
  refine s_nil ?_
  refine p_seqN ?_
  refine v_cond rfl (fun c24 => ?_) (fun c24 => ?_)
  ·
    have hrl_ := rg_len rz g17
    refine v_ops ?_
    have f25 := ((bxx14.mod mh19 (by simp; omega)).ext eh21)
    refine s_load (.agg #[.int .i64 rz.phase, .int .i64 rz.holds, .int .i64 rz.again, .int .i64 rz.shown, r5]) (fun _ q => f25.loadA rfl q) ?_
    refine s_pure r18 (fun _ q => q) ?_
    have f26 := ((((s_r5.ext eh10).mod mh13 (fun b hb hc => by simp at hc; have := lt_r5 b hb; omega)).mod mh19 (fun b hb hc => by simp at hc; have := fr_r5 b hb; omega)).ext eh21)
    have f27 := (s_r18.ext eh21)
    refine s_call [.agg #[.int .i64 rz.phase, .int .i64 rz.holds, .int .i64 rz.again, .int .i64 rz.shown, r5], r18] rfl (spec_RunGlances_ok rz r5 r18 g17 _ f26.toSl f27.toSl) ?_
    rintro _ h29 ⟨r28, rfl, s_r28, fr_r28, eh29⟩
    have E30 := E22.trans (Mod.of_ext eh29 _)
    have z31 := eh29.size
    have lt_r28 := s_r28.lt
    refine s_pure (.tuple #[.agg #[.int .i64 (((rgOut rz g17).1).phase), .int .i64 (((rgOut rz g17).1).holds), .int .i64 (((rgOut rz g17).1).again), .int .i64 (((rgOut rz g17).1).shown), r28], .bool ((rgOut rz g17).2)]) (fun _ q => q) ?_
    refine s_pure (.agg #[.int .i64 (((rgOut rz g17).1).phase), .int .i64 (((rgOut rz g17).1).holds), .int .i64 (((rgOut rz g17).1).again), .int .i64 (((rgOut rz g17).1).shown), r28]) (fun _ q => q) ?_
    refine s_pure (.bool ((rgOut rz g17).2)) (fun _ q => q) ?_
    have f32 := (f25.ext eh29)
    refine s_stBx (.agg #[.int .i64 (((rgOut rz g17).1).phase), .int .i64 (((rgOut rz g17).1).holds), .int .i64 (((rgOut rz g17).1).again), .int .i64 (((rgOut rz g17).1).shown), r28]) [.int .i64 (((rgOut rz g17).1).phase), .int .i64 (((rgOut rz g17).1).holds), .int .i64 (((rgOut rz g17).1).again), .int .i64 (((rgOut rz g17).1).shown), r28] [.int .i64 (((rgOut rz g17).1).phase), .int .i64 (((rgOut rz g17).1).holds), .int .i64 (((rgOut rz g17).1).again), .int .i64 (((rgOut rz g17).1).shown), r28] f32 rfl rfl rfl rfl (by simp) (all_cons rfl (all_cons rfl (all_cons rfl (all_cons rfl (all_cons s_r28.one1 all_nil))))) rfl (fun h33 mh33 sh33 bxx34 => ?_)
    have E35 := E30.new mh33 (fun b hb => .inr (by simp at hb; omega))
    refine s_nil ?_
    refine p_seqN ?_
    refine v_seq ?_
    refine v_seq ?_
    refine v_ops ?_
    refine s_pure (.pointer (some ⟨p_c, 0, none⟩)) (fun _ q => q) ?_
    have f36 := (((Ch19.ext eh21).ext eh29).mod mh33 (by simp; omega) (fun b hb => by simp at hb; omega))
    refine s_call [.pointer (some ⟨p_c, 0, none⟩), .int .i64 30] rfl (spec_l1Cur_pick_ok p_c t_c (m_c + 2000) lo_c 30 _ f36 (by first | omega | assumption | (simp; done) | (simp; omega))) ?_
    rintro _ h38 ⟨g37, rfl, qh38, Ch38, mh38⟩
    have zh38 := mh38.size
    have E39 := E35.new mh38 (fun b hb => .inl (by simp at hb; simp [hb]))
    refine s_nil ?_
    refine p_seqN ?_
    refine v_block ?_
    refine v_seq ?_
    refine v_ops ?_
    refine s_pure (.bool (g37 == 0)) (fun _ q => q) ?_
    refine s_pure (.bool (g37 == 0)) (fun _ q => q) ?_
    refine s_nil ?_
    refine p_seqN ?_
    refine v_cond rfl (fun c40 => ?_) (fun c40 => ?_)
    ·
      refine v_ops ?_
      refine s_pure (.pointer (some ⟨p_c, 0, none⟩)) (fun _ q => q) ?_
      refine s_call [.pointer (some ⟨p_c, 0, none⟩), .int .i64 6] rfl (spec_l1Cur_pick_ok p_c t_c ((m_c + 2000) + 2) lo_c 6 _ Ch38 (by first | omega | assumption | (simp; done) | (simp; omega))) ?_
      rintro _ h42 ⟨g41, rfl, qh42, Ch42, mh42⟩
      have zh42 := mh42.size
      have E43 := E39.new mh42 (fun b hb => .inl (by simp at hb; simp [hb]))
      refine s_pure (.int .i64 (g41 - 1)) (fun _ q => ArithVC.mk (by omega) q) ?_
      refine s_pure (.pointer (some ⟨b9, 0, none⟩)) (fun _ q => q) ?_
      have f44 := ((bxx34.mod mh38 (by simp; omega)).mod mh42 (by simp; omega))
      refine s_stBx (.int .i64 (g41 - 1)) [.int .i64 (g41 - 1)] [.int .i64 (g41 - 1), .int .i64 (((rgOut rz g17).1).holds), .int .i64 (((rgOut rz g17).1).again), .int .i64 (((rgOut rz g17).1).shown), r28] f44 rfl rfl rfl rfl (by simp) (all_cons rfl all_nil) rfl (fun h45 mh45 sh45 bxx46 => ?_)
      have E47 := E43.new mh45 (fun b hb => .inr (by simp at hb; omega))
      refine s_nil ?_
      refine p_blkN ?_
      refine p_seqN ?_
      refine v_seq ?_
      refine v_ops ?_
      refine s_load (.agg #[.int .i64 (g41 - 1), .int .i64 (((rgOut rz g17).1).holds), .int .i64 (((rgOut rz g17).1).again), .int .i64 (((rgOut rz g17).1).shown), r28]) (fun _ q => bxx46.loadA rfl q) ?_
      have f48 := ((((((((((bxb1.ext eh6).ext eh10).mod mh13 (by simp; omega)).mod mh19 (by simp; omega)).ext eh21).ext eh29).mod mh33 (by simp; omega)).mod mh38 (by simp; omega)).mod mh42 (by simp; omega)).mod mh45 (by simp; omega))
      refine s_stBx (.agg #[.int .i64 (g41 - 1), .int .i64 (((rgOut rz g17).1).holds), .int .i64 (((rgOut rz g17).1).again), .int .i64 (((rgOut rz g17).1).shown), r28]) [.int .i64 (g41 - 1), .int .i64 (((rgOut rz g17).1).holds), .int .i64 (((rgOut rz g17).1).again), .int .i64 (((rgOut rz g17).1).shown), r28] [.int .i64 (g41 - 1), .int .i64 (((rgOut rz g17).1).holds), .int .i64 (((rgOut rz g17).1).again), .int .i64 (((rgOut rz g17).1).shown), r28] f48 rfl rfl rfl rfl (by simp) (all_cons rfl (all_cons rfl (all_cons rfl (all_cons rfl (all_cons s_r28.one1 all_nil))))) rfl (fun h49 mh49 sh49 bxx50 => ?_)
      have E51 := E47.new mh49 (fun b hb => .inr (by simp at hb; omega))
      refine s_nil ?_
      refine p_seqN ?_
      refine v_ret ?_
      refine p_ret [.agg #[.int .i64 (g41 - 1), .int .i64 (((rgOut rz g17).1).holds), .int .i64 (((rgOut rz g17).1).again), .int .i64 (((rgOut rz g17).1).shown), r28]] (.agg #[.int .i64 (g41 - 1), .int .i64 (((rgOut rz g17).1).holds), .int .i64 (((rgOut rz g17).1).again), .int .i64 (((rgOut rz g17).1).shown), r28]) (fun _ q => (bxx50.loadA rfl q)) rfl ?_
      have f52 := (((((s_r28.mod mh33 (fun b hb hc => by simp at hc; have := fr_r28 b hb; omega)).mod mh38 (fun b hb hc => by simp at hc; have := fr_r28 b hb; omega)).mod mh42 (fun b hb hc => by simp at hc; have := fr_r28 b hb; omega)).mod mh45 (fun b hb hc => by simp at hc; have := fr_r28 b hb; omega)).mod mh49 (fun b hb hc => by simp at hc; have := fr_r28 b hb; omega))
      have f53 := ((Ch42.mod mh45 (by simp; omega) (fun b hb => by simp at hb; omega)).mod mh49 (by simp; omega) (fun b hb => by simp at hb; omega))
      exact ⟨⟨(g41 - 1), ((rgOut rz g17).1).holds, ((rgOut rz g17).1).again, ((rgOut rz g17).1).shown, ((rgOut rz g17).1).passed⟩, r28, rfl, f52, (fr_r28.mono (by omega)), (by first | omega | (have := rg_len rz (by assumption); simp; omega) | (have := rg_len rz _; simp; omega) | (simp; done) | (simp; omega) | skip), (f53.le (by omega)), E51⟩
    ·
      refine v_seq ?_
      refine v_ops ?_
      refine s_pure (.bool (g37 == 1)) (fun _ q => q) ?_
      refine s_pure (.bool (g37 == 1)) (fun _ q => q) ?_
      refine s_nil ?_
      refine p_seqN ?_
      refine v_cond rfl (fun c54 => ?_) (fun c54 => ?_)
      ·
        refine v_ops ?_
        refine s_pure (.pointer (some ⟨p_c, 0, none⟩)) (fun _ q => q) ?_
        refine s_row (α := Int) [0, 5, 61, 62, (-1)] (fun _ q => seg_i rfl (seg_i rfl (seg_i rfl (seg_i rfl (seg_i rfl (seg_nil q)))))) rfl (by simp [maxLen]) (fun r55 h56 eh56 zh56 s_r55 fr_r55 => ?_)
        have E57 := E39.trans (Mod.of_ext eh56 _)
        have z58 := eh56.size
        have lt_r55 := s_r55.lt
        have f59 := (Ch38.ext eh56)
        refine s_call [.pointer (some ⟨p_c, 0, none⟩), r55] rfl (spec_l1Cur_among_ok p_c t_c ((m_c + 2000) + 2) lo_c r55 [0, 5, 61, 62, (-1)] _ f59 s_r55.toSl (fun b hb hc => by simp at hc; have := fr_r55 b hb; omega) (by first | omega | assumption | (simp; done) | (simp; omega)) (by first | omega | assumption | (simp; done) | (simp; omega))) ?_
        rintro _ h61 ⟨g60, rfl, qh61, Ch61, mh61⟩
        have zh61 := mh61.size
        have E62 := E57.new mh61 (fun b hb => .inl (by simp at hb; simp [hb]))
        simp only [List.mem_cons, List.not_mem_nil, or_false] at qh61
        refine s_pure (.pointer (some ⟨b9, 1, none⟩)) (fun _ q => q) ?_
        have f63 := (((bxx34.mod mh38 (by simp; omega)).ext eh56).mod mh61 (by simp; omega))
        refine s_stBx (.int .i64 g60) [.int .i64 g60] [.int .i64 (((rgOut rz g17).1).phase), .int .i64 g60, .int .i64 (((rgOut rz g17).1).again), .int .i64 (((rgOut rz g17).1).shown), r28] f63 rfl rfl rfl rfl (by simp) (all_cons rfl all_nil) rfl (fun h64 mh64 sh64 bxx65 => ?_)
        have E66 := E62.new mh64 (fun b hb => .inr (by simp at hb; omega))
        refine s_nil ?_
        refine p_blkN ?_
        refine p_seqN ?_
        refine v_seq ?_
        refine v_ops ?_
        refine s_load (.agg #[.int .i64 (((rgOut rz g17).1).phase), .int .i64 g60, .int .i64 (((rgOut rz g17).1).again), .int .i64 (((rgOut rz g17).1).shown), r28]) (fun _ q => bxx65.loadA rfl q) ?_
        have f67 := (((((((((((bxb1.ext eh6).ext eh10).mod mh13 (by simp; omega)).mod mh19 (by simp; omega)).ext eh21).ext eh29).mod mh33 (by simp; omega)).mod mh38 (by simp; omega)).ext eh56).mod mh61 (by simp; omega)).mod mh64 (by simp; omega))
        refine s_stBx (.agg #[.int .i64 (((rgOut rz g17).1).phase), .int .i64 g60, .int .i64 (((rgOut rz g17).1).again), .int .i64 (((rgOut rz g17).1).shown), r28]) [.int .i64 (((rgOut rz g17).1).phase), .int .i64 g60, .int .i64 (((rgOut rz g17).1).again), .int .i64 (((rgOut rz g17).1).shown), r28] [.int .i64 (((rgOut rz g17).1).phase), .int .i64 g60, .int .i64 (((rgOut rz g17).1).again), .int .i64 (((rgOut rz g17).1).shown), r28] f67 rfl rfl rfl rfl (by simp) (all_cons rfl (all_cons rfl (all_cons rfl (all_cons rfl (all_cons s_r28.one1 all_nil))))) rfl (fun h68 mh68 sh68 bxx69 => ?_)
        have E70 := E66.new mh68 (fun b hb => .inr (by simp at hb; omega))
        refine s_nil ?_
        refine p_seqN ?_
        refine v_ret ?_
        refine p_ret [.agg #[.int .i64 (((rgOut rz g17).1).phase), .int .i64 g60, .int .i64 (((rgOut rz g17).1).again), .int .i64 (((rgOut rz g17).1).shown), r28]] (.agg #[.int .i64 (((rgOut rz g17).1).phase), .int .i64 g60, .int .i64 (((rgOut rz g17).1).again), .int .i64 (((rgOut rz g17).1).shown), r28]) (fun _ q => (bxx69.loadA rfl q)) rfl ?_
        have f71 := ((((((s_r28.mod mh33 (fun b hb hc => by simp at hc; have := fr_r28 b hb; omega)).mod mh38 (fun b hb hc => by simp at hc; have := fr_r28 b hb; omega)).ext eh56).mod mh61 (fun b hb hc => by simp at hc; have := fr_r28 b hb; omega)).mod mh64 (fun b hb hc => by simp at hc; have := fr_r28 b hb; omega)).mod mh68 (fun b hb hc => by simp at hc; have := fr_r28 b hb; omega))
        have f72 := ((Ch61.mod mh64 (by simp; omega) (fun b hb => by simp at hb; omega)).mod mh68 (by simp; omega) (fun b hb => by simp at hb; omega))
        exact ⟨⟨((rgOut rz g17).1).phase, g60, ((rgOut rz g17).1).again, ((rgOut rz g17).1).shown, ((rgOut rz g17).1).passed⟩, r28, rfl, f71, (fr_r28.mono (by omega)), (by first | omega | (have := rg_len rz (by assumption); simp; omega) | (have := rg_len rz _; simp; omega) | (simp; done) | (simp; omega) | skip), (f72.le (by omega)), E70⟩
      ·
        refine v_seq ?_
        refine v_ops ?_
        refine s_pure (.bool (g37 == 2)) (fun _ q => q) ?_
        refine s_pure (.bool (g37 == 2)) (fun _ q => q) ?_
        refine s_nil ?_
        refine p_seqN ?_
        refine v_cond rfl (fun c73 => ?_) (fun c73 => ?_)
        ·
          refine v_ops ?_
          refine s_pure (.pointer (some ⟨p_c, 0, none⟩)) (fun _ q => q) ?_
          refine s_row (α := Int) [(-1), 3, 4, 1] (fun _ q => seg_i rfl (seg_i rfl (seg_i rfl (seg_i rfl (seg_nil q))))) rfl (by simp [maxLen]) (fun r74 h75 eh75 zh75 s_r74 fr_r74 => ?_)
          have E76 := E39.trans (Mod.of_ext eh75 _)
          have z77 := eh75.size
          have lt_r74 := s_r74.lt
          have f78 := (Ch38.ext eh75)
          refine s_call [.pointer (some ⟨p_c, 0, none⟩), r74] rfl (spec_l1Cur_among_ok p_c t_c ((m_c + 2000) + 2) lo_c r74 [(-1), 3, 4, 1] _ f78 s_r74.toSl (fun b hb hc => by simp at hc; have := fr_r74 b hb; omega) (by first | omega | assumption | (simp; done) | (simp; omega)) (by first | omega | assumption | (simp; done) | (simp; omega))) ?_
          rintro _ h80 ⟨g79, rfl, qh80, Ch80, mh80⟩
          have zh80 := mh80.size
          have E81 := E76.new mh80 (fun b hb => .inl (by simp at hb; simp [hb]))
          simp only [List.mem_cons, List.not_mem_nil, or_false] at qh80
          refine s_pure (.pointer (some ⟨b9, 2, none⟩)) (fun _ q => q) ?_
          have f82 := (((bxx34.mod mh38 (by simp; omega)).ext eh75).mod mh80 (by simp; omega))
          refine s_stBx (.int .i64 g79) [.int .i64 g79] [.int .i64 (((rgOut rz g17).1).phase), .int .i64 (((rgOut rz g17).1).holds), .int .i64 g79, .int .i64 (((rgOut rz g17).1).shown), r28] f82 rfl rfl rfl rfl (by simp) (all_cons rfl all_nil) rfl (fun h83 mh83 sh83 bxx84 => ?_)
          have E85 := E81.new mh83 (fun b hb => .inr (by simp at hb; omega))
          refine s_nil ?_
          refine p_blkN ?_
          refine p_seqN ?_
          refine v_seq ?_
          refine v_ops ?_
          refine s_load (.agg #[.int .i64 (((rgOut rz g17).1).phase), .int .i64 (((rgOut rz g17).1).holds), .int .i64 g79, .int .i64 (((rgOut rz g17).1).shown), r28]) (fun _ q => bxx84.loadA rfl q) ?_
          have f86 := (((((((((((bxb1.ext eh6).ext eh10).mod mh13 (by simp; omega)).mod mh19 (by simp; omega)).ext eh21).ext eh29).mod mh33 (by simp; omega)).mod mh38 (by simp; omega)).ext eh75).mod mh80 (by simp; omega)).mod mh83 (by simp; omega))
          refine s_stBx (.agg #[.int .i64 (((rgOut rz g17).1).phase), .int .i64 (((rgOut rz g17).1).holds), .int .i64 g79, .int .i64 (((rgOut rz g17).1).shown), r28]) [.int .i64 (((rgOut rz g17).1).phase), .int .i64 (((rgOut rz g17).1).holds), .int .i64 g79, .int .i64 (((rgOut rz g17).1).shown), r28] [.int .i64 (((rgOut rz g17).1).phase), .int .i64 (((rgOut rz g17).1).holds), .int .i64 g79, .int .i64 (((rgOut rz g17).1).shown), r28] f86 rfl rfl rfl rfl (by simp) (all_cons rfl (all_cons rfl (all_cons rfl (all_cons rfl (all_cons s_r28.one1 all_nil))))) rfl (fun h87 mh87 sh87 bxx88 => ?_)
          have E89 := E85.new mh87 (fun b hb => .inr (by simp at hb; omega))
          refine s_nil ?_
          refine p_seqN ?_
          refine v_ret ?_
          refine p_ret [.agg #[.int .i64 (((rgOut rz g17).1).phase), .int .i64 (((rgOut rz g17).1).holds), .int .i64 g79, .int .i64 (((rgOut rz g17).1).shown), r28]] (.agg #[.int .i64 (((rgOut rz g17).1).phase), .int .i64 (((rgOut rz g17).1).holds), .int .i64 g79, .int .i64 (((rgOut rz g17).1).shown), r28]) (fun _ q => (bxx88.loadA rfl q)) rfl ?_
          have f90 := ((((((s_r28.mod mh33 (fun b hb hc => by simp at hc; have := fr_r28 b hb; omega)).mod mh38 (fun b hb hc => by simp at hc; have := fr_r28 b hb; omega)).ext eh75).mod mh80 (fun b hb hc => by simp at hc; have := fr_r28 b hb; omega)).mod mh83 (fun b hb hc => by simp at hc; have := fr_r28 b hb; omega)).mod mh87 (fun b hb hc => by simp at hc; have := fr_r28 b hb; omega))
          have f91 := ((Ch80.mod mh83 (by simp; omega) (fun b hb => by simp at hb; omega)).mod mh87 (by simp; omega) (fun b hb => by simp at hb; omega))
          exact ⟨⟨((rgOut rz g17).1).phase, ((rgOut rz g17).1).holds, g79, ((rgOut rz g17).1).shown, ((rgOut rz g17).1).passed⟩, r28, rfl, f90, (fr_r28.mono (by omega)), (by first | omega | (have := rg_len rz (by assumption); simp; omega) | (have := rg_len rz _; simp; omega) | (simp; done) | (simp; omega) | skip), (f91.le (by omega)), E89⟩
        ·
          refine v_seq ?_
          refine v_ops ?_
          refine s_pure (.bool (g37 == 3)) (fun _ q => q) ?_
          refine s_pure (.bool (g37 == 3)) (fun _ q => q) ?_
          refine s_nil ?_
          refine p_seqN ?_
          refine v_cond rfl (fun c92 => ?_) (fun c92 => ?_)
          ·
            refine v_ops ?_
            refine s_pure (.pointer (some ⟨p_c, 0, none⟩)) (fun _ q => q) ?_
            refine s_row (α := Int) [0, 5, 62, 63, 64] (fun _ q => seg_i rfl (seg_i rfl (seg_i rfl (seg_i rfl (seg_i rfl (seg_nil q)))))) rfl (by simp [maxLen]) (fun r93 h94 eh94 zh94 s_r93 fr_r93 => ?_)
            have E95 := E39.trans (Mod.of_ext eh94 _)
            have z96 := eh94.size
            have lt_r93 := s_r93.lt
            have f97 := (Ch38.ext eh94)
            refine s_call [.pointer (some ⟨p_c, 0, none⟩), r93] rfl (spec_l1Cur_among_ok p_c t_c ((m_c + 2000) + 2) lo_c r93 [0, 5, 62, 63, 64] _ f97 s_r93.toSl (fun b hb hc => by simp at hc; have := fr_r93 b hb; omega) (by first | omega | assumption | (simp; done) | (simp; omega)) (by first | omega | assumption | (simp; done) | (simp; omega))) ?_
            rintro _ h99 ⟨g98, rfl, qh99, Ch99, mh99⟩
            have zh99 := mh99.size
            have E100 := E95.new mh99 (fun b hb => .inl (by simp at hb; simp [hb]))
            simp only [List.mem_cons, List.not_mem_nil, or_false] at qh99
            refine s_pure (.pointer (some ⟨b9, 3, none⟩)) (fun _ q => q) ?_
            have f101 := (((bxx34.mod mh38 (by simp; omega)).ext eh94).mod mh99 (by simp; omega))
            refine s_stBx (.int .i64 g98) [.int .i64 g98] [.int .i64 (((rgOut rz g17).1).phase), .int .i64 (((rgOut rz g17).1).holds), .int .i64 (((rgOut rz g17).1).again), .int .i64 g98, r28] f101 rfl rfl rfl rfl (by simp) (all_cons rfl all_nil) rfl (fun h102 mh102 sh102 bxx103 => ?_)
            have E104 := E100.new mh102 (fun b hb => .inr (by simp at hb; omega))
            refine s_nil ?_
            refine p_blkN ?_
            refine p_seqN ?_
            refine v_seq ?_
            refine v_ops ?_
            refine s_load (.agg #[.int .i64 (((rgOut rz g17).1).phase), .int .i64 (((rgOut rz g17).1).holds), .int .i64 (((rgOut rz g17).1).again), .int .i64 g98, r28]) (fun _ q => bxx103.loadA rfl q) ?_
            have f105 := (((((((((((bxb1.ext eh6).ext eh10).mod mh13 (by simp; omega)).mod mh19 (by simp; omega)).ext eh21).ext eh29).mod mh33 (by simp; omega)).mod mh38 (by simp; omega)).ext eh94).mod mh99 (by simp; omega)).mod mh102 (by simp; omega))
            refine s_stBx (.agg #[.int .i64 (((rgOut rz g17).1).phase), .int .i64 (((rgOut rz g17).1).holds), .int .i64 (((rgOut rz g17).1).again), .int .i64 g98, r28]) [.int .i64 (((rgOut rz g17).1).phase), .int .i64 (((rgOut rz g17).1).holds), .int .i64 (((rgOut rz g17).1).again), .int .i64 g98, r28] [.int .i64 (((rgOut rz g17).1).phase), .int .i64 (((rgOut rz g17).1).holds), .int .i64 (((rgOut rz g17).1).again), .int .i64 g98, r28] f105 rfl rfl rfl rfl (by simp) (all_cons rfl (all_cons rfl (all_cons rfl (all_cons rfl (all_cons s_r28.one1 all_nil))))) rfl (fun h106 mh106 sh106 bxx107 => ?_)
            have E108 := E104.new mh106 (fun b hb => .inr (by simp at hb; omega))
            refine s_nil ?_
            refine p_seqN ?_
            refine v_ret ?_
            refine p_ret [.agg #[.int .i64 (((rgOut rz g17).1).phase), .int .i64 (((rgOut rz g17).1).holds), .int .i64 (((rgOut rz g17).1).again), .int .i64 g98, r28]] (.agg #[.int .i64 (((rgOut rz g17).1).phase), .int .i64 (((rgOut rz g17).1).holds), .int .i64 (((rgOut rz g17).1).again), .int .i64 g98, r28]) (fun _ q => (bxx107.loadA rfl q)) rfl ?_
            have f109 := ((((((s_r28.mod mh33 (fun b hb hc => by simp at hc; have := fr_r28 b hb; omega)).mod mh38 (fun b hb hc => by simp at hc; have := fr_r28 b hb; omega)).ext eh94).mod mh99 (fun b hb hc => by simp at hc; have := fr_r28 b hb; omega)).mod mh102 (fun b hb hc => by simp at hc; have := fr_r28 b hb; omega)).mod mh106 (fun b hb hc => by simp at hc; have := fr_r28 b hb; omega))
            have f110 := ((Ch99.mod mh102 (by simp; omega) (fun b hb => by simp at hb; omega)).mod mh106 (by simp; omega) (fun b hb => by simp at hb; omega))
            exact ⟨⟨((rgOut rz g17).1).phase, ((rgOut rz g17).1).holds, ((rgOut rz g17).1).again, g98, ((rgOut rz g17).1).passed⟩, r28, rfl, f109, (fr_r28.mono (by omega)), (by first | omega | (have := rg_len rz (by assumption); simp; omega) | (have := rg_len rz _; simp; omega) | (simp; done) | (simp; omega) | skip), (f110.le (by omega)), E108⟩
          ·
            refine v_seq ?_
            refine v_ops ?_
            refine s_pure (.bool (g37 == 4)) (fun _ q => q) ?_
            refine s_pure (.bool (g37 == 4)) (fun _ q => q) ?_
            refine s_nil ?_
            refine p_seqN ?_
            refine v_cond rfl (fun c111 => ?_) (fun c111 => ?_)
            ·
              have f112 := (bxx34.mod mh38 (by simp; omega))
              refine v_draw (DrawVC.hold ([b9]) ?_)
              refine d_pureT (.pointer (some ⟨b9, 4, none⟩)) (fun _ q => q) ?_
              refine d_pureT (.pointer (some ⟨p_c, 0, none⟩)) (fun _ q => q) ?_
              refine d_loadT r28 (fun _ q => f112.take (by simp) rfl q) ?_
              refine d_eff ?_
              refine s_row (α := Int) [0, 61, 62, 5] (fun _ q => seg_i rfl (seg_i rfl (seg_i rfl (seg_i rfl (seg_nil q))))) rfl (by simp [maxLen]) (fun r113 h114 eh114 zh114 s_r113 fr_r113 => ?_)
              have E115 := E39.trans (Mod.of_ext eh114 _)
              have z116 := eh114.size
              have G117 := eh114
              have lt_r113 := s_r113.lt
              refine s_nil ⟨fun _ x hx => G117.blk x (by simp at hx; omega), ?_⟩
              refine d_eff ?_
              have f118 := (Ch38.ext eh114)
              refine s_call [.pointer (some ⟨p_c, 0, none⟩), r113] rfl (spec_l1Cur_among_ok p_c t_c ((m_c + 2000) + 2) lo_c r113 [0, 61, 62, 5] _ f118 s_r113.toSl (fun b hb hc => by simp at hc; have := fr_r113 b hb; omega) (by first | omega | assumption | (simp; done) | (simp; omega)) (by first | omega | assumption | (simp; done) | (simp; omega))) ?_
              rintro _ h120 ⟨g119, rfl, qh120, Ch120, mh120⟩
              have zh120 := mh120.size
              have E121 := E115.new mh120 (fun b hb => .inl (by simp at hb; simp [hb]))
              have G122 : ∀ x ∈ ([b9]), h120[x]? = h38[x]? := fun x hx => (mh120.blk x (Nat.lt_of_lt_of_le ((by simp at hx; omega) : x < (h38).size) (by omega)) (((fun xx hxx => by simp at hxx; rw [hxx]; exact (by simp; omega)) : ∀ xx ∈ ([b9]), xx ∉ [p_c]) x hx)).trans (G117.blk x (by simp at hx; omega))
              simp only [List.mem_cons, List.not_mem_nil, or_false] at qh120
              refine s_nil ⟨fun _ x hx => G122 x hx, ?_⟩
              refine d_eff ?_
              refine s_row (α := Int) [g119] (fun _ q => seg_i rfl (seg_nil q)) rfl (by simp [maxLen]) (fun r123 h124 eh124 zh124 s_r123 fr_r123 => ?_)
              have E125 := E121.trans (Mod.of_ext eh124 _)
              have z126 := eh124.size
              have G127 : ∀ x ∈ ([b9]), h124[x]? = h38[x]? := fun x hx => (eh124.blk x (Nat.lt_of_lt_of_le ((by simp at hx; omega) : x < (h38).size) (by omega))).trans (G122 x hx)
              have lt_r123 := s_r123.lt
              refine s_nil ⟨fun _ x hx => G127 x hx, ?_⟩
              refine d_eff ?_
              have f128 := (((((s_r28.mod mh33 (fun b hb hc => by simp at hc; have := fr_r28 b hb; omega)).mod mh38 (fun b hb hc => by simp at hc; have := fr_r28 b hb; omega)).ext eh114).mod mh120 (fun b hb hc => by simp at hc; have := fr_r28 b hb; omega)).ext eh124)
              refine s_app f128 s_r123 rfl rfl rfl (by first | (simp [maxLen]; done) | (simp [maxLen]; omega)) (by first | (simp; done) | (simp; omega)) (fun r129 h130 mh130 zh130 s_r129 ab_r129 => ?_)
              have E131 := E125.new mh130 (fun b hb => .inr (by have := fr_r28 b hb; omega))
              have fr_r129 := fr_r28.app ab_r129 (by omega)
              have np132 : ∀ b ∈ blks r113, b ∉ blks r129 := fun b hb hc => (ab_r129 _ hc).elim (((fun b hb hc => by have := fr_r113 b hb; have := lt_r28 b hc; omega) : ∀ b ∈ blks r113, b ∉ blks r28) b hb) (fun hc => by have := lt_r113 b hb; omega)
              have np133 : ∀ b ∈ blks r123, b ∉ blks r129 := fun b hb hc => (ab_r129 _ hc).elim (((fun b hb hc => by have := fr_r123 b hb; have := lt_r28 b hc; omega) : ∀ b ∈ blks r123, b ∉ blks r28) b hb) (fun hc => by have := lt_r123 b hb; omega)
              have lt_r129 := s_r129.lt
              refine s_nil ⟨fun hl => (by cases hl), ?_⟩
              refine d_pureT (.pointer (some ⟨b9, 4, none⟩)) (fun _ q => q) ?_
              refine d_eff ?_
              have f134 := ((((f112.ext eh114).mod mh120 (by simp; omega)).ext eh124).mod mh130 (fun hc => by have := fr_r28 _ hc; omega))
              refine s_stBx r129 [r129] [.int .i64 (((rgOut rz g17).1).phase), .int .i64 (((rgOut rz g17).1).holds), .int .i64 (((rgOut rz g17).1).again), .int .i64 (((rgOut rz g17).1).shown), r129] f134 rfl rfl s_r129.cellsv rfl (by simp) (all_cons s_r129.one1 all_nil) rfl (fun h135 mh135 sh135 bxx136 => ?_)
              have E137 := E131.new mh135 (fun b hb => .inr (by simp at hb; omega))
              refine s_nil ⟨fun hl => (by cases hl), ?_⟩
              refine d_done ?_
              refine p_blkN ?_
              refine p_seqN ?_
              refine v_seq ?_
              refine v_ops ?_
              refine s_load (.agg #[.int .i64 (((rgOut rz g17).1).phase), .int .i64 (((rgOut rz g17).1).holds), .int .i64 (((rgOut rz g17).1).again), .int .i64 (((rgOut rz g17).1).shown), r129]) (fun _ q => bxx136.loadA rfl q) ?_
              have f138 := (((((((((((((bxb1.ext eh6).ext eh10).mod mh13 (by simp; omega)).mod mh19 (by simp; omega)).ext eh21).ext eh29).mod mh33 (by simp; omega)).mod mh38 (by simp; omega)).ext eh114).mod mh120 (by simp; omega)).ext eh124).mod mh130 (fun hc => by have := fr_r28 _ hc; omega)).mod mh135 (by simp; omega))
              refine s_stBx (.agg #[.int .i64 (((rgOut rz g17).1).phase), .int .i64 (((rgOut rz g17).1).holds), .int .i64 (((rgOut rz g17).1).again), .int .i64 (((rgOut rz g17).1).shown), r129]) [.int .i64 (((rgOut rz g17).1).phase), .int .i64 (((rgOut rz g17).1).holds), .int .i64 (((rgOut rz g17).1).again), .int .i64 (((rgOut rz g17).1).shown), r129] [.int .i64 (((rgOut rz g17).1).phase), .int .i64 (((rgOut rz g17).1).holds), .int .i64 (((rgOut rz g17).1).again), .int .i64 (((rgOut rz g17).1).shown), r129] f138 rfl rfl rfl rfl (by simp) (all_cons rfl (all_cons rfl (all_cons rfl (all_cons rfl (all_cons s_r129.one1 all_nil))))) rfl (fun h139 mh139 sh139 bxx140 => ?_)
              have E141 := E137.new mh139 (fun b hb => .inr (by simp at hb; omega))
              refine s_nil ?_
              refine p_seqN ?_
              refine v_ret ?_
              refine p_ret [.agg #[.int .i64 (((rgOut rz g17).1).phase), .int .i64 (((rgOut rz g17).1).holds), .int .i64 (((rgOut rz g17).1).again), .int .i64 (((rgOut rz g17).1).shown), r129]] (.agg #[.int .i64 (((rgOut rz g17).1).phase), .int .i64 (((rgOut rz g17).1).holds), .int .i64 (((rgOut rz g17).1).again), .int .i64 (((rgOut rz g17).1).shown), r129]) (fun _ q => (bxx140.loadA rfl q)) rfl ?_
              have f142 := ((s_r129.mod mh135 (fun b hb hc => by simp at hc; have := fr_r129 b hb; omega)).mod mh139 (fun b hb hc => by simp at hc; have := fr_r129 b hb; omega))
              have f143 := ((((Ch120.ext eh124).mod mh130 (fun hc => by have := fr_r28 _ hc; omega) (fun b hb => by have := fr_r28 b hb; omega)).mod mh135 (by simp; omega) (fun b hb => by simp at hb; omega)).mod mh139 (by simp; omega) (fun b hb => by simp at hb; omega))
              exact ⟨⟨((rgOut rz g17).1).phase, ((rgOut rz g17).1).holds, ((rgOut rz g17).1).again, ((rgOut rz g17).1).shown, (((rgOut rz g17).1).passed ++ [g119])⟩, r129, rfl, f142, (fr_r129.mono (by omega)), (by first | omega | (have := rg_len rz (by assumption); simp; omega) | (have := rg_len rz _; simp; omega) | (simp; done) | (simp; omega) | skip), (f143.le (by omega)), E141⟩
            ·
              refine v_seq ?_
              refine v_ops ?_
              refine s_pure (.bool (g37 == 5)) (fun _ q => q) ?_
              refine s_pure (.bool (g37 == 5)) (fun _ q => q) ?_
              refine s_nil ?_
              refine p_seqN ?_
              refine v_cond rfl (fun c144 => ?_) (fun c144 => ?_)
              ·
                refine v_seq ?_
                refine v_ops ?_
                refine s_pure (.agg #[.int .i64 1, .int .i64 3, .int .i64 0, .int .i64 3, .slice none 0 0]) (fun _ q => w_build (seg_i rfl (seg_i rfl (seg_i rfl (seg_nil q))))) ?_
                have f145 := (bxx34.mod mh38 (by simp; omega))
                refine s_stBx (.agg #[.int .i64 1, .int .i64 3, .int .i64 0, .int .i64 3, .slice none 0 0]) [.int .i64 1, .int .i64 3, .int .i64 0, .int .i64 3, .slice none 0 0] [.int .i64 1, .int .i64 3, .int .i64 0, .int .i64 3, .slice none 0 0] f145 rfl rfl rfl rfl (by simp) (all_cons rfl (all_cons rfl (all_cons rfl (all_cons rfl (all_cons rfl all_nil))))) rfl (fun h146 mh146 sh146 bxx147 => ?_)
                have E148 := E39.new mh146 (fun b hb => .inr (by simp at hb; omega))
                refine s_nil ?_
                refine p_seqN ?_
                refine v_seq ?_
                refine v_ops ?_
                refine s_pure (.pointer (some ⟨p_c, 0, none⟩)) (fun _ q => q) ?_
                have f149 := (Ch38.mod mh146 (by simp; omega) (fun b hb => by simp at hb; omega))
                refine s_call [.pointer (some ⟨p_c, 0, none⟩), .int .i64 3] rfl (spec_l1Cur_pick_ok p_c t_c ((m_c + 2000) + 2) lo_c 3 _ f149 (by first | omega | assumption | (simp; done) | (simp; omega))) ?_
                rintro _ h151 ⟨g150, rfl, qh151, Ch151, mh151⟩
                have zh151 := mh151.size
                have E152 := E148.new mh151 (fun b hb => .inl (by simp at hb; simp [hb]))
                refine s_pure (.int .i64 (79 + g150)) (fun _ q => ArithVC.mk (by omega) q) ?_
                refine s_pure (.int .i64 (79 + g150)) (fun _ q => q) ?_
                refine s_nil ?_
                refine p_seqN ?_
                refine v_block ?_
                have f154 := ((((((((((bxb1.ext eh6).ext eh10).mod mh13 (by simp; omega)).mod mh19 (by simp; omega)).ext eh21).ext eh29).mod mh33 (by simp; omega)).mod mh38 (by simp; omega)).mod mh146 (by simp; omega)).mod mh151 (by simp; omega))
                have f155 := (bxx147.mod mh151 (by simp; omega))
                refine v_loop2 (α := List Int) (β := Value) (fun ps w => [(2, .pointer (some ⟨b1, 0, none⟩)), (3, .pointer (some ⟨b9, 0, none⟩)), (5, .int .i64 (79 + g150))]) (fun ps w hh => Mod [p_c] h hh ∧ Bx hh b1 [.int .i64 0, .int .i64 0, .int .i64 0, .int .i64 0, .slice none 0 0] 25 ∧ Bx hh b9 [.int .i64 1, .int .i64 3, .int .i64 0, .int .i64 3, w] 25 ∧ Cur hh p_c t_c (m_c + 2900) lo_c ∧ SlO hh w ps ∧ Fr h.size w ∧ b1 ∉ blks w ∧ b9 ∉ blks w ∧ p_c ∉ blks w ∧ ps.length ≤ 81) (fun ps w => (79 + g150).toNat - ps.length) [] (.slice none 0 0) ⟨rfl, rfl, rfl⟩ ⟨E152, f154, f155, (Ch151.le (by first | omega | (simp; done) | (simp; omega))), (sl_eq (SlX.nil (α := Int) true h151) (by simp)), (Fr.nil _), (by simp [blks, fpts]), (by simp [blks, fpts]), (by simp [blks, fpts]), (by first | omega | (simp; done) | (simp; omega))⟩ ?_
                rintro ps w R156 h153 ⟨Eh, bxb1, bxb9, bxc, s_w, fr_w, np_b1_w, np_b9_w, np_c_w, hps⟩
                have zEh := Eh.size
                have lbc := bxc.lt
                have lbb1 := bxb1.lt
                have lbb9 := bxb9.lt
                have lt_w := s_w.lt
                refine v_seq ?_
                refine v_seq ?_
                refine v_ops ?_
                refine s_pure (.pointer (some ⟨b9, 4, none⟩)) (fun _ q => q) ?_
                refine s_load w (fun _ q => bxb9.load rfl q) ?_
                refine s_pure (.int .i64 (ps.length : Int)) (fun _ q => s_w.lenVC q) ?_
                refine s_pure (.int .i64 (79 + g150)) (fun _ q => q) ?_
                refine s_pure (.bool (decide ((ps.length : Int) < (79 + g150)))) (fun _ q => q) ?_
                refine s_nil ?_
                refine p_seqN ?_
                refine v_cond rfl (fun c158 => ?_) (fun c158 => ?_)
                ·
                  refine v_skip ?_
                  refine p_seqN ?_
                  refine v_block ?_
                  refine v_ops ?_
                  refine s_pure (.pointer (some ⟨b9, 4, none⟩)) (fun _ q => q) ?_
                  refine s_load w (fun _ q => bxb9.load rfl q) ?_
                  refine s_row (α := Int) [4] (fun _ q => seg_i rfl (seg_nil q)) rfl (by simp [maxLen]) (fun r159 h160 eh160 zh160 s_r159 fr_r159 => ?_)
                  have E161 := Eh.trans (Mod.of_ext eh160 _)
                  have z162 := eh160.size
                  have lt_r159 := s_r159.lt
                  have f163 := (s_w.ext eh160)
                  refine s_app f163 s_r159 rfl rfl rfl (by first | (simp [maxLen]; done) | (simp [maxLen]; omega)) (by first | (simp; done) | (simp; omega)) (fun r164 h165 mh165 zh165 s_r164 ab_r164 => ?_)
                  have E166 := E161.new mh165 (fun b hb => .inr (by have := fr_w b hb; omega))
                  have fr_r164 := fr_w.app ab_r164 (by omega)
                  have np167 : b1 ∉ blks r164 := fun hc => (ab_r164 _ hc).elim np_b1_w (fun hc => by omega)
                  have np168 : b9 ∉ blks r164 := fun hc => (ab_r164 _ hc).elim np_b9_w (fun hc => by omega)
                  have np169 : p_c ∉ blks r164 := fun hc => (ab_r164 _ hc).elim np_c_w (fun hc => by omega)
                  have np170 : ∀ b ∈ blks r159, b ∉ blks r164 := fun b hb hc => (ab_r164 _ hc).elim (((fun b hb hc => by have := fr_r159 b hb; have := lt_w b hc; omega) : ∀ b ∈ blks r159, b ∉ blks w) b hb) (fun hc => by have := lt_r159 b hb; omega)
                  have lt_r164 := s_r164.lt
                  refine s_pure (.pointer (some ⟨b9, 4, none⟩)) (fun _ q => q) ?_
                  have f171 := ((bxb9.ext eh160).mod mh165 np_b9_w)
                  refine s_stBx r164 [r164] [.int .i64 1, .int .i64 3, .int .i64 0, .int .i64 3, r164] f171 rfl rfl s_r164.cellsv rfl (by simp) (all_cons s_r164.one1 all_nil) rfl (fun h172 mh172 sh172 bxx173 => ?_)
                  have E174 := E166.new mh172 (fun b hb => .inr (by simp at hb; omega))
                  refine s_nil ?_
                  refine p_blkN ?_
                  have f175 := (((bxb1.ext eh160).mod mh165 np_b1_w).mod mh172 (by simp; omega))
                  have f176 := (((bxc.ext eh160).mod mh165 np_c_w (fun b hb => by have := fr_w b hb; omega)).mod mh172 (by simp; omega) (fun b hb => by simp at hb; omega))
                  have f177 := (s_r164.mod mh172 (fun b hb hc => np168 (by simp at hc; rw [← hc]; exact hb)))
                  exact p_lpN ⟨(ps ++ [4]), r164, ⟨rfl, rfl, rfl⟩, ⟨E174, f175, bxx173, (f176.le (by omega)), (sl_eq f177 (by simp)), (fr_r164.mono (by omega)), np167, np168, np169, (by first | omega | (simp; done) | (simp; omega))⟩, by first | omega | (simp; done) | (simp; omega)⟩
                ·
                  refine v_exit ?_
                  refine p_seqX ?_
                  refine p_lpX ?_
                  refine p_blkX ?_
                  refine p_blkN ?_
                  refine p_seqN ?_
                  refine v_seq ?_
                  refine v_ops ?_
                  refine s_load (.agg #[.int .i64 1, .int .i64 3, .int .i64 0, .int .i64 3, w]) (fun _ q => bxb9.loadA rfl q) ?_
                  refine s_stBx (.agg #[.int .i64 1, .int .i64 3, .int .i64 0, .int .i64 3, w]) [.int .i64 1, .int .i64 3, .int .i64 0, .int .i64 3, w] [.int .i64 1, .int .i64 3, .int .i64 0, .int .i64 3, w] bxb1 rfl rfl rfl rfl (by simp) (all_cons rfl (all_cons rfl (all_cons rfl (all_cons rfl (all_cons s_w.one1 all_nil))))) rfl (fun h178 mh178 sh178 bxx179 => ?_)
                  have E180 := Eh.new mh178 (fun b hb => .inr (by simp at hb; omega))
                  refine s_nil ?_
                  refine p_seqN ?_
                  refine v_ret ?_
                  refine p_ret [.agg #[.int .i64 1, .int .i64 3, .int .i64 0, .int .i64 3, w]] (.agg #[.int .i64 1, .int .i64 3, .int .i64 0, .int .i64 3, w]) (fun _ q => (bxx179.loadA rfl q)) rfl ?_
                  have f181 := (s_w.mod mh178 (fun b hb hc => np_b1_w (by simp at hc; rw [← hc]; exact hb)))
                  have f182 := (bxc.mod mh178 (by simp; omega) (fun b hb => by simp at hb; omega))
                  exact ⟨⟨1, 3, 0, 3, ps⟩, w, rfl, f181, (fr_w.mono (by omega)), (by first | omega | (have := rg_len rz (by assumption); simp; omega) | (have := rg_len rz _; simp; omega) | (simp; done) | (simp; omega) | skip), (f182.le (by omega)), E180⟩
              ·
                refine v_skip ?_
                refine p_blkN ?_
                refine p_seqN ?_
                refine v_seq ?_
                refine v_ops ?_
                have f183 := (bxx34.mod mh38 (by simp; omega))
                refine s_load (.agg #[.int .i64 (((rgOut rz g17).1).phase), .int .i64 (((rgOut rz g17).1).holds), .int .i64 (((rgOut rz g17).1).again), .int .i64 (((rgOut rz g17).1).shown), r28]) (fun _ q => f183.loadA rfl q) ?_
                have f184 := ((((((((bxb1.ext eh6).ext eh10).mod mh13 (by simp; omega)).mod mh19 (by simp; omega)).ext eh21).ext eh29).mod mh33 (by simp; omega)).mod mh38 (by simp; omega))
                refine s_stBx (.agg #[.int .i64 (((rgOut rz g17).1).phase), .int .i64 (((rgOut rz g17).1).holds), .int .i64 (((rgOut rz g17).1).again), .int .i64 (((rgOut rz g17).1).shown), r28]) [.int .i64 (((rgOut rz g17).1).phase), .int .i64 (((rgOut rz g17).1).holds), .int .i64 (((rgOut rz g17).1).again), .int .i64 (((rgOut rz g17).1).shown), r28] [.int .i64 (((rgOut rz g17).1).phase), .int .i64 (((rgOut rz g17).1).holds), .int .i64 (((rgOut rz g17).1).again), .int .i64 (((rgOut rz g17).1).shown), r28] f184 rfl rfl rfl rfl (by simp) (all_cons rfl (all_cons rfl (all_cons rfl (all_cons rfl (all_cons s_r28.one1 all_nil))))) rfl (fun h185 mh185 sh185 bxx186 => ?_)
                have E187 := E39.new mh185 (fun b hb => .inr (by simp at hb; omega))
                refine s_nil ?_
                refine p_seqN ?_
                refine v_ret ?_
                refine p_ret [.agg #[.int .i64 (((rgOut rz g17).1).phase), .int .i64 (((rgOut rz g17).1).holds), .int .i64 (((rgOut rz g17).1).again), .int .i64 (((rgOut rz g17).1).shown), r28]] (.agg #[.int .i64 (((rgOut rz g17).1).phase), .int .i64 (((rgOut rz g17).1).holds), .int .i64 (((rgOut rz g17).1).again), .int .i64 (((rgOut rz g17).1).shown), r28]) (fun _ q => (bxx186.loadA rfl q)) rfl ?_
                have f188 := (((s_r28.mod mh33 (fun b hb hc => by simp at hc; have := fr_r28 b hb; omega)).mod mh38 (fun b hb hc => by simp at hc; have := fr_r28 b hb; omega)).mod mh185 (fun b hb hc => by simp at hc; have := fr_r28 b hb; omega))
                have f189 := (Ch38.mod mh185 (by simp; omega) (fun b hb => by simp at hb; omega))
                exact ⟨⟨((rgOut rz g17).1).phase, ((rgOut rz g17).1).holds, ((rgOut rz g17).1).again, ((rgOut rz g17).1).shown, ((rgOut rz g17).1).passed⟩, r28, rfl, f188, (fr_r28.mono (by omega)), (by first | omega | (have := rg_len rz (by assumption); simp; omega) | (have := rg_len rz _; simp; omega) | (simp; done) | (simp; omega) | skip), (f189.le (by omega)), E187⟩
  ·
    refine v_skip ?_
    refine p_seqN ?_
    refine v_seq ?_
    refine v_seq ?_
    refine v_ops ?_
    refine s_pure (.pointer (some ⟨p_c, 0, none⟩)) (fun _ q => q) ?_
    have f190 := (Ch19.ext eh21)
    refine s_call [.pointer (some ⟨p_c, 0, none⟩), .int .i64 30] rfl (spec_l1Cur_pick_ok p_c t_c (m_c + 2000) lo_c 30 _ f190 (by first | omega | assumption | (simp; done) | (simp; omega))) ?_
    rintro _ h192 ⟨g191, rfl, qh192, Ch192, mh192⟩
    have zh192 := mh192.size
    have E193 := E22.new mh192 (fun b hb => .inl (by simp at hb; simp [hb]))
    refine s_nil ?_
    refine p_seqN ?_
    refine v_block ?_
    refine v_seq ?_
    refine v_ops ?_
    refine s_pure (.bool (g191 == 0)) (fun _ q => q) ?_
    refine s_pure (.bool (g191 == 0)) (fun _ q => q) ?_
    refine s_nil ?_
    refine p_seqN ?_
    refine v_cond rfl (fun c194 => ?_) (fun c194 => ?_)
    ·
      refine v_ops ?_
      refine s_pure (.pointer (some ⟨p_c, 0, none⟩)) (fun _ q => q) ?_
      refine s_call [.pointer (some ⟨p_c, 0, none⟩), .int .i64 6] rfl (spec_l1Cur_pick_ok p_c t_c ((m_c + 2000) + 2) lo_c 6 _ Ch192 (by first | omega | assumption | (simp; done) | (simp; omega))) ?_
      rintro _ h196 ⟨g195, rfl, qh196, Ch196, mh196⟩
      have zh196 := mh196.size
      have E197 := E193.new mh196 (fun b hb => .inl (by simp at hb; simp [hb]))
      refine s_pure (.int .i64 (g195 - 1)) (fun _ q => ArithVC.mk (by omega) q) ?_
      refine s_pure (.pointer (some ⟨b9, 0, none⟩)) (fun _ q => q) ?_
      have f198 := ((((bxx14.mod mh19 (by simp; omega)).ext eh21).mod mh192 (by simp; omega)).mod mh196 (by simp; omega))
      refine s_stBx (.int .i64 (g195 - 1)) [.int .i64 (g195 - 1)] [.int .i64 (g195 - 1), .int .i64 rz.holds, .int .i64 rz.again, .int .i64 rz.shown, r5] f198 rfl rfl rfl rfl (by simp) (all_cons rfl all_nil) rfl (fun h199 mh199 sh199 bxx200 => ?_)
      have E201 := E197.new mh199 (fun b hb => .inr (by simp at hb; omega))
      refine s_nil ?_
      refine p_blkN ?_
      refine p_seqN ?_
      refine v_seq ?_
      refine v_ops ?_
      refine s_load (.agg #[.int .i64 (g195 - 1), .int .i64 rz.holds, .int .i64 rz.again, .int .i64 rz.shown, r5]) (fun _ q => bxx200.loadA rfl q) ?_
      have f202 := ((((((((bxb1.ext eh6).ext eh10).mod mh13 (by simp; omega)).mod mh19 (by simp; omega)).ext eh21).mod mh192 (by simp; omega)).mod mh196 (by simp; omega)).mod mh199 (by simp; omega))
      refine s_stBx (.agg #[.int .i64 (g195 - 1), .int .i64 rz.holds, .int .i64 rz.again, .int .i64 rz.shown, r5]) [.int .i64 (g195 - 1), .int .i64 rz.holds, .int .i64 rz.again, .int .i64 rz.shown, r5] [.int .i64 (g195 - 1), .int .i64 rz.holds, .int .i64 rz.again, .int .i64 rz.shown, r5] f202 rfl rfl rfl rfl (by simp) (all_cons rfl (all_cons rfl (all_cons rfl (all_cons rfl (all_cons s_r5.one1 all_nil))))) rfl (fun h203 mh203 sh203 bxx204 => ?_)
      have E205 := E201.new mh203 (fun b hb => .inr (by simp at hb; omega))
      refine s_nil ?_
      refine p_seqN ?_
      refine v_ret ?_
      refine p_ret [.agg #[.int .i64 (g195 - 1), .int .i64 rz.holds, .int .i64 rz.again, .int .i64 rz.shown, r5]] (.agg #[.int .i64 (g195 - 1), .int .i64 rz.holds, .int .i64 rz.again, .int .i64 rz.shown, r5]) (fun _ q => (bxx204.loadA rfl q)) rfl ?_
      have f206 := ((((((((s_r5.ext eh10).mod mh13 (fun b hb hc => by simp at hc; have := lt_r5 b hb; omega)).mod mh19 (fun b hb hc => by simp at hc; have := fr_r5 b hb; omega)).ext eh21).mod mh192 (fun b hb hc => by simp at hc; have := fr_r5 b hb; omega)).mod mh196 (fun b hb hc => by simp at hc; have := fr_r5 b hb; omega)).mod mh199 (fun b hb hc => by simp at hc; have := lt_r5 b hb; omega)).mod mh203 (fun b hb hc => by simp at hc; have := fr_r5 b hb; omega))
      have f207 := ((Ch196.mod mh199 (by simp; omega) (fun b hb => by simp at hb; omega)).mod mh203 (by simp; omega) (fun b hb => by simp at hb; omega))
      exact ⟨⟨(g195 - 1), rz.holds, rz.again, rz.shown, rz.passed⟩, r5, rfl, f206, (fr_r5.mono (by omega)), (by first | omega | (have := rg_len rz (by assumption); simp; omega) | (have := rg_len rz _; simp; omega) | (simp; done) | (simp; omega) | skip), (f207.le (by omega)), E205⟩
    ·
      refine v_seq ?_
      refine v_ops ?_
      refine s_pure (.bool (g191 == 1)) (fun _ q => q) ?_
      refine s_pure (.bool (g191 == 1)) (fun _ q => q) ?_
      refine s_nil ?_
      refine p_seqN ?_
      refine v_cond rfl (fun c208 => ?_) (fun c208 => ?_)
      ·
        refine v_ops ?_
        refine s_pure (.pointer (some ⟨p_c, 0, none⟩)) (fun _ q => q) ?_
        refine s_row (α := Int) [0, 5, 61, 62, (-1)] (fun _ q => seg_i rfl (seg_i rfl (seg_i rfl (seg_i rfl (seg_i rfl (seg_nil q)))))) rfl (by simp [maxLen]) (fun r209 h210 eh210 zh210 s_r209 fr_r209 => ?_)
        have E211 := E193.trans (Mod.of_ext eh210 _)
        have z212 := eh210.size
        have lt_r209 := s_r209.lt
        have f213 := (Ch192.ext eh210)
        refine s_call [.pointer (some ⟨p_c, 0, none⟩), r209] rfl (spec_l1Cur_among_ok p_c t_c ((m_c + 2000) + 2) lo_c r209 [0, 5, 61, 62, (-1)] _ f213 s_r209.toSl (fun b hb hc => by simp at hc; have := fr_r209 b hb; omega) (by first | omega | assumption | (simp; done) | (simp; omega)) (by first | omega | assumption | (simp; done) | (simp; omega))) ?_
        rintro _ h215 ⟨g214, rfl, qh215, Ch215, mh215⟩
        have zh215 := mh215.size
        have E216 := E211.new mh215 (fun b hb => .inl (by simp at hb; simp [hb]))
        simp only [List.mem_cons, List.not_mem_nil, or_false] at qh215
        refine s_pure (.pointer (some ⟨b9, 1, none⟩)) (fun _ q => q) ?_
        have f217 := (((((bxx14.mod mh19 (by simp; omega)).ext eh21).mod mh192 (by simp; omega)).ext eh210).mod mh215 (by simp; omega))
        refine s_stBx (.int .i64 g214) [.int .i64 g214] [.int .i64 rz.phase, .int .i64 g214, .int .i64 rz.again, .int .i64 rz.shown, r5] f217 rfl rfl rfl rfl (by simp) (all_cons rfl all_nil) rfl (fun h218 mh218 sh218 bxx219 => ?_)
        have E220 := E216.new mh218 (fun b hb => .inr (by simp at hb; omega))
        refine s_nil ?_
        refine p_blkN ?_
        refine p_seqN ?_
        refine v_seq ?_
        refine v_ops ?_
        refine s_load (.agg #[.int .i64 rz.phase, .int .i64 g214, .int .i64 rz.again, .int .i64 rz.shown, r5]) (fun _ q => bxx219.loadA rfl q) ?_
        have f221 := (((((((((bxb1.ext eh6).ext eh10).mod mh13 (by simp; omega)).mod mh19 (by simp; omega)).ext eh21).mod mh192 (by simp; omega)).ext eh210).mod mh215 (by simp; omega)).mod mh218 (by simp; omega))
        refine s_stBx (.agg #[.int .i64 rz.phase, .int .i64 g214, .int .i64 rz.again, .int .i64 rz.shown, r5]) [.int .i64 rz.phase, .int .i64 g214, .int .i64 rz.again, .int .i64 rz.shown, r5] [.int .i64 rz.phase, .int .i64 g214, .int .i64 rz.again, .int .i64 rz.shown, r5] f221 rfl rfl rfl rfl (by simp) (all_cons rfl (all_cons rfl (all_cons rfl (all_cons rfl (all_cons s_r5.one1 all_nil))))) rfl (fun h222 mh222 sh222 bxx223 => ?_)
        have E224 := E220.new mh222 (fun b hb => .inr (by simp at hb; omega))
        refine s_nil ?_
        refine p_seqN ?_
        refine v_ret ?_
        refine p_ret [.agg #[.int .i64 rz.phase, .int .i64 g214, .int .i64 rz.again, .int .i64 rz.shown, r5]] (.agg #[.int .i64 rz.phase, .int .i64 g214, .int .i64 rz.again, .int .i64 rz.shown, r5]) (fun _ q => (bxx223.loadA rfl q)) rfl ?_
        have f225 := (((((((((s_r5.ext eh10).mod mh13 (fun b hb hc => by simp at hc; have := lt_r5 b hb; omega)).mod mh19 (fun b hb hc => by simp at hc; have := fr_r5 b hb; omega)).ext eh21).mod mh192 (fun b hb hc => by simp at hc; have := fr_r5 b hb; omega)).ext eh210).mod mh215 (fun b hb hc => by simp at hc; have := fr_r5 b hb; omega)).mod mh218 (fun b hb hc => by simp at hc; have := lt_r5 b hb; omega)).mod mh222 (fun b hb hc => by simp at hc; have := fr_r5 b hb; omega))
        have f226 := ((Ch215.mod mh218 (by simp; omega) (fun b hb => by simp at hb; omega)).mod mh222 (by simp; omega) (fun b hb => by simp at hb; omega))
        exact ⟨⟨rz.phase, g214, rz.again, rz.shown, rz.passed⟩, r5, rfl, f225, (fr_r5.mono (by omega)), (by first | omega | (have := rg_len rz (by assumption); simp; omega) | (have := rg_len rz _; simp; omega) | (simp; done) | (simp; omega) | skip), (f226.le (by omega)), E224⟩
      ·
        refine v_seq ?_
        refine v_ops ?_
        refine s_pure (.bool (g191 == 2)) (fun _ q => q) ?_
        refine s_pure (.bool (g191 == 2)) (fun _ q => q) ?_
        refine s_nil ?_
        refine p_seqN ?_
        refine v_cond rfl (fun c227 => ?_) (fun c227 => ?_)
        ·
          refine v_ops ?_
          refine s_pure (.pointer (some ⟨p_c, 0, none⟩)) (fun _ q => q) ?_
          refine s_row (α := Int) [(-1), 3, 4, 1] (fun _ q => seg_i rfl (seg_i rfl (seg_i rfl (seg_i rfl (seg_nil q))))) rfl (by simp [maxLen]) (fun r228 h229 eh229 zh229 s_r228 fr_r228 => ?_)
          have E230 := E193.trans (Mod.of_ext eh229 _)
          have z231 := eh229.size
          have lt_r228 := s_r228.lt
          have f232 := (Ch192.ext eh229)
          refine s_call [.pointer (some ⟨p_c, 0, none⟩), r228] rfl (spec_l1Cur_among_ok p_c t_c ((m_c + 2000) + 2) lo_c r228 [(-1), 3, 4, 1] _ f232 s_r228.toSl (fun b hb hc => by simp at hc; have := fr_r228 b hb; omega) (by first | omega | assumption | (simp; done) | (simp; omega)) (by first | omega | assumption | (simp; done) | (simp; omega))) ?_
          rintro _ h234 ⟨g233, rfl, qh234, Ch234, mh234⟩
          have zh234 := mh234.size
          have E235 := E230.new mh234 (fun b hb => .inl (by simp at hb; simp [hb]))
          simp only [List.mem_cons, List.not_mem_nil, or_false] at qh234
          refine s_pure (.pointer (some ⟨b9, 2, none⟩)) (fun _ q => q) ?_
          have f236 := (((((bxx14.mod mh19 (by simp; omega)).ext eh21).mod mh192 (by simp; omega)).ext eh229).mod mh234 (by simp; omega))
          refine s_stBx (.int .i64 g233) [.int .i64 g233] [.int .i64 rz.phase, .int .i64 rz.holds, .int .i64 g233, .int .i64 rz.shown, r5] f236 rfl rfl rfl rfl (by simp) (all_cons rfl all_nil) rfl (fun h237 mh237 sh237 bxx238 => ?_)
          have E239 := E235.new mh237 (fun b hb => .inr (by simp at hb; omega))
          refine s_nil ?_
          refine p_blkN ?_
          refine p_seqN ?_
          refine v_seq ?_
          refine v_ops ?_
          refine s_load (.agg #[.int .i64 rz.phase, .int .i64 rz.holds, .int .i64 g233, .int .i64 rz.shown, r5]) (fun _ q => bxx238.loadA rfl q) ?_
          have f240 := (((((((((bxb1.ext eh6).ext eh10).mod mh13 (by simp; omega)).mod mh19 (by simp; omega)).ext eh21).mod mh192 (by simp; omega)).ext eh229).mod mh234 (by simp; omega)).mod mh237 (by simp; omega))
          refine s_stBx (.agg #[.int .i64 rz.phase, .int .i64 rz.holds, .int .i64 g233, .int .i64 rz.shown, r5]) [.int .i64 rz.phase, .int .i64 rz.holds, .int .i64 g233, .int .i64 rz.shown, r5] [.int .i64 rz.phase, .int .i64 rz.holds, .int .i64 g233, .int .i64 rz.shown, r5] f240 rfl rfl rfl rfl (by simp) (all_cons rfl (all_cons rfl (all_cons rfl (all_cons rfl (all_cons s_r5.one1 all_nil))))) rfl (fun h241 mh241 sh241 bxx242 => ?_)
          have E243 := E239.new mh241 (fun b hb => .inr (by simp at hb; omega))
          refine s_nil ?_
          refine p_seqN ?_
          refine v_ret ?_
          refine p_ret [.agg #[.int .i64 rz.phase, .int .i64 rz.holds, .int .i64 g233, .int .i64 rz.shown, r5]] (.agg #[.int .i64 rz.phase, .int .i64 rz.holds, .int .i64 g233, .int .i64 rz.shown, r5]) (fun _ q => (bxx242.loadA rfl q)) rfl ?_
          have f244 := (((((((((s_r5.ext eh10).mod mh13 (fun b hb hc => by simp at hc; have := lt_r5 b hb; omega)).mod mh19 (fun b hb hc => by simp at hc; have := fr_r5 b hb; omega)).ext eh21).mod mh192 (fun b hb hc => by simp at hc; have := fr_r5 b hb; omega)).ext eh229).mod mh234 (fun b hb hc => by simp at hc; have := fr_r5 b hb; omega)).mod mh237 (fun b hb hc => by simp at hc; have := lt_r5 b hb; omega)).mod mh241 (fun b hb hc => by simp at hc; have := fr_r5 b hb; omega))
          have f245 := ((Ch234.mod mh237 (by simp; omega) (fun b hb => by simp at hb; omega)).mod mh241 (by simp; omega) (fun b hb => by simp at hb; omega))
          exact ⟨⟨rz.phase, rz.holds, g233, rz.shown, rz.passed⟩, r5, rfl, f244, (fr_r5.mono (by omega)), (by first | omega | (have := rg_len rz (by assumption); simp; omega) | (have := rg_len rz _; simp; omega) | (simp; done) | (simp; omega) | skip), (f245.le (by omega)), E243⟩
        ·
          refine v_seq ?_
          refine v_ops ?_
          refine s_pure (.bool (g191 == 3)) (fun _ q => q) ?_
          refine s_pure (.bool (g191 == 3)) (fun _ q => q) ?_
          refine s_nil ?_
          refine p_seqN ?_
          refine v_cond rfl (fun c246 => ?_) (fun c246 => ?_)
          ·
            refine v_ops ?_
            refine s_pure (.pointer (some ⟨p_c, 0, none⟩)) (fun _ q => q) ?_
            refine s_row (α := Int) [0, 5, 62, 63, 64] (fun _ q => seg_i rfl (seg_i rfl (seg_i rfl (seg_i rfl (seg_i rfl (seg_nil q)))))) rfl (by simp [maxLen]) (fun r247 h248 eh248 zh248 s_r247 fr_r247 => ?_)
            have E249 := E193.trans (Mod.of_ext eh248 _)
            have z250 := eh248.size
            have lt_r247 := s_r247.lt
            have f251 := (Ch192.ext eh248)
            refine s_call [.pointer (some ⟨p_c, 0, none⟩), r247] rfl (spec_l1Cur_among_ok p_c t_c ((m_c + 2000) + 2) lo_c r247 [0, 5, 62, 63, 64] _ f251 s_r247.toSl (fun b hb hc => by simp at hc; have := fr_r247 b hb; omega) (by first | omega | assumption | (simp; done) | (simp; omega)) (by first | omega | assumption | (simp; done) | (simp; omega))) ?_
            rintro _ h253 ⟨g252, rfl, qh253, Ch253, mh253⟩
            have zh253 := mh253.size
            have E254 := E249.new mh253 (fun b hb => .inl (by simp at hb; simp [hb]))
            simp only [List.mem_cons, List.not_mem_nil, or_false] at qh253
            refine s_pure (.pointer (some ⟨b9, 3, none⟩)) (fun _ q => q) ?_
            have f255 := (((((bxx14.mod mh19 (by simp; omega)).ext eh21).mod mh192 (by simp; omega)).ext eh248).mod mh253 (by simp; omega))
            refine s_stBx (.int .i64 g252) [.int .i64 g252] [.int .i64 rz.phase, .int .i64 rz.holds, .int .i64 rz.again, .int .i64 g252, r5] f255 rfl rfl rfl rfl (by simp) (all_cons rfl all_nil) rfl (fun h256 mh256 sh256 bxx257 => ?_)
            have E258 := E254.new mh256 (fun b hb => .inr (by simp at hb; omega))
            refine s_nil ?_
            refine p_blkN ?_
            refine p_seqN ?_
            refine v_seq ?_
            refine v_ops ?_
            refine s_load (.agg #[.int .i64 rz.phase, .int .i64 rz.holds, .int .i64 rz.again, .int .i64 g252, r5]) (fun _ q => bxx257.loadA rfl q) ?_
            have f259 := (((((((((bxb1.ext eh6).ext eh10).mod mh13 (by simp; omega)).mod mh19 (by simp; omega)).ext eh21).mod mh192 (by simp; omega)).ext eh248).mod mh253 (by simp; omega)).mod mh256 (by simp; omega))
            refine s_stBx (.agg #[.int .i64 rz.phase, .int .i64 rz.holds, .int .i64 rz.again, .int .i64 g252, r5]) [.int .i64 rz.phase, .int .i64 rz.holds, .int .i64 rz.again, .int .i64 g252, r5] [.int .i64 rz.phase, .int .i64 rz.holds, .int .i64 rz.again, .int .i64 g252, r5] f259 rfl rfl rfl rfl (by simp) (all_cons rfl (all_cons rfl (all_cons rfl (all_cons rfl (all_cons s_r5.one1 all_nil))))) rfl (fun h260 mh260 sh260 bxx261 => ?_)
            have E262 := E258.new mh260 (fun b hb => .inr (by simp at hb; omega))
            refine s_nil ?_
            refine p_seqN ?_
            refine v_ret ?_
            refine p_ret [.agg #[.int .i64 rz.phase, .int .i64 rz.holds, .int .i64 rz.again, .int .i64 g252, r5]] (.agg #[.int .i64 rz.phase, .int .i64 rz.holds, .int .i64 rz.again, .int .i64 g252, r5]) (fun _ q => (bxx261.loadA rfl q)) rfl ?_
            have f263 := (((((((((s_r5.ext eh10).mod mh13 (fun b hb hc => by simp at hc; have := lt_r5 b hb; omega)).mod mh19 (fun b hb hc => by simp at hc; have := fr_r5 b hb; omega)).ext eh21).mod mh192 (fun b hb hc => by simp at hc; have := fr_r5 b hb; omega)).ext eh248).mod mh253 (fun b hb hc => by simp at hc; have := fr_r5 b hb; omega)).mod mh256 (fun b hb hc => by simp at hc; have := lt_r5 b hb; omega)).mod mh260 (fun b hb hc => by simp at hc; have := fr_r5 b hb; omega))
            have f264 := ((Ch253.mod mh256 (by simp; omega) (fun b hb => by simp at hb; omega)).mod mh260 (by simp; omega) (fun b hb => by simp at hb; omega))
            exact ⟨⟨rz.phase, rz.holds, rz.again, g252, rz.passed⟩, r5, rfl, f263, (fr_r5.mono (by omega)), (by first | omega | (have := rg_len rz (by assumption); simp; omega) | (have := rg_len rz _; simp; omega) | (simp; done) | (simp; omega) | skip), (f264.le (by omega)), E262⟩
          ·
            refine v_seq ?_
            refine v_ops ?_
            refine s_pure (.bool (g191 == 4)) (fun _ q => q) ?_
            refine s_pure (.bool (g191 == 4)) (fun _ q => q) ?_
            refine s_nil ?_
            refine p_seqN ?_
            refine v_cond rfl (fun c265 => ?_) (fun c265 => ?_)
            ·
              have f266 := (((bxx14.mod mh19 (by simp; omega)).ext eh21).mod mh192 (by simp; omega))
              refine v_draw (DrawVC.hold ([b9]) ?_)
              refine d_pureT (.pointer (some ⟨b9, 4, none⟩)) (fun _ q => q) ?_
              refine d_pureT (.pointer (some ⟨p_c, 0, none⟩)) (fun _ q => q) ?_
              refine d_loadT r5 (fun _ q => f266.take (by simp) rfl q) ?_
              refine d_eff ?_
              refine s_row (α := Int) [0, 61, 62, 5] (fun _ q => seg_i rfl (seg_i rfl (seg_i rfl (seg_i rfl (seg_nil q))))) rfl (by simp [maxLen]) (fun r267 h268 eh268 zh268 s_r267 fr_r267 => ?_)
              have E269 := E193.trans (Mod.of_ext eh268 _)
              have z270 := eh268.size
              have G271 := eh268
              have lt_r267 := s_r267.lt
              refine s_nil ⟨fun _ x hx => G271.blk x (by simp at hx; omega), ?_⟩
              refine d_eff ?_
              have f272 := (Ch192.ext eh268)
              refine s_call [.pointer (some ⟨p_c, 0, none⟩), r267] rfl (spec_l1Cur_among_ok p_c t_c ((m_c + 2000) + 2) lo_c r267 [0, 61, 62, 5] _ f272 s_r267.toSl (fun b hb hc => by simp at hc; have := fr_r267 b hb; omega) (by first | omega | assumption | (simp; done) | (simp; omega)) (by first | omega | assumption | (simp; done) | (simp; omega))) ?_
              rintro _ h274 ⟨g273, rfl, qh274, Ch274, mh274⟩
              have zh274 := mh274.size
              have E275 := E269.new mh274 (fun b hb => .inl (by simp at hb; simp [hb]))
              have G276 : ∀ x ∈ ([b9]), h274[x]? = h192[x]? := fun x hx => (mh274.blk x (Nat.lt_of_lt_of_le ((by simp at hx; omega) : x < (h192).size) (by omega)) (((fun xx hxx => by simp at hxx; rw [hxx]; exact (by simp; omega)) : ∀ xx ∈ ([b9]), xx ∉ [p_c]) x hx)).trans (G271.blk x (by simp at hx; omega))
              simp only [List.mem_cons, List.not_mem_nil, or_false] at qh274
              refine s_nil ⟨fun _ x hx => G276 x hx, ?_⟩
              refine d_eff ?_
              refine s_row (α := Int) [g273] (fun _ q => seg_i rfl (seg_nil q)) rfl (by simp [maxLen]) (fun r277 h278 eh278 zh278 s_r277 fr_r277 => ?_)
              have E279 := E275.trans (Mod.of_ext eh278 _)
              have z280 := eh278.size
              have G281 : ∀ x ∈ ([b9]), h278[x]? = h192[x]? := fun x hx => (eh278.blk x (Nat.lt_of_lt_of_le ((by simp at hx; omega) : x < (h192).size) (by omega))).trans (G276 x hx)
              have lt_r277 := s_r277.lt
              refine s_nil ⟨fun _ x hx => G281 x hx, ?_⟩
              refine d_eff ?_
              have f282 := ((((((((s_r5.ext eh10).mod mh13 (fun b hb hc => by simp at hc; have := lt_r5 b hb; omega)).mod mh19 (fun b hb hc => by simp at hc; have := fr_r5 b hb; omega)).ext eh21).mod mh192 (fun b hb hc => by simp at hc; have := fr_r5 b hb; omega)).ext eh268).mod mh274 (fun b hb hc => by simp at hc; have := fr_r5 b hb; omega)).ext eh278)
              refine s_app f282 s_r277 rfl rfl rfl (by first | (simp [maxLen]; done) | (simp [maxLen]; omega)) (by first | (simp; done) | (simp; omega)) (fun r283 h284 mh284 zh284 s_r283 ab_r283 => ?_)
              have E285 := E279.new mh284 (fun b hb => .inr (by have := fr_r5 b hb; omega))
              have fr_r283 := fr_r5.app ab_r283 (by omega)
              have np286 : b9 ∉ blks r283 := fun hc => (ab_r283 _ hc).elim (fun hc => by have := lt_r5 _ hc; omega) (fun hc => by omega)
              have np287 : ∀ b ∈ blks r18, b ∉ blks r283 := fun b hb hc => (ab_r283 _ hc).elim (((fun b hb hc => by have := fr_r18 b hb; have := lt_r5 b hc; omega) : ∀ b ∈ blks r18, b ∉ blks r5) b hb) (fun hc => by have := lt_r18 b hb; omega)
              have np288 : ∀ b ∈ blks r267, b ∉ blks r283 := fun b hb hc => (ab_r283 _ hc).elim (((fun b hb hc => by have := fr_r267 b hb; have := lt_r5 b hc; omega) : ∀ b ∈ blks r267, b ∉ blks r5) b hb) (fun hc => by have := lt_r267 b hb; omega)
              have np289 : ∀ b ∈ blks r277, b ∉ blks r283 := fun b hb hc => (ab_r283 _ hc).elim (((fun b hb hc => by have := fr_r277 b hb; have := lt_r5 b hc; omega) : ∀ b ∈ blks r277, b ∉ blks r5) b hb) (fun hc => by have := lt_r277 b hb; omega)
              have lt_r283 := s_r283.lt
              refine s_nil ⟨fun hl => (by cases hl), ?_⟩
              refine d_pureT (.pointer (some ⟨b9, 4, none⟩)) (fun _ q => q) ?_
              refine d_eff ?_
              have f290 := ((((f266.ext eh268).mod mh274 (by simp; omega)).ext eh278).mod mh284 (fun hc => by have := lt_r5 _ hc; omega))
              refine s_stBx r283 [r283] [.int .i64 rz.phase, .int .i64 rz.holds, .int .i64 rz.again, .int .i64 rz.shown, r283] f290 rfl rfl s_r283.cellsv rfl (by simp) (all_cons s_r283.one1 all_nil) rfl (fun h291 mh291 sh291 bxx292 => ?_)
              have E293 := E285.new mh291 (fun b hb => .inr (by simp at hb; omega))
              refine s_nil ⟨fun hl => (by cases hl), ?_⟩
              refine d_done ?_
              refine p_blkN ?_
              refine p_seqN ?_
              refine v_seq ?_
              refine v_ops ?_
              refine s_load (.agg #[.int .i64 rz.phase, .int .i64 rz.holds, .int .i64 rz.again, .int .i64 rz.shown, r283]) (fun _ q => bxx292.loadA rfl q) ?_
              have f294 := (((((((((((bxb1.ext eh6).ext eh10).mod mh13 (by simp; omega)).mod mh19 (by simp; omega)).ext eh21).mod mh192 (by simp; omega)).ext eh268).mod mh274 (by simp; omega)).ext eh278).mod mh284 (fun hc => by have := fr_r5 _ hc; omega)).mod mh291 (by simp; omega))
              refine s_stBx (.agg #[.int .i64 rz.phase, .int .i64 rz.holds, .int .i64 rz.again, .int .i64 rz.shown, r283]) [.int .i64 rz.phase, .int .i64 rz.holds, .int .i64 rz.again, .int .i64 rz.shown, r283] [.int .i64 rz.phase, .int .i64 rz.holds, .int .i64 rz.again, .int .i64 rz.shown, r283] f294 rfl rfl rfl rfl (by simp) (all_cons rfl (all_cons rfl (all_cons rfl (all_cons rfl (all_cons s_r283.one1 all_nil))))) rfl (fun h295 mh295 sh295 bxx296 => ?_)
              have E297 := E293.new mh295 (fun b hb => .inr (by simp at hb; omega))
              refine s_nil ?_
              refine p_seqN ?_
              refine v_ret ?_
              refine p_ret [.agg #[.int .i64 rz.phase, .int .i64 rz.holds, .int .i64 rz.again, .int .i64 rz.shown, r283]] (.agg #[.int .i64 rz.phase, .int .i64 rz.holds, .int .i64 rz.again, .int .i64 rz.shown, r283]) (fun _ q => (bxx296.loadA rfl q)) rfl ?_
              have f298 := ((s_r283.mod mh291 (fun b hb hc => np286 (by simp at hc; rw [← hc]; exact hb))).mod mh295 (fun b hb hc => by simp at hc; have := fr_r283 b hb; omega))
              have f299 := ((((Ch274.ext eh278).mod mh284 (fun hc => by have := fr_r5 _ hc; omega) (fun b hb => by have := fr_r5 b hb; omega)).mod mh291 (by simp; omega) (fun b hb => by simp at hb; omega)).mod mh295 (by simp; omega) (fun b hb => by simp at hb; omega))
              exact ⟨⟨rz.phase, rz.holds, rz.again, rz.shown, (rz.passed ++ [g273])⟩, r283, rfl, f298, (fr_r283.mono (by omega)), (by first | omega | (have := rg_len rz (by assumption); simp; omega) | (have := rg_len rz _; simp; omega) | (simp; done) | (simp; omega) | skip), (f299.le (by omega)), E297⟩
            ·
              refine v_seq ?_
              refine v_ops ?_
              refine s_pure (.bool (g191 == 5)) (fun _ q => q) ?_
              refine s_pure (.bool (g191 == 5)) (fun _ q => q) ?_
              refine s_nil ?_
              refine p_seqN ?_
              refine v_cond rfl (fun c300 => ?_) (fun c300 => ?_)
              ·
                refine v_seq ?_
                refine v_ops ?_
                refine s_pure (.agg #[.int .i64 1, .int .i64 3, .int .i64 0, .int .i64 3, .slice none 0 0]) (fun _ q => w_build (seg_i rfl (seg_i rfl (seg_i rfl (seg_nil q))))) ?_
                have f301 := (((bxx14.mod mh19 (by simp; omega)).ext eh21).mod mh192 (by simp; omega))
                refine s_stBx (.agg #[.int .i64 1, .int .i64 3, .int .i64 0, .int .i64 3, .slice none 0 0]) [.int .i64 1, .int .i64 3, .int .i64 0, .int .i64 3, .slice none 0 0] [.int .i64 1, .int .i64 3, .int .i64 0, .int .i64 3, .slice none 0 0] f301 rfl rfl rfl rfl (by simp) (all_cons rfl (all_cons rfl (all_cons rfl (all_cons rfl (all_cons rfl all_nil))))) rfl (fun h302 mh302 sh302 bxx303 => ?_)
                have E304 := E193.new mh302 (fun b hb => .inr (by simp at hb; omega))
                refine s_nil ?_
                refine p_seqN ?_
                refine v_seq ?_
                refine v_ops ?_
                refine s_pure (.pointer (some ⟨p_c, 0, none⟩)) (fun _ q => q) ?_
                have f305 := (Ch192.mod mh302 (by simp; omega) (fun b hb => by simp at hb; omega))
                refine s_call [.pointer (some ⟨p_c, 0, none⟩), .int .i64 3] rfl (spec_l1Cur_pick_ok p_c t_c ((m_c + 2000) + 2) lo_c 3 _ f305 (by first | omega | assumption | (simp; done) | (simp; omega))) ?_
                rintro _ h307 ⟨g306, rfl, qh307, Ch307, mh307⟩
                have zh307 := mh307.size
                have E308 := E304.new mh307 (fun b hb => .inl (by simp at hb; simp [hb]))
                refine s_pure (.int .i64 (79 + g306)) (fun _ q => ArithVC.mk (by omega) q) ?_
                refine s_pure (.int .i64 (79 + g306)) (fun _ q => q) ?_
                refine s_nil ?_
                refine p_seqN ?_
                refine v_block ?_
                have f310 := ((((((((bxb1.ext eh6).ext eh10).mod mh13 (by simp; omega)).mod mh19 (by simp; omega)).ext eh21).mod mh192 (by simp; omega)).mod mh302 (by simp; omega)).mod mh307 (by simp; omega))
                have f311 := (bxx303.mod mh307 (by simp; omega))
                refine v_loop2 (α := List Int) (β := Value) (fun ps w => [(2, .pointer (some ⟨b1, 0, none⟩)), (3, .pointer (some ⟨b9, 0, none⟩)), (5, .int .i64 (79 + g306))]) (fun ps w hh => Mod [p_c] h hh ∧ Bx hh b1 [.int .i64 0, .int .i64 0, .int .i64 0, .int .i64 0, .slice none 0 0] 25 ∧ Bx hh b9 [.int .i64 1, .int .i64 3, .int .i64 0, .int .i64 3, w] 25 ∧ Cur hh p_c t_c (m_c + 2900) lo_c ∧ SlO hh w ps ∧ Fr h.size w ∧ b1 ∉ blks w ∧ b9 ∉ blks w ∧ p_c ∉ blks w ∧ ps.length ≤ 81) (fun ps w => (79 + g306).toNat - ps.length) [] (.slice none 0 0) ⟨rfl, rfl, rfl⟩ ⟨E308, f310, f311, (Ch307.le (by first | omega | (simp; done) | (simp; omega))), (sl_eq (SlX.nil (α := Int) true h307) (by simp)), (Fr.nil _), (by simp [blks, fpts]), (by simp [blks, fpts]), (by simp [blks, fpts]), (by first | omega | (simp; done) | (simp; omega))⟩ ?_
                rintro ps w R312 h309 ⟨Eh, bxb1, bxb9, bxc, s_w, fr_w, np_b1_w, np_b9_w, np_c_w, hps⟩
                have zEh := Eh.size
                have lbc := bxc.lt
                have lbb1 := bxb1.lt
                have lbb9 := bxb9.lt
                have lt_w := s_w.lt
                refine v_seq ?_
                refine v_seq ?_
                refine v_ops ?_
                refine s_pure (.pointer (some ⟨b9, 4, none⟩)) (fun _ q => q) ?_
                refine s_load w (fun _ q => bxb9.load rfl q) ?_
                refine s_pure (.int .i64 (ps.length : Int)) (fun _ q => s_w.lenVC q) ?_
                refine s_pure (.int .i64 (79 + g306)) (fun _ q => q) ?_
                refine s_pure (.bool (decide ((ps.length : Int) < (79 + g306)))) (fun _ q => q) ?_
                refine s_nil ?_
                refine p_seqN ?_
                refine v_cond rfl (fun c314 => ?_) (fun c314 => ?_)
                ·
                  refine v_skip ?_
                  refine p_seqN ?_
                  refine v_block ?_
                  refine v_ops ?_
                  refine s_pure (.pointer (some ⟨b9, 4, none⟩)) (fun _ q => q) ?_
                  refine s_load w (fun _ q => bxb9.load rfl q) ?_
                  refine s_row (α := Int) [4] (fun _ q => seg_i rfl (seg_nil q)) rfl (by simp [maxLen]) (fun r315 h316 eh316 zh316 s_r315 fr_r315 => ?_)
                  have E317 := Eh.trans (Mod.of_ext eh316 _)
                  have z318 := eh316.size
                  have lt_r315 := s_r315.lt
                  have f319 := (s_w.ext eh316)
                  refine s_app f319 s_r315 rfl rfl rfl (by first | (simp [maxLen]; done) | (simp [maxLen]; omega)) (by first | (simp; done) | (simp; omega)) (fun r320 h321 mh321 zh321 s_r320 ab_r320 => ?_)
                  have E322 := E317.new mh321 (fun b hb => .inr (by have := fr_w b hb; omega))
                  have fr_r320 := fr_w.app ab_r320 (by omega)
                  have np323 : b1 ∉ blks r320 := fun hc => (ab_r320 _ hc).elim np_b1_w (fun hc => by omega)
                  have np324 : b9 ∉ blks r320 := fun hc => (ab_r320 _ hc).elim np_b9_w (fun hc => by omega)
                  have np325 : p_c ∉ blks r320 := fun hc => (ab_r320 _ hc).elim np_c_w (fun hc => by omega)
                  have np326 : ∀ b ∈ blks r315, b ∉ blks r320 := fun b hb hc => (ab_r320 _ hc).elim (((fun b hb hc => by have := fr_r315 b hb; have := lt_w b hc; omega) : ∀ b ∈ blks r315, b ∉ blks w) b hb) (fun hc => by have := lt_r315 b hb; omega)
                  have lt_r320 := s_r320.lt
                  refine s_pure (.pointer (some ⟨b9, 4, none⟩)) (fun _ q => q) ?_
                  have f327 := ((bxb9.ext eh316).mod mh321 np_b9_w)
                  refine s_stBx r320 [r320] [.int .i64 1, .int .i64 3, .int .i64 0, .int .i64 3, r320] f327 rfl rfl s_r320.cellsv rfl (by simp) (all_cons s_r320.one1 all_nil) rfl (fun h328 mh328 sh328 bxx329 => ?_)
                  have E330 := E322.new mh328 (fun b hb => .inr (by simp at hb; omega))
                  refine s_nil ?_
                  refine p_blkN ?_
                  have f331 := (((bxb1.ext eh316).mod mh321 np_b1_w).mod mh328 (by simp; omega))
                  have f332 := (((bxc.ext eh316).mod mh321 np_c_w (fun b hb => by have := fr_w b hb; omega)).mod mh328 (by simp; omega) (fun b hb => by simp at hb; omega))
                  have f333 := (s_r320.mod mh328 (fun b hb hc => np324 (by simp at hc; rw [← hc]; exact hb)))
                  exact p_lpN ⟨(ps ++ [4]), r320, ⟨rfl, rfl, rfl⟩, ⟨E330, f331, bxx329, (f332.le (by omega)), (sl_eq f333 (by simp)), (fr_r320.mono (by omega)), np323, np324, np325, (by first | omega | (simp; done) | (simp; omega))⟩, by first | omega | (simp; done) | (simp; omega)⟩
                ·
                  refine v_exit ?_
                  refine p_seqX ?_
                  refine p_lpX ?_
                  refine p_blkX ?_
                  refine p_blkN ?_
                  refine p_seqN ?_
                  refine v_seq ?_
                  refine v_ops ?_
                  refine s_load (.agg #[.int .i64 1, .int .i64 3, .int .i64 0, .int .i64 3, w]) (fun _ q => bxb9.loadA rfl q) ?_
                  refine s_stBx (.agg #[.int .i64 1, .int .i64 3, .int .i64 0, .int .i64 3, w]) [.int .i64 1, .int .i64 3, .int .i64 0, .int .i64 3, w] [.int .i64 1, .int .i64 3, .int .i64 0, .int .i64 3, w] bxb1 rfl rfl rfl rfl (by simp) (all_cons rfl (all_cons rfl (all_cons rfl (all_cons rfl (all_cons s_w.one1 all_nil))))) rfl (fun h334 mh334 sh334 bxx335 => ?_)
                  have E336 := Eh.new mh334 (fun b hb => .inr (by simp at hb; omega))
                  refine s_nil ?_
                  refine p_seqN ?_
                  refine v_ret ?_
                  refine p_ret [.agg #[.int .i64 1, .int .i64 3, .int .i64 0, .int .i64 3, w]] (.agg #[.int .i64 1, .int .i64 3, .int .i64 0, .int .i64 3, w]) (fun _ q => (bxx335.loadA rfl q)) rfl ?_
                  have f337 := (s_w.mod mh334 (fun b hb hc => np_b1_w (by simp at hc; rw [← hc]; exact hb)))
                  have f338 := (bxc.mod mh334 (by simp; omega) (fun b hb => by simp at hb; omega))
                  exact ⟨⟨1, 3, 0, 3, ps⟩, w, rfl, f337, (fr_w.mono (by omega)), (by first | omega | (have := rg_len rz (by assumption); simp; omega) | (have := rg_len rz _; simp; omega) | (simp; done) | (simp; omega) | skip), (f338.le (by omega)), E336⟩
              ·
                refine v_skip ?_
                refine p_blkN ?_
                refine p_seqN ?_
                refine v_seq ?_
                refine v_ops ?_
                have f339 := (((bxx14.mod mh19 (by simp; omega)).ext eh21).mod mh192 (by simp; omega))
                refine s_load (.agg #[.int .i64 rz.phase, .int .i64 rz.holds, .int .i64 rz.again, .int .i64 rz.shown, r5]) (fun _ q => f339.loadA rfl q) ?_
                have f340 := ((((((bxb1.ext eh6).ext eh10).mod mh13 (by simp; omega)).mod mh19 (by simp; omega)).ext eh21).mod mh192 (by simp; omega))
                refine s_stBx (.agg #[.int .i64 rz.phase, .int .i64 rz.holds, .int .i64 rz.again, .int .i64 rz.shown, r5]) [.int .i64 rz.phase, .int .i64 rz.holds, .int .i64 rz.again, .int .i64 rz.shown, r5] [.int .i64 rz.phase, .int .i64 rz.holds, .int .i64 rz.again, .int .i64 rz.shown, r5] f340 rfl rfl rfl rfl (by simp) (all_cons rfl (all_cons rfl (all_cons rfl (all_cons rfl (all_cons s_r5.one1 all_nil))))) rfl (fun h341 mh341 sh341 bxx342 => ?_)
                have E343 := E193.new mh341 (fun b hb => .inr (by simp at hb; omega))
                refine s_nil ?_
                refine p_seqN ?_
                refine v_ret ?_
                refine p_ret [.agg #[.int .i64 rz.phase, .int .i64 rz.holds, .int .i64 rz.again, .int .i64 rz.shown, r5]] (.agg #[.int .i64 rz.phase, .int .i64 rz.holds, .int .i64 rz.again, .int .i64 rz.shown, r5]) (fun _ q => (bxx342.loadA rfl q)) rfl ?_
                have f344 := ((((((s_r5.ext eh10).mod mh13 (fun b hb hc => by simp at hc; have := lt_r5 b hb; omega)).mod mh19 (fun b hb hc => by simp at hc; have := fr_r5 b hb; omega)).ext eh21).mod mh192 (fun b hb hc => by simp at hc; have := fr_r5 b hb; omega)).mod mh341 (fun b hb hc => by simp at hc; have := fr_r5 b hb; omega))
                have f345 := (Ch192.mod mh341 (by simp; omega) (fun b hb => by simp at hb; omega))
                exact ⟨⟨rz.phase, rz.holds, rz.again, rz.shown, rz.passed⟩, r5, rfl, f344, (fr_r5.mono (by omega)), (by first | omega | (have := rg_len rz (by assumption); simp; omega) | (have := rg_len rz _; simp; omega) | (simp; done) | (simp; omega) | skip), (f345.le (by omega)), E343⟩

theorem spec_DrawRunGlances_ok (v_code : Value) (code : List By) (h : Heap) (s_code : Sl h v_code code) (hby : ∀ y ∈ code, 0 ≤ y.n ∧ y.n ≤ 255) (hsz : code.length ≤ 2000000) : Cn f_spec_DrawRunGlances [v_code] h fun v h' => ∃ g0 : RepP, ∃ g1 : List GlanceD, ∃ r0 : Value, ∃ r1 : Value, v = .tuple #[.agg #[.int .i64 g0.phase, .int .i64 g0.holds, .int .i64 g0.again, .int .i64 g0.shown, r0], r1] ∧ SlO h' r0 g0.passed ∧ Fr h.size r0 ∧ SlO h' r1 g1 ∧ Fr h.size r1 ∧ (∀ b ∈ blks r0, b ∉ blks r1) ∧ (g0.passed.length ≤ 200 ∧ g1.length ≤ 100) ∧ Ext h h' := by
  have lt_code := s_code.lt
  have l63_code := s_code.len63
  refine calls_of r_spec_DrawRunGlances ?_
  refine v_seq ?_
  refine v_ops ?_
  refine s_new (fun h2 b1 hbb1 hzb1 eh2 bxb1 => ?_)
  have E3 := (Ext.refl h).trans eh2
  have z4 := eh2.size
  have lbb1 := bxb1.lt
  refine s_pure (.slice none 0 0) (fun _ q => q) ?_
  refine s_nil ?_
  refine p_seqN ?_
  refine v_seq ?_
  refine v_ops ?_
  refine s_pure v_code (fun _ q => q) ?_
  refine s_pure (.agg #[v_code, .int .i64 0, .int .u64 0]) (fun _ q => w_build (seg_sl s_code rfl (seg_nil q))) ?_
  refine s_box [v_code, .int .i64 0, .int .u64 0] rfl (fun h6 b5 hbb5 hzb5 eh6 bxb5 => ?_)
  have E7 := E3.trans eh6
  have z8 := eh6.size
  have lbb5 := bxb5.lt
  refine s_pure (.pointer (some ⟨b5, 0, none⟩)) (fun _ q => q) ?_
  refine s_nil ?_
  refine p_seqN ?_
  refine v_seq ?_
  refine v_ops ?_
  refine s_pure (.pointer (some ⟨b5, 0, none⟩)) (fun _ q => q) ?_
  have f9 := ((s_code.ext eh2).ext eh6)
  have C10 : Cur h6 b5 58 0 h.size := Cur.mk2 bxb5 f9 lt_code hby (by omega) (by omega)
  refine s_call [.pointer (some ⟨b5, 0, none⟩)] rfl (spec_l1Cur_repeater_ok b5 58 0 h.size _ C10 (by first | omega | assumption | (simp; done) | (simp; omega))) ?_
  rintro _ h13 ⟨g11, r12, rfl, s_r12, fr_r12, qh13, Ch13, mh13⟩
  have zh13 := mh13.size
  have E14 := E7.mod mh13 (fun b hb => by simp at hb; omega)
  have lt_r12 := s_r12.lt
  refine s_pure (.pointer (some ⟨b5, 0, none⟩)) (fun _ q => q) ?_
  refine s_call [.pointer (some ⟨b5, 0, none⟩)] rfl (spec_l1Cur_glances_ok b5 58 (0 + 3000) h.size _ Ch13 (by first | omega | assumption | (simp; done) | (simp; omega))) ?_
  rintro r16 h17 ⟨g15, _, rfl, s_r16, fr_r16, qh17, Ch17, mh17⟩
  have zh17 := mh17.size
  have E18 := E14.mod mh17 (fun b hb => by simp at hb; omega)
  have lt_r16 := s_r16.lt
  have f19 := (((bxb1.ext eh6).mod mh13 (by simp; omega)).mod mh17 (by simp; omega))
  refine s_stBx (.agg #[.int .i64 g11.phase, .int .i64 g11.holds, .int .i64 g11.again, .int .i64 g11.shown, r12]) [.int .i64 g11.phase, .int .i64 g11.holds, .int .i64 g11.again, .int .i64 g11.shown, r12] [.int .i64 g11.phase, .int .i64 g11.holds, .int .i64 g11.again, .int .i64 g11.shown, r12] f19 rfl rfl rfl rfl (by simp) (all_cons rfl (all_cons rfl (all_cons rfl (all_cons rfl (all_cons s_r12.one1 all_nil))))) rfl (fun h20 mh20 sh20 bxx21 => ?_)
  have E22 := E18.mod mh20 (fun b hb => by simp at hb; omega)
  refine s_pure r16 (fun _ q => q) ?_
  refine s_nil ?_
  refine p_seqN ?_
  refine v_ret ?_
  refine p_ret [.agg #[.int .i64 g11.phase, .int .i64 g11.holds, .int .i64 g11.again, .int .i64 g11.shown, r12], r16] (.tuple #[.agg #[.int .i64 g11.phase, .int .i64 g11.holds, .int .i64 g11.again, .int .i64 g11.shown, r12], r16]) (fun _ q => (bxx21.loadA rfl q)) rfl ?_
  have f23 := ((s_r12.mod mh17 (fun b hb hc => by simp at hc; have := fr_r12 b hb; omega)).mod mh20 (fun b hb hc => by simp at hc; have := fr_r12 b hb; omega))
  have f24 := (s_r16.mod mh20 (fun b hb hc => by simp at hc; have := fr_r16 b hb; omega))
  exact ⟨⟨g11.phase, g11.holds, g11.again, g11.shown, g11.passed⟩, g15, r12, r16, rfl, f23, (fr_r12.mono (by omega)), f24, (fr_r16.mono (by omega)), (fun b hb hc => by have := lt_r12 b hb; have := fr_r16 b hc; omega), (by (try simp only); exact ⟨by omega, by omega⟩), E22⟩

set_option maxRecDepth 10000 in
set_option maxHeartbeats 4000000 in
theorem spec_DrawGlanceAt_ok (v_code : Value) (code : List By) (h : Heap) (s_code : Sl h v_code code) (hby : ∀ y ∈ code, 0 ≤ y.n ∧ y.n ≤ 255) (hsz : code.length ≤ 2000000) : Cn f_spec_DrawGlanceAt [v_code] h fun v h' => ∃ g0 : RepP, ∃ g1 : GlanceD, ∃ r0 : Value, v = .tuple #[.agg #[.int .i64 g0.phase, .int .i64 g0.holds, .int .i64 g0.again, .int .i64 g0.shown, r0], .agg #[.bool g1.next, .int .i64 g1.signal]] ∧ SlO h' r0 g0.passed ∧ Fr h.size r0 ∧ (g0.passed.length ≤ 200) ∧ Ext h h' := by
  have lt_code := s_code.lt
  have l63_code := s_code.len63
  refine calls_of r_spec_DrawGlanceAt ?_
  refine v_seq ?_
  refine v_ops ?_
  refine s_new (fun h2 b1 hbb1 hzb1 eh2 bxb1 => ?_)
  have E3 := (Ext.refl h).trans eh2
  have z4 := eh2.size
  have lbb1 := bxb1.lt
  refine s_new (fun h6 b5 hbb5 hzb5 eh6 bxb5 => ?_)
  have E7 := E3.trans eh6
  have z8 := eh6.size
  have lbb5 := bxb5.lt
  refine s_nil ?_
  refine p_seqN ?_
  refine v_seq ?_
  refine v_ops ?_
  refine s_pure v_code (fun _ q => q) ?_
  refine s_pure (.agg #[v_code, .int .i64 0, .int .u64 0]) (fun _ q => w_build (seg_sl s_code rfl (seg_nil q))) ?_
  refine s_box [v_code, .int .i64 0, .int .u64 0] rfl (fun h10 b9 hbb9 hzb9 eh10 bxb9 => ?_)
  have E11 := E7.trans eh10
  have z12 := eh10.size
  have lbb9 := bxb9.lt
  refine s_pure (.pointer (some ⟨b9, 0, none⟩)) (fun _ q => q) ?_
  refine s_nil ?_
  refine p_seqN ?_
  refine v_seq ?_
  refine v_ops ?_
  refine s_pure (.pointer (some ⟨b9, 0, none⟩)) (fun _ q => q) ?_
  have f13 := (((s_code.ext eh2).ext eh6).ext eh10)
  have C14 : Cur h10 b9 58 0 h.size := Cur.mk2 bxb9 f13 lt_code hby (by omega) (by omega)
  refine s_call [.pointer (some ⟨b9, 0, none⟩)] rfl (spec_l1Cur_repeater_ok b9 58 0 h.size _ C14 (by first | omega | assumption | (simp; done) | (simp; omega))) ?_
  rintro _ h17 ⟨g15, r16, rfl, s_r16, fr_r16, qh17, Ch17, mh17⟩
  have zh17 := mh17.size
  have E18 := E11.mod mh17 (fun b hb => by simp at hb; omega)
  have lt_r16 := s_r16.lt
  refine s_new (fun h20 b19 hbb19 hzb19 eh20 bxb19 => ?_)
  have E21 := E18.trans eh20
  have z22 := eh20.size
  have lbb19 := bxb19.lt
  refine s_stBx (.agg #[.int .i64 g15.phase, .int .i64 g15.holds, .int .i64 g15.again, .int .i64 g15.shown, r16]) [.int .i64 g15.phase, .int .i64 g15.holds, .int .i64 g15.again, .int .i64 g15.shown, r16] [.int .i64 g15.phase, .int .i64 g15.holds, .int .i64 g15.again, .int .i64 g15.shown, r16] bxb19 rfl rfl rfl rfl (by simp) (all_cons rfl (all_cons rfl (all_cons rfl (all_cons rfl (all_cons s_r16.one1 all_nil))))) rfl (fun h23 mh23 sh23 bxx24 => ?_)
  have E25 := E21.mod mh23 (fun b hb => by simp at hb; omega)
  refine s_nil ?_
  refine p_seqN ?_
  refine v_seq ?_
  refine v_draw (DrawVC.hold ([b19]) ?_)
  refine d_pureT (.pointer (some ⟨b9, 0, none⟩)) (fun _ q => q) ?_
  refine d_pureT (.pointer (some ⟨b9, 0, none⟩)) (fun _ q => q) ?_
  refine d_pureT (.pointer (some ⟨b19, 1, none⟩)) (fun _ q => q) ?_
  refine d_pureT (.pointer (some ⟨b19, 1, none⟩)) (fun _ q => q) ?_
  refine d_pureT (.pointer (some ⟨b9, 0, none⟩)) (fun _ q => q) ?_
  refine d_loadT (.agg #[.int .i64 g15.phase, .int .i64 g15.holds, .int .i64 g15.again, .int .i64 g15.shown, r16]) (fun _ q => bxx24.takeA (by simp) rfl q) ?_
  refine d_loadT (.int .i64 g15.holds) (fun _ q => bxx24.take (by simp) rfl q) ?_
  refine d_loadT (.int .i64 g15.holds) (fun _ q => bxx24.take (by simp) rfl q) ?_
  refine d_fork ?_ ?_
  ·
    refine d_eff ?_
    have f26 := ((Ch17.ext eh20).mod mh23 (by simp; omega) (fun b hb => by simp at hb; omega))
    refine s_call [.pointer (some ⟨b9, 0, none⟩), .int .i64 2] rfl (spec_l1Cur_one_ok b9 58 (0 + 3000) h.size 2 _ f26 (by first | omega | assumption | (simp; done) | (simp; omega))) ?_
    rintro _ h28 ⟨g27, rfl, Ch28, mh28⟩
    have zh28 := mh28.size
    have E29 := E25.mod mh28 (fun b hb => by simp at hb; omega)
    have G30 : ∀ x ∈ ([b19]), h28[x]? = h23[x]? := fun x hx => (mh28.blk x (Nat.lt_of_lt_of_le ((by simp at hx; omega) : x < (h23).size) (by omega)) (((fun xx hxx => by simp at hxx; rw [hxx]; exact (by simp; omega)) : ∀ xx ∈ ([b19]), xx ∉ [b9]) x hx)).trans rfl
    refine s_nil ⟨fun _ x hx => G30 x hx, ?_⟩
    refine d_eff ?_
    refine s_row (α := Int) [(-1), 64] (fun _ q => seg_i rfl (seg_i rfl (seg_nil q))) rfl (by simp [maxLen]) (fun r31 h32 eh32 zh32 s_r31 fr_r31 => ?_)
    have E33 := E29.trans eh32
    have z34 := eh32.size
    have G35 : ∀ x ∈ ([b19]), h32[x]? = h23[x]? := fun x hx => (eh32.blk x (Nat.lt_of_lt_of_le ((by simp at hx; omega) : x < (h23).size) (by omega))).trans (G30 x hx)
    have lt_r31 := s_r31.lt
    refine s_nil ⟨fun _ x hx => G35 x hx, ?_⟩
    refine d_eff ?_
    have f36 := (Ch28.ext eh32)
    refine s_call [.pointer (some ⟨b9, 0, none⟩), r31] rfl (spec_l1Cur_among_ok b9 58 ((0 + 3000) + 2) h.size r31 [(-1), 64] _ f36 s_r31.toSl (fun b hb hc => by simp at hc; have := fr_r31 b hb; omega) (by first | omega | assumption | (simp; done) | (simp; omega)) (by first | omega | assumption | (simp; done) | (simp; omega))) ?_
    rintro _ h38 ⟨g37, rfl, qh38, Ch38, mh38⟩
    have zh38 := mh38.size
    have E39 := E33.mod mh38 (fun b hb => by simp at hb; omega)
    have G40 : ∀ x ∈ ([b19]), h38[x]? = h23[x]? := fun x hx => (mh38.blk x (Nat.lt_of_lt_of_le ((by simp at hx; omega) : x < (h23).size) (by omega)) (((fun xx hxx => by simp at hxx; rw [hxx]; exact (by simp; omega)) : ∀ xx ∈ ([b19]), xx ∉ [b9]) x hx)).trans (G35 x hx)
    simp only [List.mem_cons, List.not_mem_nil, or_false] at qh38
    refine s_nil ⟨fun _ x hx => G40 x hx, ?_⟩
    refine d_eff ?_
    refine s_row (α := Int) [0, 3, 5, 60, 61, 62, 63, g15.holds, g15.holds, g37] (fun _ q => seg_i rfl (seg_i rfl (seg_i rfl (seg_i rfl (seg_i rfl (seg_i rfl (seg_i rfl (seg_i rfl (seg_i rfl (seg_i rfl (seg_nil q))))))))))) rfl (by simp [maxLen]) (fun r41 h42 eh42 zh42 s_r41 fr_r41 => ?_)
    have E43 := E39.trans eh42
    have z44 := eh42.size
    have G45 : ∀ x ∈ ([b19]), h42[x]? = h23[x]? := fun x hx => (eh42.blk x (Nat.lt_of_lt_of_le ((by simp at hx; omega) : x < (h23).size) (by omega))).trans (G40 x hx)
    have lt_r41 := s_r41.lt
    refine s_nil ⟨fun _ x hx => G45 x hx, ?_⟩
    refine d_eff ?_
    have f46 := (Ch38.ext eh42)
    refine s_call [.pointer (some ⟨b9, 0, none⟩), r41] rfl (spec_l1Cur_among_ok b9 58 (((0 + 3000) + 2) + 2) h.size r41 [0, 3, 5, 60, 61, 62, 63, g15.holds, g15.holds, g37] _ f46 s_r41.toSl (fun b hb hc => by simp at hc; have := fr_r41 b hb; omega) (by first | omega | assumption | (simp; done) | (simp; omega)) (by first | omega | assumption | (simp; done) | (simp; omega))) ?_
    rintro _ h48 ⟨g47, rfl, qh48, Ch48, mh48⟩
    have zh48 := mh48.size
    have E49 := E43.mod mh48 (fun b hb => by simp at hb; omega)
    have G50 : ∀ x ∈ ([b19]), h48[x]? = h23[x]? := fun x hx => (mh48.blk x (Nat.lt_of_lt_of_le ((by simp at hx; omega) : x < (h23).size) (by omega)) (((fun xx hxx => by simp at hxx; rw [hxx]; exact (by simp; omega)) : ∀ xx ∈ ([b19]), xx ∉ [b9]) x hx)).trans (G45 x hx)
    simp only [List.mem_cons, List.not_mem_nil, or_false] at qh48
    refine s_nil ⟨fun _ x hx => G50 x hx, ?_⟩
    refine d_pureT (.agg #[.bool g27, .int .i64 g47]) (fun _ q => w_build (seg_b rfl (seg_i rfl (seg_nil q)))) ?_
    refine d_eff ?_
    have f51 := ((((((((((bxb1.ext eh6).ext eh10).mod mh17 (by simp; omega)).ext eh20).mod mh23 (by simp; omega)).mod mh28 (by simp; omega)).ext eh32).mod mh38 (by simp; omega)).ext eh42).mod mh48 (by simp; omega))
    refine s_stBx (.agg #[.int .i64 g15.phase, .int .i64 g15.holds, .int .i64 g15.again, .int .i64 g15.shown, r16]) [.int .i64 g15.phase, .int .i64 g15.holds, .int .i64 g15.again, .int .i64 g15.shown, r16] [.int .i64 g15.phase, .int .i64 g15.holds, .int .i64 g15.again, .int .i64 g15.shown, r16] f51 rfl rfl rfl rfl (by simp) (all_cons rfl (all_cons rfl (all_cons rfl (all_cons rfl (all_cons s_r16.one1 all_nil))))) rfl (fun h52 mh52 sh52 bxx53 => ?_)
    have E54 := E49.mod mh52 (fun b hb => by simp at hb; omega)
    refine s_nil ⟨fun hl => (by cases hl), ?_⟩
    refine d_eff ?_
    have f55 := ((((((((((bxb5.ext eh10).mod mh17 (by simp; omega)).ext eh20).mod mh23 (by simp; omega)).mod mh28 (by simp; omega)).ext eh32).mod mh38 (by simp; omega)).ext eh42).mod mh48 (by simp; omega)).mod mh52 (by simp; omega))
    refine s_stBx (.agg #[.bool g27, .int .i64 g47]) [.bool g27, .int .i64 g47] [.bool g27, .int .i64 g47] f55 rfl rfl rfl rfl (by simp) (all_cons rfl (all_cons rfl all_nil)) rfl (fun h56 mh56 sh56 bxx57 => ?_)
    have E58 := E54.mod mh56 (fun b hb => by simp at hb; omega)
    refine s_nil ⟨fun hl => (by cases hl), ?_⟩
    refine d_done ?_
    refine p_seqN ?_
    refine v_ret ?_
    have f59 := (bxx53.mod mh56 (by simp; omega))
    refine p_ret [.agg #[.int .i64 g15.phase, .int .i64 g15.holds, .int .i64 g15.again, .int .i64 g15.shown, r16], .agg #[.bool g27, .int .i64 g47]] (.tuple #[.agg #[.int .i64 g15.phase, .int .i64 g15.holds, .int .i64 g15.again, .int .i64 g15.shown, r16], .agg #[.bool g27, .int .i64 g47]]) (fun _ q => (f59.loadA rfl (bxx57.loadA rfl q))) rfl ?_
    have f60 := (((((((((s_r16.ext eh20).mod mh23 (fun b hb hc => by simp at hc; have := lt_r16 b hb; omega)).mod mh28 (fun b hb hc => by simp at hc; have := fr_r16 b hb; omega)).ext eh32).mod mh38 (fun b hb hc => by simp at hc; have := fr_r16 b hb; omega)).ext eh42).mod mh48 (fun b hb hc => by simp at hc; have := fr_r16 b hb; omega)).mod mh52 (fun b hb hc => by simp at hc; have := fr_r16 b hb; omega)).mod mh56 (fun b hb hc => by simp at hc; have := fr_r16 b hb; omega))
    exact ⟨⟨g15.phase, g15.holds, g15.again, g15.shown, g15.passed⟩, ⟨g27, g47⟩, r16, rfl, f60, (fr_r16.mono (by omega)), (by (try simp only); omega), E58⟩
  ·
    refine d_eff ?_
    refine s_row (α := Int) [(-1), 64] (fun _ q => seg_i rfl (seg_i rfl (seg_nil q))) rfl (by simp [maxLen]) (fun r61 h62 eh62 zh62 s_r61 fr_r61 => ?_)
    have E63 := E25.trans eh62
    have z64 := eh62.size
    have G65 := eh62
    have lt_r61 := s_r61.lt
    refine s_nil ⟨fun _ x hx => G65.blk x (by simp at hx; omega), ?_⟩
    refine d_eff ?_
    have f66 := (((Ch17.ext eh20).mod mh23 (by simp; omega) (fun b hb => by simp at hb; omega)).ext eh62)
    refine s_call [.pointer (some ⟨b9, 0, none⟩), .int .i64 2] rfl (spec_l1Cur_one_ok b9 58 (0 + 3000) h.size 2 _ f66 (by first | omega | assumption | (simp; done) | (simp; omega))) ?_
    rintro _ h68 ⟨g67, rfl, Ch68, mh68⟩
    have zh68 := mh68.size
    have E69 := E63.mod mh68 (fun b hb => by simp at hb; omega)
    have G70 : ∀ x ∈ ([b19]), h68[x]? = h23[x]? := fun x hx => (mh68.blk x (Nat.lt_of_lt_of_le ((by simp at hx; omega) : x < (h23).size) (by omega)) (((fun xx hxx => by simp at hxx; rw [hxx]; exact (by simp; omega)) : ∀ xx ∈ ([b19]), xx ∉ [b9]) x hx)).trans (G65.blk x (by simp at hx; omega))
    refine s_nil ⟨fun _ x hx => G70 x hx, ?_⟩
    refine d_eff ?_
    have f71 := (s_r61.mod mh68 (fun b hb hc => by simp at hc; have := fr_r61 b hb; omega))
    refine s_call [.pointer (some ⟨b9, 0, none⟩), r61] rfl (spec_l1Cur_among_ok b9 58 ((0 + 3000) + 2) h.size r61 [(-1), 64] _ Ch68 f71.toSl (fun b hb hc => by simp at hc; have := fr_r61 b hb; omega) (by first | omega | assumption | (simp; done) | (simp; omega)) (by first | omega | assumption | (simp; done) | (simp; omega))) ?_
    rintro _ h73 ⟨g72, rfl, qh73, Ch73, mh73⟩
    have zh73 := mh73.size
    have E74 := E69.mod mh73 (fun b hb => by simp at hb; omega)
    have G75 : ∀ x ∈ ([b19]), h73[x]? = h23[x]? := fun x hx => (mh73.blk x (Nat.lt_of_lt_of_le ((by simp at hx; omega) : x < (h23).size) (by omega)) (((fun xx hxx => by simp at hxx; rw [hxx]; exact (by simp; omega)) : ∀ xx ∈ ([b19]), xx ∉ [b9]) x hx)).trans (G70 x hx)
    simp only [List.mem_cons, List.not_mem_nil, or_false] at qh73
    refine s_nil ⟨fun _ x hx => G75 x hx, ?_⟩
    refine d_eff ?_
    refine s_row (α := Int) [0, 3, 5, 60, 61, 62, 63, g15.holds, g15.holds, g72] (fun _ q => seg_i rfl (seg_i rfl (seg_i rfl (seg_i rfl (seg_i rfl (seg_i rfl (seg_i rfl (seg_i rfl (seg_i rfl (seg_i rfl (seg_nil q))))))))))) rfl (by simp [maxLen]) (fun r76 h77 eh77 zh77 s_r76 fr_r76 => ?_)
    have E78 := E74.trans eh77
    have z79 := eh77.size
    have G80 : ∀ x ∈ ([b19]), h77[x]? = h23[x]? := fun x hx => (eh77.blk x (Nat.lt_of_lt_of_le ((by simp at hx; omega) : x < (h23).size) (by omega))).trans (G75 x hx)
    have lt_r76 := s_r76.lt
    refine s_nil ⟨fun _ x hx => G80 x hx, ?_⟩
    refine d_eff ?_
    have f81 := (Ch73.ext eh77)
    refine s_call [.pointer (some ⟨b9, 0, none⟩), r76] rfl (spec_l1Cur_among_ok b9 58 (((0 + 3000) + 2) + 2) h.size r76 [0, 3, 5, 60, 61, 62, 63, g15.holds, g15.holds, g72] _ f81 s_r76.toSl (fun b hb hc => by simp at hc; have := fr_r76 b hb; omega) (by first | omega | assumption | (simp; done) | (simp; omega)) (by first | omega | assumption | (simp; done) | (simp; omega))) ?_
    rintro _ h83 ⟨g82, rfl, qh83, Ch83, mh83⟩
    have zh83 := mh83.size
    have E84 := E78.mod mh83 (fun b hb => by simp at hb; omega)
    have G85 : ∀ x ∈ ([b19]), h83[x]? = h23[x]? := fun x hx => (mh83.blk x (Nat.lt_of_lt_of_le ((by simp at hx; omega) : x < (h23).size) (by omega)) (((fun xx hxx => by simp at hxx; rw [hxx]; exact (by simp; omega)) : ∀ xx ∈ ([b19]), xx ∉ [b9]) x hx)).trans (G80 x hx)
    simp only [List.mem_cons, List.not_mem_nil, or_false] at qh83
    refine s_nil ⟨fun _ x hx => G85 x hx, ?_⟩
    refine d_pureT (.agg #[.bool g67, .int .i64 g82]) (fun _ q => w_build (seg_b rfl (seg_i rfl (seg_nil q)))) ?_
    refine d_eff ?_
    have f86 := ((((((((((bxb1.ext eh6).ext eh10).mod mh17 (by simp; omega)).ext eh20).mod mh23 (by simp; omega)).ext eh62).mod mh68 (by simp; omega)).mod mh73 (by simp; omega)).ext eh77).mod mh83 (by simp; omega))
    refine s_stBx (.agg #[.int .i64 g15.phase, .int .i64 g15.holds, .int .i64 g15.again, .int .i64 g15.shown, r16]) [.int .i64 g15.phase, .int .i64 g15.holds, .int .i64 g15.again, .int .i64 g15.shown, r16] [.int .i64 g15.phase, .int .i64 g15.holds, .int .i64 g15.again, .int .i64 g15.shown, r16] f86 rfl rfl rfl rfl (by simp) (all_cons rfl (all_cons rfl (all_cons rfl (all_cons rfl (all_cons s_r16.one1 all_nil))))) rfl (fun h87 mh87 sh87 bxx88 => ?_)
    have E89 := E84.mod mh87 (fun b hb => by simp at hb; omega)
    refine s_nil ⟨fun hl => (by cases hl), ?_⟩
    refine d_eff ?_
    have f90 := ((((((((((bxb5.ext eh10).mod mh17 (by simp; omega)).ext eh20).mod mh23 (by simp; omega)).ext eh62).mod mh68 (by simp; omega)).mod mh73 (by simp; omega)).ext eh77).mod mh83 (by simp; omega)).mod mh87 (by simp; omega))
    refine s_stBx (.agg #[.bool g67, .int .i64 g82]) [.bool g67, .int .i64 g82] [.bool g67, .int .i64 g82] f90 rfl rfl rfl rfl (by simp) (all_cons rfl (all_cons rfl all_nil)) rfl (fun h91 mh91 sh91 bxx92 => ?_)
    have E93 := E89.mod mh91 (fun b hb => by simp at hb; omega)
    refine s_nil ⟨fun hl => (by cases hl), ?_⟩
    refine d_done ?_
    refine p_seqN ?_
    refine v_ret ?_
    have f94 := (bxx88.mod mh91 (by simp; omega))
    refine p_ret [.agg #[.int .i64 g15.phase, .int .i64 g15.holds, .int .i64 g15.again, .int .i64 g15.shown, r16], .agg #[.bool g67, .int .i64 g82]] (.tuple #[.agg #[.int .i64 g15.phase, .int .i64 g15.holds, .int .i64 g15.again, .int .i64 g15.shown, r16], .agg #[.bool g67, .int .i64 g82]]) (fun _ q => (f94.loadA rfl (bxx92.loadA rfl q))) rfl ?_
    have f95 := (((((((((s_r16.ext eh20).mod mh23 (fun b hb hc => by simp at hc; have := lt_r16 b hb; omega)).ext eh62).mod mh68 (fun b hb hc => by simp at hc; have := fr_r16 b hb; omega)).mod mh73 (fun b hb hc => by simp at hc; have := fr_r16 b hb; omega)).ext eh77).mod mh83 (fun b hb hc => by simp at hc; have := fr_r16 b hb; omega)).mod mh87 (fun b hb hc => by simp at hc; have := fr_r16 b hb; omega)).mod mh91 (fun b hb hc => by simp at hc; have := fr_r16 b hb; omega))
    exact ⟨⟨g15.phase, g15.holds, g15.again, g15.shown, g15.passed⟩, ⟨g67, g82⟩, r16, rfl, f95, (fr_r16.mono (by omega)), (by (try simp only); omega), E93⟩

set_option maxRecDepth 10000 in
set_option maxHeartbeats 4000000 in
theorem spec_DrawPlainGlances_ok (v_code : Value) (code : List By) (h : Heap) (s_code : Sl h v_code code) (hby : ∀ y ∈ code, 0 ≤ y.n ∧ y.n ≤ 255) (hsz : code.length ≤ 2000000) : Cn f_spec_DrawPlainGlances [v_code] h fun v h' => ∃ g0 : List Int, ∃ r0 : Value, v = r0 ∧ SlO h' r0 g0 ∧ Fr h.size r0 ∧ (g0.length ≤ 100) ∧ Ext h h' := by
  have lt_code := s_code.lt
  have l63_code := s_code.len63
  refine calls_of r_spec_DrawPlainGlances ?_
  refine v_seq ?_
  refine v_ops ?_
  refine s_pure (.slice none 0 0) (fun _ q => q) ?_
  refine s_nil ?_
  refine p_seqN ?_
  refine v_seq ?_
  refine v_ops ?_
  refine s_pure v_code (fun _ q => q) ?_
  refine s_pure (.agg #[v_code, .int .i64 0, .int .u64 0]) (fun _ q => w_build (seg_sl s_code rfl (seg_nil q))) ?_
  refine s_box [v_code, .int .i64 0, .int .u64 0] rfl (fun h2 b1 hbb1 hzb1 eh2 bxb1 => ?_)
  have E3 := (Ext.refl h).trans eh2
  have z4 := eh2.size
  have lbb1 := bxb1.lt
  refine s_pure (.pointer (some ⟨b1, 0, none⟩)) (fun _ q => q) ?_
  refine s_nil ?_
  refine p_seqN ?_
  refine v_seq ?_
  refine v_ops ?_
  refine s_pure (.slice none 0 0) (fun _ q => q) ?_
  refine s_nil ?_
  refine p_seqN ?_
  refine v_seq ?_
  refine v_ops ?_
  refine s_pure (.pointer (some ⟨b1, 0, none⟩)) (fun _ q => q) ?_
  have f5 := (s_code.ext eh2)
  have C6 : Cur h2 b1 58 0 h.size := Cur.mk2 bxb1 f5 lt_code hby (by omega) (by omega)
  refine s_call [.pointer (some ⟨b1, 0, none⟩), .int .i64 9] rfl (spec_l1Cur_pick_ok b1 58 0 h.size 9 _ C6 (by first | omega | assumption | (simp; done) | (simp; omega))) ?_
  rintro _ h8 ⟨g7, rfl, qh8, Ch8, mh8⟩
  have zh8 := mh8.size
  have E9 := E3.mod mh8 (fun b hb => by simp at hb; omega)
  refine s_pure (.int .i64 g7) (fun _ q => q) ?_
  refine s_nil ?_
  refine p_seqN ?_
  refine v_seq ?_
  refine v_seq ?_
  refine v_ops ?_
  refine s_pure (.pointer (some ⟨b1, 0, none⟩)) (fun _ q => q) ?_
  refine s_call [.pointer (some ⟨b1, 0, none⟩), .int .i64 20] rfl (spec_l1Cur_one_ok b1 58 (0 + 2) h.size 20 _ Ch8 (by first | omega | assumption | (simp; done) | (simp; omega))) ?_
  rintro _ h11 ⟨g10, rfl, Ch11, mh11⟩
  have zh11 := mh11.size
  have E12 := E9.mod mh11 (fun b hb => by simp at hb; omega)
  refine s_nil ?_
  refine p_seqN ?_
  refine v_cond rfl (fun c13 => ?_) (fun c13 => ?_)
  ·
    refine v_ops ?_
    refine s_pure (.pointer (some ⟨b1, 0, none⟩)) (fun _ q => q) ?_
    refine s_call [.pointer (some ⟨b1, 0, none⟩), .int .i64 2] rfl (spec_l1Cur_pick_ok b1 58 ((0 + 2) + 2) h.size 2 _ Ch11 (by first | omega | assumption | (simp; done) | (simp; omega))) ?_
    rintro _ h15 ⟨g14, rfl, qh15, Ch15, mh15⟩
    have zh15 := mh15.size
    have E16 := E12.mod mh15 (fun b hb => by simp at hb; omega)
    refine s_pure (.int .i64 (40 + g14)) (fun _ q => ArithVC.mk (by omega) q) ?_
    refine s_pure (.int .i64 (40 + g14)) (fun _ q => q) ?_
    refine s_nil ?_
    refine p_seqN ?_
    refine v_seq ?_
    refine v_block ?_
    refine v_loop2 (α := List Int) (β := Value) (fun ll o => [(3, .pointer (some ⟨b1, 0, none⟩)), (4, o), (5, .int .i64 (40 + g14))]) (fun ll o hh => Ext h hh ∧ Cur hh b1 58 (10 + 4 * (ll.length : Int)) h.size ∧ SlO hh o ll ∧ Fr h.size o ∧ b1 ∉ blks o ∧ ll.length ≤ (40 + g14).toNat) (fun ll o => (40 + g14).toNat - ll.length) [] (.slice none 0 0) ⟨rfl, rfl, rfl⟩ ⟨E16, (Ch15.le (by first | omega | (simp; done) | (simp; omega))), (sl_eq (SlX.nil (α := Int) true h15) (by simp)), (Fr.nil _), (by simp [blks, fpts]), (by first | omega | (simp; done) | (simp; omega))⟩ ?_
    rintro ll o R18 h17 ⟨Eh, bxb1, s_o, fr_o, np_b1_o, hl⟩
    have zEh := Eh.size
    have f20 := s_code.ext Eh
    have lbb1 := bxb1.lt
    have lt_o := s_o.lt
    refine v_seq ?_
    refine v_seq ?_
    refine v_ops ?_
    refine s_pure o (fun _ q => q) ?_
    refine s_pure (.int .i64 (ll.length : Int)) (fun _ q => s_o.lenVC q) ?_
    refine s_pure (.int .i64 (40 + g14)) (fun _ q => q) ?_
    refine s_pure (.bool (decide ((ll.length : Int) < (40 + g14)))) (fun _ q => q) ?_
    refine s_nil ?_
    refine p_seqN ?_
    refine v_cond rfl (fun c21 => ?_) (fun c21 => ?_)
    ·
      refine v_skip ?_
      refine p_seqN ?_
      refine v_block ?_
      refine v_ops ?_
      refine s_pure o (fun _ q => q) ?_
      refine s_pure (.pointer (some ⟨b1, 0, none⟩)) (fun _ q => q) ?_
      refine s_call [.pointer (some ⟨b1, 0, none⟩), .int .i64 60] rfl (spec_l1Cur_pick_ok b1 58 (10 + 4 * (ll.length : Int)) h.size 60 _ bxb1 (by first | omega | assumption | (simp; done) | (simp; omega))) ?_
      rintro _ h23 ⟨g22, rfl, qh23, Ch23, mh23⟩
      have zh23 := mh23.size
      have E24 := Eh.mod mh23 (fun b hb => by simp at hb; omega)
      refine s_pure (.int .i64 (1 + g22)) (fun _ q => ArithVC.mk (by omega) q) ?_
      refine s_row (α := Int) [(1 + g22)] (fun _ q => seg_i rfl (seg_nil q)) rfl (by simp [maxLen]) (fun r25 h26 eh26 zh26 s_r25 fr_r25 => ?_)
      have E27 := E24.trans eh26
      have z28 := eh26.size
      have lt_r25 := s_r25.lt
      have f29 := ((s_o.mod mh23 (fun b hb hc => np_b1_o (by simp at hc; rw [← hc]; exact hb))).ext eh26)
      refine s_app f29 s_r25 rfl rfl rfl (by simp [maxLen]; omega) (by simp; omega) (fun r30 h31 mh31 zh31 s_r30 ab_r30 => ?_)
      have E32 := E27.mod mh31 (fun b hb => by have := fr_o b hb; omega)
      have fr_r30 := fr_o.app ab_r30 (by omega)
      have np33 : b1 ∉ blks r30 := fun hc => (ab_r30 _ hc).elim np_b1_o (fun hc => by omega)
      have np34 : ∀ b ∈ blks r25, b ∉ blks r30 := fun b hb hc => (ab_r30 _ hc).elim (((fun b hb hc => by have := fr_r25 b hb; have := lt_o b hc; omega) : ∀ b ∈ blks r25, b ∉ blks o) b hb) (fun hc => by have := lt_r25 b hb; omega)
      have lt_r30 := s_r30.lt
      refine s_pure r30 (fun _ q => q) ?_
      refine s_nil ?_
      refine p_blkN ?_
      have f35 := ((Ch23.ext eh26).mod mh31 np_b1_o (fun b hb => by have := fr_o b hb; omega))
      exact p_lpN ⟨(ll ++ [(1 + g22)]), r30, ⟨rfl, rfl, rfl⟩, ⟨E32, (f35.le (by first | omega | (simp; done) | (simp; omega))), (sl_eq s_r30 (by simp)), (fr_r30.mono (by omega)), np33, (by first | omega | (simp; done) | (simp; omega))⟩, by first | omega | (simp; done) | (simp; omega)⟩
    ·
      refine v_exit ?_
      refine p_seqX ?_
      refine p_lpX ?_
      refine p_blkX ?_
      refine p_seqN ?_
      refine v_seq ?_
      refine v_seq ?_
      refine v_ops ?_
      refine s_pure (.pointer (some ⟨b1, 0, none⟩)) (fun _ q => q) ?_
      refine s_call [.pointer (some ⟨b1, 0, none⟩), .int .i64 2] rfl (spec_l1Cur_one_ok b1 58 (10 + 4 * (ll.length : Int)) h.size 2 _ bxb1 (by first | omega | assumption | (simp; done) | (simp; omega))) ?_
      rintro _ h37 ⟨g36, rfl, Ch37, mh37⟩
      have zh37 := mh37.size
      have E38 := Eh.mod mh37 (fun b hb => by simp at hb; omega)
      refine s_pure (.bool g36) (fun _ q => q) ?_
      refine s_splitT rfl (fun c39 => ?_) (fun c39 => ?_)
      ·
        refine s_run rfl ?_
        refine s_pure (.int .i64 (40 + g14)) (fun _ q => q) ?_
        refine s_run rfl ?_
        refine s_pure (.bool (decide ((40 + g14) > 0))) (fun _ q => q) ?_
        refine s_pure (.bool (decide ((40 + g14) > 0))) (fun _ q => q) ?_
        refine s_pure (.bool (decide ((40 + g14) > 0))) (fun _ q => q) ?_
        refine s_splitT rfl (fun c40 => ?_) (fun c40 => ?_)
        ·
          refine s_run rfl ?_
          refine s_pure (.int .i64 (40 + g14)) (fun _ q => q) ?_
          refine s_run rfl ?_
          refine s_pure (.bool (decide ((40 + g14) < 40))) (fun _ q => q) ?_
          refine s_pure (.bool (decide ((40 + g14) < 40))) (fun _ q => q) ?_
          refine s_nil ?_
          refine p_seqN ?_
          refine v_cond rfl (fun c41 => ?_) (fun c41 => ?_)
          ·
            refine v_ops ?_
            refine s_pure o (fun _ q => q) ?_
            refine s_row (α := Int) [61] (fun _ q => seg_i rfl (seg_nil q)) rfl (by simp [maxLen]) (fun r42 h43 eh43 zh43 s_r42 fr_r42 => ?_)
            have E44 := E38.trans eh43
            have z45 := eh43.size
            have lt_r42 := s_r42.lt
            have f46 := ((s_o.mod mh37 (fun b hb hc => np_b1_o (by simp at hc; rw [← hc]; exact hb))).ext eh43)
            refine s_app f46 s_r42 rfl rfl rfl (by simp [maxLen]; omega) (by simp; omega) (fun r47 h48 mh48 zh48 s_r47 ab_r47 => ?_)
            have E49 := E44.mod mh48 (fun b hb => by have := fr_o b hb; omega)
            have fr_r47 := fr_o.app ab_r47 (by omega)
            have np50 : b1 ∉ blks r47 := fun hc => (ab_r47 _ hc).elim np_b1_o (fun hc => by omega)
            have np51 : ∀ b ∈ blks r42, b ∉ blks r47 := fun b hb hc => (ab_r47 _ hc).elim (((fun b hb hc => by have := fr_r42 b hb; have := lt_o b hc; omega) : ∀ b ∈ blks r42, b ∉ blks o) b hb) (fun hc => by have := lt_r42 b hb; omega)
            have lt_r47 := s_r47.lt
            refine s_pure r47 (fun _ q => q) ?_
            refine s_nil ?_
            refine p_seqN ?_
            refine v_seq ?_
            refine v_seq ?_
            refine v_ops ?_
            refine s_pure (.int .i64 (40 + g14)) (fun _ q => q) ?_
            refine s_pure (.bool (decide ((40 + g14) > 0))) (fun _ q => q) ?_
            refine s_pure (.bool (decide ((40 + g14) > 0))) (fun _ q => q) ?_
            refine s_splitY rfl (by first | assumption | omega | (simp; done) | (simp; omega) | simp_all) ?_
            refine s_run rfl ?_
            refine s_pure (.pointer (some ⟨b1, 0, none⟩)) (fun _ q => q) ?_
            refine s_run rfl ?_
            have f52 := ((Ch37.ext eh43).mod mh48 np_b1_o (fun b hb => by have := fr_o b hb; omega))
            refine s_call [.pointer (some ⟨b1, 0, none⟩), .int .i64 20] rfl (spec_l1Cur_one_ok b1 58 ((10 + 4 * (ll.length : Int)) + 2) h.size 20 _ f52 (by first | omega | assumption | (simp; done) | (simp; omega))) ?_
            rintro _ h54 ⟨g53, rfl, Ch54, mh54⟩
            have zh54 := mh54.size
            have E55 := E49.mod mh54 (fun b hb => by simp at hb; omega)
            refine s_pure (.bool g53) (fun _ q => q) ?_
            refine s_nil ?_
            refine p_seqN ?_
            refine v_cond rfl (fun c56 => ?_) (fun c56 => ?_)
            ·
              refine v_ops ?_
              refine s_pure r47 (fun _ q => q) ?_
              refine s_pure (.pointer (some ⟨b1, 0, none⟩)) (fun _ q => q) ?_
              refine s_pure (.int .i64 (40 + g14)) (fun _ q => q) ?_
              refine s_call [.pointer (some ⟨b1, 0, none⟩), .int .i64 (40 + g14)] rfl (spec_l1Cur_pick_ok b1 58 (((10 + 4 * (ll.length : Int)) + 2) + 2) h.size (40 + g14) _ Ch54 (by first | omega | assumption | (simp; done) | (simp; omega))) ?_
              rintro _ h58 ⟨g57, rfl, qh58, Ch58, mh58⟩
              have zh58 := mh58.size
              have E59 := E55.mod mh58 (fun b hb => by simp at hb; omega)
              refine s_pure (.pointer (some ⟨b1, 0, none⟩)) (fun _ q => q) ?_
              refine s_row (α := Int) [0, 60, 61, 62] (fun _ q => seg_i rfl (seg_i rfl (seg_i rfl (seg_i rfl (seg_nil q))))) rfl (by simp [maxLen]) (fun r60 h61 eh61 zh61 s_r60 fr_r60 => ?_)
              have E62 := E59.trans eh61
              have z63 := eh61.size
              have lt_r60 := s_r60.lt
              have f64 := (Ch58.ext eh61)
              refine s_call [.pointer (some ⟨b1, 0, none⟩), r60] rfl (spec_l1Cur_among_ok b1 58 ((((10 + 4 * (ll.length : Int)) + 2) + 2) + 2) h.size r60 [0, 60, 61, 62] _ f64 s_r60.toSl (fun b hb hc => by simp at hc; have := fr_r60 b hb; omega) (by first | omega | assumption | (simp; done) | (simp; omega)) (by first | omega | assumption | (simp; done) | (simp; omega))) ?_
              rintro _ h66 ⟨g65, rfl, qh66, Ch66, mh66⟩
              have zh66 := mh66.size
              have E67 := E62.mod mh66 (fun b hb => by simp at hb; omega)
              simp only [List.mem_cons, List.not_mem_nil, or_false] at qh66
              have f68 := ((((s_r47.mod mh54 (fun b hb hc => np50 (by simp at hc; rw [← hc]; exact hb))).mod mh58 (fun b hb hc => np50 (by simp at hc; rw [← hc]; exact hb))).ext eh61).mod mh66 (fun b hb hc => np50 (by simp at hc; rw [← hc]; exact hb)))
              have hk69 : (g57).toNat < (ll ++ [61]).length := (by first | omega | (simp; omega))
              obtain ⟨x70, hx70⟩ : ∃ x, (ll ++ [61])[(g57).toNat]? = some x := ⟨_, List.getElem?_eq_getElem hk69⟩
              refine s_pure (.pointer (some ⟨sblk r47, soff r47 + ((g57).toNat) * 1, none⟩)) (fun _ q => f68.idx (k := (g57).toNat) (by omega) hk69 q) ?_
              refine s_stSl (k := (g57).toNat) (j := 0) g65 (.int .i64 g65) [.int .i64 g65] f68 rfl rfl rfl rfl rfl hx70 (Nat.le_of_ble_eq_true rfl) rfl (all_cons rfl all_nil) (fun h71 mh71 sh71 s72 => ?_)
              have E73 := E67.mod mh71 (fun b hb => by have := fr_r47 b hb; omega)
              refine s_nil ?_
              refine p_seqN ?_
              refine v_seq ?_
              refine v_ops ?_
              refine s_pure r47 (fun _ q => q) ?_
              refine s_pure r47 (fun _ q => q) ?_
              refine s_nil ?_
              refine p_seqN ?_
              refine v_ret ?_
              refine p_ret [r47] r47 (fun _ q => q) rfl ?_
              exact ⟨((ll ++ [61]).set ((g57).toNat) g65), r47, rfl, s72, (fr_r47.mono (by omega)), (by first | omega | (simp; omega)), E73⟩
            ·
              refine v_skip ?_
              refine p_seqN ?_
              refine v_seq ?_
              refine v_ops ?_
              refine s_pure r47 (fun _ q => q) ?_
              refine s_pure r47 (fun _ q => q) ?_
              refine s_nil ?_
              refine p_seqN ?_
              refine v_ret ?_
              refine p_ret [r47] r47 (fun _ q => q) rfl ?_
              have f74 := (s_r47.mod mh54 (fun b hb hc => np50 (by simp at hc; rw [← hc]; exact hb)))
              exact ⟨(ll ++ [61]), r47, rfl, f74, (fr_r47.mono (by omega)), (by first | omega | (simp; omega)), E55⟩
          ·
            refine v_skip ?_
            refine p_seqN ?_
            refine v_seq ?_
            refine v_seq ?_
            refine v_ops ?_
            refine s_pure (.int .i64 (40 + g14)) (fun _ q => q) ?_
            refine s_pure (.bool (decide ((40 + g14) > 0))) (fun _ q => q) ?_
            refine s_pure (.bool (decide ((40 + g14) > 0))) (fun _ q => q) ?_
            refine s_splitY rfl (by first | assumption | omega | (simp; done) | (simp; omega) | simp_all) ?_
            refine s_run rfl ?_
            refine s_pure (.pointer (some ⟨b1, 0, none⟩)) (fun _ q => q) ?_
            refine s_run rfl ?_
            refine s_call [.pointer (some ⟨b1, 0, none⟩), .int .i64 20] rfl (spec_l1Cur_one_ok b1 58 ((10 + 4 * (ll.length : Int)) + 2) h.size 20 _ Ch37 (by first | omega | assumption | (simp; done) | (simp; omega))) ?_
            rintro _ h76 ⟨g75, rfl, Ch76, mh76⟩
            have zh76 := mh76.size
            have E77 := E38.mod mh76 (fun b hb => by simp at hb; omega)
            refine s_pure (.bool g75) (fun _ q => q) ?_
            refine s_nil ?_
            refine p_seqN ?_
            refine v_cond rfl (fun c78 => ?_) (fun c78 => ?_)
            ·
              refine v_ops ?_
              refine s_pure o (fun _ q => q) ?_
              refine s_pure (.pointer (some ⟨b1, 0, none⟩)) (fun _ q => q) ?_
              refine s_pure (.int .i64 (40 + g14)) (fun _ q => q) ?_
              refine s_call [.pointer (some ⟨b1, 0, none⟩), .int .i64 (40 + g14)] rfl (spec_l1Cur_pick_ok b1 58 (((10 + 4 * (ll.length : Int)) + 2) + 2) h.size (40 + g14) _ Ch76 (by first | omega | assumption | (simp; done) | (simp; omega))) ?_
              rintro _ h80 ⟨g79, rfl, qh80, Ch80, mh80⟩
              have zh80 := mh80.size
              have E81 := E77.mod mh80 (fun b hb => by simp at hb; omega)
              refine s_pure (.pointer (some ⟨b1, 0, none⟩)) (fun _ q => q) ?_
              refine s_row (α := Int) [0, 60, 61, 62] (fun _ q => seg_i rfl (seg_i rfl (seg_i rfl (seg_i rfl (seg_nil q))))) rfl (by simp [maxLen]) (fun r82 h83 eh83 zh83 s_r82 fr_r82 => ?_)
              have E84 := E81.trans eh83
              have z85 := eh83.size
              have lt_r82 := s_r82.lt
              have f86 := (Ch80.ext eh83)
              refine s_call [.pointer (some ⟨b1, 0, none⟩), r82] rfl (spec_l1Cur_among_ok b1 58 ((((10 + 4 * (ll.length : Int)) + 2) + 2) + 2) h.size r82 [0, 60, 61, 62] _ f86 s_r82.toSl (fun b hb hc => by simp at hc; have := fr_r82 b hb; omega) (by first | omega | assumption | (simp; done) | (simp; omega)) (by first | omega | assumption | (simp; done) | (simp; omega))) ?_
              rintro _ h88 ⟨g87, rfl, qh88, Ch88, mh88⟩
              have zh88 := mh88.size
              have E89 := E84.mod mh88 (fun b hb => by simp at hb; omega)
              simp only [List.mem_cons, List.not_mem_nil, or_false] at qh88
              have f90 := (((((s_o.mod mh37 (fun b hb hc => np_b1_o (by simp at hc; rw [← hc]; exact hb))).mod mh76 (fun b hb hc => np_b1_o (by simp at hc; rw [← hc]; exact hb))).mod mh80 (fun b hb hc => np_b1_o (by simp at hc; rw [← hc]; exact hb))).ext eh83).mod mh88 (fun b hb hc => np_b1_o (by simp at hc; rw [← hc]; exact hb)))
              have hk91 : (g79).toNat < ll.length := (by first | omega | (simp; omega))
              obtain ⟨x92, hx92⟩ : ∃ x, ll[(g79).toNat]? = some x := ⟨_, List.getElem?_eq_getElem hk91⟩
              refine s_pure (.pointer (some ⟨sblk o, soff o + ((g79).toNat) * 1, none⟩)) (fun _ q => f90.idx (k := (g79).toNat) (by omega) hk91 q) ?_
              refine s_stSl (k := (g79).toNat) (j := 0) g87 (.int .i64 g87) [.int .i64 g87] f90 rfl rfl rfl rfl rfl hx92 (Nat.le_of_ble_eq_true rfl) rfl (all_cons rfl all_nil) (fun h93 mh93 sh93 s94 => ?_)
              have E95 := E89.mod mh93 (fun b hb => by have := fr_o b hb; omega)
              refine s_nil ?_
              refine p_seqN ?_
              refine v_seq ?_
              refine v_ops ?_
              refine s_pure o (fun _ q => q) ?_
              refine s_pure o (fun _ q => q) ?_
              refine s_nil ?_
              refine p_seqN ?_
              refine v_ret ?_
              refine p_ret [o] o (fun _ q => q) rfl ?_
              exact ⟨(ll.set ((g79).toNat) g87), o, rfl, s94, (fr_o.mono (by omega)), (by first | omega | (simp; omega)), E95⟩
            ·
              refine v_skip ?_
              refine p_seqN ?_
              refine v_seq ?_
              refine v_ops ?_
              refine s_pure o (fun _ q => q) ?_
              refine s_pure o (fun _ q => q) ?_
              refine s_nil ?_
              refine p_seqN ?_
              refine v_ret ?_
              refine p_ret [o] o (fun _ q => q) rfl ?_
              have f96 := ((s_o.mod mh37 (fun b hb hc => np_b1_o (by simp at hc; rw [← hc]; exact hb))).mod mh76 (fun b hb hc => np_b1_o (by simp at hc; rw [← hc]; exact hb)))
              exact ⟨ll, o, rfl, f96, (fr_o.mono (by omega)), (by first | omega | (simp; omega)), E77⟩
        ·
          refine s_pass rfl ?_
          refine s_pass rfl ?_
          refine s_pure (.bool false) (fun _ q => q) ?_
          refine s_nil ?_
          refine p_seqN ?_
          refine v_condN rfl (by simp) ?_
          refine v_skip ?_
          refine p_seqN ?_
          refine v_seq ?_
          refine v_seq ?_
          refine v_ops ?_
          refine s_pure (.int .i64 (40 + g14)) (fun _ q => q) ?_
          refine s_pure (.bool (decide ((40 + g14) > 0))) (fun _ q => q) ?_
          refine s_pure (.bool (decide ((40 + g14) > 0))) (fun _ q => q) ?_
          refine s_splitN rfl (by first | assumption | omega | (simp; done) | (simp; omega) | simp_all) ?_
          refine s_pass rfl ?_
          refine s_pass rfl ?_
          refine s_pure (.bool false) (fun _ q => q) ?_
          refine s_nil ?_
          refine p_seqN ?_
          refine v_condN rfl (by simp) ?_
          refine v_skip ?_
          refine p_seqN ?_
          refine v_seq ?_
          refine v_ops ?_
          refine s_pure o (fun _ q => q) ?_
          refine s_pure o (fun _ q => q) ?_
          refine s_nil ?_
          refine p_seqN ?_
          refine v_ret ?_
          refine p_ret [o] o (fun _ q => q) rfl ?_
          have f97 := (s_o.mod mh37 (fun b hb hc => np_b1_o (by simp at hc; rw [← hc]; exact hb)))
          exact ⟨ll, o, rfl, f97, (fr_o.mono (by omega)), (by first | omega | (simp; omega)), E38⟩
      ·
        refine s_pass rfl ?_
        refine s_pass rfl ?_
        refine s_pure (.bool false) (fun _ q => q) ?_
        refine s_pure (.bool false) (fun _ q => q) ?_
        refine s_splitN rfl (by simp) ?_
        refine s_pass rfl ?_
        refine s_pass rfl ?_
        refine s_pure (.bool false) (fun _ q => q) ?_
        refine s_nil ?_
        refine p_seqN ?_
        refine v_condN rfl (by simp) ?_
        refine v_skip ?_
        refine p_seqN ?_
        refine v_seq ?_
        refine v_seq ?_
        refine v_ops ?_
        refine s_pure (.int .i64 (40 + g14)) (fun _ q => q) ?_
        refine s_pure (.bool (decide ((40 + g14) > 0))) (fun _ q => q) ?_
        refine s_pure (.bool (decide ((40 + g14) > 0))) (fun _ q => q) ?_
        refine s_splitT rfl (fun c98 => ?_) (fun c98 => ?_)
        ·
          refine s_run rfl ?_
          refine s_pure (.pointer (some ⟨b1, 0, none⟩)) (fun _ q => q) ?_
          refine s_run rfl ?_
          refine s_call [.pointer (some ⟨b1, 0, none⟩), .int .i64 20] rfl (spec_l1Cur_one_ok b1 58 ((10 + 4 * (ll.length : Int)) + 2) h.size 20 _ Ch37 (by first | omega | assumption | (simp; done) | (simp; omega))) ?_
          rintro _ h100 ⟨g99, rfl, Ch100, mh100⟩
          have zh100 := mh100.size
          have E101 := E38.mod mh100 (fun b hb => by simp at hb; omega)
          refine s_pure (.bool g99) (fun _ q => q) ?_
          refine s_nil ?_
          refine p_seqN ?_
          refine v_cond rfl (fun c102 => ?_) (fun c102 => ?_)
          ·
            refine v_ops ?_
            refine s_pure o (fun _ q => q) ?_
            refine s_pure (.pointer (some ⟨b1, 0, none⟩)) (fun _ q => q) ?_
            refine s_pure (.int .i64 (40 + g14)) (fun _ q => q) ?_
            refine s_call [.pointer (some ⟨b1, 0, none⟩), .int .i64 (40 + g14)] rfl (spec_l1Cur_pick_ok b1 58 (((10 + 4 * (ll.length : Int)) + 2) + 2) h.size (40 + g14) _ Ch100 (by first | omega | assumption | (simp; done) | (simp; omega))) ?_
            rintro _ h104 ⟨g103, rfl, qh104, Ch104, mh104⟩
            have zh104 := mh104.size
            have E105 := E101.mod mh104 (fun b hb => by simp at hb; omega)
            refine s_pure (.pointer (some ⟨b1, 0, none⟩)) (fun _ q => q) ?_
            refine s_row (α := Int) [0, 60, 61, 62] (fun _ q => seg_i rfl (seg_i rfl (seg_i rfl (seg_i rfl (seg_nil q))))) rfl (by simp [maxLen]) (fun r106 h107 eh107 zh107 s_r106 fr_r106 => ?_)
            have E108 := E105.trans eh107
            have z109 := eh107.size
            have lt_r106 := s_r106.lt
            have f110 := (Ch104.ext eh107)
            refine s_call [.pointer (some ⟨b1, 0, none⟩), r106] rfl (spec_l1Cur_among_ok b1 58 ((((10 + 4 * (ll.length : Int)) + 2) + 2) + 2) h.size r106 [0, 60, 61, 62] _ f110 s_r106.toSl (fun b hb hc => by simp at hc; have := fr_r106 b hb; omega) (by first | omega | assumption | (simp; done) | (simp; omega)) (by first | omega | assumption | (simp; done) | (simp; omega))) ?_
            rintro _ h112 ⟨g111, rfl, qh112, Ch112, mh112⟩
            have zh112 := mh112.size
            have E113 := E108.mod mh112 (fun b hb => by simp at hb; omega)
            simp only [List.mem_cons, List.not_mem_nil, or_false] at qh112
            have f114 := (((((s_o.mod mh37 (fun b hb hc => np_b1_o (by simp at hc; rw [← hc]; exact hb))).mod mh100 (fun b hb hc => np_b1_o (by simp at hc; rw [← hc]; exact hb))).mod mh104 (fun b hb hc => np_b1_o (by simp at hc; rw [← hc]; exact hb))).ext eh107).mod mh112 (fun b hb hc => np_b1_o (by simp at hc; rw [← hc]; exact hb)))
            have hk115 : (g103).toNat < ll.length := (by first | omega | (simp; omega))
            obtain ⟨x116, hx116⟩ : ∃ x, ll[(g103).toNat]? = some x := ⟨_, List.getElem?_eq_getElem hk115⟩
            refine s_pure (.pointer (some ⟨sblk o, soff o + ((g103).toNat) * 1, none⟩)) (fun _ q => f114.idx (k := (g103).toNat) (by omega) hk115 q) ?_
            refine s_stSl (k := (g103).toNat) (j := 0) g111 (.int .i64 g111) [.int .i64 g111] f114 rfl rfl rfl rfl rfl hx116 (Nat.le_of_ble_eq_true rfl) rfl (all_cons rfl all_nil) (fun h117 mh117 sh117 s118 => ?_)
            have E119 := E113.mod mh117 (fun b hb => by have := fr_o b hb; omega)
            refine s_nil ?_
            refine p_seqN ?_
            refine v_seq ?_
            refine v_ops ?_
            refine s_pure o (fun _ q => q) ?_
            refine s_pure o (fun _ q => q) ?_
            refine s_nil ?_
            refine p_seqN ?_
            refine v_ret ?_
            refine p_ret [o] o (fun _ q => q) rfl ?_
            exact ⟨(ll.set ((g103).toNat) g111), o, rfl, s118, (fr_o.mono (by omega)), (by first | omega | (simp; omega)), E119⟩
          ·
            refine v_skip ?_
            refine p_seqN ?_
            refine v_seq ?_
            refine v_ops ?_
            refine s_pure o (fun _ q => q) ?_
            refine s_pure o (fun _ q => q) ?_
            refine s_nil ?_
            refine p_seqN ?_
            refine v_ret ?_
            refine p_ret [o] o (fun _ q => q) rfl ?_
            have f120 := ((s_o.mod mh37 (fun b hb hc => np_b1_o (by simp at hc; rw [← hc]; exact hb))).mod mh100 (fun b hb hc => np_b1_o (by simp at hc; rw [← hc]; exact hb)))
            exact ⟨ll, o, rfl, f120, (fr_o.mono (by omega)), (by first | omega | (simp; omega)), E101⟩
        ·
          refine s_pass rfl ?_
          refine s_pass rfl ?_
          refine s_pure (.bool false) (fun _ q => q) ?_
          refine s_nil ?_
          refine p_seqN ?_
          refine v_condN rfl (by simp) ?_
          refine v_skip ?_
          refine p_seqN ?_
          refine v_seq ?_
          refine v_ops ?_
          refine s_pure o (fun _ q => q) ?_
          refine s_pure o (fun _ q => q) ?_
          refine s_nil ?_
          refine p_seqN ?_
          refine v_ret ?_
          refine p_ret [o] o (fun _ q => q) rfl ?_
          have f121 := (s_o.mod mh37 (fun b hb hc => np_b1_o (by simp at hc; rw [← hc]; exact hb)))
          exact ⟨ll, o, rfl, f121, (fr_o.mono (by omega)), (by first | omega | (simp; omega)), E38⟩
  ·
    refine v_skip ?_
    refine p_seqN ?_
    refine v_seq ?_
    refine v_block ?_
    refine v_loop2 (α := List Int) (β := Value) (fun ll o => [(3, .pointer (some ⟨b1, 0, none⟩)), (4, o), (5, .int .i64 g7)]) (fun ll o hh => Ext h hh ∧ Cur hh b1 58 (10 + 4 * (ll.length : Int)) h.size ∧ SlO hh o ll ∧ Fr h.size o ∧ b1 ∉ blks o ∧ ll.length ≤ g7.toNat) (fun ll o => g7.toNat - ll.length) [] (.slice none 0 0) ⟨rfl, rfl, rfl⟩ ⟨E12, (Ch11.le (by first | omega | (simp; done) | (simp; omega))), (sl_eq (SlX.nil (α := Int) true h11) (by simp)), (Fr.nil _), (by simp [blks, fpts]), (by first | omega | (simp; done) | (simp; omega))⟩ ?_
    rintro ll o R123 h122 ⟨Eh, bxb1, s_o, fr_o, np_b1_o, hl⟩
    have zEh := Eh.size
    have f125 := s_code.ext Eh
    have lbb1 := bxb1.lt
    have lt_o := s_o.lt
    refine v_seq ?_
    refine v_seq ?_
    refine v_ops ?_
    refine s_pure o (fun _ q => q) ?_
    refine s_pure (.int .i64 (ll.length : Int)) (fun _ q => s_o.lenVC q) ?_
    refine s_pure (.int .i64 g7) (fun _ q => q) ?_
    refine s_pure (.bool (decide ((ll.length : Int) < g7))) (fun _ q => q) ?_
    refine s_nil ?_
    refine p_seqN ?_
    refine v_cond rfl (fun c126 => ?_) (fun c126 => ?_)
    ·
      refine v_skip ?_
      refine p_seqN ?_
      refine v_block ?_
      refine v_ops ?_
      refine s_pure o (fun _ q => q) ?_
      refine s_pure (.pointer (some ⟨b1, 0, none⟩)) (fun _ q => q) ?_
      refine s_call [.pointer (some ⟨b1, 0, none⟩), .int .i64 60] rfl (spec_l1Cur_pick_ok b1 58 (10 + 4 * (ll.length : Int)) h.size 60 _ bxb1 (by first | omega | assumption | (simp; done) | (simp; omega))) ?_
      rintro _ h128 ⟨g127, rfl, qh128, Ch128, mh128⟩
      have zh128 := mh128.size
      have E129 := Eh.mod mh128 (fun b hb => by simp at hb; omega)
      refine s_pure (.int .i64 (1 + g127)) (fun _ q => ArithVC.mk (by omega) q) ?_
      refine s_row (α := Int) [(1 + g127)] (fun _ q => seg_i rfl (seg_nil q)) rfl (by simp [maxLen]) (fun r130 h131 eh131 zh131 s_r130 fr_r130 => ?_)
      have E132 := E129.trans eh131
      have z133 := eh131.size
      have lt_r130 := s_r130.lt
      have f134 := ((s_o.mod mh128 (fun b hb hc => np_b1_o (by simp at hc; rw [← hc]; exact hb))).ext eh131)
      refine s_app f134 s_r130 rfl rfl rfl (by simp [maxLen]; omega) (by simp; omega) (fun r135 h136 mh136 zh136 s_r135 ab_r135 => ?_)
      have E137 := E132.mod mh136 (fun b hb => by have := fr_o b hb; omega)
      have fr_r135 := fr_o.app ab_r135 (by omega)
      have np138 : b1 ∉ blks r135 := fun hc => (ab_r135 _ hc).elim np_b1_o (fun hc => by omega)
      have np139 : ∀ b ∈ blks r130, b ∉ blks r135 := fun b hb hc => (ab_r135 _ hc).elim (((fun b hb hc => by have := fr_r130 b hb; have := lt_o b hc; omega) : ∀ b ∈ blks r130, b ∉ blks o) b hb) (fun hc => by have := lt_r130 b hb; omega)
      have lt_r135 := s_r135.lt
      refine s_pure r135 (fun _ q => q) ?_
      refine s_nil ?_
      refine p_blkN ?_
      have f140 := ((Ch128.ext eh131).mod mh136 np_b1_o (fun b hb => by have := fr_o b hb; omega))
      exact p_lpN ⟨(ll ++ [(1 + g127)]), r135, ⟨rfl, rfl, rfl⟩, ⟨E137, (f140.le (by first | omega | (simp; done) | (simp; omega))), (sl_eq s_r135 (by simp)), (fr_r135.mono (by omega)), np138, (by first | omega | (simp; done) | (simp; omega))⟩, by first | omega | (simp; done) | (simp; omega)⟩
    ·
      refine v_exit ?_
      refine p_seqX ?_
      refine p_lpX ?_
      refine p_blkX ?_
      refine p_seqN ?_
      refine v_seq ?_
      refine v_seq ?_
      refine v_ops ?_
      refine s_pure (.pointer (some ⟨b1, 0, none⟩)) (fun _ q => q) ?_
      refine s_call [.pointer (some ⟨b1, 0, none⟩), .int .i64 2] rfl (spec_l1Cur_one_ok b1 58 (10 + 4 * (ll.length : Int)) h.size 2 _ bxb1 (by first | omega | assumption | (simp; done) | (simp; omega))) ?_
      rintro _ h142 ⟨g141, rfl, Ch142, mh142⟩
      have zh142 := mh142.size
      have E143 := Eh.mod mh142 (fun b hb => by simp at hb; omega)
      refine s_pure (.bool g141) (fun _ q => q) ?_
      refine s_splitT rfl (fun c144 => ?_) (fun c144 => ?_)
      ·
        refine s_run rfl ?_
        refine s_pure (.int .i64 g7) (fun _ q => q) ?_
        refine s_run rfl ?_
        refine s_pure (.bool (decide (g7 > 0))) (fun _ q => q) ?_
        refine s_pure (.bool (decide (g7 > 0))) (fun _ q => q) ?_
        refine s_pure (.bool (decide (g7 > 0))) (fun _ q => q) ?_
        refine s_splitT rfl (fun c145 => ?_) (fun c145 => ?_)
        ·
          refine s_run rfl ?_
          refine s_pure (.int .i64 g7) (fun _ q => q) ?_
          refine s_run rfl ?_
          refine s_pure (.bool (decide (g7 < 40))) (fun _ q => q) ?_
          refine s_pure (.bool (decide (g7 < 40))) (fun _ q => q) ?_
          refine s_nil ?_
          refine p_seqN ?_
          refine v_cond rfl (fun c146 => ?_) (fun c146 => ?_)
          ·
            refine v_ops ?_
            refine s_pure o (fun _ q => q) ?_
            refine s_row (α := Int) [61] (fun _ q => seg_i rfl (seg_nil q)) rfl (by simp [maxLen]) (fun r147 h148 eh148 zh148 s_r147 fr_r147 => ?_)
            have E149 := E143.trans eh148
            have z150 := eh148.size
            have lt_r147 := s_r147.lt
            have f151 := ((s_o.mod mh142 (fun b hb hc => np_b1_o (by simp at hc; rw [← hc]; exact hb))).ext eh148)
            refine s_app f151 s_r147 rfl rfl rfl (by simp [maxLen]; omega) (by simp; omega) (fun r152 h153 mh153 zh153 s_r152 ab_r152 => ?_)
            have E154 := E149.mod mh153 (fun b hb => by have := fr_o b hb; omega)
            have fr_r152 := fr_o.app ab_r152 (by omega)
            have np155 : b1 ∉ blks r152 := fun hc => (ab_r152 _ hc).elim np_b1_o (fun hc => by omega)
            have np156 : ∀ b ∈ blks r147, b ∉ blks r152 := fun b hb hc => (ab_r152 _ hc).elim (((fun b hb hc => by have := fr_r147 b hb; have := lt_o b hc; omega) : ∀ b ∈ blks r147, b ∉ blks o) b hb) (fun hc => by have := lt_r147 b hb; omega)
            have lt_r152 := s_r152.lt
            refine s_pure r152 (fun _ q => q) ?_
            refine s_nil ?_
            refine p_seqN ?_
            refine v_seq ?_
            refine v_seq ?_
            refine v_ops ?_
            refine s_pure (.int .i64 g7) (fun _ q => q) ?_
            refine s_pure (.bool (decide (g7 > 0))) (fun _ q => q) ?_
            refine s_pure (.bool (decide (g7 > 0))) (fun _ q => q) ?_
            refine s_splitY rfl (by first | assumption | omega | (simp; done) | (simp; omega) | simp_all) ?_
            refine s_run rfl ?_
            refine s_pure (.pointer (some ⟨b1, 0, none⟩)) (fun _ q => q) ?_
            refine s_run rfl ?_
            have f157 := ((Ch142.ext eh148).mod mh153 np_b1_o (fun b hb => by have := fr_o b hb; omega))
            refine s_call [.pointer (some ⟨b1, 0, none⟩), .int .i64 20] rfl (spec_l1Cur_one_ok b1 58 ((10 + 4 * (ll.length : Int)) + 2) h.size 20 _ f157 (by first | omega | assumption | (simp; done) | (simp; omega))) ?_
            rintro _ h159 ⟨g158, rfl, Ch159, mh159⟩
            have zh159 := mh159.size
            have E160 := E154.mod mh159 (fun b hb => by simp at hb; omega)
            refine s_pure (.bool g158) (fun _ q => q) ?_
            refine s_nil ?_
            refine p_seqN ?_
            refine v_cond rfl (fun c161 => ?_) (fun c161 => ?_)
            ·
              refine v_ops ?_
              refine s_pure r152 (fun _ q => q) ?_
              refine s_pure (.pointer (some ⟨b1, 0, none⟩)) (fun _ q => q) ?_
              refine s_pure (.int .i64 g7) (fun _ q => q) ?_
              refine s_call [.pointer (some ⟨b1, 0, none⟩), .int .i64 g7] rfl (spec_l1Cur_pick_ok b1 58 (((10 + 4 * (ll.length : Int)) + 2) + 2) h.size g7 _ Ch159 (by first | omega | assumption | (simp; done) | (simp; omega))) ?_
              rintro _ h163 ⟨g162, rfl, qh163, Ch163, mh163⟩
              have zh163 := mh163.size
              have E164 := E160.mod mh163 (fun b hb => by simp at hb; omega)
              refine s_pure (.pointer (some ⟨b1, 0, none⟩)) (fun _ q => q) ?_
              refine s_row (α := Int) [0, 60, 61, 62] (fun _ q => seg_i rfl (seg_i rfl (seg_i rfl (seg_i rfl (seg_nil q))))) rfl (by simp [maxLen]) (fun r165 h166 eh166 zh166 s_r165 fr_r165 => ?_)
              have E167 := E164.trans eh166
              have z168 := eh166.size
              have lt_r165 := s_r165.lt
              have f169 := (Ch163.ext eh166)
              refine s_call [.pointer (some ⟨b1, 0, none⟩), r165] rfl (spec_l1Cur_among_ok b1 58 ((((10 + 4 * (ll.length : Int)) + 2) + 2) + 2) h.size r165 [0, 60, 61, 62] _ f169 s_r165.toSl (fun b hb hc => by simp at hc; have := fr_r165 b hb; omega) (by first | omega | assumption | (simp; done) | (simp; omega)) (by first | omega | assumption | (simp; done) | (simp; omega))) ?_
              rintro _ h171 ⟨g170, rfl, qh171, Ch171, mh171⟩
              have zh171 := mh171.size
              have E172 := E167.mod mh171 (fun b hb => by simp at hb; omega)
              simp only [List.mem_cons, List.not_mem_nil, or_false] at qh171
              have f173 := ((((s_r152.mod mh159 (fun b hb hc => np155 (by simp at hc; rw [← hc]; exact hb))).mod mh163 (fun b hb hc => np155 (by simp at hc; rw [← hc]; exact hb))).ext eh166).mod mh171 (fun b hb hc => np155 (by simp at hc; rw [← hc]; exact hb)))
              have hk174 : (g162).toNat < (ll ++ [61]).length := (by first | omega | (simp; omega))
              obtain ⟨x175, hx175⟩ : ∃ x, (ll ++ [61])[(g162).toNat]? = some x := ⟨_, List.getElem?_eq_getElem hk174⟩
              refine s_pure (.pointer (some ⟨sblk r152, soff r152 + ((g162).toNat) * 1, none⟩)) (fun _ q => f173.idx (k := (g162).toNat) (by omega) hk174 q) ?_
              refine s_stSl (k := (g162).toNat) (j := 0) g170 (.int .i64 g170) [.int .i64 g170] f173 rfl rfl rfl rfl rfl hx175 (Nat.le_of_ble_eq_true rfl) rfl (all_cons rfl all_nil) (fun h176 mh176 sh176 s177 => ?_)
              have E178 := E172.mod mh176 (fun b hb => by have := fr_r152 b hb; omega)
              refine s_nil ?_
              refine p_seqN ?_
              refine v_seq ?_
              refine v_ops ?_
              refine s_pure r152 (fun _ q => q) ?_
              refine s_pure r152 (fun _ q => q) ?_
              refine s_nil ?_
              refine p_seqN ?_
              refine v_ret ?_
              refine p_ret [r152] r152 (fun _ q => q) rfl ?_
              exact ⟨((ll ++ [61]).set ((g162).toNat) g170), r152, rfl, s177, (fr_r152.mono (by omega)), (by first | omega | (simp; omega)), E178⟩
            ·
              refine v_skip ?_
              refine p_seqN ?_
              refine v_seq ?_
              refine v_ops ?_
              refine s_pure r152 (fun _ q => q) ?_
              refine s_pure r152 (fun _ q => q) ?_
              refine s_nil ?_
              refine p_seqN ?_
              refine v_ret ?_
              refine p_ret [r152] r152 (fun _ q => q) rfl ?_
              have f179 := (s_r152.mod mh159 (fun b hb hc => np155 (by simp at hc; rw [← hc]; exact hb)))
              exact ⟨(ll ++ [61]), r152, rfl, f179, (fr_r152.mono (by omega)), (by first | omega | (simp; omega)), E160⟩
          ·
            refine v_skip ?_
            refine p_seqN ?_
            refine v_seq ?_
            refine v_seq ?_
            refine v_ops ?_
            refine s_pure (.int .i64 g7) (fun _ q => q) ?_
            refine s_pure (.bool (decide (g7 > 0))) (fun _ q => q) ?_
            refine s_pure (.bool (decide (g7 > 0))) (fun _ q => q) ?_
            refine s_splitY rfl (by first | assumption | omega | (simp; done) | (simp; omega) | simp_all) ?_
            refine s_run rfl ?_
            refine s_pure (.pointer (some ⟨b1, 0, none⟩)) (fun _ q => q) ?_
            refine s_run rfl ?_
            refine s_call [.pointer (some ⟨b1, 0, none⟩), .int .i64 20] rfl (spec_l1Cur_one_ok b1 58 ((10 + 4 * (ll.length : Int)) + 2) h.size 20 _ Ch142 (by first | omega | assumption | (simp; done) | (simp; omega))) ?_
            rintro _ h181 ⟨g180, rfl, Ch181, mh181⟩
            have zh181 := mh181.size
            have E182 := E143.mod mh181 (fun b hb => by simp at hb; omega)
            refine s_pure (.bool g180) (fun _ q => q) ?_
            refine s_nil ?_
            refine p_seqN ?_
            refine v_cond rfl (fun c183 => ?_) (fun c183 => ?_)
            ·
              refine v_ops ?_
              refine s_pure o (fun _ q => q) ?_
              refine s_pure (.pointer (some ⟨b1, 0, none⟩)) (fun _ q => q) ?_
              refine s_pure (.int .i64 g7) (fun _ q => q) ?_
              refine s_call [.pointer (some ⟨b1, 0, none⟩), .int .i64 g7] rfl (spec_l1Cur_pick_ok b1 58 (((10 + 4 * (ll.length : Int)) + 2) + 2) h.size g7 _ Ch181 (by first | omega | assumption | (simp; done) | (simp; omega))) ?_
              rintro _ h185 ⟨g184, rfl, qh185, Ch185, mh185⟩
              have zh185 := mh185.size
              have E186 := E182.mod mh185 (fun b hb => by simp at hb; omega)
              refine s_pure (.pointer (some ⟨b1, 0, none⟩)) (fun _ q => q) ?_
              refine s_row (α := Int) [0, 60, 61, 62] (fun _ q => seg_i rfl (seg_i rfl (seg_i rfl (seg_i rfl (seg_nil q))))) rfl (by simp [maxLen]) (fun r187 h188 eh188 zh188 s_r187 fr_r187 => ?_)
              have E189 := E186.trans eh188
              have z190 := eh188.size
              have lt_r187 := s_r187.lt
              have f191 := (Ch185.ext eh188)
              refine s_call [.pointer (some ⟨b1, 0, none⟩), r187] rfl (spec_l1Cur_among_ok b1 58 ((((10 + 4 * (ll.length : Int)) + 2) + 2) + 2) h.size r187 [0, 60, 61, 62] _ f191 s_r187.toSl (fun b hb hc => by simp at hc; have := fr_r187 b hb; omega) (by first | omega | assumption | (simp; done) | (simp; omega)) (by first | omega | assumption | (simp; done) | (simp; omega))) ?_
              rintro _ h193 ⟨g192, rfl, qh193, Ch193, mh193⟩
              have zh193 := mh193.size
              have E194 := E189.mod mh193 (fun b hb => by simp at hb; omega)
              simp only [List.mem_cons, List.not_mem_nil, or_false] at qh193
              have f195 := (((((s_o.mod mh142 (fun b hb hc => np_b1_o (by simp at hc; rw [← hc]; exact hb))).mod mh181 (fun b hb hc => np_b1_o (by simp at hc; rw [← hc]; exact hb))).mod mh185 (fun b hb hc => np_b1_o (by simp at hc; rw [← hc]; exact hb))).ext eh188).mod mh193 (fun b hb hc => np_b1_o (by simp at hc; rw [← hc]; exact hb)))
              have hk196 : (g184).toNat < ll.length := (by first | omega | (simp; omega))
              obtain ⟨x197, hx197⟩ : ∃ x, ll[(g184).toNat]? = some x := ⟨_, List.getElem?_eq_getElem hk196⟩
              refine s_pure (.pointer (some ⟨sblk o, soff o + ((g184).toNat) * 1, none⟩)) (fun _ q => f195.idx (k := (g184).toNat) (by omega) hk196 q) ?_
              refine s_stSl (k := (g184).toNat) (j := 0) g192 (.int .i64 g192) [.int .i64 g192] f195 rfl rfl rfl rfl rfl hx197 (Nat.le_of_ble_eq_true rfl) rfl (all_cons rfl all_nil) (fun h198 mh198 sh198 s199 => ?_)
              have E200 := E194.mod mh198 (fun b hb => by have := fr_o b hb; omega)
              refine s_nil ?_
              refine p_seqN ?_
              refine v_seq ?_
              refine v_ops ?_
              refine s_pure o (fun _ q => q) ?_
              refine s_pure o (fun _ q => q) ?_
              refine s_nil ?_
              refine p_seqN ?_
              refine v_ret ?_
              refine p_ret [o] o (fun _ q => q) rfl ?_
              exact ⟨(ll.set ((g184).toNat) g192), o, rfl, s199, (fr_o.mono (by omega)), (by first | omega | (simp; omega)), E200⟩
            ·
              refine v_skip ?_
              refine p_seqN ?_
              refine v_seq ?_
              refine v_ops ?_
              refine s_pure o (fun _ q => q) ?_
              refine s_pure o (fun _ q => q) ?_
              refine s_nil ?_
              refine p_seqN ?_
              refine v_ret ?_
              refine p_ret [o] o (fun _ q => q) rfl ?_
              have f201 := ((s_o.mod mh142 (fun b hb hc => np_b1_o (by simp at hc; rw [← hc]; exact hb))).mod mh181 (fun b hb hc => np_b1_o (by simp at hc; rw [← hc]; exact hb)))
              exact ⟨ll, o, rfl, f201, (fr_o.mono (by omega)), (by first | omega | (simp; omega)), E182⟩
        ·
          refine s_pass rfl ?_
          refine s_pass rfl ?_
          refine s_pure (.bool false) (fun _ q => q) ?_
          refine s_nil ?_
          refine p_seqN ?_
          refine v_condN rfl (by simp) ?_
          refine v_skip ?_
          refine p_seqN ?_
          refine v_seq ?_
          refine v_seq ?_
          refine v_ops ?_
          refine s_pure (.int .i64 g7) (fun _ q => q) ?_
          refine s_pure (.bool (decide (g7 > 0))) (fun _ q => q) ?_
          refine s_pure (.bool (decide (g7 > 0))) (fun _ q => q) ?_
          refine s_splitN rfl (by first | assumption | omega | (simp; done) | (simp; omega) | simp_all) ?_
          refine s_pass rfl ?_
          refine s_pass rfl ?_
          refine s_pure (.bool false) (fun _ q => q) ?_
          refine s_nil ?_
          refine p_seqN ?_
          refine v_condN rfl (by simp) ?_
          refine v_skip ?_
          refine p_seqN ?_
          refine v_seq ?_
          refine v_ops ?_
          refine s_pure o (fun _ q => q) ?_
          refine s_pure o (fun _ q => q) ?_
          refine s_nil ?_
          refine p_seqN ?_
          refine v_ret ?_
          refine p_ret [o] o (fun _ q => q) rfl ?_
          have f202 := (s_o.mod mh142 (fun b hb hc => np_b1_o (by simp at hc; rw [← hc]; exact hb)))
          exact ⟨ll, o, rfl, f202, (fr_o.mono (by omega)), (by first | omega | (simp; omega)), E143⟩
      ·
        refine s_pass rfl ?_
        refine s_pass rfl ?_
        refine s_pure (.bool false) (fun _ q => q) ?_
        refine s_pure (.bool false) (fun _ q => q) ?_
        refine s_splitN rfl (by simp) ?_
        refine s_pass rfl ?_
        refine s_pass rfl ?_
        refine s_pure (.bool false) (fun _ q => q) ?_
        refine s_nil ?_
        refine p_seqN ?_
        refine v_condN rfl (by simp) ?_
        refine v_skip ?_
        refine p_seqN ?_
        refine v_seq ?_
        refine v_seq ?_
        refine v_ops ?_
        refine s_pure (.int .i64 g7) (fun _ q => q) ?_
        refine s_pure (.bool (decide (g7 > 0))) (fun _ q => q) ?_
        refine s_pure (.bool (decide (g7 > 0))) (fun _ q => q) ?_
        refine s_splitT rfl (fun c203 => ?_) (fun c203 => ?_)
        ·
          refine s_run rfl ?_
          refine s_pure (.pointer (some ⟨b1, 0, none⟩)) (fun _ q => q) ?_
          refine s_run rfl ?_
          refine s_call [.pointer (some ⟨b1, 0, none⟩), .int .i64 20] rfl (spec_l1Cur_one_ok b1 58 ((10 + 4 * (ll.length : Int)) + 2) h.size 20 _ Ch142 (by first | omega | assumption | (simp; done) | (simp; omega))) ?_
          rintro _ h205 ⟨g204, rfl, Ch205, mh205⟩
          have zh205 := mh205.size
          have E206 := E143.mod mh205 (fun b hb => by simp at hb; omega)
          refine s_pure (.bool g204) (fun _ q => q) ?_
          refine s_nil ?_
          refine p_seqN ?_
          refine v_cond rfl (fun c207 => ?_) (fun c207 => ?_)
          ·
            refine v_ops ?_
            refine s_pure o (fun _ q => q) ?_
            refine s_pure (.pointer (some ⟨b1, 0, none⟩)) (fun _ q => q) ?_
            refine s_pure (.int .i64 g7) (fun _ q => q) ?_
            refine s_call [.pointer (some ⟨b1, 0, none⟩), .int .i64 g7] rfl (spec_l1Cur_pick_ok b1 58 (((10 + 4 * (ll.length : Int)) + 2) + 2) h.size g7 _ Ch205 (by first | omega | assumption | (simp; done) | (simp; omega))) ?_
            rintro _ h209 ⟨g208, rfl, qh209, Ch209, mh209⟩
            have zh209 := mh209.size
            have E210 := E206.mod mh209 (fun b hb => by simp at hb; omega)
            refine s_pure (.pointer (some ⟨b1, 0, none⟩)) (fun _ q => q) ?_
            refine s_row (α := Int) [0, 60, 61, 62] (fun _ q => seg_i rfl (seg_i rfl (seg_i rfl (seg_i rfl (seg_nil q))))) rfl (by simp [maxLen]) (fun r211 h212 eh212 zh212 s_r211 fr_r211 => ?_)
            have E213 := E210.trans eh212
            have z214 := eh212.size
            have lt_r211 := s_r211.lt
            have f215 := (Ch209.ext eh212)
            refine s_call [.pointer (some ⟨b1, 0, none⟩), r211] rfl (spec_l1Cur_among_ok b1 58 ((((10 + 4 * (ll.length : Int)) + 2) + 2) + 2) h.size r211 [0, 60, 61, 62] _ f215 s_r211.toSl (fun b hb hc => by simp at hc; have := fr_r211 b hb; omega) (by first | omega | assumption | (simp; done) | (simp; omega)) (by first | omega | assumption | (simp; done) | (simp; omega))) ?_
            rintro _ h217 ⟨g216, rfl, qh217, Ch217, mh217⟩
            have zh217 := mh217.size
            have E218 := E213.mod mh217 (fun b hb => by simp at hb; omega)
            simp only [List.mem_cons, List.not_mem_nil, or_false] at qh217
            have f219 := (((((s_o.mod mh142 (fun b hb hc => np_b1_o (by simp at hc; rw [← hc]; exact hb))).mod mh205 (fun b hb hc => np_b1_o (by simp at hc; rw [← hc]; exact hb))).mod mh209 (fun b hb hc => np_b1_o (by simp at hc; rw [← hc]; exact hb))).ext eh212).mod mh217 (fun b hb hc => np_b1_o (by simp at hc; rw [← hc]; exact hb)))
            have hk220 : (g208).toNat < ll.length := (by first | omega | (simp; omega))
            obtain ⟨x221, hx221⟩ : ∃ x, ll[(g208).toNat]? = some x := ⟨_, List.getElem?_eq_getElem hk220⟩
            refine s_pure (.pointer (some ⟨sblk o, soff o + ((g208).toNat) * 1, none⟩)) (fun _ q => f219.idx (k := (g208).toNat) (by omega) hk220 q) ?_
            refine s_stSl (k := (g208).toNat) (j := 0) g216 (.int .i64 g216) [.int .i64 g216] f219 rfl rfl rfl rfl rfl hx221 (Nat.le_of_ble_eq_true rfl) rfl (all_cons rfl all_nil) (fun h222 mh222 sh222 s223 => ?_)
            have E224 := E218.mod mh222 (fun b hb => by have := fr_o b hb; omega)
            refine s_nil ?_
            refine p_seqN ?_
            refine v_seq ?_
            refine v_ops ?_
            refine s_pure o (fun _ q => q) ?_
            refine s_pure o (fun _ q => q) ?_
            refine s_nil ?_
            refine p_seqN ?_
            refine v_ret ?_
            refine p_ret [o] o (fun _ q => q) rfl ?_
            exact ⟨(ll.set ((g208).toNat) g216), o, rfl, s223, (fr_o.mono (by omega)), (by first | omega | (simp; omega)), E224⟩
          ·
            refine v_skip ?_
            refine p_seqN ?_
            refine v_seq ?_
            refine v_ops ?_
            refine s_pure o (fun _ q => q) ?_
            refine s_pure o (fun _ q => q) ?_
            refine s_nil ?_
            refine p_seqN ?_
            refine v_ret ?_
            refine p_ret [o] o (fun _ q => q) rfl ?_
            have f225 := ((s_o.mod mh142 (fun b hb hc => np_b1_o (by simp at hc; rw [← hc]; exact hb))).mod mh205 (fun b hb hc => np_b1_o (by simp at hc; rw [← hc]; exact hb)))
            exact ⟨ll, o, rfl, f225, (fr_o.mono (by omega)), (by first | omega | (simp; omega)), E206⟩
        ·
          refine s_pass rfl ?_
          refine s_pass rfl ?_
          refine s_pure (.bool false) (fun _ q => q) ?_
          refine s_nil ?_
          refine p_seqN ?_
          refine v_condN rfl (by simp) ?_
          refine v_skip ?_
          refine p_seqN ?_
          refine v_seq ?_
          refine v_ops ?_
          refine s_pure o (fun _ q => q) ?_
          refine s_pure o (fun _ q => q) ?_
          refine s_nil ?_
          refine p_seqN ?_
          refine v_ret ?_
          refine p_ret [o] o (fun _ q => q) rfl ?_
          have f226 := (s_o.mod mh142 (fun b hb hc => np_b1_o (by simp at hc; rw [← hc]; exact hb)))
          exact ⟨ll, o, rfl, f226, (fr_o.mono (by omega)), (by first | omega | (simp; omega)), E143⟩

end Go.Proofs.Ytpbjcaadnbeplaa

