/- What is drawn for packets. Condition: none. Printed in part by a program. -/
import Derived.Test.YtbikhpphdhffaaaGreatDoorPz1
import Derived.Test.YtbikhpphdhffaaaGreatDoorCu1
import Derived.Test.YtbikhpphdhffaaaGreatDoorRdO
import Derived.Test.YtbikhpphdhffaaaGreatDoorDpA
namespace Go.Proofs.YtbikhpphdhffaaaGreatDoor
open Go.Vc
set_option linter.all false
theorem spec_l1Cur_content_ok (p_c : Nat) (t_c : TypeId) (m_c : Int) (lo_c : Nat) (h : Heap) (C_c : Cur h p_c t_c m_c lo_c) (hm : m_c + 2 ≤ 4000000000000000000) : Cn f_spec_l1Cur_content [.pointer (some ⟨p_c, 0, none⟩)] h fun v h' => ∃ g0 : Int, v = .int .i64 g0 ∧ Cur h' p_c t_c (m_c + 2) lo_c ∧ Mod [p_c] h h' := by
  have lc_c := C_c.lt
  have ll_c := C_c.low
  have lm_c := C_c.top
  refine calls_of r_spec_l1Cur_content ?_
  refine v_seq ?_
  refine v_ops ?_
  refine s_pure (.int .i64 0) (fun _ q => q) ?_
  refine s_nil ?_
  refine p_seqN ?_
  refine v_seq ?_
  refine v_ops ?_
  refine s_pure (.pointer (some ⟨p_c, 0, none⟩)) (fun _ q => q) ?_
  refine s_call [.pointer (some ⟨p_c, 0, none⟩), .int .i64 60] rfl (spec_l1Cur_pick_ok p_c t_c m_c lo_c 60 _ C_c (by omega)) ?_
  rintro _ h2 ⟨g1, rfl, qh2, Ch2, mh2⟩
  have zh2 := mh2.size
  have E3 := (Mod.refl [p_c] h).new mh2 (fun b hb => .inl (by simp at hb; simp [hb]))
  refine s_pure (.int .i64 (1 + g1)) (fun _ q => ArithVC.mk (by omega) q) ?_
  refine s_pure (.int .i64 (1 + g1)) (fun _ q => q) ?_
  refine s_nil ?_
  refine p_seqN ?_
  refine v_ret ?_
  refine p_ret [.int .i64 (1 + g1)] (.int .i64 (1 + g1)) (fun _ q => q) rfl ?_
  exact ⟨(1 + g1), rfl, (Ch2.le (by omega)), E3⟩

theorem spec_l1Cur_contents_ok (p_c : Nat) (t_c : TypeId) (m_c : Int) (lo_c : Nat) (n : Int) (h : Heap) (C_c : Cur h p_c t_c m_c lo_c) (hm : m_c + (6 * n) ≤ 4000000000000000000) (hn : 0 ≤ n ∧ n ≤ 100000) : Cn f_spec_l1Cur_contents [.pointer (some ⟨p_c, 0, none⟩), .int .i64 n] h fun v h' => ∃ g0 : List Int, ∃ r0 : Value, v = r0 ∧ SlO h' r0 g0 ∧ Fr h.size r0 ∧ (g0.length = n.toNat) ∧ Cur h' p_c t_c (m_c + (6 * n)) lo_c ∧ Mod [p_c] h h' := by
  have lc_c := C_c.lt
  have ll_c := C_c.low
  have lm_c := C_c.top
  refine calls_of r_spec_l1Cur_contents ?_
  refine v_seq ?_
  refine v_ops ?_
  refine s_pure (.slice none 0 0) (fun _ q => q) ?_
  refine s_nil ?_
  refine p_seqN ?_
  refine v_seq ?_
  refine v_ops ?_
  refine s_pure (.slice none 0 0) (fun _ q => q) ?_
  refine s_nil ?_
  refine p_seqN ?_
  refine v_seq ?_
  refine v_block ?_
  refine v_loop3 (α := Int) (β := List Int) (γ := Value) (fun i ll o => [(0, .pointer (some ⟨p_c, 0, none⟩)), (1, .int .i64 i), (5, o)]) (fun i ll o hh => Mod [p_c] h hh ∧ Cur hh p_c t_c (m_c + 6 * (n - i)) lo_c ∧ SlO hh o ll ∧ Fr h.size o ∧ p_c ∉ blks o ∧ 0 ≤ i ∧ i ≤ n ∧ (ll.length : Int) = n - i) (fun i ll o => i.toNat) n [] (.slice none 0 0) ⟨rfl, rfl, rfl⟩ ⟨(Mod.refl [p_c] h), (C_c.le (by omega)), (sl_eq (SlX.nil (α := Int) true h) (by simp)), (Fr.nil _), (by simp [blks, fpts]), (by exact ⟨by omega, by omega, by simp⟩)⟩ ?_
  rintro i ll o R2 h1 ⟨Eh, bxc, s_o, fr_o, np_c_o, ⟨hi, hin, hl⟩⟩
  have zEh := Eh.size
  have lbc := bxc.lt
  have lt_o := s_o.lt
  refine v_seq ?_
  refine v_seq ?_
  refine v_ops ?_
  refine s_pure (.int .i64 i) (fun _ q => q) ?_
  refine s_pure (.bool (decide (i > 0))) (fun _ q => q) ?_
  refine s_nil ?_
  refine p_seqN ?_
  refine v_cond rfl (fun c4 => ?_) (fun c4 => ?_)
  ·
    refine v_skip ?_
    refine p_seqN ?_
    refine v_seq ?_
    refine v_block ?_
    refine v_ops ?_
    refine s_pure o (fun _ q => q) ?_
    refine s_pure (.pointer (some ⟨p_c, 0, none⟩)) (fun _ q => q) ?_
    refine s_pure (.pointer (some ⟨p_c, 0, none⟩)) (fun _ q => q) ?_
    refine s_call [.pointer (some ⟨p_c, 0, none⟩)] rfl (spec_l1Cur_content_ok p_c t_c (m_c + 6 * (n - i)) lo_c _ bxc (by omega)) ?_
    rintro _ h6 ⟨g5, rfl, Ch6, mh6⟩
    have zh6 := mh6.size
    have E7 := Eh.new mh6 (fun b hb => .inl (by simp at hb; simp [hb]))
    refine s_pure (.pointer (some ⟨p_c, 0, none⟩)) (fun _ q => q) ?_
    refine s_call [.pointer (some ⟨p_c, 0, none⟩)] rfl (spec_l1Cur_content_ok p_c t_c ((m_c + 6 * (n - i)) + 2) lo_c _ Ch6 (by omega)) ?_
    rintro _ h9 ⟨g8, rfl, Ch9, mh9⟩
    have zh9 := mh9.size
    have E10 := E7.new mh9 (fun b hb => .inl (by simp at hb; simp [hb]))
    refine s_row (α := Int) [1, 5, 12, 60, g5, g8] (fun _ q => seg_i rfl (seg_i rfl (seg_i rfl (seg_i rfl (seg_i rfl (seg_i rfl (seg_nil q))))))) rfl (by simp [maxLen]) (fun r11 h12 eh12 zh12 s_r11 fr_r11 => ?_)
    have E13 := E10.trans (Mod.of_ext eh12 _)
    have z14 := eh12.size
    have lt_r11 := s_r11.lt
    have f15 := (Ch9.ext eh12)
    refine s_call [.pointer (some ⟨p_c, 0, none⟩), r11] rfl (spec_l1Cur_among_ok p_c t_c (((m_c + 6 * (n - i)) + 2) + 2) lo_c r11 [1, 5, 12, 60, g5, g8] _ f15 s_r11.toSl (fun b hb hc => by simp at hc; have := fr_r11 b hb; omega) (by omega) (by first | omega | assumption | (simp; done) | (simp; omega))) ?_
    rintro _ h17 ⟨g16, rfl, qh17, Ch17, mh17⟩
    have zh17 := mh17.size
    have E18 := E13.new mh17 (fun b hb => .inl (by simp at hb; simp [hb]))
    simp only [List.mem_cons, List.not_mem_nil, or_false] at qh17
    refine s_row (α := Int) [g16] (fun _ q => seg_i rfl (seg_nil q)) rfl (by simp [maxLen]) (fun r19 h20 eh20 zh20 s_r19 fr_r19 => ?_)
    have E21 := E18.trans (Mod.of_ext eh20 _)
    have z22 := eh20.size
    have lt_r19 := s_r19.lt
    have f23 := (((((s_o.mod mh6 (fun b hb hc => np_c_o (by simp at hc; rw [← hc]; exact hb))).mod mh9 (fun b hb hc => np_c_o (by simp at hc; rw [← hc]; exact hb))).ext eh12).mod mh17 (fun b hb hc => np_c_o (by simp at hc; rw [← hc]; exact hb))).ext eh20)
    refine s_app f23 s_r19 rfl rfl rfl (by simp [maxLen]; omega) (by simp; omega) (fun r24 h25 mh25 zh25 s_r24 ab_r24 => ?_)
    have E26 := E21.new mh25 (fun b hb => .inr (by have := fr_o b hb; omega))
    have fr_r24 := fr_o.app ab_r24 (by omega)
    have np27 : p_c ∉ blks r24 := fun hc => (ab_r24 _ hc).elim np_c_o (fun hc => by omega)
    have np28 : ∀ b ∈ blks r11, b ∉ blks r24 := fun b hb hc => (ab_r24 _ hc).elim (((fun b hb hc => by have := fr_r11 b hb; have := lt_o b hc; omega) : ∀ b ∈ blks r11, b ∉ blks o) b hb) (fun hc => by have := lt_r11 b hb; omega)
    have np29 : ∀ b ∈ blks r19, b ∉ blks r24 := fun b hb hc => (ab_r24 _ hc).elim (((fun b hb hc => by have := fr_r19 b hb; have := lt_o b hc; omega) : ∀ b ∈ blks r19, b ∉ blks o) b hb) (fun hc => by have := lt_r19 b hb; omega)
    have lt_r24 := s_r24.lt
    refine s_pure r24 (fun _ q => q) ?_
    refine s_nil ?_
    refine p_blkN ?_
    refine p_seqN ?_
    refine v_ops ?_
    refine s_pure (.int .i64 i) (fun _ q => q) ?_
    refine s_pure (.int .i64 (i - 1)) (fun _ q => ArithVC.mk (by omega) q) ?_
    refine s_pure (.int .i64 (i - 1)) (fun _ q => q) ?_
    refine s_nil ?_
    have f30 := ((Ch17.ext eh20).mod mh25 np_c_o (fun b hb => by have := fr_o b hb; omega))
    exact p_lpN ⟨(i - 1), (ll ++ [g16]), r24, ⟨rfl, rfl, rfl⟩, ⟨E26, (f30.le (by omega)), (sl_eq s_r24 (by simp)), (fr_r24.mono (by omega)), np27, (by exact ⟨by omega, by omega, by simp; omega⟩)⟩, by omega⟩
  ·
    refine v_exit ?_
    refine p_seqX ?_
    refine p_lpX ?_
    refine p_blkX ?_
    refine p_seqN ?_
    refine v_seq ?_
    refine v_ops ?_
    refine s_pure o (fun _ q => q) ?_
    refine s_pure o (fun _ q => q) ?_
    refine s_nil ?_
    refine p_seqN ?_
    refine v_ret ?_
    refine p_ret [o] o (fun _ q => q) rfl ?_
    exact ⟨ll, o, rfl, s_o, (fr_o.mono (by omega)), (by omega), (bxc.le (by omega)), Eh⟩


theorem sm_bound {q : List Pk} {m sz n : Int} {sig : List Int} {k : Nat} (hq : q.map Pk.p = smL m sig sz n k) : q.length = k ∧ ∀ p ∈ q, p.sig.length ≤ sig.length := by
  refine ⟨by have := congrArg List.length hq; simpa [smL] using this, fun p hp => ?_⟩
  have h : p.p ∈ smL m sig sz n k := by rw [← hq]; exact List.mem_map_of_mem hp
  unfold smL at h
  obtain ⟨j, _, hj⟩ := List.mem_map.1 h
  have : p.sig = smPart sig sz j := by
    have := congrArg PkP.signals hj
    exact this.symm
  rw [this, smPart, List.length_drop, List.length_take]; omega
theorem rd_mid {ps : List Pk} {e : Pk} {k : Nat} (h : ∀ p ∈ ps, p.sig.length ≤ 100) (he : e.sig.length ≤ 100) : ∀ p ∈ ps.take k ++ [e] ++ ps.drop k, p.sig.length ≤ 100 := by
  intro p hp
  rcases List.mem_append.1 hp with hp | hp
  · rcases List.mem_append.1 hp with hp | hp
    · exact h p (List.mem_of_mem_take hp)
    · rw [List.mem_singleton.1 hp]; exact he
  · exact h p (List.mem_of_mem_drop hp)
theorem rd_snoc {ps : List Pk} {e : Pk} (h : ∀ p ∈ ps, p.sig.length ≤ 100) (he : e.sig.length ≤ 100) : ∀ p ∈ ps ++ [e], p.sig.length ≤ 100 := by
  intro p hp
  rcases List.mem_append.1 hp with hp | hp
  · exact h p hp
  · rw [List.mem_singleton.1 hp]; exact he
theorem rd_set {ps : List Pk} {e : Pk} {k : Nat} (h : ∀ p ∈ ps, p.sig.length ≤ 100) (he : e.sig.length ≤ 200) : ∀ p ∈ ps.set k e, p.sig.length ≤ 200 := by
  intro p hp
  rcases List.mem_or_eq_of_mem_set hp with hp | rfl
  · have := h p hp; omega
  · exact he

set_option maxRecDepth 10000 in
set_option maxHeartbeats 4000000 in
theorem spec_l1Cur_packet_ok (p_c : Nat) (t_c : TypeId) (m_c : Int) (lo_c : Nat) (h : Heap) (C_c : Cur h p_c t_c m_c lo_c) (hm : m_c + 1000 ≤ 4000000000000000000) : Cn f_spec_l1Cur_packet [.pointer (some ⟨p_c, 0, none⟩)] h fun v h' => ∃ g0 : PkP, ∃ r0 : Value, v = .agg #[.int .i64 g0.message, .int .i64 g0.part, .int .i64 g0.parts, r0] ∧ SlO h' r0 g0.signals ∧ Fr h.size r0 ∧ (g0.signals.length ≤ 12) ∧ Cur h' p_c t_c (m_c + 1000) lo_c ∧ Mod [p_c] h h' := by
  have lc_c := C_c.lt
  have ll_c := C_c.low
  have lm_c := C_c.top
  refine calls_of r_spec_l1Cur_packet ?_
  refine v_seq ?_
  refine v_ops ?_
  refine s_new (fun h2 b1 hbb1 hzb1 eh2 bxb1 => ?_)
  have E3 := (Mod.refl [p_c] h).trans (Mod.of_ext eh2 _)
  have z4 := eh2.size
  have lbb1 := bxb1.lt
  refine s_nil ?_
  refine p_seqN ?_
  refine v_seq ?_
  refine v_ops ?_
  refine s_pure (.pointer (some ⟨p_c, 0, none⟩)) (fun _ q => q) ?_
  refine s_row (α := Int) [1, 7, 12, 999] (fun _ q => seg_i rfl (seg_i rfl (seg_i rfl (seg_i rfl (seg_nil q))))) rfl (by simp [maxLen]) (fun r5 h6 eh6 zh6 s_r5 fr_r5 => ?_)
  have E7 := E3.trans (Mod.of_ext eh6 _)
  have z8 := eh6.size
  have lt_r5 := s_r5.lt
  have f9 := ((C_c.ext eh2).ext eh6)
  refine s_call [.pointer (some ⟨p_c, 0, none⟩), r5] rfl (spec_l1Cur_among_ok p_c t_c m_c lo_c r5 [1, 7, 12, 999] _ f9 s_r5.toSl (fun b hb hc => by simp at hc; have := fr_r5 b hb; omega) (by omega) (by first | omega | assumption | (simp; done) | (simp; omega))) ?_
  rintro _ h11 ⟨g10, rfl, qh11, Ch11, mh11⟩
  have zh11 := mh11.size
  have E12 := E7.new mh11 (fun b hb => .inl (by simp at hb; simp [hb]))
  simp only [List.mem_cons, List.not_mem_nil, or_false] at qh11
  refine s_pure (.pointer (some ⟨p_c, 0, none⟩)) (fun _ q => q) ?_
  refine s_call [.pointer (some ⟨p_c, 0, none⟩), .int .i64 3] rfl (spec_l1Cur_pick_ok p_c t_c (m_c + 2) lo_c 3 _ Ch11 (by omega)) ?_
  rintro _ h14 ⟨g13, rfl, qh14, Ch14, mh14⟩
  have zh14 := mh14.size
  have E15 := E12.new mh14 (fun b hb => .inl (by simp at hb; simp [hb]))
  refine s_pure (.int .i64 (1 + g13)) (fun _ q => ArithVC.mk (by omega) q) ?_
  refine s_pure (.agg #[.int .i64 g10, .int .i64 0, .int .i64 (1 + g13), .slice none 0 0]) (fun _ q => w_build (seg_i rfl (seg_i rfl (seg_nil q)))) ?_
  refine s_new (fun h17 b16 hbb16 hzb16 eh17 bxb16 => ?_)
  have E18 := E15.trans (Mod.of_ext eh17 _)
  have z19 := eh17.size
  have lbb16 := bxb16.lt
  refine s_stBx (.agg #[.int .i64 g10, .int .i64 0, .int .i64 (1 + g13), .slice none 0 0]) [.int .i64 g10, .int .i64 0, .int .i64 (1 + g13), .slice none 0 0] [.int .i64 g10, .int .i64 0, .int .i64 (1 + g13), .slice none 0 0] bxb16 rfl rfl rfl rfl (by simp) (all_cons rfl (all_cons rfl (all_cons rfl (all_cons rfl all_nil)))) rfl (fun h20 mh20 sh20 bxx21 => ?_)
  have E22 := E18.new mh20 (fun b hb => .inr (by simp at hb; omega))
  refine s_nil ?_
  refine p_seqN ?_
  refine v_seq ?_
  refine v_seq ?_
  refine v_ops ?_
  refine s_pure (.pointer (some ⟨p_c, 0, none⟩)) (fun _ q => q) ?_
  have f23 := ((Ch14.ext eh17).mod mh20 (by simp; omega) (fun b hb => by simp at hb; omega))
  refine s_call [.pointer (some ⟨p_c, 0, none⟩), .int .i64 16] rfl (spec_l1Cur_one_ok p_c t_c ((m_c + 2) + 2) lo_c 16 _ f23 (by omega)) ?_
  rintro _ h25 ⟨g24, rfl, Ch25, mh25⟩
  have zh25 := mh25.size
  have E26 := E22.new mh25 (fun b hb => .inl (by simp at hb; simp [hb]))
  refine s_nil ?_
  refine p_seqN ?_
  refine v_cond rfl (fun c27 => ?_) (fun c27 => ?_)
  ·
    refine v_ops ?_
    refine s_pure (.pointer (some ⟨b16, 2, none⟩)) (fun _ q => q) ?_
    have f28 := (bxx21.mod mh25 (by simp; omega))
    refine s_stBx (.int .i64 9) [.int .i64 9] [.int .i64 g10, .int .i64 0, .int .i64 9, .slice none 0 0] f28 rfl rfl rfl rfl (by simp) (all_cons rfl all_nil) rfl (fun h29 mh29 sh29 bxx30 => ?_)
    have E31 := E26.new mh29 (fun b hb => .inr (by simp at hb; omega))
    refine s_nil ?_
    refine p_seqN ?_
    refine v_seq ?_
    refine v_ops ?_
    refine s_pure (.pointer (some ⟨p_c, 0, none⟩)) (fun _ q => q) ?_
    refine s_pure (.pointer (some ⟨b16, 2, none⟩)) (fun _ q => q) ?_
    refine s_load (.int .i64 9) (fun _ q => bxx30.load rfl q) ?_
    have f32 := (Ch25.mod mh29 (by simp; omega) (fun b hb => by simp at hb; omega))
    refine s_call [.pointer (some ⟨p_c, 0, none⟩), .int .i64 9] rfl (spec_l1Cur_pick_ok p_c t_c (((m_c + 2) + 2) + 2) lo_c 9 _ f32 (by omega)) ?_
    rintro _ h34 ⟨g33, rfl, qh34, Ch34, mh34⟩
    have zh34 := mh34.size
    have E35 := E31.new mh34 (fun b hb => .inl (by simp at hb; simp [hb]))
    refine s_pure (.pointer (some ⟨b16, 1, none⟩)) (fun _ q => q) ?_
    have f36 := (bxx30.mod mh34 (by simp; omega))
    refine s_stBx (.int .i64 g33) [.int .i64 g33] [.int .i64 g10, .int .i64 g33, .int .i64 9, .slice none 0 0] f36 rfl rfl rfl rfl (by simp) (all_cons rfl all_nil) rfl (fun h37 mh37 sh37 bxx38 => ?_)
    have E39 := E35.new mh37 (fun b hb => .inr (by simp at hb; omega))
    refine s_nil ?_
    refine p_seqN ?_
    refine v_seq ?_
    refine v_ops ?_
    refine s_pure (.pointer (some ⟨p_c, 0, none⟩)) (fun _ q => q) ?_
    have f40 := (Ch34.mod mh37 (by simp; omega) (fun b hb => by simp at hb; omega))
    refine s_call [.pointer (some ⟨p_c, 0, none⟩), .int .i64 3] rfl (spec_l1Cur_pick_ok p_c t_c ((((m_c + 2) + 2) + 2) + 2) lo_c 3 _ f40 (by omega)) ?_
    rintro _ h42 ⟨g41, rfl, qh42, Ch42, mh42⟩
    have zh42 := mh42.size
    have E43 := E39.new mh42 (fun b hb => .inl (by simp at hb; simp [hb]))
    refine s_pure (.int .i64 (1 + g41)) (fun _ q => ArithVC.mk (by omega) q) ?_
    refine s_pure (.int .i64 (1 + g41)) (fun _ q => q) ?_
    refine s_nil ?_
    refine p_seqN ?_
    refine v_seq ?_
    refine v_seq ?_
    refine v_ops ?_
    refine s_pure (.pointer (some ⟨p_c, 0, none⟩)) (fun _ q => q) ?_
    refine s_call [.pointer (some ⟨p_c, 0, none⟩), .int .i64 16] rfl (spec_l1Cur_one_ok p_c t_c (((((m_c + 2) + 2) + 2) + 2) + 2) lo_c 16 _ Ch42 (by omega)) ?_
    rintro _ h45 ⟨g44, rfl, Ch45, mh45⟩
    have zh45 := mh45.size
    have E46 := E43.new mh45 (fun b hb => .inl (by simp at hb; simp [hb]))
    refine s_nil ?_
    refine p_seqN ?_
    refine v_cond rfl (fun c47 => ?_) (fun c47 => ?_)
    ·
      refine v_ops ?_
      refine s_pure (.pointer (some ⟨p_c, 0, none⟩)) (fun _ q => q) ?_
      refine s_call [.pointer (some ⟨p_c, 0, none⟩), .int .i64 2] rfl (spec_l1Cur_pick_ok p_c t_c ((((((m_c + 2) + 2) + 2) + 2) + 2) + 2) lo_c 2 _ Ch45 (by omega)) ?_
      rintro _ h49 ⟨g48, rfl, qh49, Ch49, mh49⟩
      have zh49 := mh49.size
      have E50 := E46.new mh49 (fun b hb => .inl (by simp at hb; simp [hb]))
      refine s_pure (.int .i64 (8 + g48)) (fun _ q => ArithVC.mk (by omega) q) ?_
      refine s_pure (.int .i64 (8 + g48)) (fun _ q => q) ?_
      refine s_nil ?_
      refine p_seqN ?_
      refine v_seq ?_
      refine v_ops ?_
      refine s_pure (.pointer (some ⟨p_c, 0, none⟩)) (fun _ q => q) ?_
      refine s_pure (.int .i64 (8 + g48)) (fun _ q => q) ?_
      refine s_call [.pointer (some ⟨p_c, 0, none⟩), .int .i64 (8 + g48)] rfl (spec_l1Cur_contents_ok p_c t_c (((((((m_c + 2) + 2) + 2) + 2) + 2) + 2) + 2) lo_c (8 + g48) _ Ch49 (by omega) (by first | omega | assumption | (simp; done) | (simp; omega))) ?_
      rintro r52 h53 ⟨g51, _, rfl, s_r52, fr_r52, qh53, Ch53, mh53⟩
      have zh53 := mh53.size
      have E54 := E50.new mh53 (fun b hb => .inl (by simp at hb; simp [hb]))
      have lt_r52 := s_r52.lt
      refine s_pure (.pointer (some ⟨b16, 3, none⟩)) (fun _ q => q) ?_
      have f55 := ((((bxx38.mod mh42 (by simp; omega)).mod mh45 (by simp; omega)).mod mh49 (by simp; omega)).mod mh53 (by simp; omega))
      refine s_stBx r52 [r52] [.int .i64 g10, .int .i64 g33, .int .i64 9, r52] f55 rfl rfl s_r52.cellsv rfl (by simp) (all_cons s_r52.one1 all_nil) rfl (fun h56 mh56 sh56 bxx57 => ?_)
      have E58 := E54.new mh56 (fun b hb => .inr (by simp at hb; omega))
      refine s_nil ?_
      refine p_seqN ?_
      refine v_seq ?_
      refine v_seq ?_
      refine v_ops ?_
      refine s_pure (.pointer (some ⟨p_c, 0, none⟩)) (fun _ q => q) ?_
      have f59 := (Ch53.mod mh56 (by simp; omega) (fun b hb => by simp at hb; omega))
      refine s_call [.pointer (some ⟨p_c, 0, none⟩), .int .i64 40] rfl (spec_l1Cur_pick_ok p_c t_c ((((((((m_c + 2) + 2) + 2) + 2) + 2) + 2) + 2) + (6 * (8 + g48))) lo_c 40 _ f59 (by omega)) ?_
      rintro _ h61 ⟨g60, rfl, qh61, Ch61, mh61⟩
      have zh61 := mh61.size
      have E62 := E58.new mh61 (fun b hb => .inl (by simp at hb; simp [hb]))
      refine s_nil ?_
      refine p_seqN ?_
      refine v_block ?_
      refine v_seq ?_
      refine v_ops ?_
      refine s_pure (.bool (g60 == 0)) (fun _ q => q) ?_
      refine s_pure (.bool (g60 == 0)) (fun _ q => q) ?_
      refine s_nil ?_
      refine p_seqN ?_
      refine v_cond rfl (fun c63 => ?_) (fun c63 => ?_)
      ·
        refine v_ops ?_
        refine s_pure (.pointer (some ⟨p_c, 0, none⟩)) (fun _ q => q) ?_
        refine s_row (α := Int) [0, 1000] (fun _ q => seg_i rfl (seg_i rfl (seg_nil q))) rfl (by simp [maxLen]) (fun r64 h65 eh65 zh65 s_r64 fr_r64 => ?_)
        have E66 := E62.trans (Mod.of_ext eh65 _)
        have z67 := eh65.size
        have lt_r64 := s_r64.lt
        have f68 := (Ch61.ext eh65)
        refine s_call [.pointer (some ⟨p_c, 0, none⟩), r64] rfl (spec_l1Cur_among_ok p_c t_c (((((((((m_c + 2) + 2) + 2) + 2) + 2) + 2) + 2) + (6 * (8 + g48))) + 2) lo_c r64 [0, 1000] _ f68 s_r64.toSl (fun b hb hc => by simp at hc; have := fr_r64 b hb; omega) (by omega) (by first | omega | assumption | (simp; done) | (simp; omega))) ?_
        rintro _ h70 ⟨g69, rfl, qh70, Ch70, mh70⟩
        have zh70 := mh70.size
        have E71 := E66.new mh70 (fun b hb => .inl (by simp at hb; simp [hb]))
        simp only [List.mem_cons, List.not_mem_nil, or_false] at qh70
        refine s_pure (.pointer (some ⟨b16, 0, none⟩)) (fun _ q => q) ?_
        have f72 := (((bxx57.mod mh61 (by simp; omega)).ext eh65).mod mh70 (by simp; omega))
        refine s_stBx (.int .i64 g69) [.int .i64 g69] [.int .i64 g69, .int .i64 g33, .int .i64 9, r52] f72 rfl rfl rfl rfl (by simp) (all_cons rfl all_nil) rfl (fun h73 mh73 sh73 bxx74 => ?_)
        have E75 := E71.new mh73 (fun b hb => .inr (by simp at hb; omega))
        refine s_nil ?_
        refine p_blkN ?_
        refine p_seqN ?_
        refine v_seq ?_
        refine v_ops ?_
        refine s_load (.agg #[.int .i64 g69, .int .i64 g33, .int .i64 9, r52]) (fun _ q => bxx74.loadA rfl q) ?_
        have f76 := ((((((((((((((((((bxb1.ext eh6).mod mh11 (by simp; omega)).mod mh14 (by simp; omega)).ext eh17).mod mh20 (by simp; omega)).mod mh25 (by simp; omega)).mod mh29 (by simp; omega)).mod mh34 (by simp; omega)).mod mh37 (by simp; omega)).mod mh42 (by simp; omega)).mod mh45 (by simp; omega)).mod mh49 (by simp; omega)).mod mh53 (by simp; omega)).mod mh56 (by simp; omega)).mod mh61 (by simp; omega)).ext eh65).mod mh70 (by simp; omega)).mod mh73 (by simp; omega))
        refine s_stBx (.agg #[.int .i64 g69, .int .i64 g33, .int .i64 9, r52]) [.int .i64 g69, .int .i64 g33, .int .i64 9, r52] [.int .i64 g69, .int .i64 g33, .int .i64 9, r52] f76 rfl rfl rfl rfl (by simp) (all_cons rfl (all_cons rfl (all_cons rfl (all_cons s_r52.one1 all_nil)))) rfl (fun h77 mh77 sh77 bxx78 => ?_)
        have E79 := E75.new mh77 (fun b hb => .inr (by simp at hb; omega))
        refine s_nil ?_
        refine p_seqN ?_
        refine v_ret ?_
        refine p_ret [.agg #[.int .i64 g69, .int .i64 g33, .int .i64 9, r52]] (.agg #[.int .i64 g69, .int .i64 g33, .int .i64 9, r52]) (fun _ q => (bxx78.loadA rfl q)) rfl ?_
        have f80 := ((((((s_r52.mod mh56 (fun b hb hc => by simp at hc; have := fr_r52 b hb; omega)).mod mh61 (fun b hb hc => by simp at hc; have := fr_r52 b hb; omega)).ext eh65).mod mh70 (fun b hb hc => by simp at hc; have := fr_r52 b hb; omega)).mod mh73 (fun b hb hc => by simp at hc; have := fr_r52 b hb; omega)).mod mh77 (fun b hb hc => by simp at hc; have := fr_r52 b hb; omega))
        have f81 := ((Ch70.mod mh73 (by simp; omega) (fun b hb => by simp at hb; omega)).mod mh77 (by simp; omega) (fun b hb => by simp at hb; omega))
        exact ⟨⟨g69, g33, 9, g51⟩, r52, rfl, f80, (fr_r52.mono (by omega)), (by first | omega | (simp; done) | (simp; omega)), (f81.le (by omega)), E79⟩
      ·
        refine v_seq ?_
        refine v_ops ?_
        refine s_pure (.bool (g60 == 1)) (fun _ q => q) ?_
        refine s_pure (.bool (g60 == 1)) (fun _ q => q) ?_
        refine s_nil ?_
        refine p_seqN ?_
        refine v_cond rfl (fun c82 => ?_) (fun c82 => ?_)
        ·
          refine v_ops ?_
          refine s_pure (.pointer (some ⟨p_c, 0, none⟩)) (fun _ q => q) ?_
          refine s_pure (.pointer (some ⟨b16, 2, none⟩)) (fun _ q => q) ?_
          have f83 := (bxx57.mod mh61 (by simp; omega))
          refine s_load (.int .i64 9) (fun _ q => f83.load rfl q) ?_
          refine s_row (α := Int) [(-1), 9] (fun _ q => seg_i rfl (seg_i rfl (seg_nil q))) rfl (by simp [maxLen]) (fun r84 h85 eh85 zh85 s_r84 fr_r84 => ?_)
          have E86 := E62.trans (Mod.of_ext eh85 _)
          have z87 := eh85.size
          have lt_r84 := s_r84.lt
          have f88 := (Ch61.ext eh85)
          refine s_call [.pointer (some ⟨p_c, 0, none⟩), r84] rfl (spec_l1Cur_among_ok p_c t_c (((((((((m_c + 2) + 2) + 2) + 2) + 2) + 2) + 2) + (6 * (8 + g48))) + 2) lo_c r84 [(-1), 9] _ f88 s_r84.toSl (fun b hb hc => by simp at hc; have := fr_r84 b hb; omega) (by omega) (by first | omega | assumption | (simp; done) | (simp; omega))) ?_
          rintro _ h90 ⟨g89, rfl, qh90, Ch90, mh90⟩
          have zh90 := mh90.size
          have E91 := E86.new mh90 (fun b hb => .inl (by simp at hb; simp [hb]))
          simp only [List.mem_cons, List.not_mem_nil, or_false] at qh90
          refine s_pure (.pointer (some ⟨b16, 1, none⟩)) (fun _ q => q) ?_
          have f92 := ((f83.ext eh85).mod mh90 (by simp; omega))
          refine s_stBx (.int .i64 g89) [.int .i64 g89] [.int .i64 g10, .int .i64 g89, .int .i64 9, r52] f92 rfl rfl rfl rfl (by simp) (all_cons rfl all_nil) rfl (fun h93 mh93 sh93 bxx94 => ?_)
          have E95 := E91.new mh93 (fun b hb => .inr (by simp at hb; omega))
          refine s_nil ?_
          refine p_blkN ?_
          refine p_seqN ?_
          refine v_seq ?_
          refine v_ops ?_
          refine s_load (.agg #[.int .i64 g10, .int .i64 g89, .int .i64 9, r52]) (fun _ q => bxx94.loadA rfl q) ?_
          have f96 := ((((((((((((((((((bxb1.ext eh6).mod mh11 (by simp; omega)).mod mh14 (by simp; omega)).ext eh17).mod mh20 (by simp; omega)).mod mh25 (by simp; omega)).mod mh29 (by simp; omega)).mod mh34 (by simp; omega)).mod mh37 (by simp; omega)).mod mh42 (by simp; omega)).mod mh45 (by simp; omega)).mod mh49 (by simp; omega)).mod mh53 (by simp; omega)).mod mh56 (by simp; omega)).mod mh61 (by simp; omega)).ext eh85).mod mh90 (by simp; omega)).mod mh93 (by simp; omega))
          refine s_stBx (.agg #[.int .i64 g10, .int .i64 g89, .int .i64 9, r52]) [.int .i64 g10, .int .i64 g89, .int .i64 9, r52] [.int .i64 g10, .int .i64 g89, .int .i64 9, r52] f96 rfl rfl rfl rfl (by simp) (all_cons rfl (all_cons rfl (all_cons rfl (all_cons s_r52.one1 all_nil)))) rfl (fun h97 mh97 sh97 bxx98 => ?_)
          have E99 := E95.new mh97 (fun b hb => .inr (by simp at hb; omega))
          refine s_nil ?_
          refine p_seqN ?_
          refine v_ret ?_
          refine p_ret [.agg #[.int .i64 g10, .int .i64 g89, .int .i64 9, r52]] (.agg #[.int .i64 g10, .int .i64 g89, .int .i64 9, r52]) (fun _ q => (bxx98.loadA rfl q)) rfl ?_
          have f100 := ((((((s_r52.mod mh56 (fun b hb hc => by simp at hc; have := fr_r52 b hb; omega)).mod mh61 (fun b hb hc => by simp at hc; have := fr_r52 b hb; omega)).ext eh85).mod mh90 (fun b hb hc => by simp at hc; have := fr_r52 b hb; omega)).mod mh93 (fun b hb hc => by simp at hc; have := fr_r52 b hb; omega)).mod mh97 (fun b hb hc => by simp at hc; have := fr_r52 b hb; omega))
          have f101 := ((Ch90.mod mh93 (by simp; omega) (fun b hb => by simp at hb; omega)).mod mh97 (by simp; omega) (fun b hb => by simp at hb; omega))
          exact ⟨⟨g10, g89, 9, g51⟩, r52, rfl, f100, (fr_r52.mono (by omega)), (by first | omega | (simp; done) | (simp; omega)), (f101.le (by omega)), E99⟩
        ·
          refine v_seq ?_
          refine v_ops ?_
          refine s_pure (.bool (g60 == 2)) (fun _ q => q) ?_
          refine s_pure (.bool (g60 == 2)) (fun _ q => q) ?_
          refine s_nil ?_
          refine p_seqN ?_
          refine v_cond rfl (fun c102 => ?_) (fun c102 => ?_)
          ·
            refine v_ops ?_
            refine s_pure (.pointer (some ⟨p_c, 0, none⟩)) (fun _ q => q) ?_
            refine s_row (α := Int) [0, 9, 10] (fun _ q => seg_i rfl (seg_i rfl (seg_i rfl (seg_nil q)))) rfl (by simp [maxLen]) (fun r103 h104 eh104 zh104 s_r103 fr_r103 => ?_)
            have E105 := E62.trans (Mod.of_ext eh104 _)
            have z106 := eh104.size
            have lt_r103 := s_r103.lt
            have f107 := (Ch61.ext eh104)
            refine s_call [.pointer (some ⟨p_c, 0, none⟩), r103] rfl (spec_l1Cur_among_ok p_c t_c (((((((((m_c + 2) + 2) + 2) + 2) + 2) + 2) + 2) + (6 * (8 + g48))) + 2) lo_c r103 [0, 9, 10] _ f107 s_r103.toSl (fun b hb hc => by simp at hc; have := fr_r103 b hb; omega) (by omega) (by first | omega | assumption | (simp; done) | (simp; omega))) ?_
            rintro _ h109 ⟨g108, rfl, qh109, Ch109, mh109⟩
            have zh109 := mh109.size
            have E110 := E105.new mh109 (fun b hb => .inl (by simp at hb; simp [hb]))
            simp only [List.mem_cons, List.not_mem_nil, or_false] at qh109
            refine s_pure (.pointer (some ⟨b16, 2, none⟩)) (fun _ q => q) ?_
            have f111 := (((bxx57.mod mh61 (by simp; omega)).ext eh104).mod mh109 (by simp; omega))
            refine s_stBx (.int .i64 g108) [.int .i64 g108] [.int .i64 g10, .int .i64 g33, .int .i64 g108, r52] f111 rfl rfl rfl rfl (by simp) (all_cons rfl all_nil) rfl (fun h112 mh112 sh112 bxx113 => ?_)
            have E114 := E110.new mh112 (fun b hb => .inr (by simp at hb; omega))
            refine s_nil ?_
            refine p_blkN ?_
            refine p_seqN ?_
            refine v_seq ?_
            refine v_ops ?_
            refine s_load (.agg #[.int .i64 g10, .int .i64 g33, .int .i64 g108, r52]) (fun _ q => bxx113.loadA rfl q) ?_
            have f115 := ((((((((((((((((((bxb1.ext eh6).mod mh11 (by simp; omega)).mod mh14 (by simp; omega)).ext eh17).mod mh20 (by simp; omega)).mod mh25 (by simp; omega)).mod mh29 (by simp; omega)).mod mh34 (by simp; omega)).mod mh37 (by simp; omega)).mod mh42 (by simp; omega)).mod mh45 (by simp; omega)).mod mh49 (by simp; omega)).mod mh53 (by simp; omega)).mod mh56 (by simp; omega)).mod mh61 (by simp; omega)).ext eh104).mod mh109 (by simp; omega)).mod mh112 (by simp; omega))
            refine s_stBx (.agg #[.int .i64 g10, .int .i64 g33, .int .i64 g108, r52]) [.int .i64 g10, .int .i64 g33, .int .i64 g108, r52] [.int .i64 g10, .int .i64 g33, .int .i64 g108, r52] f115 rfl rfl rfl rfl (by simp) (all_cons rfl (all_cons rfl (all_cons rfl (all_cons s_r52.one1 all_nil)))) rfl (fun h116 mh116 sh116 bxx117 => ?_)
            have E118 := E114.new mh116 (fun b hb => .inr (by simp at hb; omega))
            refine s_nil ?_
            refine p_seqN ?_
            refine v_ret ?_
            refine p_ret [.agg #[.int .i64 g10, .int .i64 g33, .int .i64 g108, r52]] (.agg #[.int .i64 g10, .int .i64 g33, .int .i64 g108, r52]) (fun _ q => (bxx117.loadA rfl q)) rfl ?_
            have f119 := ((((((s_r52.mod mh56 (fun b hb hc => by simp at hc; have := fr_r52 b hb; omega)).mod mh61 (fun b hb hc => by simp at hc; have := fr_r52 b hb; omega)).ext eh104).mod mh109 (fun b hb hc => by simp at hc; have := fr_r52 b hb; omega)).mod mh112 (fun b hb hc => by simp at hc; have := fr_r52 b hb; omega)).mod mh116 (fun b hb hc => by simp at hc; have := fr_r52 b hb; omega))
            have f120 := ((Ch109.mod mh112 (by simp; omega) (fun b hb => by simp at hb; omega)).mod mh116 (by simp; omega) (fun b hb => by simp at hb; omega))
            exact ⟨⟨g10, g33, g108, g51⟩, r52, rfl, f119, (fr_r52.mono (by omega)), (by first | omega | (simp; done) | (simp; omega)), (f120.le (by omega)), E118⟩
          ·
            refine v_seq ?_
            refine v_ops ?_
            refine s_pure (.bool (g60 == 3)) (fun _ q => q) ?_
            refine s_pure (.bool (g60 == 3)) (fun _ q => q) ?_
            refine s_nil ?_
            refine p_seqN ?_
            refine v_cond rfl (fun c121 => ?_) (fun c121 => ?_)
            ·
              have f122 := (bxx57.mod mh61 (by simp; omega))
              refine v_draw (DrawVC.hold ([b16]) ?_)
              refine d_pureT (.pointer (some ⟨b16, 3, none⟩)) (fun _ q => q) ?_
              refine d_pureT (.pointer (some ⟨p_c, 0, none⟩)) (fun _ q => q) ?_
              refine d_loadT r52 (fun _ q => f122.take (by simp) rfl q) ?_
              refine d_eff ?_
              refine s_row (α := Int) [0, 60, 61] (fun _ q => seg_i rfl (seg_i rfl (seg_i rfl (seg_nil q)))) rfl (by simp [maxLen]) (fun r123 h124 eh124 zh124 s_r123 fr_r123 => ?_)
              have E125 := E62.trans (Mod.of_ext eh124 _)
              have z126 := eh124.size
              have G127 := eh124
              have lt_r123 := s_r123.lt
              refine s_nil ⟨fun _ x hx => G127.blk x (by simp at hx; omega), ?_⟩
              refine d_eff ?_
              have f128 := (Ch61.ext eh124)
              refine s_call [.pointer (some ⟨p_c, 0, none⟩), r123] rfl (spec_l1Cur_among_ok p_c t_c (((((((((m_c + 2) + 2) + 2) + 2) + 2) + 2) + 2) + (6 * (8 + g48))) + 2) lo_c r123 [0, 60, 61] _ f128 s_r123.toSl (fun b hb hc => by simp at hc; have := fr_r123 b hb; omega) (by omega) (by first | omega | assumption | (simp; done) | (simp; omega))) ?_
              rintro _ h130 ⟨g129, rfl, qh130, Ch130, mh130⟩
              have zh130 := mh130.size
              have E131 := E125.new mh130 (fun b hb => .inl (by simp at hb; simp [hb]))
              have G132 := gmod1 (b := b16) (h := h124) (h0 := h61) mh130 (by omega) (by simp; omega) (fun x hx => G127.blk x (by simp at hx; omega))
              simp only [List.mem_cons, List.not_mem_nil, or_false] at qh130
              refine s_nil ⟨fun _ x hx => G132 x hx, ?_⟩
              have f133 := ((((s_r52.mod mh56 (fun b hb hc => by simp at hc; have := fr_r52 b hb; omega)).mod mh61 (fun b hb hc => by simp at hc; have := fr_r52 b hb; omega)).ext eh124).mod mh130 (fun b hb hc => by simp at hc; have := fr_r52 b hb; omega))
              have hk134 : 0 < g51.length := (by first | omega | (simp; omega))
              obtain ⟨x135, hx135⟩ : ∃ x, g51[0]? = some x := ⟨_, List.getElem?_eq_getElem hk134⟩
              refine d_pureT (.pointer (some ⟨sblk r52, soff r52 + 0 * 1, none⟩)) (fun _ q => f133.idx (k := 0) rfl hk134 q) ?_
              refine d_eff ?_
              refine s_stSl (k := 0) (j := 0) g129 (.int .i64 g129) [.int .i64 g129] f133 rfl rfl rfl rfl rfl hx135 (Nat.le_of_ble_eq_true rfl) rfl (all_cons rfl all_nil) (fun h136 mh136 sh136 s137 => ?_)
              have E138 := E131.new mh136 (fun b hb => .inr (by have := fr_r52 b hb; omega))
              refine s_nil ⟨fun hl => (by cases hl), ?_⟩
              refine d_done ?_
              refine p_blkN ?_
              refine p_seqN ?_
              refine v_seq ?_
              refine v_ops ?_
              have f139 := (((f122.ext eh124).mod mh130 (by simp; omega)).mod mh136 (fun hc => by have := fr_r52 _ hc; omega))
              refine s_load (.agg #[.int .i64 g10, .int .i64 g33, .int .i64 9, r52]) (fun _ q => f139.loadA rfl q) ?_
              have f140 := ((((((((((((((((((bxb1.ext eh6).mod mh11 (by simp; omega)).mod mh14 (by simp; omega)).ext eh17).mod mh20 (by simp; omega)).mod mh25 (by simp; omega)).mod mh29 (by simp; omega)).mod mh34 (by simp; omega)).mod mh37 (by simp; omega)).mod mh42 (by simp; omega)).mod mh45 (by simp; omega)).mod mh49 (by simp; omega)).mod mh53 (by simp; omega)).mod mh56 (by simp; omega)).mod mh61 (by simp; omega)).ext eh124).mod mh130 (by simp; omega)).mod mh136 (fun hc => by have := fr_r52 _ hc; omega))
              refine s_stBx (.agg #[.int .i64 g10, .int .i64 g33, .int .i64 9, r52]) [.int .i64 g10, .int .i64 g33, .int .i64 9, r52] [.int .i64 g10, .int .i64 g33, .int .i64 9, r52] f140 rfl rfl rfl rfl (by simp) (all_cons rfl (all_cons rfl (all_cons rfl (all_cons s137.one1 all_nil)))) rfl (fun h141 mh141 sh141 bxx142 => ?_)
              have E143 := E138.new mh141 (fun b hb => .inr (by simp at hb; omega))
              refine s_nil ?_
              refine p_seqN ?_
              refine v_ret ?_
              refine p_ret [.agg #[.int .i64 g10, .int .i64 g33, .int .i64 9, r52]] (.agg #[.int .i64 g10, .int .i64 g33, .int .i64 9, r52]) (fun _ q => (bxx142.loadA rfl q)) rfl ?_
              have f144 := (s137.mod mh141 (fun b hb hc => by simp at hc; have := fr_r52 b hb; omega))
              have f145 := ((Ch130.mod mh136 (fun hc => by have := fr_r52 _ hc; omega) (fun b hb => by have := fr_r52 b hb; omega)).mod mh141 (by simp; omega) (fun b hb => by simp at hb; omega))
              exact ⟨⟨g10, g33, 9, (g51.set 0 g129)⟩, r52, rfl, f144, (fr_r52.mono (by omega)), (by first | omega | (simp; done) | (simp; omega)), (f145.le (by omega)), E143⟩
            ·
              refine v_seq ?_
              refine v_ops ?_
              refine s_pure (.bool (g60 == 4)) (fun _ q => q) ?_
              refine s_pure (.bool (g60 == 4)) (fun _ q => q) ?_
              refine s_nil ?_
              refine p_seqN ?_
              refine v_cond rfl (fun c146 => ?_) (fun c146 => ?_)
              ·
                refine v_ops ?_
                refine s_pure (.pointer (some ⟨b16, 3, none⟩)) (fun _ q => q) ?_
                have f147 := (bxx57.mod mh61 (by simp; omega))
                refine s_stBx (.slice none 0 0) [.slice none 0 0] [.int .i64 g10, .int .i64 g33, .int .i64 9, .slice none 0 0] f147 rfl rfl rfl rfl (by simp) (all_cons rfl all_nil) rfl (fun h148 mh148 sh148 bxx149 => ?_)
                have E150 := E62.new mh148 (fun b hb => .inr (by simp at hb; omega))
                refine s_nil ?_
                refine p_blkN ?_
                refine p_seqN ?_
                refine v_seq ?_
                refine v_ops ?_
                refine s_load (.agg #[.int .i64 g10, .int .i64 g33, .int .i64 9, .slice none 0 0]) (fun _ q => bxx149.loadA rfl q) ?_
                have f151 := ((((((((((((((((bxb1.ext eh6).mod mh11 (by simp; omega)).mod mh14 (by simp; omega)).ext eh17).mod mh20 (by simp; omega)).mod mh25 (by simp; omega)).mod mh29 (by simp; omega)).mod mh34 (by simp; omega)).mod mh37 (by simp; omega)).mod mh42 (by simp; omega)).mod mh45 (by simp; omega)).mod mh49 (by simp; omega)).mod mh53 (by simp; omega)).mod mh56 (by simp; omega)).mod mh61 (by simp; omega)).mod mh148 (by simp; omega))
                refine s_stBx (.agg #[.int .i64 g10, .int .i64 g33, .int .i64 9, .slice none 0 0]) [.int .i64 g10, .int .i64 g33, .int .i64 9, .slice none 0 0] [.int .i64 g10, .int .i64 g33, .int .i64 9, .slice none 0 0] f151 rfl rfl rfl rfl (by simp) (all_cons rfl (all_cons rfl (all_cons rfl (all_cons rfl all_nil)))) rfl (fun h152 mh152 sh152 bxx153 => ?_)
                have E154 := E150.new mh152 (fun b hb => .inr (by simp at hb; omega))
                refine s_nil ?_
                refine p_seqN ?_
                refine v_ret ?_
                refine p_ret [.agg #[.int .i64 g10, .int .i64 g33, .int .i64 9, .slice none 0 0]] (.agg #[.int .i64 g10, .int .i64 g33, .int .i64 9, .slice none 0 0]) (fun _ q => (bxx153.loadA rfl q)) rfl ?_
                have f155 := ((Ch61.mod mh148 (by simp; omega) (fun b hb => by simp at hb; omega)).mod mh152 (by simp; omega) (fun b hb => by simp at hb; omega))
                exact ⟨⟨g10, g33, 9, []⟩, (.slice none 0 0), rfl, (SlX.nil (α := Int) true _), (Fr.nil _), (by first | omega | (simp; done) | (simp; omega)), (f155.le (by omega)), E154⟩
              ·
                refine v_skip ?_
                refine p_blkN ?_
                refine p_seqN ?_
                refine v_seq ?_
                refine v_ops ?_
                have f156 := (bxx57.mod mh61 (by simp; omega))
                refine s_load (.agg #[.int .i64 g10, .int .i64 g33, .int .i64 9, r52]) (fun _ q => f156.loadA rfl q) ?_
                have f157 := (((((((((((((((bxb1.ext eh6).mod mh11 (by simp; omega)).mod mh14 (by simp; omega)).ext eh17).mod mh20 (by simp; omega)).mod mh25 (by simp; omega)).mod mh29 (by simp; omega)).mod mh34 (by simp; omega)).mod mh37 (by simp; omega)).mod mh42 (by simp; omega)).mod mh45 (by simp; omega)).mod mh49 (by simp; omega)).mod mh53 (by simp; omega)).mod mh56 (by simp; omega)).mod mh61 (by simp; omega))
                refine s_stBx (.agg #[.int .i64 g10, .int .i64 g33, .int .i64 9, r52]) [.int .i64 g10, .int .i64 g33, .int .i64 9, r52] [.int .i64 g10, .int .i64 g33, .int .i64 9, r52] f157 rfl rfl rfl rfl (by simp) (all_cons rfl (all_cons rfl (all_cons rfl (all_cons s_r52.one1 all_nil)))) rfl (fun h158 mh158 sh158 bxx159 => ?_)
                have E160 := E62.new mh158 (fun b hb => .inr (by simp at hb; omega))
                refine s_nil ?_
                refine p_seqN ?_
                refine v_ret ?_
                refine p_ret [.agg #[.int .i64 g10, .int .i64 g33, .int .i64 9, r52]] (.agg #[.int .i64 g10, .int .i64 g33, .int .i64 9, r52]) (fun _ q => (bxx159.loadA rfl q)) rfl ?_
                have f161 := (((s_r52.mod mh56 (fun b hb hc => by simp at hc; have := fr_r52 b hb; omega)).mod mh61 (fun b hb hc => by simp at hc; have := fr_r52 b hb; omega)).mod mh158 (fun b hb hc => by simp at hc; have := fr_r52 b hb; omega))
                have f162 := (Ch61.mod mh158 (by simp; omega) (fun b hb => by simp at hb; omega))
                exact ⟨⟨g10, g33, 9, g51⟩, r52, rfl, f161, (fr_r52.mono (by omega)), (by first | omega | (simp; done) | (simp; omega)), (f162.le (by omega)), E160⟩
    ·
      refine v_skip ?_
      refine p_seqN ?_
      refine v_seq ?_
      refine v_ops ?_
      refine s_pure (.pointer (some ⟨p_c, 0, none⟩)) (fun _ q => q) ?_
      refine s_pure (.int .i64 (1 + g41)) (fun _ q => q) ?_
      refine s_call [.pointer (some ⟨p_c, 0, none⟩), .int .i64 (1 + g41)] rfl (spec_l1Cur_contents_ok p_c t_c ((((((m_c + 2) + 2) + 2) + 2) + 2) + 2) lo_c (1 + g41) _ Ch45 (by omega) (by first | omega | assumption | (simp; done) | (simp; omega))) ?_
      rintro r164 h165 ⟨g163, _, rfl, s_r164, fr_r164, qh165, Ch165, mh165⟩
      have zh165 := mh165.size
      have E166 := E46.new mh165 (fun b hb => .inl (by simp at hb; simp [hb]))
      have lt_r164 := s_r164.lt
      refine s_pure (.pointer (some ⟨b16, 3, none⟩)) (fun _ q => q) ?_
      have f167 := (((bxx38.mod mh42 (by simp; omega)).mod mh45 (by simp; omega)).mod mh165 (by simp; omega))
      refine s_stBx r164 [r164] [.int .i64 g10, .int .i64 g33, .int .i64 9, r164] f167 rfl rfl s_r164.cellsv rfl (by simp) (all_cons s_r164.one1 all_nil) rfl (fun h168 mh168 sh168 bxx169 => ?_)
      have E170 := E166.new mh168 (fun b hb => .inr (by simp at hb; omega))
      refine s_nil ?_
      refine p_seqN ?_
      refine v_seq ?_
      refine v_seq ?_
      refine v_ops ?_
      refine s_pure (.pointer (some ⟨p_c, 0, none⟩)) (fun _ q => q) ?_
      have f171 := (Ch165.mod mh168 (by simp; omega) (fun b hb => by simp at hb; omega))
      refine s_call [.pointer (some ⟨p_c, 0, none⟩), .int .i64 40] rfl (spec_l1Cur_pick_ok p_c t_c (((((((m_c + 2) + 2) + 2) + 2) + 2) + 2) + (6 * (1 + g41))) lo_c 40 _ f171 (by omega)) ?_
      rintro _ h173 ⟨g172, rfl, qh173, Ch173, mh173⟩
      have zh173 := mh173.size
      have E174 := E170.new mh173 (fun b hb => .inl (by simp at hb; simp [hb]))
      refine s_nil ?_
      refine p_seqN ?_
      refine v_block ?_
      refine v_seq ?_
      refine v_ops ?_
      refine s_pure (.bool (g172 == 0)) (fun _ q => q) ?_
      refine s_pure (.bool (g172 == 0)) (fun _ q => q) ?_
      refine s_nil ?_
      refine p_seqN ?_
      refine v_cond rfl (fun c175 => ?_) (fun c175 => ?_)
      ·
        refine v_ops ?_
        refine s_pure (.pointer (some ⟨p_c, 0, none⟩)) (fun _ q => q) ?_
        refine s_row (α := Int) [0, 1000] (fun _ q => seg_i rfl (seg_i rfl (seg_nil q))) rfl (by simp [maxLen]) (fun r176 h177 eh177 zh177 s_r176 fr_r176 => ?_)
        have E178 := E174.trans (Mod.of_ext eh177 _)
        have z179 := eh177.size
        have lt_r176 := s_r176.lt
        have f180 := (Ch173.ext eh177)
        refine s_call [.pointer (some ⟨p_c, 0, none⟩), r176] rfl (spec_l1Cur_among_ok p_c t_c ((((((((m_c + 2) + 2) + 2) + 2) + 2) + 2) + (6 * (1 + g41))) + 2) lo_c r176 [0, 1000] _ f180 s_r176.toSl (fun b hb hc => by simp at hc; have := fr_r176 b hb; omega) (by omega) (by first | omega | assumption | (simp; done) | (simp; omega))) ?_
        rintro _ h182 ⟨g181, rfl, qh182, Ch182, mh182⟩
        have zh182 := mh182.size
        have E183 := E178.new mh182 (fun b hb => .inl (by simp at hb; simp [hb]))
        simp only [List.mem_cons, List.not_mem_nil, or_false] at qh182
        refine s_pure (.pointer (some ⟨b16, 0, none⟩)) (fun _ q => q) ?_
        have f184 := (((bxx169.mod mh173 (by simp; omega)).ext eh177).mod mh182 (by simp; omega))
        refine s_stBx (.int .i64 g181) [.int .i64 g181] [.int .i64 g181, .int .i64 g33, .int .i64 9, r164] f184 rfl rfl rfl rfl (by simp) (all_cons rfl all_nil) rfl (fun h185 mh185 sh185 bxx186 => ?_)
        have E187 := E183.new mh185 (fun b hb => .inr (by simp at hb; omega))
        refine s_nil ?_
        refine p_blkN ?_
        refine p_seqN ?_
        refine v_seq ?_
        refine v_ops ?_
        refine s_load (.agg #[.int .i64 g181, .int .i64 g33, .int .i64 9, r164]) (fun _ q => bxx186.loadA rfl q) ?_
        have f188 := (((((((((((((((((bxb1.ext eh6).mod mh11 (by simp; omega)).mod mh14 (by simp; omega)).ext eh17).mod mh20 (by simp; omega)).mod mh25 (by simp; omega)).mod mh29 (by simp; omega)).mod mh34 (by simp; omega)).mod mh37 (by simp; omega)).mod mh42 (by simp; omega)).mod mh45 (by simp; omega)).mod mh165 (by simp; omega)).mod mh168 (by simp; omega)).mod mh173 (by simp; omega)).ext eh177).mod mh182 (by simp; omega)).mod mh185 (by simp; omega))
        refine s_stBx (.agg #[.int .i64 g181, .int .i64 g33, .int .i64 9, r164]) [.int .i64 g181, .int .i64 g33, .int .i64 9, r164] [.int .i64 g181, .int .i64 g33, .int .i64 9, r164] f188 rfl rfl rfl rfl (by simp) (all_cons rfl (all_cons rfl (all_cons rfl (all_cons s_r164.one1 all_nil)))) rfl (fun h189 mh189 sh189 bxx190 => ?_)
        have E191 := E187.new mh189 (fun b hb => .inr (by simp at hb; omega))
        refine s_nil ?_
        refine p_seqN ?_
        refine v_ret ?_
        refine p_ret [.agg #[.int .i64 g181, .int .i64 g33, .int .i64 9, r164]] (.agg #[.int .i64 g181, .int .i64 g33, .int .i64 9, r164]) (fun _ q => (bxx190.loadA rfl q)) rfl ?_
        have f192 := ((((((s_r164.mod mh168 (fun b hb hc => by simp at hc; have := fr_r164 b hb; omega)).mod mh173 (fun b hb hc => by simp at hc; have := fr_r164 b hb; omega)).ext eh177).mod mh182 (fun b hb hc => by simp at hc; have := fr_r164 b hb; omega)).mod mh185 (fun b hb hc => by simp at hc; have := fr_r164 b hb; omega)).mod mh189 (fun b hb hc => by simp at hc; have := fr_r164 b hb; omega))
        have f193 := ((Ch182.mod mh185 (by simp; omega) (fun b hb => by simp at hb; omega)).mod mh189 (by simp; omega) (fun b hb => by simp at hb; omega))
        exact ⟨⟨g181, g33, 9, g163⟩, r164, rfl, f192, (fr_r164.mono (by omega)), (by first | omega | (simp; done) | (simp; omega)), (f193.le (by omega)), E191⟩
      ·
        refine v_seq ?_
        refine v_ops ?_
        refine s_pure (.bool (g172 == 1)) (fun _ q => q) ?_
        refine s_pure (.bool (g172 == 1)) (fun _ q => q) ?_
        refine s_nil ?_
        refine p_seqN ?_
        refine v_cond rfl (fun c194 => ?_) (fun c194 => ?_)
        ·
          refine v_ops ?_
          refine s_pure (.pointer (some ⟨p_c, 0, none⟩)) (fun _ q => q) ?_
          refine s_pure (.pointer (some ⟨b16, 2, none⟩)) (fun _ q => q) ?_
          have f195 := (bxx169.mod mh173 (by simp; omega))
          refine s_load (.int .i64 9) (fun _ q => f195.load rfl q) ?_
          refine s_row (α := Int) [(-1), 9] (fun _ q => seg_i rfl (seg_i rfl (seg_nil q))) rfl (by simp [maxLen]) (fun r196 h197 eh197 zh197 s_r196 fr_r196 => ?_)
          have E198 := E174.trans (Mod.of_ext eh197 _)
          have z199 := eh197.size
          have lt_r196 := s_r196.lt
          have f200 := (Ch173.ext eh197)
          refine s_call [.pointer (some ⟨p_c, 0, none⟩), r196] rfl (spec_l1Cur_among_ok p_c t_c ((((((((m_c + 2) + 2) + 2) + 2) + 2) + 2) + (6 * (1 + g41))) + 2) lo_c r196 [(-1), 9] _ f200 s_r196.toSl (fun b hb hc => by simp at hc; have := fr_r196 b hb; omega) (by omega) (by first | omega | assumption | (simp; done) | (simp; omega))) ?_
          rintro _ h202 ⟨g201, rfl, qh202, Ch202, mh202⟩
          have zh202 := mh202.size
          have E203 := E198.new mh202 (fun b hb => .inl (by simp at hb; simp [hb]))
          simp only [List.mem_cons, List.not_mem_nil, or_false] at qh202
          refine s_pure (.pointer (some ⟨b16, 1, none⟩)) (fun _ q => q) ?_
          have f204 := ((f195.ext eh197).mod mh202 (by simp; omega))
          refine s_stBx (.int .i64 g201) [.int .i64 g201] [.int .i64 g10, .int .i64 g201, .int .i64 9, r164] f204 rfl rfl rfl rfl (by simp) (all_cons rfl all_nil) rfl (fun h205 mh205 sh205 bxx206 => ?_)
          have E207 := E203.new mh205 (fun b hb => .inr (by simp at hb; omega))
          refine s_nil ?_
          refine p_blkN ?_
          refine p_seqN ?_
          refine v_seq ?_
          refine v_ops ?_
          refine s_load (.agg #[.int .i64 g10, .int .i64 g201, .int .i64 9, r164]) (fun _ q => bxx206.loadA rfl q) ?_
          have f208 := (((((((((((((((((bxb1.ext eh6).mod mh11 (by simp; omega)).mod mh14 (by simp; omega)).ext eh17).mod mh20 (by simp; omega)).mod mh25 (by simp; omega)).mod mh29 (by simp; omega)).mod mh34 (by simp; omega)).mod mh37 (by simp; omega)).mod mh42 (by simp; omega)).mod mh45 (by simp; omega)).mod mh165 (by simp; omega)).mod mh168 (by simp; omega)).mod mh173 (by simp; omega)).ext eh197).mod mh202 (by simp; omega)).mod mh205 (by simp; omega))
          refine s_stBx (.agg #[.int .i64 g10, .int .i64 g201, .int .i64 9, r164]) [.int .i64 g10, .int .i64 g201, .int .i64 9, r164] [.int .i64 g10, .int .i64 g201, .int .i64 9, r164] f208 rfl rfl rfl rfl (by simp) (all_cons rfl (all_cons rfl (all_cons rfl (all_cons s_r164.one1 all_nil)))) rfl (fun h209 mh209 sh209 bxx210 => ?_)
          have E211 := E207.new mh209 (fun b hb => .inr (by simp at hb; omega))
          refine s_nil ?_
          refine p_seqN ?_
          refine v_ret ?_
          refine p_ret [.agg #[.int .i64 g10, .int .i64 g201, .int .i64 9, r164]] (.agg #[.int .i64 g10, .int .i64 g201, .int .i64 9, r164]) (fun _ q => (bxx210.loadA rfl q)) rfl ?_
          have f212 := ((((((s_r164.mod mh168 (fun b hb hc => by simp at hc; have := fr_r164 b hb; omega)).mod mh173 (fun b hb hc => by simp at hc; have := fr_r164 b hb; omega)).ext eh197).mod mh202 (fun b hb hc => by simp at hc; have := fr_r164 b hb; omega)).mod mh205 (fun b hb hc => by simp at hc; have := fr_r164 b hb; omega)).mod mh209 (fun b hb hc => by simp at hc; have := fr_r164 b hb; omega))
          have f213 := ((Ch202.mod mh205 (by simp; omega) (fun b hb => by simp at hb; omega)).mod mh209 (by simp; omega) (fun b hb => by simp at hb; omega))
          exact ⟨⟨g10, g201, 9, g163⟩, r164, rfl, f212, (fr_r164.mono (by omega)), (by first | omega | (simp; done) | (simp; omega)), (f213.le (by omega)), E211⟩
        ·
          refine v_seq ?_
          refine v_ops ?_
          refine s_pure (.bool (g172 == 2)) (fun _ q => q) ?_
          refine s_pure (.bool (g172 == 2)) (fun _ q => q) ?_
          refine s_nil ?_
          refine p_seqN ?_
          refine v_cond rfl (fun c214 => ?_) (fun c214 => ?_)
          ·
            refine v_ops ?_
            refine s_pure (.pointer (some ⟨p_c, 0, none⟩)) (fun _ q => q) ?_
            refine s_row (α := Int) [0, 9, 10] (fun _ q => seg_i rfl (seg_i rfl (seg_i rfl (seg_nil q)))) rfl (by simp [maxLen]) (fun r215 h216 eh216 zh216 s_r215 fr_r215 => ?_)
            have E217 := E174.trans (Mod.of_ext eh216 _)
            have z218 := eh216.size
            have lt_r215 := s_r215.lt
            have f219 := (Ch173.ext eh216)
            refine s_call [.pointer (some ⟨p_c, 0, none⟩), r215] rfl (spec_l1Cur_among_ok p_c t_c ((((((((m_c + 2) + 2) + 2) + 2) + 2) + 2) + (6 * (1 + g41))) + 2) lo_c r215 [0, 9, 10] _ f219 s_r215.toSl (fun b hb hc => by simp at hc; have := fr_r215 b hb; omega) (by omega) (by first | omega | assumption | (simp; done) | (simp; omega))) ?_
            rintro _ h221 ⟨g220, rfl, qh221, Ch221, mh221⟩
            have zh221 := mh221.size
            have E222 := E217.new mh221 (fun b hb => .inl (by simp at hb; simp [hb]))
            simp only [List.mem_cons, List.not_mem_nil, or_false] at qh221
            refine s_pure (.pointer (some ⟨b16, 2, none⟩)) (fun _ q => q) ?_
            have f223 := (((bxx169.mod mh173 (by simp; omega)).ext eh216).mod mh221 (by simp; omega))
            refine s_stBx (.int .i64 g220) [.int .i64 g220] [.int .i64 g10, .int .i64 g33, .int .i64 g220, r164] f223 rfl rfl rfl rfl (by simp) (all_cons rfl all_nil) rfl (fun h224 mh224 sh224 bxx225 => ?_)
            have E226 := E222.new mh224 (fun b hb => .inr (by simp at hb; omega))
            refine s_nil ?_
            refine p_blkN ?_
            refine p_seqN ?_
            refine v_seq ?_
            refine v_ops ?_
            refine s_load (.agg #[.int .i64 g10, .int .i64 g33, .int .i64 g220, r164]) (fun _ q => bxx225.loadA rfl q) ?_
            have f227 := (((((((((((((((((bxb1.ext eh6).mod mh11 (by simp; omega)).mod mh14 (by simp; omega)).ext eh17).mod mh20 (by simp; omega)).mod mh25 (by simp; omega)).mod mh29 (by simp; omega)).mod mh34 (by simp; omega)).mod mh37 (by simp; omega)).mod mh42 (by simp; omega)).mod mh45 (by simp; omega)).mod mh165 (by simp; omega)).mod mh168 (by simp; omega)).mod mh173 (by simp; omega)).ext eh216).mod mh221 (by simp; omega)).mod mh224 (by simp; omega))
            refine s_stBx (.agg #[.int .i64 g10, .int .i64 g33, .int .i64 g220, r164]) [.int .i64 g10, .int .i64 g33, .int .i64 g220, r164] [.int .i64 g10, .int .i64 g33, .int .i64 g220, r164] f227 rfl rfl rfl rfl (by simp) (all_cons rfl (all_cons rfl (all_cons rfl (all_cons s_r164.one1 all_nil)))) rfl (fun h228 mh228 sh228 bxx229 => ?_)
            have E230 := E226.new mh228 (fun b hb => .inr (by simp at hb; omega))
            refine s_nil ?_
            refine p_seqN ?_
            refine v_ret ?_
            refine p_ret [.agg #[.int .i64 g10, .int .i64 g33, .int .i64 g220, r164]] (.agg #[.int .i64 g10, .int .i64 g33, .int .i64 g220, r164]) (fun _ q => (bxx229.loadA rfl q)) rfl ?_
            have f231 := ((((((s_r164.mod mh168 (fun b hb hc => by simp at hc; have := fr_r164 b hb; omega)).mod mh173 (fun b hb hc => by simp at hc; have := fr_r164 b hb; omega)).ext eh216).mod mh221 (fun b hb hc => by simp at hc; have := fr_r164 b hb; omega)).mod mh224 (fun b hb hc => by simp at hc; have := fr_r164 b hb; omega)).mod mh228 (fun b hb hc => by simp at hc; have := fr_r164 b hb; omega))
            have f232 := ((Ch221.mod mh224 (by simp; omega) (fun b hb => by simp at hb; omega)).mod mh228 (by simp; omega) (fun b hb => by simp at hb; omega))
            exact ⟨⟨g10, g33, g220, g163⟩, r164, rfl, f231, (fr_r164.mono (by omega)), (by first | omega | (simp; done) | (simp; omega)), (f232.le (by omega)), E230⟩
          ·
            refine v_seq ?_
            refine v_ops ?_
            refine s_pure (.bool (g172 == 3)) (fun _ q => q) ?_
            refine s_pure (.bool (g172 == 3)) (fun _ q => q) ?_
            refine s_nil ?_
            refine p_seqN ?_
            refine v_cond rfl (fun c233 => ?_) (fun c233 => ?_)
            ·
              have f234 := (bxx169.mod mh173 (by simp; omega))
              refine v_draw (DrawVC.hold ([b16]) ?_)
              refine d_pureT (.pointer (some ⟨b16, 3, none⟩)) (fun _ q => q) ?_
              refine d_pureT (.pointer (some ⟨p_c, 0, none⟩)) (fun _ q => q) ?_
              refine d_loadT r164 (fun _ q => f234.take (by simp) rfl q) ?_
              refine d_eff ?_
              refine s_row (α := Int) [0, 60, 61] (fun _ q => seg_i rfl (seg_i rfl (seg_i rfl (seg_nil q)))) rfl (by simp [maxLen]) (fun r235 h236 eh236 zh236 s_r235 fr_r235 => ?_)
              have E237 := E174.trans (Mod.of_ext eh236 _)
              have z238 := eh236.size
              have G239 := eh236
              have lt_r235 := s_r235.lt
              refine s_nil ⟨fun _ x hx => G239.blk x (by simp at hx; omega), ?_⟩
              refine d_eff ?_
              have f240 := (Ch173.ext eh236)
              refine s_call [.pointer (some ⟨p_c, 0, none⟩), r235] rfl (spec_l1Cur_among_ok p_c t_c ((((((((m_c + 2) + 2) + 2) + 2) + 2) + 2) + (6 * (1 + g41))) + 2) lo_c r235 [0, 60, 61] _ f240 s_r235.toSl (fun b hb hc => by simp at hc; have := fr_r235 b hb; omega) (by omega) (by first | omega | assumption | (simp; done) | (simp; omega))) ?_
              rintro _ h242 ⟨g241, rfl, qh242, Ch242, mh242⟩
              have zh242 := mh242.size
              have E243 := E237.new mh242 (fun b hb => .inl (by simp at hb; simp [hb]))
              have G244 := gmod1 (b := b16) (h := h236) (h0 := h173) mh242 (by omega) (by simp; omega) (fun x hx => G239.blk x (by simp at hx; omega))
              simp only [List.mem_cons, List.not_mem_nil, or_false] at qh242
              refine s_nil ⟨fun _ x hx => G244 x hx, ?_⟩
              have f245 := ((((s_r164.mod mh168 (fun b hb hc => by simp at hc; have := fr_r164 b hb; omega)).mod mh173 (fun b hb hc => by simp at hc; have := fr_r164 b hb; omega)).ext eh236).mod mh242 (fun b hb hc => by simp at hc; have := fr_r164 b hb; omega))
              have hk246 : 0 < g163.length := (by first | omega | (simp; omega))
              obtain ⟨x247, hx247⟩ : ∃ x, g163[0]? = some x := ⟨_, List.getElem?_eq_getElem hk246⟩
              refine d_pureT (.pointer (some ⟨sblk r164, soff r164 + 0 * 1, none⟩)) (fun _ q => f245.idx (k := 0) rfl hk246 q) ?_
              refine d_eff ?_
              refine s_stSl (k := 0) (j := 0) g241 (.int .i64 g241) [.int .i64 g241] f245 rfl rfl rfl rfl rfl hx247 (Nat.le_of_ble_eq_true rfl) rfl (all_cons rfl all_nil) (fun h248 mh248 sh248 s249 => ?_)
              have E250 := E243.new mh248 (fun b hb => .inr (by have := fr_r164 b hb; omega))
              refine s_nil ⟨fun hl => (by cases hl), ?_⟩
              refine d_done ?_
              refine p_blkN ?_
              refine p_seqN ?_
              refine v_seq ?_
              refine v_ops ?_
              have f251 := (((f234.ext eh236).mod mh242 (by simp; omega)).mod mh248 (fun hc => by have := fr_r164 _ hc; omega))
              refine s_load (.agg #[.int .i64 g10, .int .i64 g33, .int .i64 9, r164]) (fun _ q => f251.loadA rfl q) ?_
              have f252 := (((((((((((((((((bxb1.ext eh6).mod mh11 (by simp; omega)).mod mh14 (by simp; omega)).ext eh17).mod mh20 (by simp; omega)).mod mh25 (by simp; omega)).mod mh29 (by simp; omega)).mod mh34 (by simp; omega)).mod mh37 (by simp; omega)).mod mh42 (by simp; omega)).mod mh45 (by simp; omega)).mod mh165 (by simp; omega)).mod mh168 (by simp; omega)).mod mh173 (by simp; omega)).ext eh236).mod mh242 (by simp; omega)).mod mh248 (fun hc => by have := fr_r164 _ hc; omega))
              refine s_stBx (.agg #[.int .i64 g10, .int .i64 g33, .int .i64 9, r164]) [.int .i64 g10, .int .i64 g33, .int .i64 9, r164] [.int .i64 g10, .int .i64 g33, .int .i64 9, r164] f252 rfl rfl rfl rfl (by simp) (all_cons rfl (all_cons rfl (all_cons rfl (all_cons s249.one1 all_nil)))) rfl (fun h253 mh253 sh253 bxx254 => ?_)
              have E255 := E250.new mh253 (fun b hb => .inr (by simp at hb; omega))
              refine s_nil ?_
              refine p_seqN ?_
              refine v_ret ?_
              refine p_ret [.agg #[.int .i64 g10, .int .i64 g33, .int .i64 9, r164]] (.agg #[.int .i64 g10, .int .i64 g33, .int .i64 9, r164]) (fun _ q => (bxx254.loadA rfl q)) rfl ?_
              have f256 := (s249.mod mh253 (fun b hb hc => by simp at hc; have := fr_r164 b hb; omega))
              have f257 := ((Ch242.mod mh248 (fun hc => by have := fr_r164 _ hc; omega) (fun b hb => by have := fr_r164 b hb; omega)).mod mh253 (by simp; omega) (fun b hb => by simp at hb; omega))
              exact ⟨⟨g10, g33, 9, (g163.set 0 g241)⟩, r164, rfl, f256, (fr_r164.mono (by omega)), (by first | omega | (simp; done) | (simp; omega)), (f257.le (by omega)), E255⟩
            ·
              refine v_seq ?_
              refine v_ops ?_
              refine s_pure (.bool (g172 == 4)) (fun _ q => q) ?_
              refine s_pure (.bool (g172 == 4)) (fun _ q => q) ?_
              refine s_nil ?_
              refine p_seqN ?_
              refine v_cond rfl (fun c258 => ?_) (fun c258 => ?_)
              ·
                refine v_ops ?_
                refine s_pure (.pointer (some ⟨b16, 3, none⟩)) (fun _ q => q) ?_
                have f259 := (bxx169.mod mh173 (by simp; omega))
                refine s_stBx (.slice none 0 0) [.slice none 0 0] [.int .i64 g10, .int .i64 g33, .int .i64 9, .slice none 0 0] f259 rfl rfl rfl rfl (by simp) (all_cons rfl all_nil) rfl (fun h260 mh260 sh260 bxx261 => ?_)
                have E262 := E174.new mh260 (fun b hb => .inr (by simp at hb; omega))
                refine s_nil ?_
                refine p_blkN ?_
                refine p_seqN ?_
                refine v_seq ?_
                refine v_ops ?_
                refine s_load (.agg #[.int .i64 g10, .int .i64 g33, .int .i64 9, .slice none 0 0]) (fun _ q => bxx261.loadA rfl q) ?_
                have f263 := (((((((((((((((bxb1.ext eh6).mod mh11 (by simp; omega)).mod mh14 (by simp; omega)).ext eh17).mod mh20 (by simp; omega)).mod mh25 (by simp; omega)).mod mh29 (by simp; omega)).mod mh34 (by simp; omega)).mod mh37 (by simp; omega)).mod mh42 (by simp; omega)).mod mh45 (by simp; omega)).mod mh165 (by simp; omega)).mod mh168 (by simp; omega)).mod mh173 (by simp; omega)).mod mh260 (by simp; omega))
                refine s_stBx (.agg #[.int .i64 g10, .int .i64 g33, .int .i64 9, .slice none 0 0]) [.int .i64 g10, .int .i64 g33, .int .i64 9, .slice none 0 0] [.int .i64 g10, .int .i64 g33, .int .i64 9, .slice none 0 0] f263 rfl rfl rfl rfl (by simp) (all_cons rfl (all_cons rfl (all_cons rfl (all_cons rfl all_nil)))) rfl (fun h264 mh264 sh264 bxx265 => ?_)
                have E266 := E262.new mh264 (fun b hb => .inr (by simp at hb; omega))
                refine s_nil ?_
                refine p_seqN ?_
                refine v_ret ?_
                refine p_ret [.agg #[.int .i64 g10, .int .i64 g33, .int .i64 9, .slice none 0 0]] (.agg #[.int .i64 g10, .int .i64 g33, .int .i64 9, .slice none 0 0]) (fun _ q => (bxx265.loadA rfl q)) rfl ?_
                have f267 := ((Ch173.mod mh260 (by simp; omega) (fun b hb => by simp at hb; omega)).mod mh264 (by simp; omega) (fun b hb => by simp at hb; omega))
                exact ⟨⟨g10, g33, 9, []⟩, (.slice none 0 0), rfl, (SlX.nil (α := Int) true _), (Fr.nil _), (by first | omega | (simp; done) | (simp; omega)), (f267.le (by omega)), E266⟩
              ·
                refine v_skip ?_
                refine p_blkN ?_
                refine p_seqN ?_
                refine v_seq ?_
                refine v_ops ?_
                have f268 := (bxx169.mod mh173 (by simp; omega))
                refine s_load (.agg #[.int .i64 g10, .int .i64 g33, .int .i64 9, r164]) (fun _ q => f268.loadA rfl q) ?_
                have f269 := ((((((((((((((bxb1.ext eh6).mod mh11 (by simp; omega)).mod mh14 (by simp; omega)).ext eh17).mod mh20 (by simp; omega)).mod mh25 (by simp; omega)).mod mh29 (by simp; omega)).mod mh34 (by simp; omega)).mod mh37 (by simp; omega)).mod mh42 (by simp; omega)).mod mh45 (by simp; omega)).mod mh165 (by simp; omega)).mod mh168 (by simp; omega)).mod mh173 (by simp; omega))
                refine s_stBx (.agg #[.int .i64 g10, .int .i64 g33, .int .i64 9, r164]) [.int .i64 g10, .int .i64 g33, .int .i64 9, r164] [.int .i64 g10, .int .i64 g33, .int .i64 9, r164] f269 rfl rfl rfl rfl (by simp) (all_cons rfl (all_cons rfl (all_cons rfl (all_cons s_r164.one1 all_nil)))) rfl (fun h270 mh270 sh270 bxx271 => ?_)
                have E272 := E174.new mh270 (fun b hb => .inr (by simp at hb; omega))
                refine s_nil ?_
                refine p_seqN ?_
                refine v_ret ?_
                refine p_ret [.agg #[.int .i64 g10, .int .i64 g33, .int .i64 9, r164]] (.agg #[.int .i64 g10, .int .i64 g33, .int .i64 9, r164]) (fun _ q => (bxx271.loadA rfl q)) rfl ?_
                have f273 := (((s_r164.mod mh168 (fun b hb hc => by simp at hc; have := fr_r164 b hb; omega)).mod mh173 (fun b hb hc => by simp at hc; have := fr_r164 b hb; omega)).mod mh270 (fun b hb hc => by simp at hc; have := fr_r164 b hb; omega))
                have f274 := (Ch173.mod mh270 (by simp; omega) (fun b hb => by simp at hb; omega))
                exact ⟨⟨g10, g33, 9, g163⟩, r164, rfl, f273, (fr_r164.mono (by omega)), (by first | omega | (simp; done) | (simp; omega)), (f274.le (by omega)), E272⟩
  ·
    refine v_skip ?_
    refine p_seqN ?_
    refine v_seq ?_
    refine v_ops ?_
    refine s_pure (.pointer (some ⟨p_c, 0, none⟩)) (fun _ q => q) ?_
    refine s_pure (.pointer (some ⟨b16, 2, none⟩)) (fun _ q => q) ?_
    have f275 := (bxx21.mod mh25 (by simp; omega))
    refine s_load (.int .i64 (1 + g13)) (fun _ q => f275.load rfl q) ?_
    refine s_call [.pointer (some ⟨p_c, 0, none⟩), .int .i64 (1 + g13)] rfl (spec_l1Cur_pick_ok p_c t_c (((m_c + 2) + 2) + 2) lo_c (1 + g13) _ Ch25 (by omega)) ?_
    rintro _ h277 ⟨g276, rfl, qh277, Ch277, mh277⟩
    have zh277 := mh277.size
    have E278 := E26.new mh277 (fun b hb => .inl (by simp at hb; simp [hb]))
    refine s_pure (.pointer (some ⟨b16, 1, none⟩)) (fun _ q => q) ?_
    have f279 := (f275.mod mh277 (by simp; omega))
    refine s_stBx (.int .i64 g276) [.int .i64 g276] [.int .i64 g10, .int .i64 g276, .int .i64 (1 + g13), .slice none 0 0] f279 rfl rfl rfl rfl (by simp) (all_cons rfl all_nil) rfl (fun h280 mh280 sh280 bxx281 => ?_)
    have E282 := E278.new mh280 (fun b hb => .inr (by simp at hb; omega))
    refine s_nil ?_
    refine p_seqN ?_
    refine v_seq ?_
    refine v_ops ?_
    refine s_pure (.pointer (some ⟨p_c, 0, none⟩)) (fun _ q => q) ?_
    have f283 := (Ch277.mod mh280 (by simp; omega) (fun b hb => by simp at hb; omega))
    refine s_call [.pointer (some ⟨p_c, 0, none⟩), .int .i64 3] rfl (spec_l1Cur_pick_ok p_c t_c ((((m_c + 2) + 2) + 2) + 2) lo_c 3 _ f283 (by omega)) ?_
    rintro _ h285 ⟨g284, rfl, qh285, Ch285, mh285⟩
    have zh285 := mh285.size
    have E286 := E282.new mh285 (fun b hb => .inl (by simp at hb; simp [hb]))
    refine s_pure (.int .i64 (1 + g284)) (fun _ q => ArithVC.mk (by omega) q) ?_
    refine s_pure (.int .i64 (1 + g284)) (fun _ q => q) ?_
    refine s_nil ?_
    refine p_seqN ?_
    refine v_seq ?_
    refine v_seq ?_
    refine v_ops ?_
    refine s_pure (.pointer (some ⟨p_c, 0, none⟩)) (fun _ q => q) ?_
    refine s_call [.pointer (some ⟨p_c, 0, none⟩), .int .i64 16] rfl (spec_l1Cur_one_ok p_c t_c (((((m_c + 2) + 2) + 2) + 2) + 2) lo_c 16 _ Ch285 (by omega)) ?_
    rintro _ h288 ⟨g287, rfl, Ch288, mh288⟩
    have zh288 := mh288.size
    have E289 := E286.new mh288 (fun b hb => .inl (by simp at hb; simp [hb]))
    refine s_nil ?_
    refine p_seqN ?_
    refine v_cond rfl (fun c290 => ?_) (fun c290 => ?_)
    ·
      refine v_ops ?_
      refine s_pure (.pointer (some ⟨p_c, 0, none⟩)) (fun _ q => q) ?_
      refine s_call [.pointer (some ⟨p_c, 0, none⟩), .int .i64 2] rfl (spec_l1Cur_pick_ok p_c t_c ((((((m_c + 2) + 2) + 2) + 2) + 2) + 2) lo_c 2 _ Ch288 (by omega)) ?_
      rintro _ h292 ⟨g291, rfl, qh292, Ch292, mh292⟩
      have zh292 := mh292.size
      have E293 := E289.new mh292 (fun b hb => .inl (by simp at hb; simp [hb]))
      refine s_pure (.int .i64 (8 + g291)) (fun _ q => ArithVC.mk (by omega) q) ?_
      refine s_pure (.int .i64 (8 + g291)) (fun _ q => q) ?_
      refine s_nil ?_
      refine p_seqN ?_
      refine v_seq ?_
      refine v_ops ?_
      refine s_pure (.pointer (some ⟨p_c, 0, none⟩)) (fun _ q => q) ?_
      refine s_pure (.int .i64 (8 + g291)) (fun _ q => q) ?_
      refine s_call [.pointer (some ⟨p_c, 0, none⟩), .int .i64 (8 + g291)] rfl (spec_l1Cur_contents_ok p_c t_c (((((((m_c + 2) + 2) + 2) + 2) + 2) + 2) + 2) lo_c (8 + g291) _ Ch292 (by omega) (by first | omega | assumption | (simp; done) | (simp; omega))) ?_
      rintro r295 h296 ⟨g294, _, rfl, s_r295, fr_r295, qh296, Ch296, mh296⟩
      have zh296 := mh296.size
      have E297 := E293.new mh296 (fun b hb => .inl (by simp at hb; simp [hb]))
      have lt_r295 := s_r295.lt
      refine s_pure (.pointer (some ⟨b16, 3, none⟩)) (fun _ q => q) ?_
      have f298 := ((((bxx281.mod mh285 (by simp; omega)).mod mh288 (by simp; omega)).mod mh292 (by simp; omega)).mod mh296 (by simp; omega))
      refine s_stBx r295 [r295] [.int .i64 g10, .int .i64 g276, .int .i64 (1 + g13), r295] f298 rfl rfl s_r295.cellsv rfl (by simp) (all_cons s_r295.one1 all_nil) rfl (fun h299 mh299 sh299 bxx300 => ?_)
      have E301 := E297.new mh299 (fun b hb => .inr (by simp at hb; omega))
      refine s_nil ?_
      refine p_seqN ?_
      refine v_seq ?_
      refine v_seq ?_
      refine v_ops ?_
      refine s_pure (.pointer (some ⟨p_c, 0, none⟩)) (fun _ q => q) ?_
      have f302 := (Ch296.mod mh299 (by simp; omega) (fun b hb => by simp at hb; omega))
      refine s_call [.pointer (some ⟨p_c, 0, none⟩), .int .i64 40] rfl (spec_l1Cur_pick_ok p_c t_c ((((((((m_c + 2) + 2) + 2) + 2) + 2) + 2) + 2) + (6 * (8 + g291))) lo_c 40 _ f302 (by omega)) ?_
      rintro _ h304 ⟨g303, rfl, qh304, Ch304, mh304⟩
      have zh304 := mh304.size
      have E305 := E301.new mh304 (fun b hb => .inl (by simp at hb; simp [hb]))
      refine s_nil ?_
      refine p_seqN ?_
      refine v_block ?_
      refine v_seq ?_
      refine v_ops ?_
      refine s_pure (.bool (g303 == 0)) (fun _ q => q) ?_
      refine s_pure (.bool (g303 == 0)) (fun _ q => q) ?_
      refine s_nil ?_
      refine p_seqN ?_
      refine v_cond rfl (fun c306 => ?_) (fun c306 => ?_)
      ·
        refine v_ops ?_
        refine s_pure (.pointer (some ⟨p_c, 0, none⟩)) (fun _ q => q) ?_
        refine s_row (α := Int) [0, 1000] (fun _ q => seg_i rfl (seg_i rfl (seg_nil q))) rfl (by simp [maxLen]) (fun r307 h308 eh308 zh308 s_r307 fr_r307 => ?_)
        have E309 := E305.trans (Mod.of_ext eh308 _)
        have z310 := eh308.size
        have lt_r307 := s_r307.lt
        have f311 := (Ch304.ext eh308)
        refine s_call [.pointer (some ⟨p_c, 0, none⟩), r307] rfl (spec_l1Cur_among_ok p_c t_c (((((((((m_c + 2) + 2) + 2) + 2) + 2) + 2) + 2) + (6 * (8 + g291))) + 2) lo_c r307 [0, 1000] _ f311 s_r307.toSl (fun b hb hc => by simp at hc; have := fr_r307 b hb; omega) (by omega) (by first | omega | assumption | (simp; done) | (simp; omega))) ?_
        rintro _ h313 ⟨g312, rfl, qh313, Ch313, mh313⟩
        have zh313 := mh313.size
        have E314 := E309.new mh313 (fun b hb => .inl (by simp at hb; simp [hb]))
        simp only [List.mem_cons, List.not_mem_nil, or_false] at qh313
        refine s_pure (.pointer (some ⟨b16, 0, none⟩)) (fun _ q => q) ?_
        have f315 := (((bxx300.mod mh304 (by simp; omega)).ext eh308).mod mh313 (by simp; omega))
        refine s_stBx (.int .i64 g312) [.int .i64 g312] [.int .i64 g312, .int .i64 g276, .int .i64 (1 + g13), r295] f315 rfl rfl rfl rfl (by simp) (all_cons rfl all_nil) rfl (fun h316 mh316 sh316 bxx317 => ?_)
        have E318 := E314.new mh316 (fun b hb => .inr (by simp at hb; omega))
        refine s_nil ?_
        refine p_blkN ?_
        refine p_seqN ?_
        refine v_seq ?_
        refine v_ops ?_
        refine s_load (.agg #[.int .i64 g312, .int .i64 g276, .int .i64 (1 + g13), r295]) (fun _ q => bxx317.loadA rfl q) ?_
        have f319 := (((((((((((((((((bxb1.ext eh6).mod mh11 (by simp; omega)).mod mh14 (by simp; omega)).ext eh17).mod mh20 (by simp; omega)).mod mh25 (by simp; omega)).mod mh277 (by simp; omega)).mod mh280 (by simp; omega)).mod mh285 (by simp; omega)).mod mh288 (by simp; omega)).mod mh292 (by simp; omega)).mod mh296 (by simp; omega)).mod mh299 (by simp; omega)).mod mh304 (by simp; omega)).ext eh308).mod mh313 (by simp; omega)).mod mh316 (by simp; omega))
        refine s_stBx (.agg #[.int .i64 g312, .int .i64 g276, .int .i64 (1 + g13), r295]) [.int .i64 g312, .int .i64 g276, .int .i64 (1 + g13), r295] [.int .i64 g312, .int .i64 g276, .int .i64 (1 + g13), r295] f319 rfl rfl rfl rfl (by simp) (all_cons rfl (all_cons rfl (all_cons rfl (all_cons s_r295.one1 all_nil)))) rfl (fun h320 mh320 sh320 bxx321 => ?_)
        have E322 := E318.new mh320 (fun b hb => .inr (by simp at hb; omega))
        refine s_nil ?_
        refine p_seqN ?_
        refine v_ret ?_
        refine p_ret [.agg #[.int .i64 g312, .int .i64 g276, .int .i64 (1 + g13), r295]] (.agg #[.int .i64 g312, .int .i64 g276, .int .i64 (1 + g13), r295]) (fun _ q => (bxx321.loadA rfl q)) rfl ?_
        have f323 := ((((((s_r295.mod mh299 (fun b hb hc => by simp at hc; have := fr_r295 b hb; omega)).mod mh304 (fun b hb hc => by simp at hc; have := fr_r295 b hb; omega)).ext eh308).mod mh313 (fun b hb hc => by simp at hc; have := fr_r295 b hb; omega)).mod mh316 (fun b hb hc => by simp at hc; have := fr_r295 b hb; omega)).mod mh320 (fun b hb hc => by simp at hc; have := fr_r295 b hb; omega))
        have f324 := ((Ch313.mod mh316 (by simp; omega) (fun b hb => by simp at hb; omega)).mod mh320 (by simp; omega) (fun b hb => by simp at hb; omega))
        exact ⟨⟨g312, g276, (1 + g13), g294⟩, r295, rfl, f323, (fr_r295.mono (by omega)), (by first | omega | (simp; done) | (simp; omega)), (f324.le (by omega)), E322⟩
      ·
        refine v_seq ?_
        refine v_ops ?_
        refine s_pure (.bool (g303 == 1)) (fun _ q => q) ?_
        refine s_pure (.bool (g303 == 1)) (fun _ q => q) ?_
        refine s_nil ?_
        refine p_seqN ?_
        refine v_cond rfl (fun c325 => ?_) (fun c325 => ?_)
        ·
          refine v_ops ?_
          refine s_pure (.pointer (some ⟨p_c, 0, none⟩)) (fun _ q => q) ?_
          refine s_pure (.pointer (some ⟨b16, 2, none⟩)) (fun _ q => q) ?_
          have f326 := (bxx300.mod mh304 (by simp; omega))
          refine s_load (.int .i64 (1 + g13)) (fun _ q => f326.load rfl q) ?_
          refine s_row (α := Int) [(-1), (1 + g13)] (fun _ q => seg_i rfl (seg_i rfl (seg_nil q))) rfl (by simp [maxLen]) (fun r327 h328 eh328 zh328 s_r327 fr_r327 => ?_)
          have E329 := E305.trans (Mod.of_ext eh328 _)
          have z330 := eh328.size
          have lt_r327 := s_r327.lt
          have f331 := (Ch304.ext eh328)
          refine s_call [.pointer (some ⟨p_c, 0, none⟩), r327] rfl (spec_l1Cur_among_ok p_c t_c (((((((((m_c + 2) + 2) + 2) + 2) + 2) + 2) + 2) + (6 * (8 + g291))) + 2) lo_c r327 [(-1), (1 + g13)] _ f331 s_r327.toSl (fun b hb hc => by simp at hc; have := fr_r327 b hb; omega) (by omega) (by first | omega | assumption | (simp; done) | (simp; omega))) ?_
          rintro _ h333 ⟨g332, rfl, qh333, Ch333, mh333⟩
          have zh333 := mh333.size
          have E334 := E329.new mh333 (fun b hb => .inl (by simp at hb; simp [hb]))
          simp only [List.mem_cons, List.not_mem_nil, or_false] at qh333
          refine s_pure (.pointer (some ⟨b16, 1, none⟩)) (fun _ q => q) ?_
          have f335 := ((f326.ext eh328).mod mh333 (by simp; omega))
          refine s_stBx (.int .i64 g332) [.int .i64 g332] [.int .i64 g10, .int .i64 g332, .int .i64 (1 + g13), r295] f335 rfl rfl rfl rfl (by simp) (all_cons rfl all_nil) rfl (fun h336 mh336 sh336 bxx337 => ?_)
          have E338 := E334.new mh336 (fun b hb => .inr (by simp at hb; omega))
          refine s_nil ?_
          refine p_blkN ?_
          refine p_seqN ?_
          refine v_seq ?_
          refine v_ops ?_
          refine s_load (.agg #[.int .i64 g10, .int .i64 g332, .int .i64 (1 + g13), r295]) (fun _ q => bxx337.loadA rfl q) ?_
          have f339 := (((((((((((((((((bxb1.ext eh6).mod mh11 (by simp; omega)).mod mh14 (by simp; omega)).ext eh17).mod mh20 (by simp; omega)).mod mh25 (by simp; omega)).mod mh277 (by simp; omega)).mod mh280 (by simp; omega)).mod mh285 (by simp; omega)).mod mh288 (by simp; omega)).mod mh292 (by simp; omega)).mod mh296 (by simp; omega)).mod mh299 (by simp; omega)).mod mh304 (by simp; omega)).ext eh328).mod mh333 (by simp; omega)).mod mh336 (by simp; omega))
          refine s_stBx (.agg #[.int .i64 g10, .int .i64 g332, .int .i64 (1 + g13), r295]) [.int .i64 g10, .int .i64 g332, .int .i64 (1 + g13), r295] [.int .i64 g10, .int .i64 g332, .int .i64 (1 + g13), r295] f339 rfl rfl rfl rfl (by simp) (all_cons rfl (all_cons rfl (all_cons rfl (all_cons s_r295.one1 all_nil)))) rfl (fun h340 mh340 sh340 bxx341 => ?_)
          have E342 := E338.new mh340 (fun b hb => .inr (by simp at hb; omega))
          refine s_nil ?_
          refine p_seqN ?_
          refine v_ret ?_
          refine p_ret [.agg #[.int .i64 g10, .int .i64 g332, .int .i64 (1 + g13), r295]] (.agg #[.int .i64 g10, .int .i64 g332, .int .i64 (1 + g13), r295]) (fun _ q => (bxx341.loadA rfl q)) rfl ?_
          have f343 := ((((((s_r295.mod mh299 (fun b hb hc => by simp at hc; have := fr_r295 b hb; omega)).mod mh304 (fun b hb hc => by simp at hc; have := fr_r295 b hb; omega)).ext eh328).mod mh333 (fun b hb hc => by simp at hc; have := fr_r295 b hb; omega)).mod mh336 (fun b hb hc => by simp at hc; have := fr_r295 b hb; omega)).mod mh340 (fun b hb hc => by simp at hc; have := fr_r295 b hb; omega))
          have f344 := ((Ch333.mod mh336 (by simp; omega) (fun b hb => by simp at hb; omega)).mod mh340 (by simp; omega) (fun b hb => by simp at hb; omega))
          exact ⟨⟨g10, g332, (1 + g13), g294⟩, r295, rfl, f343, (fr_r295.mono (by omega)), (by first | omega | (simp; done) | (simp; omega)), (f344.le (by omega)), E342⟩
        ·
          refine v_seq ?_
          refine v_ops ?_
          refine s_pure (.bool (g303 == 2)) (fun _ q => q) ?_
          refine s_pure (.bool (g303 == 2)) (fun _ q => q) ?_
          refine s_nil ?_
          refine p_seqN ?_
          refine v_cond rfl (fun c345 => ?_) (fun c345 => ?_)
          ·
            refine v_ops ?_
            refine s_pure (.pointer (some ⟨p_c, 0, none⟩)) (fun _ q => q) ?_
            refine s_row (α := Int) [0, 9, 10] (fun _ q => seg_i rfl (seg_i rfl (seg_i rfl (seg_nil q)))) rfl (by simp [maxLen]) (fun r346 h347 eh347 zh347 s_r346 fr_r346 => ?_)
            have E348 := E305.trans (Mod.of_ext eh347 _)
            have z349 := eh347.size
            have lt_r346 := s_r346.lt
            have f350 := (Ch304.ext eh347)
            refine s_call [.pointer (some ⟨p_c, 0, none⟩), r346] rfl (spec_l1Cur_among_ok p_c t_c (((((((((m_c + 2) + 2) + 2) + 2) + 2) + 2) + 2) + (6 * (8 + g291))) + 2) lo_c r346 [0, 9, 10] _ f350 s_r346.toSl (fun b hb hc => by simp at hc; have := fr_r346 b hb; omega) (by omega) (by first | omega | assumption | (simp; done) | (simp; omega))) ?_
            rintro _ h352 ⟨g351, rfl, qh352, Ch352, mh352⟩
            have zh352 := mh352.size
            have E353 := E348.new mh352 (fun b hb => .inl (by simp at hb; simp [hb]))
            simp only [List.mem_cons, List.not_mem_nil, or_false] at qh352
            refine s_pure (.pointer (some ⟨b16, 2, none⟩)) (fun _ q => q) ?_
            have f354 := (((bxx300.mod mh304 (by simp; omega)).ext eh347).mod mh352 (by simp; omega))
            refine s_stBx (.int .i64 g351) [.int .i64 g351] [.int .i64 g10, .int .i64 g276, .int .i64 g351, r295] f354 rfl rfl rfl rfl (by simp) (all_cons rfl all_nil) rfl (fun h355 mh355 sh355 bxx356 => ?_)
            have E357 := E353.new mh355 (fun b hb => .inr (by simp at hb; omega))
            refine s_nil ?_
            refine p_blkN ?_
            refine p_seqN ?_
            refine v_seq ?_
            refine v_ops ?_
            refine s_load (.agg #[.int .i64 g10, .int .i64 g276, .int .i64 g351, r295]) (fun _ q => bxx356.loadA rfl q) ?_
            have f358 := (((((((((((((((((bxb1.ext eh6).mod mh11 (by simp; omega)).mod mh14 (by simp; omega)).ext eh17).mod mh20 (by simp; omega)).mod mh25 (by simp; omega)).mod mh277 (by simp; omega)).mod mh280 (by simp; omega)).mod mh285 (by simp; omega)).mod mh288 (by simp; omega)).mod mh292 (by simp; omega)).mod mh296 (by simp; omega)).mod mh299 (by simp; omega)).mod mh304 (by simp; omega)).ext eh347).mod mh352 (by simp; omega)).mod mh355 (by simp; omega))
            refine s_stBx (.agg #[.int .i64 g10, .int .i64 g276, .int .i64 g351, r295]) [.int .i64 g10, .int .i64 g276, .int .i64 g351, r295] [.int .i64 g10, .int .i64 g276, .int .i64 g351, r295] f358 rfl rfl rfl rfl (by simp) (all_cons rfl (all_cons rfl (all_cons rfl (all_cons s_r295.one1 all_nil)))) rfl (fun h359 mh359 sh359 bxx360 => ?_)
            have E361 := E357.new mh359 (fun b hb => .inr (by simp at hb; omega))
            refine s_nil ?_
            refine p_seqN ?_
            refine v_ret ?_
            refine p_ret [.agg #[.int .i64 g10, .int .i64 g276, .int .i64 g351, r295]] (.agg #[.int .i64 g10, .int .i64 g276, .int .i64 g351, r295]) (fun _ q => (bxx360.loadA rfl q)) rfl ?_
            have f362 := ((((((s_r295.mod mh299 (fun b hb hc => by simp at hc; have := fr_r295 b hb; omega)).mod mh304 (fun b hb hc => by simp at hc; have := fr_r295 b hb; omega)).ext eh347).mod mh352 (fun b hb hc => by simp at hc; have := fr_r295 b hb; omega)).mod mh355 (fun b hb hc => by simp at hc; have := fr_r295 b hb; omega)).mod mh359 (fun b hb hc => by simp at hc; have := fr_r295 b hb; omega))
            have f363 := ((Ch352.mod mh355 (by simp; omega) (fun b hb => by simp at hb; omega)).mod mh359 (by simp; omega) (fun b hb => by simp at hb; omega))
            exact ⟨⟨g10, g276, g351, g294⟩, r295, rfl, f362, (fr_r295.mono (by omega)), (by first | omega | (simp; done) | (simp; omega)), (f363.le (by omega)), E361⟩
          ·
            refine v_seq ?_
            refine v_ops ?_
            refine s_pure (.bool (g303 == 3)) (fun _ q => q) ?_
            refine s_pure (.bool (g303 == 3)) (fun _ q => q) ?_
            refine s_nil ?_
            refine p_seqN ?_
            refine v_cond rfl (fun c364 => ?_) (fun c364 => ?_)
            ·
              have f365 := (bxx300.mod mh304 (by simp; omega))
              refine v_draw (DrawVC.hold ([b16]) ?_)
              refine d_pureT (.pointer (some ⟨b16, 3, none⟩)) (fun _ q => q) ?_
              refine d_pureT (.pointer (some ⟨p_c, 0, none⟩)) (fun _ q => q) ?_
              refine d_loadT r295 (fun _ q => f365.take (by simp) rfl q) ?_
              refine d_eff ?_
              refine s_row (α := Int) [0, 60, 61] (fun _ q => seg_i rfl (seg_i rfl (seg_i rfl (seg_nil q)))) rfl (by simp [maxLen]) (fun r366 h367 eh367 zh367 s_r366 fr_r366 => ?_)
              have E368 := E305.trans (Mod.of_ext eh367 _)
              have z369 := eh367.size
              have G370 := eh367
              have lt_r366 := s_r366.lt
              refine s_nil ⟨fun _ x hx => G370.blk x (by simp at hx; omega), ?_⟩
              refine d_eff ?_
              have f371 := (Ch304.ext eh367)
              refine s_call [.pointer (some ⟨p_c, 0, none⟩), r366] rfl (spec_l1Cur_among_ok p_c t_c (((((((((m_c + 2) + 2) + 2) + 2) + 2) + 2) + 2) + (6 * (8 + g291))) + 2) lo_c r366 [0, 60, 61] _ f371 s_r366.toSl (fun b hb hc => by simp at hc; have := fr_r366 b hb; omega) (by omega) (by first | omega | assumption | (simp; done) | (simp; omega))) ?_
              rintro _ h373 ⟨g372, rfl, qh373, Ch373, mh373⟩
              have zh373 := mh373.size
              have E374 := E368.new mh373 (fun b hb => .inl (by simp at hb; simp [hb]))
              have G375 := gmod1 (b := b16) (h := h367) (h0 := h304) mh373 (by omega) (by simp; omega) (fun x hx => G370.blk x (by simp at hx; omega))
              simp only [List.mem_cons, List.not_mem_nil, or_false] at qh373
              refine s_nil ⟨fun _ x hx => G375 x hx, ?_⟩
              have f376 := ((((s_r295.mod mh299 (fun b hb hc => by simp at hc; have := fr_r295 b hb; omega)).mod mh304 (fun b hb hc => by simp at hc; have := fr_r295 b hb; omega)).ext eh367).mod mh373 (fun b hb hc => by simp at hc; have := fr_r295 b hb; omega))
              have hk377 : 0 < g294.length := (by first | omega | (simp; omega))
              obtain ⟨x378, hx378⟩ : ∃ x, g294[0]? = some x := ⟨_, List.getElem?_eq_getElem hk377⟩
              refine d_pureT (.pointer (some ⟨sblk r295, soff r295 + 0 * 1, none⟩)) (fun _ q => f376.idx (k := 0) rfl hk377 q) ?_
              refine d_eff ?_
              refine s_stSl (k := 0) (j := 0) g372 (.int .i64 g372) [.int .i64 g372] f376 rfl rfl rfl rfl rfl hx378 (Nat.le_of_ble_eq_true rfl) rfl (all_cons rfl all_nil) (fun h379 mh379 sh379 s380 => ?_)
              have E381 := E374.new mh379 (fun b hb => .inr (by have := fr_r295 b hb; omega))
              refine s_nil ⟨fun hl => (by cases hl), ?_⟩
              refine d_done ?_
              refine p_blkN ?_
              refine p_seqN ?_
              refine v_seq ?_
              refine v_ops ?_
              have f382 := (((f365.ext eh367).mod mh373 (by simp; omega)).mod mh379 (fun hc => by have := fr_r295 _ hc; omega))
              refine s_load (.agg #[.int .i64 g10, .int .i64 g276, .int .i64 (1 + g13), r295]) (fun _ q => f382.loadA rfl q) ?_
              have f383 := (((((((((((((((((bxb1.ext eh6).mod mh11 (by simp; omega)).mod mh14 (by simp; omega)).ext eh17).mod mh20 (by simp; omega)).mod mh25 (by simp; omega)).mod mh277 (by simp; omega)).mod mh280 (by simp; omega)).mod mh285 (by simp; omega)).mod mh288 (by simp; omega)).mod mh292 (by simp; omega)).mod mh296 (by simp; omega)).mod mh299 (by simp; omega)).mod mh304 (by simp; omega)).ext eh367).mod mh373 (by simp; omega)).mod mh379 (fun hc => by have := fr_r295 _ hc; omega))
              refine s_stBx (.agg #[.int .i64 g10, .int .i64 g276, .int .i64 (1 + g13), r295]) [.int .i64 g10, .int .i64 g276, .int .i64 (1 + g13), r295] [.int .i64 g10, .int .i64 g276, .int .i64 (1 + g13), r295] f383 rfl rfl rfl rfl (by simp) (all_cons rfl (all_cons rfl (all_cons rfl (all_cons s380.one1 all_nil)))) rfl (fun h384 mh384 sh384 bxx385 => ?_)
              have E386 := E381.new mh384 (fun b hb => .inr (by simp at hb; omega))
              refine s_nil ?_
              refine p_seqN ?_
              refine v_ret ?_
              refine p_ret [.agg #[.int .i64 g10, .int .i64 g276, .int .i64 (1 + g13), r295]] (.agg #[.int .i64 g10, .int .i64 g276, .int .i64 (1 + g13), r295]) (fun _ q => (bxx385.loadA rfl q)) rfl ?_
              have f387 := (s380.mod mh384 (fun b hb hc => by simp at hc; have := fr_r295 b hb; omega))
              have f388 := ((Ch373.mod mh379 (fun hc => by have := fr_r295 _ hc; omega) (fun b hb => by have := fr_r295 b hb; omega)).mod mh384 (by simp; omega) (fun b hb => by simp at hb; omega))
              exact ⟨⟨g10, g276, (1 + g13), (g294.set 0 g372)⟩, r295, rfl, f387, (fr_r295.mono (by omega)), (by first | omega | (simp; done) | (simp; omega)), (f388.le (by omega)), E386⟩
            ·
              refine v_seq ?_
              refine v_ops ?_
              refine s_pure (.bool (g303 == 4)) (fun _ q => q) ?_
              refine s_pure (.bool (g303 == 4)) (fun _ q => q) ?_
              refine s_nil ?_
              refine p_seqN ?_
              refine v_cond rfl (fun c389 => ?_) (fun c389 => ?_)
              ·
                refine v_ops ?_
                refine s_pure (.pointer (some ⟨b16, 3, none⟩)) (fun _ q => q) ?_
                have f390 := (bxx300.mod mh304 (by simp; omega))
                refine s_stBx (.slice none 0 0) [.slice none 0 0] [.int .i64 g10, .int .i64 g276, .int .i64 (1 + g13), .slice none 0 0] f390 rfl rfl rfl rfl (by simp) (all_cons rfl all_nil) rfl (fun h391 mh391 sh391 bxx392 => ?_)
                have E393 := E305.new mh391 (fun b hb => .inr (by simp at hb; omega))
                refine s_nil ?_
                refine p_blkN ?_
                refine p_seqN ?_
                refine v_seq ?_
                refine v_ops ?_
                refine s_load (.agg #[.int .i64 g10, .int .i64 g276, .int .i64 (1 + g13), .slice none 0 0]) (fun _ q => bxx392.loadA rfl q) ?_
                have f394 := (((((((((((((((bxb1.ext eh6).mod mh11 (by simp; omega)).mod mh14 (by simp; omega)).ext eh17).mod mh20 (by simp; omega)).mod mh25 (by simp; omega)).mod mh277 (by simp; omega)).mod mh280 (by simp; omega)).mod mh285 (by simp; omega)).mod mh288 (by simp; omega)).mod mh292 (by simp; omega)).mod mh296 (by simp; omega)).mod mh299 (by simp; omega)).mod mh304 (by simp; omega)).mod mh391 (by simp; omega))
                refine s_stBx (.agg #[.int .i64 g10, .int .i64 g276, .int .i64 (1 + g13), .slice none 0 0]) [.int .i64 g10, .int .i64 g276, .int .i64 (1 + g13), .slice none 0 0] [.int .i64 g10, .int .i64 g276, .int .i64 (1 + g13), .slice none 0 0] f394 rfl rfl rfl rfl (by simp) (all_cons rfl (all_cons rfl (all_cons rfl (all_cons rfl all_nil)))) rfl (fun h395 mh395 sh395 bxx396 => ?_)
                have E397 := E393.new mh395 (fun b hb => .inr (by simp at hb; omega))
                refine s_nil ?_
                refine p_seqN ?_
                refine v_ret ?_
                refine p_ret [.agg #[.int .i64 g10, .int .i64 g276, .int .i64 (1 + g13), .slice none 0 0]] (.agg #[.int .i64 g10, .int .i64 g276, .int .i64 (1 + g13), .slice none 0 0]) (fun _ q => (bxx396.loadA rfl q)) rfl ?_
                have f398 := ((Ch304.mod mh391 (by simp; omega) (fun b hb => by simp at hb; omega)).mod mh395 (by simp; omega) (fun b hb => by simp at hb; omega))
                exact ⟨⟨g10, g276, (1 + g13), []⟩, (.slice none 0 0), rfl, (SlX.nil (α := Int) true _), (Fr.nil _), (by first | omega | (simp; done) | (simp; omega)), (f398.le (by omega)), E397⟩
              ·
                refine v_skip ?_
                refine p_blkN ?_
                refine p_seqN ?_
                refine v_seq ?_
                refine v_ops ?_
                have f399 := (bxx300.mod mh304 (by simp; omega))
                refine s_load (.agg #[.int .i64 g10, .int .i64 g276, .int .i64 (1 + g13), r295]) (fun _ q => f399.loadA rfl q) ?_
                have f400 := ((((((((((((((bxb1.ext eh6).mod mh11 (by simp; omega)).mod mh14 (by simp; omega)).ext eh17).mod mh20 (by simp; omega)).mod mh25 (by simp; omega)).mod mh277 (by simp; omega)).mod mh280 (by simp; omega)).mod mh285 (by simp; omega)).mod mh288 (by simp; omega)).mod mh292 (by simp; omega)).mod mh296 (by simp; omega)).mod mh299 (by simp; omega)).mod mh304 (by simp; omega))
                refine s_stBx (.agg #[.int .i64 g10, .int .i64 g276, .int .i64 (1 + g13), r295]) [.int .i64 g10, .int .i64 g276, .int .i64 (1 + g13), r295] [.int .i64 g10, .int .i64 g276, .int .i64 (1 + g13), r295] f400 rfl rfl rfl rfl (by simp) (all_cons rfl (all_cons rfl (all_cons rfl (all_cons s_r295.one1 all_nil)))) rfl (fun h401 mh401 sh401 bxx402 => ?_)
                have E403 := E305.new mh401 (fun b hb => .inr (by simp at hb; omega))
                refine s_nil ?_
                refine p_seqN ?_
                refine v_ret ?_
                refine p_ret [.agg #[.int .i64 g10, .int .i64 g276, .int .i64 (1 + g13), r295]] (.agg #[.int .i64 g10, .int .i64 g276, .int .i64 (1 + g13), r295]) (fun _ q => (bxx402.loadA rfl q)) rfl ?_
                have f404 := (((s_r295.mod mh299 (fun b hb hc => by simp at hc; have := fr_r295 b hb; omega)).mod mh304 (fun b hb hc => by simp at hc; have := fr_r295 b hb; omega)).mod mh401 (fun b hb hc => by simp at hc; have := fr_r295 b hb; omega))
                have f405 := (Ch304.mod mh401 (by simp; omega) (fun b hb => by simp at hb; omega))
                exact ⟨⟨g10, g276, (1 + g13), g294⟩, r295, rfl, f404, (fr_r295.mono (by omega)), (by first | omega | (simp; done) | (simp; omega)), (f405.le (by omega)), E403⟩
    ·
      refine v_skip ?_
      refine p_seqN ?_
      refine v_seq ?_
      refine v_ops ?_
      refine s_pure (.pointer (some ⟨p_c, 0, none⟩)) (fun _ q => q) ?_
      refine s_pure (.int .i64 (1 + g284)) (fun _ q => q) ?_
      refine s_call [.pointer (some ⟨p_c, 0, none⟩), .int .i64 (1 + g284)] rfl (spec_l1Cur_contents_ok p_c t_c ((((((m_c + 2) + 2) + 2) + 2) + 2) + 2) lo_c (1 + g284) _ Ch288 (by omega) (by first | omega | assumption | (simp; done) | (simp; omega))) ?_
      rintro r407 h408 ⟨g406, _, rfl, s_r407, fr_r407, qh408, Ch408, mh408⟩
      have zh408 := mh408.size
      have E409 := E289.new mh408 (fun b hb => .inl (by simp at hb; simp [hb]))
      have lt_r407 := s_r407.lt
      refine s_pure (.pointer (some ⟨b16, 3, none⟩)) (fun _ q => q) ?_
      have f410 := (((bxx281.mod mh285 (by simp; omega)).mod mh288 (by simp; omega)).mod mh408 (by simp; omega))
      refine s_stBx r407 [r407] [.int .i64 g10, .int .i64 g276, .int .i64 (1 + g13), r407] f410 rfl rfl s_r407.cellsv rfl (by simp) (all_cons s_r407.one1 all_nil) rfl (fun h411 mh411 sh411 bxx412 => ?_)
      have E413 := E409.new mh411 (fun b hb => .inr (by simp at hb; omega))
      refine s_nil ?_
      refine p_seqN ?_
      refine v_seq ?_
      refine v_seq ?_
      refine v_ops ?_
      refine s_pure (.pointer (some ⟨p_c, 0, none⟩)) (fun _ q => q) ?_
      have f414 := (Ch408.mod mh411 (by simp; omega) (fun b hb => by simp at hb; omega))
      refine s_call [.pointer (some ⟨p_c, 0, none⟩), .int .i64 40] rfl (spec_l1Cur_pick_ok p_c t_c (((((((m_c + 2) + 2) + 2) + 2) + 2) + 2) + (6 * (1 + g284))) lo_c 40 _ f414 (by omega)) ?_
      rintro _ h416 ⟨g415, rfl, qh416, Ch416, mh416⟩
      have zh416 := mh416.size
      have E417 := E413.new mh416 (fun b hb => .inl (by simp at hb; simp [hb]))
      refine s_nil ?_
      refine p_seqN ?_
      refine v_block ?_
      refine v_seq ?_
      refine v_ops ?_
      refine s_pure (.bool (g415 == 0)) (fun _ q => q) ?_
      refine s_pure (.bool (g415 == 0)) (fun _ q => q) ?_
      refine s_nil ?_
      refine p_seqN ?_
      refine v_cond rfl (fun c418 => ?_) (fun c418 => ?_)
      ·
        refine v_ops ?_
        refine s_pure (.pointer (some ⟨p_c, 0, none⟩)) (fun _ q => q) ?_
        refine s_row (α := Int) [0, 1000] (fun _ q => seg_i rfl (seg_i rfl (seg_nil q))) rfl (by simp [maxLen]) (fun r419 h420 eh420 zh420 s_r419 fr_r419 => ?_)
        have E421 := E417.trans (Mod.of_ext eh420 _)
        have z422 := eh420.size
        have lt_r419 := s_r419.lt
        have f423 := (Ch416.ext eh420)
        refine s_call [.pointer (some ⟨p_c, 0, none⟩), r419] rfl (spec_l1Cur_among_ok p_c t_c ((((((((m_c + 2) + 2) + 2) + 2) + 2) + 2) + (6 * (1 + g284))) + 2) lo_c r419 [0, 1000] _ f423 s_r419.toSl (fun b hb hc => by simp at hc; have := fr_r419 b hb; omega) (by omega) (by first | omega | assumption | (simp; done) | (simp; omega))) ?_
        rintro _ h425 ⟨g424, rfl, qh425, Ch425, mh425⟩
        have zh425 := mh425.size
        have E426 := E421.new mh425 (fun b hb => .inl (by simp at hb; simp [hb]))
        simp only [List.mem_cons, List.not_mem_nil, or_false] at qh425
        refine s_pure (.pointer (some ⟨b16, 0, none⟩)) (fun _ q => q) ?_
        have f427 := (((bxx412.mod mh416 (by simp; omega)).ext eh420).mod mh425 (by simp; omega))
        refine s_stBx (.int .i64 g424) [.int .i64 g424] [.int .i64 g424, .int .i64 g276, .int .i64 (1 + g13), r407] f427 rfl rfl rfl rfl (by simp) (all_cons rfl all_nil) rfl (fun h428 mh428 sh428 bxx429 => ?_)
        have E430 := E426.new mh428 (fun b hb => .inr (by simp at hb; omega))
        refine s_nil ?_
        refine p_blkN ?_
        refine p_seqN ?_
        refine v_seq ?_
        refine v_ops ?_
        refine s_load (.agg #[.int .i64 g424, .int .i64 g276, .int .i64 (1 + g13), r407]) (fun _ q => bxx429.loadA rfl q) ?_
        have f431 := ((((((((((((((((bxb1.ext eh6).mod mh11 (by simp; omega)).mod mh14 (by simp; omega)).ext eh17).mod mh20 (by simp; omega)).mod mh25 (by simp; omega)).mod mh277 (by simp; omega)).mod mh280 (by simp; omega)).mod mh285 (by simp; omega)).mod mh288 (by simp; omega)).mod mh408 (by simp; omega)).mod mh411 (by simp; omega)).mod mh416 (by simp; omega)).ext eh420).mod mh425 (by simp; omega)).mod mh428 (by simp; omega))
        refine s_stBx (.agg #[.int .i64 g424, .int .i64 g276, .int .i64 (1 + g13), r407]) [.int .i64 g424, .int .i64 g276, .int .i64 (1 + g13), r407] [.int .i64 g424, .int .i64 g276, .int .i64 (1 + g13), r407] f431 rfl rfl rfl rfl (by simp) (all_cons rfl (all_cons rfl (all_cons rfl (all_cons s_r407.one1 all_nil)))) rfl (fun h432 mh432 sh432 bxx433 => ?_)
        have E434 := E430.new mh432 (fun b hb => .inr (by simp at hb; omega))
        refine s_nil ?_
        refine p_seqN ?_
        refine v_ret ?_
        refine p_ret [.agg #[.int .i64 g424, .int .i64 g276, .int .i64 (1 + g13), r407]] (.agg #[.int .i64 g424, .int .i64 g276, .int .i64 (1 + g13), r407]) (fun _ q => (bxx433.loadA rfl q)) rfl ?_
        have f435 := ((((((s_r407.mod mh411 (fun b hb hc => by simp at hc; have := fr_r407 b hb; omega)).mod mh416 (fun b hb hc => by simp at hc; have := fr_r407 b hb; omega)).ext eh420).mod mh425 (fun b hb hc => by simp at hc; have := fr_r407 b hb; omega)).mod mh428 (fun b hb hc => by simp at hc; have := fr_r407 b hb; omega)).mod mh432 (fun b hb hc => by simp at hc; have := fr_r407 b hb; omega))
        have f436 := ((Ch425.mod mh428 (by simp; omega) (fun b hb => by simp at hb; omega)).mod mh432 (by simp; omega) (fun b hb => by simp at hb; omega))
        exact ⟨⟨g424, g276, (1 + g13), g406⟩, r407, rfl, f435, (fr_r407.mono (by omega)), (by first | omega | (simp; done) | (simp; omega)), (f436.le (by omega)), E434⟩
      ·
        refine v_seq ?_
        refine v_ops ?_
        refine s_pure (.bool (g415 == 1)) (fun _ q => q) ?_
        refine s_pure (.bool (g415 == 1)) (fun _ q => q) ?_
        refine s_nil ?_
        refine p_seqN ?_
        refine v_cond rfl (fun c437 => ?_) (fun c437 => ?_)
        ·
          refine v_ops ?_
          refine s_pure (.pointer (some ⟨p_c, 0, none⟩)) (fun _ q => q) ?_
          refine s_pure (.pointer (some ⟨b16, 2, none⟩)) (fun _ q => q) ?_
          have f438 := (bxx412.mod mh416 (by simp; omega))
          refine s_load (.int .i64 (1 + g13)) (fun _ q => f438.load rfl q) ?_
          refine s_row (α := Int) [(-1), (1 + g13)] (fun _ q => seg_i rfl (seg_i rfl (seg_nil q))) rfl (by simp [maxLen]) (fun r439 h440 eh440 zh440 s_r439 fr_r439 => ?_)
          have E441 := E417.trans (Mod.of_ext eh440 _)
          have z442 := eh440.size
          have lt_r439 := s_r439.lt
          have f443 := (Ch416.ext eh440)
          refine s_call [.pointer (some ⟨p_c, 0, none⟩), r439] rfl (spec_l1Cur_among_ok p_c t_c ((((((((m_c + 2) + 2) + 2) + 2) + 2) + 2) + (6 * (1 + g284))) + 2) lo_c r439 [(-1), (1 + g13)] _ f443 s_r439.toSl (fun b hb hc => by simp at hc; have := fr_r439 b hb; omega) (by omega) (by first | omega | assumption | (simp; done) | (simp; omega))) ?_
          rintro _ h445 ⟨g444, rfl, qh445, Ch445, mh445⟩
          have zh445 := mh445.size
          have E446 := E441.new mh445 (fun b hb => .inl (by simp at hb; simp [hb]))
          simp only [List.mem_cons, List.not_mem_nil, or_false] at qh445
          refine s_pure (.pointer (some ⟨b16, 1, none⟩)) (fun _ q => q) ?_
          have f447 := ((f438.ext eh440).mod mh445 (by simp; omega))
          refine s_stBx (.int .i64 g444) [.int .i64 g444] [.int .i64 g10, .int .i64 g444, .int .i64 (1 + g13), r407] f447 rfl rfl rfl rfl (by simp) (all_cons rfl all_nil) rfl (fun h448 mh448 sh448 bxx449 => ?_)
          have E450 := E446.new mh448 (fun b hb => .inr (by simp at hb; omega))
          refine s_nil ?_
          refine p_blkN ?_
          refine p_seqN ?_
          refine v_seq ?_
          refine v_ops ?_
          refine s_load (.agg #[.int .i64 g10, .int .i64 g444, .int .i64 (1 + g13), r407]) (fun _ q => bxx449.loadA rfl q) ?_
          have f451 := ((((((((((((((((bxb1.ext eh6).mod mh11 (by simp; omega)).mod mh14 (by simp; omega)).ext eh17).mod mh20 (by simp; omega)).mod mh25 (by simp; omega)).mod mh277 (by simp; omega)).mod mh280 (by simp; omega)).mod mh285 (by simp; omega)).mod mh288 (by simp; omega)).mod mh408 (by simp; omega)).mod mh411 (by simp; omega)).mod mh416 (by simp; omega)).ext eh440).mod mh445 (by simp; omega)).mod mh448 (by simp; omega))
          refine s_stBx (.agg #[.int .i64 g10, .int .i64 g444, .int .i64 (1 + g13), r407]) [.int .i64 g10, .int .i64 g444, .int .i64 (1 + g13), r407] [.int .i64 g10, .int .i64 g444, .int .i64 (1 + g13), r407] f451 rfl rfl rfl rfl (by simp) (all_cons rfl (all_cons rfl (all_cons rfl (all_cons s_r407.one1 all_nil)))) rfl (fun h452 mh452 sh452 bxx453 => ?_)
          have E454 := E450.new mh452 (fun b hb => .inr (by simp at hb; omega))
          refine s_nil ?_
          refine p_seqN ?_
          refine v_ret ?_
          refine p_ret [.agg #[.int .i64 g10, .int .i64 g444, .int .i64 (1 + g13), r407]] (.agg #[.int .i64 g10, .int .i64 g444, .int .i64 (1 + g13), r407]) (fun _ q => (bxx453.loadA rfl q)) rfl ?_
          have f455 := ((((((s_r407.mod mh411 (fun b hb hc => by simp at hc; have := fr_r407 b hb; omega)).mod mh416 (fun b hb hc => by simp at hc; have := fr_r407 b hb; omega)).ext eh440).mod mh445 (fun b hb hc => by simp at hc; have := fr_r407 b hb; omega)).mod mh448 (fun b hb hc => by simp at hc; have := fr_r407 b hb; omega)).mod mh452 (fun b hb hc => by simp at hc; have := fr_r407 b hb; omega))
          have f456 := ((Ch445.mod mh448 (by simp; omega) (fun b hb => by simp at hb; omega)).mod mh452 (by simp; omega) (fun b hb => by simp at hb; omega))
          exact ⟨⟨g10, g444, (1 + g13), g406⟩, r407, rfl, f455, (fr_r407.mono (by omega)), (by first | omega | (simp; done) | (simp; omega)), (f456.le (by omega)), E454⟩
        ·
          refine v_seq ?_
          refine v_ops ?_
          refine s_pure (.bool (g415 == 2)) (fun _ q => q) ?_
          refine s_pure (.bool (g415 == 2)) (fun _ q => q) ?_
          refine s_nil ?_
          refine p_seqN ?_
          refine v_cond rfl (fun c457 => ?_) (fun c457 => ?_)
          ·
            refine v_ops ?_
            refine s_pure (.pointer (some ⟨p_c, 0, none⟩)) (fun _ q => q) ?_
            refine s_row (α := Int) [0, 9, 10] (fun _ q => seg_i rfl (seg_i rfl (seg_i rfl (seg_nil q)))) rfl (by simp [maxLen]) (fun r458 h459 eh459 zh459 s_r458 fr_r458 => ?_)
            have E460 := E417.trans (Mod.of_ext eh459 _)
            have z461 := eh459.size
            have lt_r458 := s_r458.lt
            have f462 := (Ch416.ext eh459)
            refine s_call [.pointer (some ⟨p_c, 0, none⟩), r458] rfl (spec_l1Cur_among_ok p_c t_c ((((((((m_c + 2) + 2) + 2) + 2) + 2) + 2) + (6 * (1 + g284))) + 2) lo_c r458 [0, 9, 10] _ f462 s_r458.toSl (fun b hb hc => by simp at hc; have := fr_r458 b hb; omega) (by omega) (by first | omega | assumption | (simp; done) | (simp; omega))) ?_
            rintro _ h464 ⟨g463, rfl, qh464, Ch464, mh464⟩
            have zh464 := mh464.size
            have E465 := E460.new mh464 (fun b hb => .inl (by simp at hb; simp [hb]))
            simp only [List.mem_cons, List.not_mem_nil, or_false] at qh464
            refine s_pure (.pointer (some ⟨b16, 2, none⟩)) (fun _ q => q) ?_
            have f466 := (((bxx412.mod mh416 (by simp; omega)).ext eh459).mod mh464 (by simp; omega))
            refine s_stBx (.int .i64 g463) [.int .i64 g463] [.int .i64 g10, .int .i64 g276, .int .i64 g463, r407] f466 rfl rfl rfl rfl (by simp) (all_cons rfl all_nil) rfl (fun h467 mh467 sh467 bxx468 => ?_)
            have E469 := E465.new mh467 (fun b hb => .inr (by simp at hb; omega))
            refine s_nil ?_
            refine p_blkN ?_
            refine p_seqN ?_
            refine v_seq ?_
            refine v_ops ?_
            refine s_load (.agg #[.int .i64 g10, .int .i64 g276, .int .i64 g463, r407]) (fun _ q => bxx468.loadA rfl q) ?_
            have f470 := ((((((((((((((((bxb1.ext eh6).mod mh11 (by simp; omega)).mod mh14 (by simp; omega)).ext eh17).mod mh20 (by simp; omega)).mod mh25 (by simp; omega)).mod mh277 (by simp; omega)).mod mh280 (by simp; omega)).mod mh285 (by simp; omega)).mod mh288 (by simp; omega)).mod mh408 (by simp; omega)).mod mh411 (by simp; omega)).mod mh416 (by simp; omega)).ext eh459).mod mh464 (by simp; omega)).mod mh467 (by simp; omega))
            refine s_stBx (.agg #[.int .i64 g10, .int .i64 g276, .int .i64 g463, r407]) [.int .i64 g10, .int .i64 g276, .int .i64 g463, r407] [.int .i64 g10, .int .i64 g276, .int .i64 g463, r407] f470 rfl rfl rfl rfl (by simp) (all_cons rfl (all_cons rfl (all_cons rfl (all_cons s_r407.one1 all_nil)))) rfl (fun h471 mh471 sh471 bxx472 => ?_)
            have E473 := E469.new mh471 (fun b hb => .inr (by simp at hb; omega))
            refine s_nil ?_
            refine p_seqN ?_
            refine v_ret ?_
            refine p_ret [.agg #[.int .i64 g10, .int .i64 g276, .int .i64 g463, r407]] (.agg #[.int .i64 g10, .int .i64 g276, .int .i64 g463, r407]) (fun _ q => (bxx472.loadA rfl q)) rfl ?_
            have f474 := ((((((s_r407.mod mh411 (fun b hb hc => by simp at hc; have := fr_r407 b hb; omega)).mod mh416 (fun b hb hc => by simp at hc; have := fr_r407 b hb; omega)).ext eh459).mod mh464 (fun b hb hc => by simp at hc; have := fr_r407 b hb; omega)).mod mh467 (fun b hb hc => by simp at hc; have := fr_r407 b hb; omega)).mod mh471 (fun b hb hc => by simp at hc; have := fr_r407 b hb; omega))
            have f475 := ((Ch464.mod mh467 (by simp; omega) (fun b hb => by simp at hb; omega)).mod mh471 (by simp; omega) (fun b hb => by simp at hb; omega))
            exact ⟨⟨g10, g276, g463, g406⟩, r407, rfl, f474, (fr_r407.mono (by omega)), (by first | omega | (simp; done) | (simp; omega)), (f475.le (by omega)), E473⟩
          ·
            refine v_seq ?_
            refine v_ops ?_
            refine s_pure (.bool (g415 == 3)) (fun _ q => q) ?_
            refine s_pure (.bool (g415 == 3)) (fun _ q => q) ?_
            refine s_nil ?_
            refine p_seqN ?_
            refine v_cond rfl (fun c476 => ?_) (fun c476 => ?_)
            ·
              have f477 := (bxx412.mod mh416 (by simp; omega))
              refine v_draw (DrawVC.hold ([b16]) ?_)
              refine d_pureT (.pointer (some ⟨b16, 3, none⟩)) (fun _ q => q) ?_
              refine d_pureT (.pointer (some ⟨p_c, 0, none⟩)) (fun _ q => q) ?_
              refine d_loadT r407 (fun _ q => f477.take (by simp) rfl q) ?_
              refine d_eff ?_
              refine s_row (α := Int) [0, 60, 61] (fun _ q => seg_i rfl (seg_i rfl (seg_i rfl (seg_nil q)))) rfl (by simp [maxLen]) (fun r478 h479 eh479 zh479 s_r478 fr_r478 => ?_)
              have E480 := E417.trans (Mod.of_ext eh479 _)
              have z481 := eh479.size
              have G482 := eh479
              have lt_r478 := s_r478.lt
              refine s_nil ⟨fun _ x hx => G482.blk x (by simp at hx; omega), ?_⟩
              refine d_eff ?_
              have f483 := (Ch416.ext eh479)
              refine s_call [.pointer (some ⟨p_c, 0, none⟩), r478] rfl (spec_l1Cur_among_ok p_c t_c ((((((((m_c + 2) + 2) + 2) + 2) + 2) + 2) + (6 * (1 + g284))) + 2) lo_c r478 [0, 60, 61] _ f483 s_r478.toSl (fun b hb hc => by simp at hc; have := fr_r478 b hb; omega) (by omega) (by first | omega | assumption | (simp; done) | (simp; omega))) ?_
              rintro _ h485 ⟨g484, rfl, qh485, Ch485, mh485⟩
              have zh485 := mh485.size
              have E486 := E480.new mh485 (fun b hb => .inl (by simp at hb; simp [hb]))
              have G487 := gmod1 (b := b16) (h := h479) (h0 := h416) mh485 (by omega) (by simp; omega) (fun x hx => G482.blk x (by simp at hx; omega))
              simp only [List.mem_cons, List.not_mem_nil, or_false] at qh485
              refine s_nil ⟨fun _ x hx => G487 x hx, ?_⟩
              have f488 := ((((s_r407.mod mh411 (fun b hb hc => by simp at hc; have := fr_r407 b hb; omega)).mod mh416 (fun b hb hc => by simp at hc; have := fr_r407 b hb; omega)).ext eh479).mod mh485 (fun b hb hc => by simp at hc; have := fr_r407 b hb; omega))
              have hk489 : 0 < g406.length := (by first | omega | (simp; omega))
              obtain ⟨x490, hx490⟩ : ∃ x, g406[0]? = some x := ⟨_, List.getElem?_eq_getElem hk489⟩
              refine d_pureT (.pointer (some ⟨sblk r407, soff r407 + 0 * 1, none⟩)) (fun _ q => f488.idx (k := 0) rfl hk489 q) ?_
              refine d_eff ?_
              refine s_stSl (k := 0) (j := 0) g484 (.int .i64 g484) [.int .i64 g484] f488 rfl rfl rfl rfl rfl hx490 (Nat.le_of_ble_eq_true rfl) rfl (all_cons rfl all_nil) (fun h491 mh491 sh491 s492 => ?_)
              have E493 := E486.new mh491 (fun b hb => .inr (by have := fr_r407 b hb; omega))
              refine s_nil ⟨fun hl => (by cases hl), ?_⟩
              refine d_done ?_
              refine p_blkN ?_
              refine p_seqN ?_
              refine v_seq ?_
              refine v_ops ?_
              have f494 := (((f477.ext eh479).mod mh485 (by simp; omega)).mod mh491 (fun hc => by have := fr_r407 _ hc; omega))
              refine s_load (.agg #[.int .i64 g10, .int .i64 g276, .int .i64 (1 + g13), r407]) (fun _ q => f494.loadA rfl q) ?_
              have f495 := ((((((((((((((((bxb1.ext eh6).mod mh11 (by simp; omega)).mod mh14 (by simp; omega)).ext eh17).mod mh20 (by simp; omega)).mod mh25 (by simp; omega)).mod mh277 (by simp; omega)).mod mh280 (by simp; omega)).mod mh285 (by simp; omega)).mod mh288 (by simp; omega)).mod mh408 (by simp; omega)).mod mh411 (by simp; omega)).mod mh416 (by simp; omega)).ext eh479).mod mh485 (by simp; omega)).mod mh491 (fun hc => by have := fr_r407 _ hc; omega))
              refine s_stBx (.agg #[.int .i64 g10, .int .i64 g276, .int .i64 (1 + g13), r407]) [.int .i64 g10, .int .i64 g276, .int .i64 (1 + g13), r407] [.int .i64 g10, .int .i64 g276, .int .i64 (1 + g13), r407] f495 rfl rfl rfl rfl (by simp) (all_cons rfl (all_cons rfl (all_cons rfl (all_cons s492.one1 all_nil)))) rfl (fun h496 mh496 sh496 bxx497 => ?_)
              have E498 := E493.new mh496 (fun b hb => .inr (by simp at hb; omega))
              refine s_nil ?_
              refine p_seqN ?_
              refine v_ret ?_
              refine p_ret [.agg #[.int .i64 g10, .int .i64 g276, .int .i64 (1 + g13), r407]] (.agg #[.int .i64 g10, .int .i64 g276, .int .i64 (1 + g13), r407]) (fun _ q => (bxx497.loadA rfl q)) rfl ?_
              have f499 := (s492.mod mh496 (fun b hb hc => by simp at hc; have := fr_r407 b hb; omega))
              have f500 := ((Ch485.mod mh491 (fun hc => by have := fr_r407 _ hc; omega) (fun b hb => by have := fr_r407 b hb; omega)).mod mh496 (by simp; omega) (fun b hb => by simp at hb; omega))
              exact ⟨⟨g10, g276, (1 + g13), (g406.set 0 g484)⟩, r407, rfl, f499, (fr_r407.mono (by omega)), (by first | omega | (simp; done) | (simp; omega)), (f500.le (by omega)), E498⟩
            ·
              refine v_seq ?_
              refine v_ops ?_
              refine s_pure (.bool (g415 == 4)) (fun _ q => q) ?_
              refine s_pure (.bool (g415 == 4)) (fun _ q => q) ?_
              refine s_nil ?_
              refine p_seqN ?_
              refine v_cond rfl (fun c501 => ?_) (fun c501 => ?_)
              ·
                refine v_ops ?_
                refine s_pure (.pointer (some ⟨b16, 3, none⟩)) (fun _ q => q) ?_
                have f502 := (bxx412.mod mh416 (by simp; omega))
                refine s_stBx (.slice none 0 0) [.slice none 0 0] [.int .i64 g10, .int .i64 g276, .int .i64 (1 + g13), .slice none 0 0] f502 rfl rfl rfl rfl (by simp) (all_cons rfl all_nil) rfl (fun h503 mh503 sh503 bxx504 => ?_)
                have E505 := E417.new mh503 (fun b hb => .inr (by simp at hb; omega))
                refine s_nil ?_
                refine p_blkN ?_
                refine p_seqN ?_
                refine v_seq ?_
                refine v_ops ?_
                refine s_load (.agg #[.int .i64 g10, .int .i64 g276, .int .i64 (1 + g13), .slice none 0 0]) (fun _ q => bxx504.loadA rfl q) ?_
                have f506 := ((((((((((((((bxb1.ext eh6).mod mh11 (by simp; omega)).mod mh14 (by simp; omega)).ext eh17).mod mh20 (by simp; omega)).mod mh25 (by simp; omega)).mod mh277 (by simp; omega)).mod mh280 (by simp; omega)).mod mh285 (by simp; omega)).mod mh288 (by simp; omega)).mod mh408 (by simp; omega)).mod mh411 (by simp; omega)).mod mh416 (by simp; omega)).mod mh503 (by simp; omega))
                refine s_stBx (.agg #[.int .i64 g10, .int .i64 g276, .int .i64 (1 + g13), .slice none 0 0]) [.int .i64 g10, .int .i64 g276, .int .i64 (1 + g13), .slice none 0 0] [.int .i64 g10, .int .i64 g276, .int .i64 (1 + g13), .slice none 0 0] f506 rfl rfl rfl rfl (by simp) (all_cons rfl (all_cons rfl (all_cons rfl (all_cons rfl all_nil)))) rfl (fun h507 mh507 sh507 bxx508 => ?_)
                have E509 := E505.new mh507 (fun b hb => .inr (by simp at hb; omega))
                refine s_nil ?_
                refine p_seqN ?_
                refine v_ret ?_
                refine p_ret [.agg #[.int .i64 g10, .int .i64 g276, .int .i64 (1 + g13), .slice none 0 0]] (.agg #[.int .i64 g10, .int .i64 g276, .int .i64 (1 + g13), .slice none 0 0]) (fun _ q => (bxx508.loadA rfl q)) rfl ?_
                have f510 := ((Ch416.mod mh503 (by simp; omega) (fun b hb => by simp at hb; omega)).mod mh507 (by simp; omega) (fun b hb => by simp at hb; omega))
                exact ⟨⟨g10, g276, (1 + g13), []⟩, (.slice none 0 0), rfl, (SlX.nil (α := Int) true _), (Fr.nil _), (by first | omega | (simp; done) | (simp; omega)), (f510.le (by omega)), E509⟩
              ·
                refine v_skip ?_
                refine p_blkN ?_
                refine p_seqN ?_
                refine v_seq ?_
                refine v_ops ?_
                have f511 := (bxx412.mod mh416 (by simp; omega))
                refine s_load (.agg #[.int .i64 g10, .int .i64 g276, .int .i64 (1 + g13), r407]) (fun _ q => f511.loadA rfl q) ?_
                have f512 := (((((((((((((bxb1.ext eh6).mod mh11 (by simp; omega)).mod mh14 (by simp; omega)).ext eh17).mod mh20 (by simp; omega)).mod mh25 (by simp; omega)).mod mh277 (by simp; omega)).mod mh280 (by simp; omega)).mod mh285 (by simp; omega)).mod mh288 (by simp; omega)).mod mh408 (by simp; omega)).mod mh411 (by simp; omega)).mod mh416 (by simp; omega))
                refine s_stBx (.agg #[.int .i64 g10, .int .i64 g276, .int .i64 (1 + g13), r407]) [.int .i64 g10, .int .i64 g276, .int .i64 (1 + g13), r407] [.int .i64 g10, .int .i64 g276, .int .i64 (1 + g13), r407] f512 rfl rfl rfl rfl (by simp) (all_cons rfl (all_cons rfl (all_cons rfl (all_cons s_r407.one1 all_nil)))) rfl (fun h513 mh513 sh513 bxx514 => ?_)
                have E515 := E417.new mh513 (fun b hb => .inr (by simp at hb; omega))
                refine s_nil ?_
                refine p_seqN ?_
                refine v_ret ?_
                refine p_ret [.agg #[.int .i64 g10, .int .i64 g276, .int .i64 (1 + g13), r407]] (.agg #[.int .i64 g10, .int .i64 g276, .int .i64 (1 + g13), r407]) (fun _ q => (bxx514.loadA rfl q)) rfl ?_
                have f516 := (((s_r407.mod mh411 (fun b hb hc => by simp at hc; have := fr_r407 b hb; omega)).mod mh416 (fun b hb hc => by simp at hc; have := fr_r407 b hb; omega)).mod mh513 (fun b hb hc => by simp at hc; have := fr_r407 b hb; omega))
                have f517 := (Ch416.mod mh513 (by simp; omega) (fun b hb => by simp at hb; omega))
                exact ⟨⟨g10, g276, (1 + g13), g406⟩, r407, rfl, f516, (fr_r407.mono (by omega)), (by first | omega | (simp; done) | (simp; omega)), (f517.le (by omega)), E515⟩

set_option maxRecDepth 10000 in
set_option maxHeartbeats 4000000 in
theorem spec_l1Cur_packets_ok (p_c : Nat) (t_c : TypeId) (m_c : Int) (lo_c : Nat) (h : Heap) (C_c : Cur h p_c t_c m_c lo_c) (hm : m_c + 3000 ≤ 4000000000000000000) : Cn f_spec_l1Cur_packets [.pointer (some ⟨p_c, 0, none⟩)] h fun v h' => ∃ g0 : List Pk, ∃ r0 : Value, v = r0 ∧ RdO h' r0 g0 h.size ∧ (g0.length ≤ 100 ∧ ∀ p ∈ g0, p.sig.length ≤ 200) ∧ Cur h' p_c t_c (m_c + 3000) lo_c ∧ Mod [p_c] h h' := by
  have lc_c := C_c.lt
  have ll_c := C_c.low
  have lm_c := C_c.top
  refine calls_of r_spec_l1Cur_packets ?_
  refine v_seq ?_
  refine v_ops ?_
  refine s_pure (.slice none 0 0) (fun _ q => q) ?_
  refine s_nil ?_
  refine p_seqN ?_
  refine v_seq ?_
  refine v_ops ?_
  refine s_pure (.slice none 0 0) (fun _ q => q) ?_
  refine s_nil ?_
  refine p_seqN ?_
  refine v_seq ?_
  refine v_seq ?_
  refine v_ops ?_
  refine s_pure (.pointer (some ⟨p_c, 0, none⟩)) (fun _ q => q) ?_
  refine s_call [.pointer (some ⟨p_c, 0, none⟩), .int .i64 3] rfl (spec_l1Cur_pick_ok p_c t_c m_c lo_c 3 _ C_c (by omega)) ?_
  rintro _ h2 ⟨g1, rfl, qh2, Ch2, mh2⟩
  have zh2 := mh2.size
  have E3 := (Mod.refl [p_c] h).new mh2 (fun b hb => .inl (by simp at hb; simp [hb]))
  refine s_pure (.int .i64 g1) (fun _ q => q) ?_
  refine s_nil ?_
  refine p_seqN ?_
  refine v_block ?_
  refine v_loop3 (α := Int) (β := List Pk) (γ := Value) (fun k p4 o4 => [(0, .pointer (some ⟨p_c, 0, none⟩)), (3, o4), (4, .int .i64 k)]) (fun k p4 o4 hh => Mod [p_c] h hh ∧ Cur hh p_c t_c (m_c + 2 + 200 * (2 - k)) lo_c ∧ RdO hh o4 p4 h.size ∧ p_c ∉ fpts o4 p4 ∧ -1 ≤ k ∧ k ≤ 2 ∧ (p4.length : Int) ≤ 20 * (2 - k) ∧ ∀ p ∈ p4, p.sig.length ≤ 100) (fun k p4 o4 => (k + 1).toNat) g1 [] (.slice none 0 0) ⟨rfl, rfl, rfl⟩ ⟨E3, (Ch2.le (by first | omega | (simp; done) | (simp; omega))), (RdO.nil _ _), (by simp [blks, fpts]), (by exact ⟨by omega, by omega, by simp; omega, by simp⟩)⟩ ?_
  rintro k p4 o4 R5 h4 ⟨Eh, bxc, s_o4, np_c_o4, ⟨hk0, hk1, hp4, hs4⟩⟩
  have zEh := Eh.size
  have lbc := bxc.lt
  have lt_o4 := s_o4.lt
  have fr_o4 := s_o4.fr
  refine v_seq ?_
  refine v_seq ?_
  refine v_ops ?_
  refine s_pure (.int .i64 k) (fun _ q => q) ?_
  refine s_pure (.bool (decide (k ≥ 0))) (fun _ q => q) ?_
  refine s_nil ?_
  refine p_seqN ?_
  refine v_cond rfl (fun c7 => ?_) (fun c7 => ?_)
  ·
    refine v_skip ?_
    refine p_seqN ?_
    refine v_seq ?_
    refine v_block ?_
    refine v_seq ?_
    refine v_ops ?_
    refine s_pure (.pointer (some ⟨p_c, 0, none⟩)) (fun _ q => q) ?_
    refine s_row (α := Int) [1, 7, 12] (fun _ q => seg_i rfl (seg_i rfl (seg_i rfl (seg_nil q)))) rfl (by simp [maxLen]) (fun r8 h9 eh9 zh9 s_r8 fr_r8 => ?_)
    have E10 := Eh.trans (Mod.of_ext eh9 _)
    have z11 := eh9.size
    have lt_r8 := s_r8.lt
    have f12 := (bxc.ext eh9)
    refine s_call [.pointer (some ⟨p_c, 0, none⟩), r8] rfl (spec_l1Cur_among_ok p_c t_c (m_c + 2 + 200 * (2 - k)) lo_c r8 [1, 7, 12] _ f12 s_r8.toSl (fun b hb hc => by simp at hc; have := fr_r8 b hb; omega) (by omega) (by first | omega | assumption | (simp; done) | (simp; omega))) ?_
    rintro _ h14 ⟨g13, rfl, qh14, Ch14, mh14⟩
    have zh14 := mh14.size
    have E15 := E10.new mh14 (fun b hb => .inl (by simp at hb; simp [hb]))
    simp only [List.mem_cons, List.not_mem_nil, or_false] at qh14
    refine s_pure (.pointer (some ⟨p_c, 0, none⟩)) (fun _ q => q) ?_
    refine s_pure (.pointer (some ⟨p_c, 0, none⟩)) (fun _ q => q) ?_
    refine s_call [.pointer (some ⟨p_c, 0, none⟩), .int .i64 6] rfl (spec_l1Cur_pick_ok p_c t_c ((m_c + 2 + 200 * (2 - k)) + 2) lo_c 6 _ Ch14 (by omega)) ?_
    rintro _ h17 ⟨g16, rfl, qh17, Ch17, mh17⟩
    have zh17 := mh17.size
    have E18 := E15.new mh17 (fun b hb => .inl (by simp at hb; simp [hb]))
    refine s_pure (.int .i64 (1 + g16)) (fun _ q => ArithVC.mk (by omega) q) ?_
    refine s_call [.pointer (some ⟨p_c, 0, none⟩), .int .i64 (1 + g16)] rfl (spec_l1Cur_contents_ok p_c t_c (((m_c + 2 + 200 * (2 - k)) + 2) + 2) lo_c (1 + g16) _ Ch17 (by omega) (by first | omega | assumption | (simp; done) | (simp; omega))) ?_
    rintro r20 h21 ⟨g19, _, rfl, s_r20, fr_r20, qh21, Ch21, mh21⟩
    have zh21 := mh21.size
    have E22 := E18.new mh21 (fun b hb => .inl (by simp at hb; simp [hb]))
    have lt_r20 := s_r20.lt
    refine s_pure (.pointer (some ⟨p_c, 0, none⟩)) (fun _ q => q) ?_
    refine s_call [.pointer (some ⟨p_c, 0, none⟩), .int .i64 3] rfl (spec_l1Cur_pick_ok p_c t_c ((((m_c + 2 + 200 * (2 - k)) + 2) + 2) + (6 * (1 + g16))) lo_c 3 _ Ch21 (by omega)) ?_
    rintro _ h24 ⟨g23, rfl, qh24, Ch24, mh24⟩
    have zh24 := mh24.size
    have E25 := E22.new mh24 (fun b hb => .inl (by simp at hb; simp [hb]))
    refine s_pure (.int .i64 (1 + g23)) (fun _ q => ArithVC.mk (by omega) q) ?_
    have f26 := (s_r20.mod mh24 (fun b hb hc => by simp at hc; have := fr_r20 b hb; omega))
    refine s_call [.int .i64 g13, r20, .int .i64 (1 + g23)] rfl (spec_pkSplit_ok g13 r20 g19 (1 + g23) _ f26.toSl (by omega) (by omega) (by omega)) ?_
    rintro r27 h28 ⟨_, qr27, rfl, s_r27, dq_r27, eh28⟩
    have E29 := E25.trans (Mod.of_ext eh28 _)
    have z30 := eh28.size
    have lt_r27 := s_r27.lt
    have fr_r27 := s_r27.fr
    have hsb_r27 := sm_bound (q := qr27) dq_r27
    have hs9_r27 := sm_div (l := (g19.length : Int)) (sz := (1 + g23)) (by omega) (by omega) (by omega)
    have hn9_r27 := hs9_r27.2 (by omega)
    have R_r27 := RdO.of s_r27
    refine s_pure r27 (fun _ q => q) ?_
    refine s_nil ?_
    refine p_seqN ?_
    refine v_seq ?_
    refine v_ops ?_
    refine s_pure r27 (fun _ q => q) ?_
    refine s_pure (.int .i64 (qr27.length : Int)) (fun _ q => R_r27.row.lenVC q) ?_
    refine s_pure (.int .i64 0) (fun _ q => q) ?_
    refine s_nil ?_
    refine p_seqN ?_
    refine v_block ?_
    have nk32 : p_c ∉ fpts r27 qr27 := (fun hc => by have := fr_r27 _ hc; omega)
    have f33 := (Ch24.ext eh28)
    have f34 := ((((((s_o4.ext eh9).mod mh14 (fun b hb hc => np_c_o4 (by simp at hc; rw [← hc]; exact hb))).mod mh17 (fun b hb hc => np_c_o4 (by simp at hc; rw [← hc]; exact hb))).mod mh21 (fun b hb hc => np_c_o4 (by simp at hc; rw [← hc]; exact hb))).mod mh24 (fun b hb hc => np_c_o4 (by simp at hc; rw [← hc]; exact hb))).ext eh28)
    refine v_loop3 (α := Nat) (β := List Pk) (γ := Value) (fun j p3 o3 => [(0, .pointer (some ⟨p_c, 0, none⟩)), (3, o3), (4, .int .i64 k), (29, r27), (30, .int .i64 (qr27.length : Int)), (31, .int .i64 (j : Int))]) (fun j p3 o3 hh => Mod [p_c] h hh ∧ Cur hh p_c t_c (m_c + 102 + 200 * (2 - k) + 6 * (j : Int)) lo_c ∧ RdO hh o3 p3 h.size ∧ RdO hh r27 qr27 h.size ∧ p_c ∉ fpts o3 p3 ∧ (∀ b ∈ fpts r27 qr27, b ∉ blks o3) ∧ j ≤ qr27.length ∧ (p3.length : Int) ≤ 20 * (2 - k) + 2 * j ∧ ∀ p ∈ p3, p.sig.length ≤ 100) (fun j p3 o3 => qr27.length - j) 0 p4 o4 ⟨rfl, rfl, rfl, rfl, rfl, rfl⟩ ⟨E29, (f33.le (by first | omega | (simp; done) | (simp; omega))), (f34.mono (by omega)), (R_r27.mono (by omega)), np_c_o4, (fun b hb hc => by have := fr_r27 b hb; have := (fun b hb => lt_o4 b (mem_fpts.2 (.inl hb))) b hc; omega), (by exact ⟨by omega, by simp; omega, by assumption⟩)⟩ ?_
    rintro j p3 o3 R35 h31 ⟨Eh, bxc, s_o3, s_r27, np_c_o3, np_r27_o3, ⟨hj, hp3, hs3⟩⟩
    have zEh := Eh.size
    have lbc := bxc.lt
    have ltk_r27 := s_r27.lt
    have lt_o3 := s_o3.lt
    have fr_o3 := s_o3.fr
    have hx8 : ∀ p ∈ qr27, p.sig.length ≤ 100 := fun p hp => Nat.le_trans (hsb_r27.2 p hp) (by omega)
    refine v_seq ?_
    refine v_ops ?_
    refine s_pure (.bool (decide ((j : Int) < (qr27.length : Int)))) (fun _ q => q) ?_
    refine s_nil ?_
    refine p_seqN ?_
    refine v_seq ?_
    refine v_cond rfl (fun c37 => ?_) (fun c37 => ?_)
    ·
      refine v_skip ?_
      refine p_seqN ?_
      refine v_seq ?_
      refine v_block ?_
      refine v_seq ?_
      refine v_ops ?_
      have hk38 : j < qr27.length := (by first | omega | (simp; omega))
      obtain ⟨x39, hx39⟩ : ∃ x, qr27[j]? = some x := ⟨_, List.getElem?_eq_getElem hk38⟩
      refine s_pure (.pointer (some ⟨sblk r27, soff r27 + j * 4, none⟩)) (fun _ q => s_r27.row.idx (k := j) rfl hk38 q) ?_
      have s40 := s_r27.insL x39 (List.mem_of_getElem? hx39)
      refine s_load (.agg #[.int .i64 x39.message, .int .i64 x39.part, .int .i64 x39.parts, x39.sv.v]) (fun _ q => s_r27.row.loadN hx39 rfl q) ?_
      refine s_new (fun h42 b41 hbb41 hzb41 eh42 bxb41 => ?_)
      have E43 := Eh.trans (Mod.of_ext eh42 _)
      have z44 := eh42.size
      have lbb41 := bxb41.lt
      refine s_stBx (.agg #[.int .i64 x39.message, .int .i64 x39.part, .int .i64 x39.parts, x39.sv.v]) [.int .i64 x39.message, .int .i64 x39.part, .int .i64 x39.parts, x39.sv.v] [.int .i64 x39.message, .int .i64 x39.part, .int .i64 x39.parts, x39.sv.v] bxb41 rfl rfl rfl rfl (by simp) (all_cons rfl (all_cons rfl (all_cons rfl (all_cons s40.one1 all_nil)))) rfl (fun h45 mh45 sh45 bxx46 => ?_)
      have E47 := E43.new mh45 (fun b hb => .inr (by simp at hb; omega))
      refine s_nil ?_
      refine p_seqN ?_
      refine v_seq ?_
      refine v_seq ?_
      refine v_ops ?_
      refine s_pure (.pointer (some ⟨p_c, 0, none⟩)) (fun _ q => q) ?_
      have f48 := ((bxc.ext eh42).mod mh45 (by simp; omega) (fun b hb => by simp at hb; omega))
      refine s_call [.pointer (some ⟨p_c, 0, none⟩), .int .i64 8] rfl (spec_l1Cur_one_ok p_c t_c (m_c + 102 + 200 * (2 - k) + 6 * (j : Int)) lo_c 8 _ f48 (by omega)) ?_
      rintro _ h50 ⟨g49, rfl, Ch50, mh50⟩
      have zh50 := mh50.size
      have E51 := E47.new mh50 (fun b hb => .inl (by simp at hb; simp [hb]))
      refine s_nil ?_
      refine p_seqN ?_
      refine v_cond rfl (fun c52 => ?_) (fun c52 => ?_)
      ·
        refine v_exit ?_
        refine p_seqX ?_
        refine p_blkX ?_
        refine p_seqN ?_
        refine v_ops ?_
        refine s_pure (.int .i64 ((j : Int) + 1)) (fun _ q => ArithVC.mk (by omega) q) ?_
        refine s_pure (.int .i64 ((j : Int) + 1)) (fun _ q => q) ?_
        refine s_nil ?_
        have f53 := (((s_o3.ext eh42).mod mh45 (fun b hb hc => by simp at hc; have := lt_o3 b hb; omega)).mod mh50 (fun b hb hc => np_c_o3 (by simp at hc; rw [← hc]; exact hb)))
        have f54 := (((s_r27.ext eh42).mod mh45 (fun b hb hc => by simp at hc; have := ltk_r27 b hb; have := lt_r27 b hb; omega)).mod mh50 (fun b hb hc => nk32 (by simp at hc; rw [← hc]; exact hb)))
        exact p_lpN ⟨j + 1, p3, o3, ⟨rfl, rfl, rfl, rfl, rfl, rfl⟩, ⟨E51, (Ch50.le (by first | omega | (simp; done) | (simp; omega))), (f53.mono (by omega)), (f54.mono (by omega)), np_c_o3, np_r27_o3, (by first | exact ⟨by omega, by omega, hs3⟩ | exact ⟨by omega, by simp; omega, rd_mid hs3 (hx8 x39 (List.mem_of_getElem? hx39))⟩ | exact ⟨by omega, by simp; omega, rd_snoc (rd_mid hs3 (hx8 x39 (List.mem_of_getElem? hx39))) (hx8 x39 (List.mem_of_getElem? hx39))⟩)⟩, by omega⟩
      ·
        refine v_skip ?_
        refine p_seqN ?_
        refine v_seq ?_
        refine v_ops ?_
        refine s_pure (.pointer (some ⟨p_c, 0, none⟩)) (fun _ q => q) ?_
        refine s_pure o3 (fun _ q => q) ?_
        refine s_pure (.int .i64 (p3.length : Int)) (fun _ q => s_o3.row.lenVC q) ?_
        refine s_pure (.int .i64 ((p3.length : Int) + 1)) (fun _ q => ArithVC.mk (by omega) q) ?_
        refine s_call [.pointer (some ⟨p_c, 0, none⟩), .int .i64 ((p3.length : Int) + 1)] rfl (spec_l1Cur_pick_ok p_c t_c ((m_c + 102 + 200 * (2 - k) + 6 * (j : Int)) + 2) lo_c ((p3.length : Int) + 1) _ Ch50 (by omega)) ?_
        rintro _ h56 ⟨g55, rfl, qh56, Ch56, mh56⟩
        have zh56 := mh56.size
        have E57 := E51.new mh56 (fun b hb => .inl (by simp at hb; simp [hb]))
        refine s_pure (.int .i64 g55) (fun _ q => q) ?_
        refine s_nil ?_
        refine p_seqN ?_
        refine v_seq ?_
        have f58 := ((bxx46.mod mh50 (by simp; omega)).mod mh56 (by simp; omega))
        refine v_draw (DrawVC.hold ([b41]) ?_)
        refine d_pureT o3 (fun _ q => q) ?_
        refine d_pureT (.int .i64 g55) (fun _ q => q) ?_
        have f59 := ((((s_o3.ext eh42).mod mh45 (fun b hb hc => by simp at hc; have := lt_o3 b hb; omega)).mod mh50 (fun b hb hc => np_c_o3 (by simp at hc; rw [← hc]; exact hb))).mod mh56 (fun b hb hc => np_c_o3 (by simp at hc; rw [← hc]; exact hb)))
        obtain ⟨r60, hqr60, s_r60, bk_r60⟩ := f59.row.toSl.slc (l := 0) (m := (g55).toNat) (by first | omega | (simp; omega)) (by first | omega | (simp; omega))
        simp only [List.drop_zero, List.take_length] at s_r60
        have lt_r60 := s_r60.lt
        refine d_pureT r60 (fun K q => hqr60 _ rfl none (some (.int .i64 g55)) rfl ⟨_, _, rfl, (by omega)⟩ K q) ?_
        refine d_pureT o3 (fun _ q => q) ?_
        refine d_pureT (.int .i64 g55) (fun _ q => q) ?_
        obtain ⟨r61, hqr61, s_r61, bk_r61⟩ := f59.row.toSl.slc (l := (g55).toNat) (m := p3.length) (by first | omega | (simp; omega)) (by first | omega | (simp; omega))
        simp only [List.drop_zero, List.take_length] at s_r61
        have lt_r61 := s_r61.lt
        refine d_pureT r61 (fun K q => hqr61 _ rfl (some (.int .i64 g55)) none ⟨_, _, rfl, (by omega)⟩ rfl K q) ?_
        refine d_loadT (.agg #[.int .i64 x39.message, .int .i64 x39.part, .int .i64 x39.parts, x39.sv.v]) (fun _ q => f58.takeA (by simp) rfl q) ?_
        refine d_fork ?_ ?_
        ·
          refine d_eff ?_
          refine s_row (α := Pk) [] (fun _ q => seg_nil q) rfl (by simp [maxLen]) (fun r62 h63 eh63 zh63 s_r62 fr_r62 => ?_)
          have E64 := E57.trans (Mod.of_ext eh63 _)
          have z65 := eh63.size
          have G66 := eh63
          have lt_r62 := s_r62.lt
          refine s_nil ⟨fun _ x hx => G66.blk x (by simp at hx; omega), ?_⟩
          refine d_fork ?_ ?_
          ·
            refine d_eff ?_
            have f67 := (s_r60.ext eh63)
            refine s_app s_r62 f67 rfl rfl rfl (by first | (simp [maxLen]; omega) | (have := hs4 x39 (List.mem_of_getElem? hx39); simp [maxLen]; omega)) (by first | (simp; omega) | (have := hs4 x39 (List.mem_of_getElem? hx39); simp; omega)) (fun r68 h69 mh69 zh69 s_r68 ab_r68 => ?_)
            have E70 := E64.new mh69 (fun b hb => .inr (by have := fr_r62 b hb; omega))
            have G71 := G66.mod mh69 (fun b hb => by have := fr_r62 b hb; omega)
            have fr_r68 := fr_r62.app ab_r68 (by omega)
            have lt_r68 := s_r68.lt
            refine s_nil ⟨fun _ x hx => G71.blk x (by simp at hx; omega), ?_⟩
            refine d_eff ?_
            refine s_row (α := Pk) [(⟨x39.message, x39.part, x39.parts, x39.sv, x39.sig⟩ : Pk)] (fun _ q => seg_agg rfl rfl (seg_nil q)) rfl (by simp [maxLen]) (fun r72 h73 eh73 zh73 s_r72 fr_r72 => ?_)
            have E74 := E70.trans (Mod.of_ext eh73 _)
            have z75 := eh73.size
            have G76 := G71.trans eh73
            have lt_r72 := s_r72.lt
            refine s_nil ⟨fun _ x hx => G76.blk x (by simp at hx; omega), ?_⟩
            refine d_eff ?_
            have f77 := (s_r68.ext eh73)
            refine s_app f77 s_r72 rfl rfl rfl (by first | (simp [maxLen]; omega) | (have := hs4 x39 (List.mem_of_getElem? hx39); simp [maxLen]; omega)) (by first | (simp; omega) | (have := hs4 x39 (List.mem_of_getElem? hx39); simp; omega)) (fun r78 h79 mh79 zh79 s_r78 ab_r78 => ?_)
            have E80 := E74.new mh79 (fun b hb => .inr (by have := fr_r68 b hb; omega))
            have G81 := G76.mod mh79 (fun b hb => by have := fr_r68 b hb; omega)
            have fr_r78 := fr_r68.app ab_r78 (by omega)
            have np82 : ∀ b ∈ blks r72, b ∉ blks r78 := fun b hb hc => (ab_r78 _ hc).elim (((fun b hb hc => by have := fr_r72 b hb; have := lt_r68 b hc; omega) : ∀ b ∈ blks r72, b ∉ blks r68) b hb) (fun hc => by have := lt_r72 b hb; omega)
            have lt_r78 := s_r78.lt
            refine s_nil ⟨fun _ x hx => G81.blk x (by simp at hx; omega), ?_⟩
            refine d_eff ?_
            have f83 := ((((s_r61.ext eh63).mod mh69 (fun b hb hc => by have := (fun b hb => lt_o3 b (mem_fpts.2 (.inl (bk_r61 b hb)))) b hb; have := fr_r62 b hc; omega)).ext eh73).mod mh79 (fun b hb hc => by have := (fun b hb => lt_o3 b (mem_fpts.2 (.inl (bk_r61 b hb)))) b hb; have := fr_r68 b hc; omega))
            refine s_app s_r78 f83 rfl rfl rfl (by first | (simp [maxLen]; omega) | (have := hs4 x39 (List.mem_of_getElem? hx39); simp [maxLen]; omega)) (by first | (simp; omega) | (have := hs4 x39 (List.mem_of_getElem? hx39); simp; omega)) (fun r84 h85 mh85 zh85 s_r84 ab_r84 => ?_)
            have E86 := E80.new mh85 (fun b hb => .inr (by have := fr_r78 b hb; omega))
            have G87 := G81.mod mh85 (fun b hb => by have := fr_r78 b hb; omega)
            have fr_r84 := fr_r78.app ab_r84 (by omega)
            have np88 : ∀ b ∈ blks r72, b ∉ blks r84 := fun b hb hc => (ab_r84 _ hc).elim ((np82 : ∀ b ∈ blks r72, b ∉ blks r78) b hb) (fun hc => by have := lt_r72 b hb; omega)
            have np89 : ∀ b ∈ blks r72, b ∉ blks r84 := fun b hb hc => (ab_r84 _ hc).elim ((np82 : ∀ b ∈ blks r72, b ∉ blks r78) b hb) (fun hc => by have := lt_r72 b hb; omega)
            have lt_r84 := s_r84.lt
            have f90 := (((((f59.ext eh63).mod mh69 (fun b hb hc => by have := lt_o3 b hb; have := fr_r62 b hc; omega)).ext eh73).mod mh79 (fun b hb hc => by have := lt_o3 b hb; have := fr_r68 b hc; omega)).mod mh85 (fun b hb hc => by have := lt_o3 b hb; have := fr_r78 b hc; omega))
            have f91 := (((((((((s40.ext eh42).mod mh45 (fun b hb hc => by simp at hc; have := (fun b hb => ltk_r27 b (mem_fpts.2 (.inr ⟨x39, List.mem_of_getElem? hx39, hb⟩))) b hb; omega)).mod mh50 (fun b hb hc => by simp at hc; have := (fun b hb => fr_r27 b (mem_fpts.2 (.inr ⟨x39, List.mem_of_getElem? hx39, hb⟩))) b hb; omega)).mod mh56 (fun b hb hc => by simp at hc; have := (fun b hb => fr_r27 b (mem_fpts.2 (.inr ⟨x39, List.mem_of_getElem? hx39, hb⟩))) b hb; omega)).ext eh63).mod mh69 (fun b hb hc => by have := (fun b hb => ltk_r27 b (mem_fpts.2 (.inr ⟨x39, List.mem_of_getElem? hx39, hb⟩))) b hb; have := fr_r62 b hc; omega)).ext eh73).mod mh79 (fun b hb hc => by have := (fun b hb => ltk_r27 b (mem_fpts.2 (.inr ⟨x39, List.mem_of_getElem? hx39, hb⟩))) b hb; have := fr_r68 b hc; omega)).mod mh85 (fun b hb hc => by have := (fun b hb => ltk_r27 b (mem_fpts.2 (.inr ⟨x39, List.mem_of_getElem? hx39, hb⟩))) b hb; have := fr_r78 b hc; omega))
            have D92 := RdO.mid (k := ((g55).toNat)) (e := (⟨x39.message, x39.part, x39.parts, x39.sv, x39.sig⟩ : Pk)) f90 f91 (fun b hb => by have := (fun b hb => fr_r27 b (mem_fpts.2 (.inr ⟨x39, List.mem_of_getElem? hx39, hb⟩))) b hb; omega) (sl_eq s_r84 (by simp)) fr_r84 (by omega) (fun b hb => by have := lt_o3 b hb; omega) (fun b hb => by have := (fun b hb => ltk_r27 b (mem_fpts.2 (.inr ⟨x39, List.mem_of_getElem? hx39, hb⟩))) b hb; omega)
            have lt_r84d := D92.lt
            have fr_r84d := D92.fr
            refine s_nil ⟨fun _ x hx => G87.blk x (by simp at hx; omega), ?_⟩
            refine d_pureT r84 (fun _ q => q) ?_
            refine d_done ?_
            refine p_seqN ?_
            refine v_seq ?_
            refine v_ops ?_
            refine s_pure (.pointer (some ⟨p_c, 0, none⟩)) (fun _ q => q) ?_
            have f93 := (((((Ch56.ext eh63).mod mh69 (fun hc => by have := fr_r62 _ hc; omega) (fun b hb => by have := fr_r62 b hb; omega)).ext eh73).mod mh79 (fun hc => by have := fr_r68 _ hc; omega) (fun b hb => by have := fr_r68 b hb; omega)).mod mh85 (fun hc => by have := fr_r78 _ hc; omega) (fun b hb => by have := fr_r78 b hb; omega))
            refine s_call [.pointer (some ⟨p_c, 0, none⟩), .int .i64 6] rfl (spec_l1Cur_one_ok p_c t_c (((m_c + 102 + 200 * (2 - k) + 6 * (j : Int)) + 2) + 2) lo_c 6 _ f93 (by omega)) ?_
            rintro _ h95 ⟨g94, rfl, Ch95, mh95⟩
            have zh95 := mh95.size
            have E96 := E86.new mh95 (fun b hb => .inl (by simp at hb; simp [hb]))
            refine s_nil ?_
            refine p_seqN ?_
            refine v_cond rfl (fun c97 => ?_) (fun c97 => ?_)
            ·
              refine v_ops ?_
              refine s_pure r84 (fun _ q => q) ?_
              have f98 := ((((((f58.ext eh63).mod mh69 (fun hc => by have := fr_r62 _ hc; omega)).ext eh73).mod mh79 (fun hc => by have := fr_r68 _ hc; omega)).mod mh85 (fun hc => by have := fr_r78 _ hc; omega)).mod mh95 (by simp; omega))
              refine s_load (.agg #[.int .i64 x39.message, .int .i64 x39.part, .int .i64 x39.parts, x39.sv.v]) (fun _ q => f98.loadA rfl q) ?_
              have f99 := (f91.mod mh95 (fun b hb hc => by simp at hc; have := (fun b hb => fr_r27 b (mem_fpts.2 (.inr ⟨x39, List.mem_of_getElem? hx39, hb⟩))) b hb; omega))
              refine s_call [.agg #[.int .i64 x39.message, .int .i64 x39.part, .int .i64 x39.parts, x39.sv.v]] rfl (spec_pkOwn_ok (Pk.p x39) x39.sv.v _ f99 (Nat.le_trans (hx8 _ (List.mem_of_getElem? (by assumption))) (by omega))) ?_
              rintro _ h101 ⟨r100, rfl, s_r100, fr_r100, eh101⟩
              have E102 := E96.trans (Mod.of_ext eh101 _)
              have z103 := eh101.size
              have lt_r100 := s_r100.lt
              obtain ⟨sv104, rfl⟩ := s_r100.sv
              refine s_row (α := Pk) [(⟨(Pk.p x39).message, (Pk.p x39).part, (Pk.p x39).parts, sv104, (Pk.p x39).signals⟩ : Pk)] (fun _ q => seg_agg rfl rfl (seg_nil q)) rfl (by simp [maxLen]) (fun r105 h106 eh106 zh106 s_r105 fr_r105 => ?_)
              have E107 := E102.trans (Mod.of_ext eh106 _)
              have z108 := eh106.size
              have lt_r105 := s_r105.lt
              have f111 := (s_r100.ext eh106)
              have f112 := (((D92.mod mh95 (fun b hb hc => by simp at hc; have := fr_r84d b hb; omega)).ext eh101).ext eh106)
              refine s_app f112.row s_r105 rfl rfl rfl (by first | (simp [maxLen]; omega) | (have := hs4 x39 (List.mem_of_getElem? hx39); simp [maxLen]; omega)) (by first | (simp; omega) | (have := hs4 x39 (List.mem_of_getElem? hx39); simp; omega)) (fun r109 h110 mh110 zh110 s_r109 ab_r109 => ?_)
              have D_r109 := RdO.snoc (e := (⟨(Pk.p x39).message, (Pk.p x39).part, (Pk.p x39).parts, sv104, (Pk.p x39).signals⟩ : Pk)) f112 f111 (fr_r100.mono (by omega)) (fun b hb hc => by have := fr_r100 b hb; have := (fun b hb => lt_r84d b (mem_fpts.2 (.inl hb))) b hc; omega) (by omega) mh110 s_r109 ab_r109
              have E113 := E107.new mh110 (fun b hb => .inr (by have := (fun b hb => fr_r84d b (mem_fpts.2 (.inl hb))) b hb; omega))
              have lt_r109 := D_r109.lt
              have fr_r109 := D_r109.fr
              have np114 : p_c ∉ fpts r109 ((p3.take ((g55).toNat) ++ [(⟨x39.message, x39.part, x39.parts, x39.sv, x39.sig⟩ : Pk)] ++ p3.drop ((g55).toNat)) ++ [(⟨(Pk.p x39).message, (Pk.p x39).part, (Pk.p x39).parts, sv104, (Pk.p x39).signals⟩ : Pk)]) := DeepO.snocOut ab_r109 (fun hc => by have := fr_r84d _ hc; omega) (fun hc => by have := fr_r100 _ hc; omega) (by omega)
              have np115 : ∀ b ∈ fpts r27 qr27, b ∉ blks r109 := fun b hb hc => (ab_r109 b hc).elim (((fun b hb hc => by have := ltk_r27 b hb; have := fr_r84 b hc; omega) : ∀ b ∈ fpts r27 qr27, b ∉ blks r84) b hb) (fun hc => by have := ltk_r27 b hb; omega)
              have np116 : ∀ b ∈ fpts o3 p3, b ∉ blks r109 := fun b hb hc => (ab_r109 b hc).elim (((fun b hb hc => by have := lt_o3 b hb; have := fr_r84 b hc; omega) : ∀ b ∈ fpts o3 p3, b ∉ blks r84) b hb) (fun hc => by have := lt_o3 b hb; omega)
              have np117 : ∀ b ∈ blks x39.sv.v, b ∉ blks r109 := fun b hb hc => (ab_r109 b hc).elim (((fun b hb hc => by have := (fun b hb => ltk_r27 b (mem_fpts.2 (.inr ⟨x39, List.mem_of_getElem? hx39, hb⟩))) b hb; have := fr_r84 b hc; omega) : ∀ b ∈ blks x39.sv.v, b ∉ blks r84) b hb) (fun hc => by have := (fun b hb => ltk_r27 b (mem_fpts.2 (.inr ⟨x39, List.mem_of_getElem? hx39, hb⟩))) b hb; omega)
              have np118 : ∀ b ∈ blks r60, b ∉ blks r109 := fun b hb hc => (ab_r109 b hc).elim (((fun b hb hc => by have := (fun b hb => lt_o3 b (mem_fpts.2 (.inl (bk_r60 b hb)))) b hb; have := fr_r84 b hc; omega) : ∀ b ∈ blks r60, b ∉ blks r84) b hb) (fun hc => by have := (fun b hb => lt_o3 b (mem_fpts.2 (.inl (bk_r60 b hb)))) b hb; omega)
              have np119 : ∀ b ∈ blks r61, b ∉ blks r109 := fun b hb hc => (ab_r109 b hc).elim (((fun b hb hc => by have := (fun b hb => lt_o3 b (mem_fpts.2 (.inl (bk_r61 b hb)))) b hb; have := fr_r84 b hc; omega) : ∀ b ∈ blks r61, b ∉ blks r84) b hb) (fun hc => by have := (fun b hb => lt_o3 b (mem_fpts.2 (.inl (bk_r61 b hb)))) b hb; omega)
              refine s_pure r109 (fun _ q => q) ?_
              refine s_nil ?_
              refine p_blkN ?_
              refine p_seqN ?_
              refine v_ops ?_
              refine s_pure (.int .i64 ((j : Int) + 1)) (fun _ q => ArithVC.mk (by omega) q) ?_
              refine s_pure (.int .i64 ((j : Int) + 1)) (fun _ q => q) ?_
              refine s_nil ?_
              have f120 := (((Ch95.ext eh101).ext eh106).mod mh110 (fun hc => by have := (fun b hb => fr_r84d b (mem_fpts.2 (.inl hb))) _ hc; omega) (fun b hb => by have := fr_r84d b (mem_fpts.2 (.inl hb)); omega))
              have f121 := (((((((((((((s_r27.ext eh42).mod mh45 (fun b hb hc => by simp at hc; have := ltk_r27 b hb; have := lt_r27 b hb; omega)).mod mh50 (fun b hb hc => nk32 (by simp at hc; rw [← hc]; exact hb))).mod mh56 (fun b hb hc => nk32 (by simp at hc; rw [← hc]; exact hb))).ext eh63).mod mh69 (fun b hb hc => by have := ltk_r27 b hb; have := lt_r27 b hb; have := fr_r62 b hc; omega)).ext eh73).mod mh79 (fun b hb hc => by have := ltk_r27 b hb; have := lt_r27 b hb; have := fr_r68 b hc; omega)).mod mh85 (fun b hb hc => by have := ltk_r27 b hb; have := lt_r27 b hb; have := fr_r78 b hc; omega)).mod mh95 (fun b hb hc => nk32 (by simp at hc; rw [← hc]; exact hb))).ext eh101).ext eh106).mod mh110 (fun b hb hc => by have := ltk_r27 b hb; have := fr_r84 b hc; omega))
              exact p_lpN ⟨j + 1, ((p3.take ((g55).toNat) ++ [(⟨x39.message, x39.part, x39.parts, x39.sv, x39.sig⟩ : Pk)] ++ p3.drop ((g55).toNat)) ++ [(⟨(Pk.p x39).message, (Pk.p x39).part, (Pk.p x39).parts, sv104, (Pk.p x39).signals⟩ : Pk)]), r109, ⟨rfl, rfl, rfl, rfl, rfl, rfl⟩, ⟨E113, (f120.le (by first | omega | (simp; done) | (simp; omega))), (D_r109.mono (by omega)), (f121.mono (by omega)), np114, np115, (by first | exact ⟨by omega, by omega, hs3⟩ | exact ⟨by omega, by simp; omega, rd_mid hs3 (hx8 x39 (List.mem_of_getElem? hx39))⟩ | exact ⟨by omega, by simp; omega, rd_snoc (rd_mid hs3 (hx8 x39 (List.mem_of_getElem? hx39))) (hx8 x39 (List.mem_of_getElem? hx39))⟩)⟩, by omega⟩
            ·
              refine v_skip ?_
              refine p_blkN ?_
              refine p_seqN ?_
              refine v_ops ?_
              refine s_pure (.int .i64 ((j : Int) + 1)) (fun _ q => ArithVC.mk (by omega) q) ?_
              refine s_pure (.int .i64 ((j : Int) + 1)) (fun _ q => q) ?_
              refine s_nil ?_
              have f122 := (D92.mod mh95 (fun b hb hc => by simp at hc; have := fr_r84d b hb; omega))
              have f123 := ((((((((((s_r27.ext eh42).mod mh45 (fun b hb hc => by simp at hc; have := ltk_r27 b hb; have := lt_r27 b hb; omega)).mod mh50 (fun b hb hc => nk32 (by simp at hc; rw [← hc]; exact hb))).mod mh56 (fun b hb hc => nk32 (by simp at hc; rw [← hc]; exact hb))).ext eh63).mod mh69 (fun b hb hc => by have := ltk_r27 b hb; have := lt_r27 b hb; have := fr_r62 b hc; omega)).ext eh73).mod mh79 (fun b hb hc => by have := ltk_r27 b hb; have := lt_r27 b hb; have := fr_r68 b hc; omega)).mod mh85 (fun b hb hc => by have := ltk_r27 b hb; have := lt_r27 b hb; have := fr_r78 b hc; omega)).mod mh95 (fun b hb hc => nk32 (by simp at hc; rw [← hc]; exact hb)))
              exact p_lpN ⟨j + 1, (p3.take ((g55).toNat) ++ [(⟨x39.message, x39.part, x39.parts, x39.sv, x39.sig⟩ : Pk)] ++ p3.drop ((g55).toNat)), r84, ⟨rfl, rfl, rfl, rfl, rfl, rfl⟩, ⟨E96, (Ch95.le (by first | omega | (simp; done) | (simp; omega))), (f122.mono (by omega)), (f123.mono (by omega)), (fun hc => by have := fr_r84d _ hc; omega), (fun b hb hc => by have := ltk_r27 b hb; have := fr_r84 b hc; omega), (by first | exact ⟨by omega, by omega, hs3⟩ | exact ⟨by omega, by simp; omega, rd_mid hs3 (hx8 x39 (List.mem_of_getElem? hx39))⟩ | exact ⟨by omega, by simp; omega, rd_snoc (rd_mid hs3 (hx8 x39 (List.mem_of_getElem? hx39))) (hx8 x39 (List.mem_of_getElem? hx39))⟩)⟩, by omega⟩
          ·
            refine d_eff ?_
            refine s_row (α := Pk) [(⟨x39.message, x39.part, x39.parts, x39.sv, x39.sig⟩ : Pk)] (fun _ q => seg_agg rfl rfl (seg_nil q)) rfl (by simp [maxLen]) (fun r124 h125 eh125 zh125 s_r124 fr_r124 => ?_)
            have E126 := E64.trans (Mod.of_ext eh125 _)
            have z127 := eh125.size
            have G128 := G66.trans eh125
            have lt_r124 := s_r124.lt
            refine s_nil ⟨fun _ x hx => G128.blk x (by simp at hx; omega), ?_⟩
            refine d_eff ?_
            have f129 := (s_r62.ext eh125)
            have f130 := ((s_r60.ext eh63).ext eh125)
            refine s_app f129 f130 rfl rfl rfl (by first | (simp [maxLen]; omega) | (have := hs4 x39 (List.mem_of_getElem? hx39); simp [maxLen]; omega)) (by first | (simp; omega) | (have := hs4 x39 (List.mem_of_getElem? hx39); simp; omega)) (fun r131 h132 mh132 zh132 s_r131 ab_r131 => ?_)
            have E133 := E126.new mh132 (fun b hb => .inr (by have := fr_r62 b hb; omega))
            have G134 := G128.mod mh132 (fun b hb => by have := fr_r62 b hb; omega)
            have fr_r131 := fr_r62.app ab_r131 (by omega)
            have np135 : ∀ b ∈ blks r124, b ∉ blks r131 := fun b hb hc => (ab_r131 _ hc).elim (((fun b hb hc => by have := fr_r124 b hb; have := lt_r62 b hc; omega) : ∀ b ∈ blks r124, b ∉ blks r62) b hb) (fun hc => by have := lt_r124 b hb; omega)
            have lt_r131 := s_r131.lt
            refine s_nil ⟨fun _ x hx => G134.blk x (by simp at hx; omega), ?_⟩
            refine d_eff ?_
            have f136 := (s_r124.mod mh132 (fun b hb hc => by have := fr_r124 b hb; have := lt_r62 b hc; omega))
            refine s_app s_r131 f136 rfl rfl rfl (by first | (simp [maxLen]; omega) | (have := hs4 x39 (List.mem_of_getElem? hx39); simp [maxLen]; omega)) (by first | (simp; omega) | (have := hs4 x39 (List.mem_of_getElem? hx39); simp; omega)) (fun r137 h138 mh138 zh138 s_r137 ab_r137 => ?_)
            have E139 := E133.new mh138 (fun b hb => .inr (by have := fr_r131 b hb; omega))
            have G140 := G134.mod mh138 (fun b hb => by have := fr_r131 b hb; omega)
            have fr_r137 := fr_r131.app ab_r137 (by omega)
            have np141 : ∀ b ∈ blks r124, b ∉ blks r137 := fun b hb hc => (ab_r137 _ hc).elim ((np135 : ∀ b ∈ blks r124, b ∉ blks r131) b hb) (fun hc => by have := lt_r124 b hb; omega)
            have np142 : ∀ b ∈ blks r124, b ∉ blks r137 := fun b hb hc => (ab_r137 _ hc).elim ((np135 : ∀ b ∈ blks r124, b ∉ blks r131) b hb) (fun hc => by have := lt_r124 b hb; omega)
            have lt_r137 := s_r137.lt
            refine s_nil ⟨fun _ x hx => G140.blk x (by simp at hx; omega), ?_⟩
            refine d_eff ?_
            have f143 := ((((s_r61.ext eh63).ext eh125).mod mh132 (fun b hb hc => by have := (fun b hb => lt_o3 b (mem_fpts.2 (.inl (bk_r61 b hb)))) b hb; have := fr_r62 b hc; omega)).mod mh138 (fun b hb hc => by have := (fun b hb => lt_o3 b (mem_fpts.2 (.inl (bk_r61 b hb)))) b hb; have := fr_r131 b hc; omega))
            refine s_app s_r137 f143 rfl rfl rfl (by first | (simp [maxLen]; omega) | (have := hs4 x39 (List.mem_of_getElem? hx39); simp [maxLen]; omega)) (by first | (simp; omega) | (have := hs4 x39 (List.mem_of_getElem? hx39); simp; omega)) (fun r144 h145 mh145 zh145 s_r144 ab_r144 => ?_)
            have E146 := E139.new mh145 (fun b hb => .inr (by have := fr_r137 b hb; omega))
            have G147 := G140.mod mh145 (fun b hb => by have := fr_r137 b hb; omega)
            have fr_r144 := fr_r137.app ab_r144 (by omega)
            have np148 : ∀ b ∈ blks r124, b ∉ blks r144 := fun b hb hc => (ab_r144 _ hc).elim ((np142 : ∀ b ∈ blks r124, b ∉ blks r137) b hb) (fun hc => by have := lt_r124 b hb; omega)
            have np149 : ∀ b ∈ blks r124, b ∉ blks r144 := fun b hb hc => (ab_r144 _ hc).elim ((np142 : ∀ b ∈ blks r124, b ∉ blks r137) b hb) (fun hc => by have := lt_r124 b hb; omega)
            have lt_r144 := s_r144.lt
            have f150 := (((((f59.ext eh63).ext eh125).mod mh132 (fun b hb hc => by have := lt_o3 b hb; have := fr_r62 b hc; omega)).mod mh138 (fun b hb hc => by have := lt_o3 b hb; have := fr_r131 b hc; omega)).mod mh145 (fun b hb hc => by have := lt_o3 b hb; have := fr_r137 b hc; omega))
            have f151 := (((((((((s40.ext eh42).mod mh45 (fun b hb hc => by simp at hc; have := (fun b hb => ltk_r27 b (mem_fpts.2 (.inr ⟨x39, List.mem_of_getElem? hx39, hb⟩))) b hb; omega)).mod mh50 (fun b hb hc => by simp at hc; have := (fun b hb => fr_r27 b (mem_fpts.2 (.inr ⟨x39, List.mem_of_getElem? hx39, hb⟩))) b hb; omega)).mod mh56 (fun b hb hc => by simp at hc; have := (fun b hb => fr_r27 b (mem_fpts.2 (.inr ⟨x39, List.mem_of_getElem? hx39, hb⟩))) b hb; omega)).ext eh63).ext eh125).mod mh132 (fun b hb hc => by have := (fun b hb => ltk_r27 b (mem_fpts.2 (.inr ⟨x39, List.mem_of_getElem? hx39, hb⟩))) b hb; have := fr_r62 b hc; omega)).mod mh138 (fun b hb hc => by have := (fun b hb => ltk_r27 b (mem_fpts.2 (.inr ⟨x39, List.mem_of_getElem? hx39, hb⟩))) b hb; have := fr_r131 b hc; omega)).mod mh145 (fun b hb hc => by have := (fun b hb => ltk_r27 b (mem_fpts.2 (.inr ⟨x39, List.mem_of_getElem? hx39, hb⟩))) b hb; have := fr_r137 b hc; omega))
            have D152 := RdO.mid (k := ((g55).toNat)) (e := (⟨x39.message, x39.part, x39.parts, x39.sv, x39.sig⟩ : Pk)) f150 f151 (fun b hb => by have := (fun b hb => fr_r27 b (mem_fpts.2 (.inr ⟨x39, List.mem_of_getElem? hx39, hb⟩))) b hb; omega) (sl_eq s_r144 (by simp)) fr_r144 (by omega) (fun b hb => by have := lt_o3 b hb; omega) (fun b hb => by have := (fun b hb => ltk_r27 b (mem_fpts.2 (.inr ⟨x39, List.mem_of_getElem? hx39, hb⟩))) b hb; omega)
            have lt_r144d := D152.lt
            have fr_r144d := D152.fr
            refine s_nil ⟨fun _ x hx => G147.blk x (by simp at hx; omega), ?_⟩
            refine d_pureT r144 (fun _ q => q) ?_
            refine d_done ?_
            refine p_seqN ?_
            refine v_seq ?_
            refine v_ops ?_
            refine s_pure (.pointer (some ⟨p_c, 0, none⟩)) (fun _ q => q) ?_
            have f153 := (((((Ch56.ext eh63).ext eh125).mod mh132 (fun hc => by have := fr_r62 _ hc; omega) (fun b hb => by have := fr_r62 b hb; omega)).mod mh138 (fun hc => by have := fr_r131 _ hc; omega) (fun b hb => by have := fr_r131 b hb; omega)).mod mh145 (fun hc => by have := fr_r137 _ hc; omega) (fun b hb => by have := fr_r137 b hb; omega))
            refine s_call [.pointer (some ⟨p_c, 0, none⟩), .int .i64 6] rfl (spec_l1Cur_one_ok p_c t_c (((m_c + 102 + 200 * (2 - k) + 6 * (j : Int)) + 2) + 2) lo_c 6 _ f153 (by omega)) ?_
            rintro _ h155 ⟨g154, rfl, Ch155, mh155⟩
            have zh155 := mh155.size
            have E156 := E146.new mh155 (fun b hb => .inl (by simp at hb; simp [hb]))
            refine s_nil ?_
            refine p_seqN ?_
            refine v_cond rfl (fun c157 => ?_) (fun c157 => ?_)
            ·
              refine v_ops ?_
              refine s_pure r144 (fun _ q => q) ?_
              have f158 := ((((((f58.ext eh63).ext eh125).mod mh132 (fun hc => by have := fr_r62 _ hc; omega)).mod mh138 (fun hc => by have := fr_r131 _ hc; omega)).mod mh145 (fun hc => by have := fr_r137 _ hc; omega)).mod mh155 (by simp; omega))
              refine s_load (.agg #[.int .i64 x39.message, .int .i64 x39.part, .int .i64 x39.parts, x39.sv.v]) (fun _ q => f158.loadA rfl q) ?_
              have f159 := (f151.mod mh155 (fun b hb hc => by simp at hc; have := (fun b hb => fr_r27 b (mem_fpts.2 (.inr ⟨x39, List.mem_of_getElem? hx39, hb⟩))) b hb; omega))
              refine s_call [.agg #[.int .i64 x39.message, .int .i64 x39.part, .int .i64 x39.parts, x39.sv.v]] rfl (spec_pkOwn_ok (Pk.p x39) x39.sv.v _ f159 (Nat.le_trans (hx8 _ (List.mem_of_getElem? (by assumption))) (by omega))) ?_
              rintro _ h161 ⟨r160, rfl, s_r160, fr_r160, eh161⟩
              have E162 := E156.trans (Mod.of_ext eh161 _)
              have z163 := eh161.size
              have lt_r160 := s_r160.lt
              obtain ⟨sv164, rfl⟩ := s_r160.sv
              refine s_row (α := Pk) [(⟨(Pk.p x39).message, (Pk.p x39).part, (Pk.p x39).parts, sv164, (Pk.p x39).signals⟩ : Pk)] (fun _ q => seg_agg rfl rfl (seg_nil q)) rfl (by simp [maxLen]) (fun r165 h166 eh166 zh166 s_r165 fr_r165 => ?_)
              have E167 := E162.trans (Mod.of_ext eh166 _)
              have z168 := eh166.size
              have lt_r165 := s_r165.lt
              have f171 := (s_r160.ext eh166)
              have f172 := (((D152.mod mh155 (fun b hb hc => by simp at hc; have := fr_r144d b hb; omega)).ext eh161).ext eh166)
              refine s_app f172.row s_r165 rfl rfl rfl (by first | (simp [maxLen]; omega) | (have := hs4 x39 (List.mem_of_getElem? hx39); simp [maxLen]; omega)) (by first | (simp; omega) | (have := hs4 x39 (List.mem_of_getElem? hx39); simp; omega)) (fun r169 h170 mh170 zh170 s_r169 ab_r169 => ?_)
              have D_r169 := RdO.snoc (e := (⟨(Pk.p x39).message, (Pk.p x39).part, (Pk.p x39).parts, sv164, (Pk.p x39).signals⟩ : Pk)) f172 f171 (fr_r160.mono (by omega)) (fun b hb hc => by have := fr_r160 b hb; have := (fun b hb => lt_r144d b (mem_fpts.2 (.inl hb))) b hc; omega) (by omega) mh170 s_r169 ab_r169
              have E173 := E167.new mh170 (fun b hb => .inr (by have := (fun b hb => fr_r144d b (mem_fpts.2 (.inl hb))) b hb; omega))
              have lt_r169 := D_r169.lt
              have fr_r169 := D_r169.fr
              have np174 : p_c ∉ fpts r169 ((p3.take ((g55).toNat) ++ [(⟨x39.message, x39.part, x39.parts, x39.sv, x39.sig⟩ : Pk)] ++ p3.drop ((g55).toNat)) ++ [(⟨(Pk.p x39).message, (Pk.p x39).part, (Pk.p x39).parts, sv164, (Pk.p x39).signals⟩ : Pk)]) := DeepO.snocOut ab_r169 (fun hc => by have := fr_r144d _ hc; omega) (fun hc => by have := fr_r160 _ hc; omega) (by omega)
              have np175 : ∀ b ∈ fpts r27 qr27, b ∉ blks r169 := fun b hb hc => (ab_r169 b hc).elim (((fun b hb hc => by have := ltk_r27 b hb; have := fr_r144 b hc; omega) : ∀ b ∈ fpts r27 qr27, b ∉ blks r144) b hb) (fun hc => by have := ltk_r27 b hb; omega)
              have np176 : ∀ b ∈ fpts o3 p3, b ∉ blks r169 := fun b hb hc => (ab_r169 b hc).elim (((fun b hb hc => by have := lt_o3 b hb; have := fr_r144 b hc; omega) : ∀ b ∈ fpts o3 p3, b ∉ blks r144) b hb) (fun hc => by have := lt_o3 b hb; omega)
              have np177 : ∀ b ∈ blks x39.sv.v, b ∉ blks r169 := fun b hb hc => (ab_r169 b hc).elim (((fun b hb hc => by have := (fun b hb => ltk_r27 b (mem_fpts.2 (.inr ⟨x39, List.mem_of_getElem? hx39, hb⟩))) b hb; have := fr_r144 b hc; omega) : ∀ b ∈ blks x39.sv.v, b ∉ blks r144) b hb) (fun hc => by have := (fun b hb => ltk_r27 b (mem_fpts.2 (.inr ⟨x39, List.mem_of_getElem? hx39, hb⟩))) b hb; omega)
              have np178 : ∀ b ∈ blks r60, b ∉ blks r169 := fun b hb hc => (ab_r169 b hc).elim (((fun b hb hc => by have := (fun b hb => lt_o3 b (mem_fpts.2 (.inl (bk_r60 b hb)))) b hb; have := fr_r144 b hc; omega) : ∀ b ∈ blks r60, b ∉ blks r144) b hb) (fun hc => by have := (fun b hb => lt_o3 b (mem_fpts.2 (.inl (bk_r60 b hb)))) b hb; omega)
              have np179 : ∀ b ∈ blks r61, b ∉ blks r169 := fun b hb hc => (ab_r169 b hc).elim (((fun b hb hc => by have := (fun b hb => lt_o3 b (mem_fpts.2 (.inl (bk_r61 b hb)))) b hb; have := fr_r144 b hc; omega) : ∀ b ∈ blks r61, b ∉ blks r144) b hb) (fun hc => by have := (fun b hb => lt_o3 b (mem_fpts.2 (.inl (bk_r61 b hb)))) b hb; omega)
              refine s_pure r169 (fun _ q => q) ?_
              refine s_nil ?_
              refine p_blkN ?_
              refine p_seqN ?_
              refine v_ops ?_
              refine s_pure (.int .i64 ((j : Int) + 1)) (fun _ q => ArithVC.mk (by omega) q) ?_
              refine s_pure (.int .i64 ((j : Int) + 1)) (fun _ q => q) ?_
              refine s_nil ?_
              have f180 := (((Ch155.ext eh161).ext eh166).mod mh170 (fun hc => by have := (fun b hb => fr_r144d b (mem_fpts.2 (.inl hb))) _ hc; omega) (fun b hb => by have := fr_r144d b (mem_fpts.2 (.inl hb)); omega))
              have f181 := (((((((((((((s_r27.ext eh42).mod mh45 (fun b hb hc => by simp at hc; have := ltk_r27 b hb; have := lt_r27 b hb; omega)).mod mh50 (fun b hb hc => nk32 (by simp at hc; rw [← hc]; exact hb))).mod mh56 (fun b hb hc => nk32 (by simp at hc; rw [← hc]; exact hb))).ext eh63).ext eh125).mod mh132 (fun b hb hc => by have := ltk_r27 b hb; have := lt_r27 b hb; have := fr_r62 b hc; omega)).mod mh138 (fun b hb hc => by have := ltk_r27 b hb; have := lt_r27 b hb; have := fr_r131 b hc; omega)).mod mh145 (fun b hb hc => by have := ltk_r27 b hb; have := lt_r27 b hb; have := fr_r137 b hc; omega)).mod mh155 (fun b hb hc => nk32 (by simp at hc; rw [← hc]; exact hb))).ext eh161).ext eh166).mod mh170 (fun b hb hc => by have := ltk_r27 b hb; have := fr_r144 b hc; omega))
              exact p_lpN ⟨j + 1, ((p3.take ((g55).toNat) ++ [(⟨x39.message, x39.part, x39.parts, x39.sv, x39.sig⟩ : Pk)] ++ p3.drop ((g55).toNat)) ++ [(⟨(Pk.p x39).message, (Pk.p x39).part, (Pk.p x39).parts, sv164, (Pk.p x39).signals⟩ : Pk)]), r169, ⟨rfl, rfl, rfl, rfl, rfl, rfl⟩, ⟨E173, (f180.le (by first | omega | (simp; done) | (simp; omega))), (D_r169.mono (by omega)), (f181.mono (by omega)), np174, np175, (by first | exact ⟨by omega, by omega, hs3⟩ | exact ⟨by omega, by simp; omega, rd_mid hs3 (hx8 x39 (List.mem_of_getElem? hx39))⟩ | exact ⟨by omega, by simp; omega, rd_snoc (rd_mid hs3 (hx8 x39 (List.mem_of_getElem? hx39))) (hx8 x39 (List.mem_of_getElem? hx39))⟩)⟩, by omega⟩
            ·
              refine v_skip ?_
              refine p_blkN ?_
              refine p_seqN ?_
              refine v_ops ?_
              refine s_pure (.int .i64 ((j : Int) + 1)) (fun _ q => ArithVC.mk (by omega) q) ?_
              refine s_pure (.int .i64 ((j : Int) + 1)) (fun _ q => q) ?_
              refine s_nil ?_
              have f182 := (D152.mod mh155 (fun b hb hc => by simp at hc; have := fr_r144d b hb; omega))
              have f183 := ((((((((((s_r27.ext eh42).mod mh45 (fun b hb hc => by simp at hc; have := ltk_r27 b hb; have := lt_r27 b hb; omega)).mod mh50 (fun b hb hc => nk32 (by simp at hc; rw [← hc]; exact hb))).mod mh56 (fun b hb hc => nk32 (by simp at hc; rw [← hc]; exact hb))).ext eh63).ext eh125).mod mh132 (fun b hb hc => by have := ltk_r27 b hb; have := lt_r27 b hb; have := fr_r62 b hc; omega)).mod mh138 (fun b hb hc => by have := ltk_r27 b hb; have := lt_r27 b hb; have := fr_r131 b hc; omega)).mod mh145 (fun b hb hc => by have := ltk_r27 b hb; have := lt_r27 b hb; have := fr_r137 b hc; omega)).mod mh155 (fun b hb hc => nk32 (by simp at hc; rw [← hc]; exact hb)))
              exact p_lpN ⟨j + 1, (p3.take ((g55).toNat) ++ [(⟨x39.message, x39.part, x39.parts, x39.sv, x39.sig⟩ : Pk)] ++ p3.drop ((g55).toNat)), r144, ⟨rfl, rfl, rfl, rfl, rfl, rfl⟩, ⟨E156, (Ch155.le (by first | omega | (simp; done) | (simp; omega))), (f182.mono (by omega)), (f183.mono (by omega)), (fun hc => by have := fr_r144d _ hc; omega), (fun b hb hc => by have := ltk_r27 b hb; have := fr_r144 b hc; omega), (by first | exact ⟨by omega, by omega, hs3⟩ | exact ⟨by omega, by simp; omega, rd_mid hs3 (hx8 x39 (List.mem_of_getElem? hx39))⟩ | exact ⟨by omega, by simp; omega, rd_snoc (rd_mid hs3 (hx8 x39 (List.mem_of_getElem? hx39))) (hx8 x39 (List.mem_of_getElem? hx39))⟩)⟩, by omega⟩
        ·
          refine d_eff ?_
          refine s_row (α := Pk) [(⟨x39.message, x39.part, x39.parts, x39.sv, x39.sig⟩ : Pk)] (fun _ q => seg_agg rfl rfl (seg_nil q)) rfl (by simp [maxLen]) (fun r184 h185 eh185 zh185 s_r184 fr_r184 => ?_)
          have E186 := E57.trans (Mod.of_ext eh185 _)
          have z187 := eh185.size
          have G188 := eh185
          have lt_r184 := s_r184.lt
          refine s_nil ⟨fun _ x hx => G188.blk x (by simp at hx; omega), ?_⟩
          refine d_eff ?_
          refine s_row (α := Pk) [] (fun _ q => seg_nil q) rfl (by simp [maxLen]) (fun r189 h190 eh190 zh190 s_r189 fr_r189 => ?_)
          have E191 := E186.trans (Mod.of_ext eh190 _)
          have z192 := eh190.size
          have G193 := G188.trans eh190
          have lt_r189 := s_r189.lt
          refine s_nil ⟨fun _ x hx => G193.blk x (by simp at hx; omega), ?_⟩
          refine d_eff ?_
          have f194 := ((s_r60.ext eh185).ext eh190)
          refine s_app s_r189 f194 rfl rfl rfl (by first | (simp [maxLen]; omega) | (have := hs4 x39 (List.mem_of_getElem? hx39); simp [maxLen]; omega)) (by first | (simp; omega) | (have := hs4 x39 (List.mem_of_getElem? hx39); simp; omega)) (fun r195 h196 mh196 zh196 s_r195 ab_r195 => ?_)
          have E197 := E191.new mh196 (fun b hb => .inr (by have := fr_r189 b hb; omega))
          have G198 := G193.mod mh196 (fun b hb => by have := fr_r189 b hb; omega)
          have fr_r195 := fr_r189.app ab_r195 (by omega)
          have lt_r195 := s_r195.lt
          refine s_nil ⟨fun _ x hx => G198.blk x (by simp at hx; omega), ?_⟩
          refine d_eff ?_
          have f199 := ((s_r184.ext eh190).mod mh196 (fun b hb hc => by have := lt_r184 b hb; have := fr_r189 b hc; omega))
          refine s_app s_r195 f199 rfl rfl rfl (by first | (simp [maxLen]; omega) | (have := hs4 x39 (List.mem_of_getElem? hx39); simp [maxLen]; omega)) (by first | (simp; omega) | (have := hs4 x39 (List.mem_of_getElem? hx39); simp; omega)) (fun r200 h201 mh201 zh201 s_r200 ab_r200 => ?_)
          have E202 := E197.new mh201 (fun b hb => .inr (by have := fr_r195 b hb; omega))
          have G203 := G198.mod mh201 (fun b hb => by have := fr_r195 b hb; omega)
          have fr_r200 := fr_r195.app ab_r200 (by omega)
          have lt_r200 := s_r200.lt
          refine s_nil ⟨fun _ x hx => G203.blk x (by simp at hx; omega), ?_⟩
          refine d_eff ?_
          have f204 := ((((s_r61.ext eh185).ext eh190).mod mh196 (fun b hb hc => by have := (fun b hb => lt_o3 b (mem_fpts.2 (.inl (bk_r61 b hb)))) b hb; have := fr_r189 b hc; omega)).mod mh201 (fun b hb hc => by have := (fun b hb => lt_o3 b (mem_fpts.2 (.inl (bk_r61 b hb)))) b hb; have := fr_r195 b hc; omega))
          refine s_app s_r200 f204 rfl rfl rfl (by first | (simp [maxLen]; omega) | (have := hs4 x39 (List.mem_of_getElem? hx39); simp [maxLen]; omega)) (by first | (simp; omega) | (have := hs4 x39 (List.mem_of_getElem? hx39); simp; omega)) (fun r205 h206 mh206 zh206 s_r205 ab_r205 => ?_)
          have E207 := E202.new mh206 (fun b hb => .inr (by have := fr_r200 b hb; omega))
          have G208 := G203.mod mh206 (fun b hb => by have := fr_r200 b hb; omega)
          have fr_r205 := fr_r200.app ab_r205 (by omega)
          have lt_r205 := s_r205.lt
          have f209 := (((((f59.ext eh185).ext eh190).mod mh196 (fun b hb hc => by have := lt_o3 b hb; have := fr_r189 b hc; omega)).mod mh201 (fun b hb hc => by have := lt_o3 b hb; have := fr_r195 b hc; omega)).mod mh206 (fun b hb hc => by have := lt_o3 b hb; have := fr_r200 b hc; omega))
          have f210 := (((((((((s40.ext eh42).mod mh45 (fun b hb hc => by simp at hc; have := (fun b hb => ltk_r27 b (mem_fpts.2 (.inr ⟨x39, List.mem_of_getElem? hx39, hb⟩))) b hb; omega)).mod mh50 (fun b hb hc => by simp at hc; have := (fun b hb => fr_r27 b (mem_fpts.2 (.inr ⟨x39, List.mem_of_getElem? hx39, hb⟩))) b hb; omega)).mod mh56 (fun b hb hc => by simp at hc; have := (fun b hb => fr_r27 b (mem_fpts.2 (.inr ⟨x39, List.mem_of_getElem? hx39, hb⟩))) b hb; omega)).ext eh185).ext eh190).mod mh196 (fun b hb hc => by have := (fun b hb => ltk_r27 b (mem_fpts.2 (.inr ⟨x39, List.mem_of_getElem? hx39, hb⟩))) b hb; have := fr_r189 b hc; omega)).mod mh201 (fun b hb hc => by have := (fun b hb => ltk_r27 b (mem_fpts.2 (.inr ⟨x39, List.mem_of_getElem? hx39, hb⟩))) b hb; have := fr_r195 b hc; omega)).mod mh206 (fun b hb hc => by have := (fun b hb => ltk_r27 b (mem_fpts.2 (.inr ⟨x39, List.mem_of_getElem? hx39, hb⟩))) b hb; have := fr_r200 b hc; omega))
          have D211 := RdO.mid (k := ((g55).toNat)) (e := (⟨x39.message, x39.part, x39.parts, x39.sv, x39.sig⟩ : Pk)) f209 f210 (fun b hb => by have := (fun b hb => fr_r27 b (mem_fpts.2 (.inr ⟨x39, List.mem_of_getElem? hx39, hb⟩))) b hb; omega) (sl_eq s_r205 (by simp)) fr_r205 (by omega) (fun b hb => by have := lt_o3 b hb; omega) (fun b hb => by have := (fun b hb => ltk_r27 b (mem_fpts.2 (.inr ⟨x39, List.mem_of_getElem? hx39, hb⟩))) b hb; omega)
          have lt_r205d := D211.lt
          have fr_r205d := D211.fr
          refine s_nil ⟨fun _ x hx => G208.blk x (by simp at hx; omega), ?_⟩
          refine d_pureT r205 (fun _ q => q) ?_
          refine d_done ?_
          refine p_seqN ?_
          refine v_seq ?_
          refine v_ops ?_
          refine s_pure (.pointer (some ⟨p_c, 0, none⟩)) (fun _ q => q) ?_
          have f212 := (((((Ch56.ext eh185).ext eh190).mod mh196 (fun hc => by have := fr_r189 _ hc; omega) (fun b hb => by have := fr_r189 b hb; omega)).mod mh201 (fun hc => by have := fr_r195 _ hc; omega) (fun b hb => by have := fr_r195 b hb; omega)).mod mh206 (fun hc => by have := fr_r200 _ hc; omega) (fun b hb => by have := fr_r200 b hb; omega))
          refine s_call [.pointer (some ⟨p_c, 0, none⟩), .int .i64 6] rfl (spec_l1Cur_one_ok p_c t_c (((m_c + 102 + 200 * (2 - k) + 6 * (j : Int)) + 2) + 2) lo_c 6 _ f212 (by omega)) ?_
          rintro _ h214 ⟨g213, rfl, Ch214, mh214⟩
          have zh214 := mh214.size
          have E215 := E207.new mh214 (fun b hb => .inl (by simp at hb; simp [hb]))
          refine s_nil ?_
          refine p_seqN ?_
          refine v_cond rfl (fun c216 => ?_) (fun c216 => ?_)
          ·
            refine v_ops ?_
            refine s_pure r205 (fun _ q => q) ?_
            have f217 := ((((((f58.ext eh185).ext eh190).mod mh196 (fun hc => by have := fr_r189 _ hc; omega)).mod mh201 (fun hc => by have := fr_r195 _ hc; omega)).mod mh206 (fun hc => by have := fr_r200 _ hc; omega)).mod mh214 (by simp; omega))
            refine s_load (.agg #[.int .i64 x39.message, .int .i64 x39.part, .int .i64 x39.parts, x39.sv.v]) (fun _ q => f217.loadA rfl q) ?_
            have f218 := (f210.mod mh214 (fun b hb hc => by simp at hc; have := (fun b hb => fr_r27 b (mem_fpts.2 (.inr ⟨x39, List.mem_of_getElem? hx39, hb⟩))) b hb; omega))
            refine s_call [.agg #[.int .i64 x39.message, .int .i64 x39.part, .int .i64 x39.parts, x39.sv.v]] rfl (spec_pkOwn_ok (Pk.p x39) x39.sv.v _ f218 (Nat.le_trans (hx8 _ (List.mem_of_getElem? (by assumption))) (by omega))) ?_
            rintro _ h220 ⟨r219, rfl, s_r219, fr_r219, eh220⟩
            have E221 := E215.trans (Mod.of_ext eh220 _)
            have z222 := eh220.size
            have lt_r219 := s_r219.lt
            obtain ⟨sv223, rfl⟩ := s_r219.sv
            refine s_row (α := Pk) [(⟨(Pk.p x39).message, (Pk.p x39).part, (Pk.p x39).parts, sv223, (Pk.p x39).signals⟩ : Pk)] (fun _ q => seg_agg rfl rfl (seg_nil q)) rfl (by simp [maxLen]) (fun r224 h225 eh225 zh225 s_r224 fr_r224 => ?_)
            have E226 := E221.trans (Mod.of_ext eh225 _)
            have z227 := eh225.size
            have lt_r224 := s_r224.lt
            have f230 := (s_r219.ext eh225)
            have f231 := (((D211.mod mh214 (fun b hb hc => by simp at hc; have := fr_r205d b hb; omega)).ext eh220).ext eh225)
            refine s_app f231.row s_r224 rfl rfl rfl (by first | (simp [maxLen]; omega) | (have := hs4 x39 (List.mem_of_getElem? hx39); simp [maxLen]; omega)) (by first | (simp; omega) | (have := hs4 x39 (List.mem_of_getElem? hx39); simp; omega)) (fun r228 h229 mh229 zh229 s_r228 ab_r228 => ?_)
            have D_r228 := RdO.snoc (e := (⟨(Pk.p x39).message, (Pk.p x39).part, (Pk.p x39).parts, sv223, (Pk.p x39).signals⟩ : Pk)) f231 f230 (fr_r219.mono (by omega)) (fun b hb hc => by have := fr_r219 b hb; have := (fun b hb => lt_r205d b (mem_fpts.2 (.inl hb))) b hc; omega) (by omega) mh229 s_r228 ab_r228
            have E232 := E226.new mh229 (fun b hb => .inr (by have := (fun b hb => fr_r205d b (mem_fpts.2 (.inl hb))) b hb; omega))
            have lt_r228 := D_r228.lt
            have fr_r228 := D_r228.fr
            have np233 : p_c ∉ fpts r228 ((p3.take ((g55).toNat) ++ [(⟨x39.message, x39.part, x39.parts, x39.sv, x39.sig⟩ : Pk)] ++ p3.drop ((g55).toNat)) ++ [(⟨(Pk.p x39).message, (Pk.p x39).part, (Pk.p x39).parts, sv223, (Pk.p x39).signals⟩ : Pk)]) := DeepO.snocOut ab_r228 (fun hc => by have := fr_r205d _ hc; omega) (fun hc => by have := fr_r219 _ hc; omega) (by omega)
            have np234 : ∀ b ∈ fpts r27 qr27, b ∉ blks r228 := fun b hb hc => (ab_r228 b hc).elim (((fun b hb hc => by have := ltk_r27 b hb; have := fr_r205 b hc; omega) : ∀ b ∈ fpts r27 qr27, b ∉ blks r205) b hb) (fun hc => by have := ltk_r27 b hb; omega)
            have np235 : ∀ b ∈ fpts o3 p3, b ∉ blks r228 := fun b hb hc => (ab_r228 b hc).elim (((fun b hb hc => by have := lt_o3 b hb; have := fr_r205 b hc; omega) : ∀ b ∈ fpts o3 p3, b ∉ blks r205) b hb) (fun hc => by have := lt_o3 b hb; omega)
            have np236 : ∀ b ∈ blks x39.sv.v, b ∉ blks r228 := fun b hb hc => (ab_r228 b hc).elim (((fun b hb hc => by have := (fun b hb => ltk_r27 b (mem_fpts.2 (.inr ⟨x39, List.mem_of_getElem? hx39, hb⟩))) b hb; have := fr_r205 b hc; omega) : ∀ b ∈ blks x39.sv.v, b ∉ blks r205) b hb) (fun hc => by have := (fun b hb => ltk_r27 b (mem_fpts.2 (.inr ⟨x39, List.mem_of_getElem? hx39, hb⟩))) b hb; omega)
            have np237 : ∀ b ∈ blks r60, b ∉ blks r228 := fun b hb hc => (ab_r228 b hc).elim (((fun b hb hc => by have := (fun b hb => lt_o3 b (mem_fpts.2 (.inl (bk_r60 b hb)))) b hb; have := fr_r205 b hc; omega) : ∀ b ∈ blks r60, b ∉ blks r205) b hb) (fun hc => by have := (fun b hb => lt_o3 b (mem_fpts.2 (.inl (bk_r60 b hb)))) b hb; omega)
            have np238 : ∀ b ∈ blks r61, b ∉ blks r228 := fun b hb hc => (ab_r228 b hc).elim (((fun b hb hc => by have := (fun b hb => lt_o3 b (mem_fpts.2 (.inl (bk_r61 b hb)))) b hb; have := fr_r205 b hc; omega) : ∀ b ∈ blks r61, b ∉ blks r205) b hb) (fun hc => by have := (fun b hb => lt_o3 b (mem_fpts.2 (.inl (bk_r61 b hb)))) b hb; omega)
            have np239 : ∀ b ∈ blks r184, b ∉ blks r228 := fun b hb hc => (ab_r228 b hc).elim (((fun b hb hc => by have := lt_r184 b hb; have := fr_r205 b hc; omega) : ∀ b ∈ blks r184, b ∉ blks r205) b hb) (fun hc => by have := lt_r184 b hb; omega)
            refine s_pure r228 (fun _ q => q) ?_
            refine s_nil ?_
            refine p_blkN ?_
            refine p_seqN ?_
            refine v_ops ?_
            refine s_pure (.int .i64 ((j : Int) + 1)) (fun _ q => ArithVC.mk (by omega) q) ?_
            refine s_pure (.int .i64 ((j : Int) + 1)) (fun _ q => q) ?_
            refine s_nil ?_
            have f240 := (((Ch214.ext eh220).ext eh225).mod mh229 (fun hc => by have := (fun b hb => fr_r205d b (mem_fpts.2 (.inl hb))) _ hc; omega) (fun b hb => by have := fr_r205d b (mem_fpts.2 (.inl hb)); omega))
            have f241 := (((((((((((((s_r27.ext eh42).mod mh45 (fun b hb hc => by simp at hc; have := ltk_r27 b hb; have := lt_r27 b hb; omega)).mod mh50 (fun b hb hc => nk32 (by simp at hc; rw [← hc]; exact hb))).mod mh56 (fun b hb hc => nk32 (by simp at hc; rw [← hc]; exact hb))).ext eh185).ext eh190).mod mh196 (fun b hb hc => by have := ltk_r27 b hb; have := lt_r27 b hb; have := fr_r189 b hc; omega)).mod mh201 (fun b hb hc => by have := ltk_r27 b hb; have := lt_r27 b hb; have := fr_r195 b hc; omega)).mod mh206 (fun b hb hc => by have := ltk_r27 b hb; have := lt_r27 b hb; have := fr_r200 b hc; omega)).mod mh214 (fun b hb hc => nk32 (by simp at hc; rw [← hc]; exact hb))).ext eh220).ext eh225).mod mh229 (fun b hb hc => by have := ltk_r27 b hb; have := fr_r205 b hc; omega))
            exact p_lpN ⟨j + 1, ((p3.take ((g55).toNat) ++ [(⟨x39.message, x39.part, x39.parts, x39.sv, x39.sig⟩ : Pk)] ++ p3.drop ((g55).toNat)) ++ [(⟨(Pk.p x39).message, (Pk.p x39).part, (Pk.p x39).parts, sv223, (Pk.p x39).signals⟩ : Pk)]), r228, ⟨rfl, rfl, rfl, rfl, rfl, rfl⟩, ⟨E232, (f240.le (by first | omega | (simp; done) | (simp; omega))), (D_r228.mono (by omega)), (f241.mono (by omega)), np233, np234, (by first | exact ⟨by omega, by omega, hs3⟩ | exact ⟨by omega, by simp; omega, rd_mid hs3 (hx8 x39 (List.mem_of_getElem? hx39))⟩ | exact ⟨by omega, by simp; omega, rd_snoc (rd_mid hs3 (hx8 x39 (List.mem_of_getElem? hx39))) (hx8 x39 (List.mem_of_getElem? hx39))⟩)⟩, by omega⟩
          ·
            refine v_skip ?_
            refine p_blkN ?_
            refine p_seqN ?_
            refine v_ops ?_
            refine s_pure (.int .i64 ((j : Int) + 1)) (fun _ q => ArithVC.mk (by omega) q) ?_
            refine s_pure (.int .i64 ((j : Int) + 1)) (fun _ q => q) ?_
            refine s_nil ?_
            have f242 := (D211.mod mh214 (fun b hb hc => by simp at hc; have := fr_r205d b hb; omega))
            have f243 := ((((((((((s_r27.ext eh42).mod mh45 (fun b hb hc => by simp at hc; have := ltk_r27 b hb; have := lt_r27 b hb; omega)).mod mh50 (fun b hb hc => nk32 (by simp at hc; rw [← hc]; exact hb))).mod mh56 (fun b hb hc => nk32 (by simp at hc; rw [← hc]; exact hb))).ext eh185).ext eh190).mod mh196 (fun b hb hc => by have := ltk_r27 b hb; have := lt_r27 b hb; have := fr_r189 b hc; omega)).mod mh201 (fun b hb hc => by have := ltk_r27 b hb; have := lt_r27 b hb; have := fr_r195 b hc; omega)).mod mh206 (fun b hb hc => by have := ltk_r27 b hb; have := lt_r27 b hb; have := fr_r200 b hc; omega)).mod mh214 (fun b hb hc => nk32 (by simp at hc; rw [← hc]; exact hb)))
            exact p_lpN ⟨j + 1, (p3.take ((g55).toNat) ++ [(⟨x39.message, x39.part, x39.parts, x39.sv, x39.sig⟩ : Pk)] ++ p3.drop ((g55).toNat)), r205, ⟨rfl, rfl, rfl, rfl, rfl, rfl⟩, ⟨E215, (Ch214.le (by first | omega | (simp; done) | (simp; omega))), (f242.mono (by omega)), (f243.mono (by omega)), (fun hc => by have := fr_r205d _ hc; omega), (fun b hb hc => by have := ltk_r27 b hb; have := fr_r205 b hc; omega), (by first | exact ⟨by omega, by omega, hs3⟩ | exact ⟨by omega, by simp; omega, rd_mid hs3 (hx8 x39 (List.mem_of_getElem? hx39))⟩ | exact ⟨by omega, by simp; omega, rd_snoc (rd_mid hs3 (hx8 x39 (List.mem_of_getElem? hx39))) (hx8 x39 (List.mem_of_getElem? hx39))⟩)⟩, by omega⟩
    ·
      refine v_exit ?_
      refine p_seqX ?_
      refine p_lpX ?_
      refine p_blkX ?_
      refine p_blkN ?_
      refine p_seqN ?_
      refine v_ops ?_
      refine s_pure (.int .i64 k) (fun _ q => q) ?_
      refine s_pure (.int .i64 (k - 1)) (fun _ q => ArithVC.mk (by omega) q) ?_
      refine s_pure (.int .i64 (k - 1)) (fun _ q => q) ?_
      refine s_nil ?_
      exact p_lpN ⟨(k - 1), p3, o3, ⟨rfl, rfl, rfl⟩, ⟨Eh, (bxc.le (by first | omega | (simp; done) | (simp; omega))), (s_o3.mono (by omega)), np_c_o3, (by exact ⟨by omega, by omega, by omega, hs3⟩)⟩, by omega⟩
  ·
    refine v_exit ?_
    refine p_seqX ?_
    refine p_lpX ?_
    refine p_blkX ?_
    refine p_seqN ?_
    refine v_seq ?_
    refine v_seq ?_
    refine v_ops ?_
    refine s_pure (.pointer (some ⟨p_c, 0, none⟩)) (fun _ q => q) ?_
    refine s_call [.pointer (some ⟨p_c, 0, none⟩), .int .i64 12] rfl (spec_l1Cur_pick_ok p_c t_c (m_c + 2 + 200 * (2 - k)) lo_c 12 _ bxc (by omega)) ?_
    rintro _ h245 ⟨g244, rfl, qh245, Ch245, mh245⟩
    have zh245 := mh245.size
    have E246 := Eh.new mh245 (fun b hb => .inl (by simp at hb; simp [hb]))
    refine s_nil ?_
    refine p_seqN ?_
    refine v_block ?_
    refine v_seq ?_
    refine v_ops ?_
    refine s_pure (.bool (g244 == 0)) (fun _ q => q) ?_
    refine s_pure (.bool (g244 == 0)) (fun _ q => q) ?_
    refine s_nil ?_
    refine p_seqN ?_
    refine v_cond rfl (fun c247 => ?_) (fun c247 => ?_)
    ·
      refine v_ops ?_
      refine s_pure o4 (fun _ q => q) ?_
      refine s_pure (.pointer (some ⟨p_c, 0, none⟩)) (fun _ q => q) ?_
      refine s_call [.pointer (some ⟨p_c, 0, none⟩)] rfl (spec_l1Cur_packet_ok p_c t_c ((m_c + 2 + 200 * (2 - k)) + 2) lo_c _ Ch245 (by omega)) ?_
      rintro _ h250 ⟨g248, r249, rfl, s_r249, fr_r249, qh250, Ch250, mh250⟩
      have zh250 := mh250.size
      have E251 := E246.new mh250 (fun b hb => .inl (by simp at hb; simp [hb]))
      have lt_r249 := s_r249.lt
      obtain ⟨sv252, rfl⟩ := s_r249.sv
      refine s_row (α := Pk) [(⟨g248.message, g248.part, g248.parts, sv252, g248.signals⟩ : Pk)] (fun _ q => seg_agg rfl rfl (seg_nil q)) rfl (by simp [maxLen]) (fun r253 h254 eh254 zh254 s_r253 fr_r253 => ?_)
      have E255 := E251.trans (Mod.of_ext eh254 _)
      have z256 := eh254.size
      have lt_r253 := s_r253.lt
      have f259 := (s_r249.ext eh254)
      have f260 := (((s_o4.mod mh245 (fun b hb hc => np_c_o4 (by simp at hc; rw [← hc]; exact hb))).mod mh250 (fun b hb hc => np_c_o4 (by simp at hc; rw [← hc]; exact hb))).ext eh254)
      refine s_app f260.row s_r253 rfl rfl rfl (by first | (simp [maxLen]; omega) | (have := hs4 x__ (List.mem_of_getElem? hx__); simp [maxLen]; omega)) (by first | (simp; omega) | (have := hs4 x__ (List.mem_of_getElem? hx__); simp; omega)) (fun r257 h258 mh258 zh258 s_r257 ab_r257 => ?_)
      have D_r257 := RdO.snoc (e := (⟨g248.message, g248.part, g248.parts, sv252, g248.signals⟩ : Pk)) f260 f259 (fr_r249.mono (by omega)) (fun b hb hc => by have := fr_r249 b hb; have := (fun b hb => lt_o4 b (mem_fpts.2 (.inl hb))) b hc; omega) (by omega) mh258 s_r257 ab_r257
      have E261 := E255.new mh258 (fun b hb => .inr (by have := (fun b hb => fr_o4 b (mem_fpts.2 (.inl hb))) b hb; omega))
      have lt_r257 := D_r257.lt
      have fr_r257 := D_r257.fr
      have np262 : p_c ∉ fpts r257 (p4 ++ [(⟨g248.message, g248.part, g248.parts, sv252, g248.signals⟩ : Pk)]) := DeepO.snocOut ab_r257 np_c_o4 (fun hc => by have := fr_r249 _ hc; omega) (by omega)
      refine s_pure r257 (fun _ q => q) ?_
      refine s_nil ?_
      refine p_blkN ?_
      refine p_seqN ?_
      refine v_seq ?_
      refine v_ops ?_
      refine s_pure r257 (fun _ q => q) ?_
      refine s_pure r257 (fun _ q => q) ?_
      refine s_nil ?_
      refine p_seqN ?_
      refine v_ret ?_
      refine p_ret [r257] r257 (fun _ q => q) rfl ?_
      have f263 := ((Ch250.ext eh254).mod mh258 (fun hc => np_c_o4 (mem_fpts.2 (.inl hc))) (fun b hb => by have := fr_o4 b (mem_fpts.2 (.inl hb)); omega))
      exact ⟨(p4 ++ [(⟨g248.message, g248.part, g248.parts, sv252, g248.signals⟩ : Pk)]), r257, rfl, (D_r257.mono (by omega)), (by first | exact ⟨by omega, fun p hp => by have := hs4 p hp; omega⟩ | exact ⟨by omega, fun p hp => by have := hs5 p hp; omega⟩ | exact ⟨by simp; omega, fun p hp => by have := rd_snoc hs4 (by simp only; omega) p hp; omega⟩ | exact ⟨by simp; omega, rd_set hs4 (by have := hs4 x__ (List.mem_of_getElem? hx__); simp; omega)⟩), (f263.le (by first | omega | (simp; omega))), E261⟩
    ·
      refine v_seq ?_
      refine v_ops ?_
      refine s_pure (.bool (g244 == 1)) (fun _ q => q) ?_
      refine s_pure (.bool (g244 == 1)) (fun _ q => q) ?_
      refine s_nil ?_
      refine p_seqN ?_
      refine v_cond rfl (fun c264 => ?_) (fun c264 => ?_)
      ·
        refine v_seq ?_
        refine v_ops ?_
        refine s_pure o4 (fun _ q => q) ?_
        refine s_pure (.int .i64 (p4.length : Int)) (fun _ q => s_o4.row.lenVC q) ?_
        refine s_pure (.bool (decide ((p4.length : Int) > 0))) (fun _ q => q) ?_
        refine s_nil ?_
        refine p_seqN ?_
        refine v_cond rfl (fun c265 => ?_) (fun c265 => ?_)
        ·
          refine v_seq ?_
          refine v_ops ?_
          refine s_pure o4 (fun _ q => q) ?_
          refine s_pure (.pointer (some ⟨p_c, 0, none⟩)) (fun _ q => q) ?_
          refine s_pure o4 (fun _ q => q) ?_
          refine s_pure (.int .i64 (p4.length : Int)) (fun _ q => s_o4.row.lenVC q) ?_
          refine s_call [.pointer (some ⟨p_c, 0, none⟩), .int .i64 (p4.length : Int)] rfl (spec_l1Cur_pick_ok p_c t_c ((m_c + 2 + 200 * (2 - k)) + 2) lo_c (p4.length : Int) _ Ch245 (by omega)) ?_
          rintro _ h267 ⟨g266, rfl, qh267, Ch267, mh267⟩
          have zh267 := mh267.size
          have E268 := E246.new mh267 (fun b hb => .inl (by simp at hb; simp [hb]))
          have f269 := ((s_o4.mod mh245 (fun b hb hc => np_c_o4 (by simp at hc; rw [← hc]; exact hb))).mod mh267 (fun b hb hc => np_c_o4 (by simp at hc; rw [← hc]; exact hb)))
          have hk270 : (g266).toNat < p4.length := (by first | omega | (simp; omega))
          obtain ⟨x271, hx271⟩ : ∃ x, p4[(g266).toNat]? = some x := ⟨_, List.getElem?_eq_getElem hk270⟩
          refine s_pure (.pointer (some ⟨sblk o4, soff o4 + ((g266).toNat) * 4, none⟩)) (fun _ q => f269.row.idx (k := (g266).toNat) (by omega) hk270 q) ?_
          refine s_pure (.pointer (some ⟨sblk o4, soff o4 + ((g266).toNat) * 4, none⟩)) (fun _ q => q) ?_
          refine s_nil ?_
          refine p_seqN ?_
          refine v_ops ?_
          refine s_pure (.pointer (some ⟨sblk o4, soff o4 + ((g266).toNat) * 4, none⟩)) (fun _ q => q) ?_
          refine s_pure (.pointer (some ⟨sblk o4, soff o4 + ((g266).toNat) * 4, none⟩)) (fun _ q => q) ?_
          refine s_pure (.pointer (some ⟨sblk o4, soff o4 + ((g266).toNat) * 4, none⟩)) (fun _ q => q) ?_
          refine s_pure (.pointer (some ⟨sblk o4, soff o4 + ((g266).toNat) * 4 + 3, none⟩)) (fun _ q => q) ?_
          have s272 := f269.insL x271 (List.mem_of_getElem? hx271)
          refine s_load x271.sv.v (fun _ q => f269.row.load hx271 (j := 3) rfl rfl q) ?_
          refine s_call [x271.sv.v] rfl (spec_l1Own_ok x271.sv.v x271.sig _ s272 (by have := hs4 _ (List.mem_of_getElem? (by assumption)); omega)) ?_
          rintro r273 h274 ⟨_, rfl, s_r273, fr_r273, eh274⟩
          have E275 := E268.trans (Mod.of_ext eh274 _)
          have z276 := eh274.size
          have lt_r273 := s_r273.lt
          refine s_row (α := Int) [3] (fun _ q => seg_i rfl (seg_nil q)) rfl (by simp [maxLen]) (fun r277 h278 eh278 zh278 s_r277 fr_r277 => ?_)
          have E279 := E275.trans (Mod.of_ext eh278 _)
          have z280 := eh278.size
          have lt_r277 := s_r277.lt
          have f281 := (s_r273.ext eh278)
          refine s_app f281 s_r277 rfl rfl rfl (by first | (simp [maxLen]; omega) | (have := hs4 x271 (List.mem_of_getElem? hx271); simp [maxLen]; omega)) (by first | (simp; omega) | (have := hs4 x271 (List.mem_of_getElem? hx271); simp; omega)) (fun r282 h283 mh283 zh283 s_r282 ab_r282 => ?_)
          have E284 := E279.new mh283 (fun b hb => .inr (by have := fr_r273 b hb; omega))
          have fr_r282 := fr_r273.app ab_r282 (by omega)
          have np285 : ∀ b ∈ blks r277, b ∉ blks r282 := fun b hb hc => (ab_r282 _ hc).elim (((fun b hb hc => by have := fr_r277 b hb; have := lt_r273 b hc; omega) : ∀ b ∈ blks r277, b ∉ blks r273) b hb) (fun hc => by have := lt_r277 b hb; omega)
          have lt_r282 := s_r282.lt
          refine s_pure (.pointer (some ⟨sblk o4, soff o4 + ((g266).toNat) * 4, none⟩)) (fun _ q => q) ?_
          refine s_pure (.pointer (some ⟨sblk o4, soff o4 + ((g266).toNat) * 4 + 3, none⟩)) (fun _ q => q) ?_
          have f286 := (((f269.ext eh274).ext eh278).mod mh283 (fun b hb hc => by have := lt_o4 b hb; have := fr_r273 b hc; omega))
          obtain ⟨sv289, rfl⟩ := s_r282.sv
          refine s_stSl (k := (g266).toNat) (j := 3) (⟨x271.message, x271.part, x271.parts, sv289, (x271.sig ++ [3])⟩ : Pk) sv289.v [sv289.v] f286.row rfl rfl rfl s_r282.cellsv rfl hx271 (Nat.le_of_ble_eq_true rfl) rfl (all_cons s_r282.one1 all_nil) (fun h287 mh287 sh287 s288 => ?_)
          have D290 := RdO.set (e := (⟨x271.message, x271.part, x271.parts, sv289, (x271.sig ++ [3])⟩ : Pk)) (k := (g266).toNat) f286 s_r282 (fr_r282.mono (by omega)) (fun b hb hc => by have := fr_r282 b hb; have := (fun b hb => lt_o4 b (mem_fpts.2 (.inl hb))) b hc; omega) mh287 s288
          have E291 := E284.new mh287 (fun b hb => .inr (by have := (fun b hb => fr_o4 b (mem_fpts.2 (.inl hb))) b hb; omega))
          have ltD290 := D290.lt
          have frD290 := D290.fr
          refine s_nil ?_
          refine p_blkN ?_
          refine p_seqN ?_
          refine v_seq ?_
          refine v_ops ?_
          refine s_pure o4 (fun _ q => q) ?_
          refine s_pure o4 (fun _ q => q) ?_
          refine s_nil ?_
          refine p_seqN ?_
          refine v_ret ?_
          refine p_ret [o4] o4 (fun _ q => q) rfl ?_
          have f292 := ((((Ch267.ext eh274).ext eh278).mod mh283 (fun hc => by have := fr_r273 _ hc; omega) (fun b hb => by have := fr_r273 b hb; omega)).mod mh287 (fun hc => np_c_o4 (mem_fpts.2 (.inl hc))) (fun b hb => by have := fr_o4 b (mem_fpts.2 (.inl hb)); omega))
          exact ⟨(p4.set ((g266).toNat) (⟨x271.message, x271.part, x271.parts, sv289, (x271.sig ++ [3])⟩ : Pk)), o4, rfl, (D290.mono (by omega)), (by first | exact ⟨by omega, fun p hp => by have := hs4 p hp; omega⟩ | exact ⟨by omega, fun p hp => by have := hs5 p hp; omega⟩ | exact ⟨by simp; omega, fun p hp => by have := rd_snoc hs4 (by simp only; omega) p hp; omega⟩ | exact ⟨by simp; omega, rd_set hs4 (by have := hs4 x271 (List.mem_of_getElem? hx271); simp; omega)⟩), (f292.le (by first | omega | (simp; omega))), E291⟩
        ·
          refine v_skip ?_
          refine p_blkN ?_
          refine p_seqN ?_
          refine v_seq ?_
          refine v_ops ?_
          refine s_pure o4 (fun _ q => q) ?_
          refine s_pure o4 (fun _ q => q) ?_
          refine s_nil ?_
          refine p_seqN ?_
          refine v_ret ?_
          refine p_ret [o4] o4 (fun _ q => q) rfl ?_
          have f293 := (s_o4.mod mh245 (fun b hb hc => np_c_o4 (by simp at hc; rw [← hc]; exact hb)))
          exact ⟨p4, o4, rfl, (f293.mono (by omega)), (by first | exact ⟨by omega, fun p hp => by have := hs4 p hp; omega⟩ | exact ⟨by omega, fun p hp => by have := hs5 p hp; omega⟩ | exact ⟨by simp; omega, fun p hp => by have := rd_snoc hs4 (by simp only; omega) p hp; omega⟩ | exact ⟨by simp; omega, rd_set hs4 (by have := hs4 x__ (List.mem_of_getElem? hx__); simp; omega)⟩), (Ch245.le (by first | omega | (simp; omega))), E246⟩
      ·
        refine v_seq ?_
        refine v_ops ?_
        refine s_pure (.bool (g244 == 2)) (fun _ q => q) ?_
        refine s_pure (.bool (g244 == 2)) (fun _ q => q) ?_
        refine s_nil ?_
        refine p_seqN ?_
        refine v_cond rfl (fun c294 => ?_) (fun c294 => ?_)
        ·
          refine v_seq ?_
          refine v_ops ?_
          refine s_pure (.pointer (some ⟨p_c, 0, none⟩)) (fun _ q => q) ?_
          refine s_call [.pointer (some ⟨p_c, 0, none⟩), .int .i64 3] rfl (spec_l1Cur_one_ok p_c t_c ((m_c + 2 + 200 * (2 - k)) + 2) lo_c 3 _ Ch245 (by omega)) ?_
          rintro _ h296 ⟨g295, rfl, Ch296, mh296⟩
          have zh296 := mh296.size
          have E297 := E246.new mh296 (fun b hb => .inl (by simp at hb; simp [hb]))
          refine s_nil ?_
          refine p_seqN ?_
          refine v_cond rfl (fun c298 => ?_) (fun c298 => ?_)
          ·
            refine v_seq ?_
            refine v_ops ?_
            refine s_pure (.pointer (some ⟨p_c, 0, none⟩)) (fun _ q => q) ?_
            refine s_call [.pointer (some ⟨p_c, 0, none⟩), .int .i64 2] rfl (spec_l1Cur_pick_ok p_c t_c (((m_c + 2 + 200 * (2 - k)) + 2) + 2) lo_c 2 _ Ch296 (by omega)) ?_
            rintro _ h300 ⟨g299, rfl, qh300, Ch300, mh300⟩
            have zh300 := mh300.size
            have E301 := E297.new mh300 (fun b hb => .inl (by simp at hb; simp [hb]))
            refine s_pure (.int .i64 (40 + g299)) (fun _ q => ArithVC.mk (by omega) q) ?_
            refine s_pure (.int .i64 (40 + g299)) (fun _ q => q) ?_
            refine s_nil ?_
            refine p_seqN ?_
            refine v_block ?_
            have f303 := (((s_o4.mod mh245 (fun b hb hc => np_c_o4 (by simp at hc; rw [← hc]; exact hb))).mod mh296 (fun b hb hc => np_c_o4 (by simp at hc; rw [← hc]; exact hb))).mod mh300 (fun b hb hc => np_c_o4 (by simp at hc; rw [← hc]; exact hb)))
            refine v_loop2 (α := List Pk) (β := Value) (fun p5 o5 => [(3, o5), (10, .int .i64 (40 + g299))]) (fun p5 o5 hh => Mod [p_c] h hh ∧ Cur hh p_c t_c (m_c + 2900) lo_c ∧ RdO hh o5 p5 h.size ∧ p_c ∉ fpts o5 p5 ∧ p5.length ≤ 100 ∧ ∀ p ∈ p5, p.sig.length ≤ 100) (fun p5 o5 => (40 + g299).toNat - p5.length) p4 o4 ⟨rfl, rfl⟩ ⟨E301, (Ch300.le (by first | omega | (simp; done) | (simp; omega))), (f303.mono (by omega)), np_c_o4, (by exact ⟨by omega, by assumption⟩)⟩ ?_
            rintro p5 o5 R304 h302 ⟨Eh, bxc, s_o5, np_c_o5, ⟨hp5, hs5⟩⟩
            have zEh := Eh.size
            have lbc := bxc.lt
            have lt_o5 := s_o5.lt
            have fr_o5 := s_o5.fr
            refine v_seq ?_
            refine v_seq ?_
            refine v_ops ?_
            refine s_pure o5 (fun _ q => q) ?_
            refine s_pure (.int .i64 (p5.length : Int)) (fun _ q => s_o5.row.lenVC q) ?_
            refine s_pure (.int .i64 (40 + g299)) (fun _ q => q) ?_
            refine s_pure (.bool (decide ((p5.length : Int) < (40 + g299)))) (fun _ q => q) ?_
            refine s_nil ?_
            refine p_seqN ?_
            refine v_cond rfl (fun c306 => ?_) (fun c306 => ?_)
            ·
              refine v_skip ?_
              refine p_seqN ?_
              refine v_block ?_
              refine v_ops ?_
              refine s_pure o5 (fun _ q => q) ?_
              refine s_pure o5 (fun _ q => q) ?_
              refine s_pure (.int .i64 (p5.length : Int)) (fun _ q => s_o5.row.lenVC q) ?_
              refine s_pure (.int .i64 (1 + (p5.length : Int))) (fun _ q => ArithVC.mk (by omega) q) ?_
              refine s_row (α := Int) [5] (fun _ q => seg_i rfl (seg_nil q)) rfl (by simp [maxLen]) (fun r307 h308 eh308 zh308 s_r307 fr_r307 => ?_)
              have E309 := Eh.trans (Mod.of_ext eh308 _)
              have z310 := eh308.size
              have lt_r307 := s_r307.lt
              refine s_pure (.agg #[.int .i64 (1 + (p5.length : Int)), .int .i64 0, .int .i64 1, r307]) (fun _ q => w_build (seg_i rfl (seg_i rfl (seg_sl s_r307 rfl (seg_nil q))))) ?_
              obtain ⟨sv311, rfl⟩ := s_r307.sv
              refine s_row (α := Pk) [(⟨(1 + (p5.length : Int)), 0, 1, sv311, [5]⟩ : Pk)] (fun _ q => seg_agg rfl rfl (seg_nil q)) rfl (by simp [maxLen]) (fun r312 h313 eh313 zh313 s_r312 fr_r312 => ?_)
              have E314 := E309.trans (Mod.of_ext eh313 _)
              have z315 := eh313.size
              have lt_r312 := s_r312.lt
              have f318 := (s_r307.ext eh313)
              have f319 := ((s_o5.ext eh308).ext eh313)
              refine s_app f319.row s_r312 rfl rfl rfl (by first | (simp [maxLen]; omega) | (have := hs4 x__ (List.mem_of_getElem? hx__); simp [maxLen]; omega)) (by first | (simp; omega) | (have := hs4 x__ (List.mem_of_getElem? hx__); simp; omega)) (fun r316 h317 mh317 zh317 s_r316 ab_r316 => ?_)
              have D_r316 := RdO.snoc (e := (⟨(1 + (p5.length : Int)), 0, 1, sv311, [5]⟩ : Pk)) f319 f318 (fr_r307.mono (by omega)) (fun b hb hc => by have := fr_r307 b hb; have := (fun b hb => lt_o5 b (mem_fpts.2 (.inl hb))) b hc; omega) (by omega) mh317 s_r316 ab_r316
              have E320 := E314.new mh317 (fun b hb => .inr (by have := (fun b hb => fr_o5 b (mem_fpts.2 (.inl hb))) b hb; omega))
              have lt_r316 := D_r316.lt
              have fr_r316 := D_r316.fr
              have np321 : p_c ∉ fpts r316 (p5 ++ [(⟨(1 + (p5.length : Int)), 0, 1, sv311, [5]⟩ : Pk)]) := DeepO.snocOut ab_r316 np_c_o5 (fun hc => by have := fr_r307 _ hc; omega) (by omega)
              refine s_pure r316 (fun _ q => q) ?_
              refine s_nil ?_
              refine p_blkN ?_
              have f322 := (((bxc.ext eh308).ext eh313).mod mh317 (fun hc => np_c_o5 (mem_fpts.2 (.inl hc))) (fun b hb => by have := fr_o5 b (mem_fpts.2 (.inl hb)); omega))
              exact p_lpN ⟨(p5 ++ [(⟨(1 + (p5.length : Int)), 0, 1, sv311, [5]⟩ : Pk)]), r316, ⟨rfl, rfl⟩, ⟨E320, (f322.le (by omega)), (D_r316.mono (by omega)), np321, (by exact ⟨by simp; omega, rd_snoc hs5 (by simp)⟩)⟩, by first | omega | (simp; done) | (simp; omega)⟩
            ·
              refine v_exit ?_
              refine p_seqX ?_
              refine p_lpX ?_
              refine p_blkX ?_
              refine p_blkN ?_
              refine p_seqN ?_
              refine v_seq ?_
              refine v_ops ?_
              refine s_pure o5 (fun _ q => q) ?_
              refine s_pure o5 (fun _ q => q) ?_
              refine s_nil ?_
              refine p_seqN ?_
              refine v_ret ?_
              refine p_ret [o5] o5 (fun _ q => q) rfl ?_
              exact ⟨p5, o5, rfl, (s_o5.mono (by omega)), (by first | exact ⟨by omega, fun p hp => by have := hs4 p hp; omega⟩ | exact ⟨by omega, fun p hp => by have := hs5 p hp; omega⟩ | exact ⟨by simp; omega, fun p hp => by have := rd_snoc hs4 (by simp only; omega) p hp; omega⟩ | exact ⟨by simp; omega, rd_set hs4 (by have := hs4 x__ (List.mem_of_getElem? hx__); simp; omega)⟩), (bxc.le (by first | omega | (simp; omega))), Eh⟩
          ·
            refine v_skip ?_
            refine p_blkN ?_
            refine p_seqN ?_
            refine v_seq ?_
            refine v_ops ?_
            refine s_pure o4 (fun _ q => q) ?_
            refine s_pure o4 (fun _ q => q) ?_
            refine s_nil ?_
            refine p_seqN ?_
            refine v_ret ?_
            refine p_ret [o4] o4 (fun _ q => q) rfl ?_
            have f323 := ((s_o4.mod mh245 (fun b hb hc => np_c_o4 (by simp at hc; rw [← hc]; exact hb))).mod mh296 (fun b hb hc => np_c_o4 (by simp at hc; rw [← hc]; exact hb)))
            exact ⟨p4, o4, rfl, (f323.mono (by omega)), (by first | exact ⟨by omega, fun p hp => by have := hs4 p hp; omega⟩ | exact ⟨by omega, fun p hp => by have := hs5 p hp; omega⟩ | exact ⟨by simp; omega, fun p hp => by have := rd_snoc hs4 (by simp only; omega) p hp; omega⟩ | exact ⟨by simp; omega, rd_set hs4 (by have := hs4 x__ (List.mem_of_getElem? hx__); simp; omega)⟩), (Ch296.le (by first | omega | (simp; omega))), E297⟩
        ·
          refine v_skip ?_
          refine p_blkN ?_
          refine p_seqN ?_
          refine v_seq ?_
          refine v_ops ?_
          refine s_pure o4 (fun _ q => q) ?_
          refine s_pure o4 (fun _ q => q) ?_
          refine s_nil ?_
          refine p_seqN ?_
          refine v_ret ?_
          refine p_ret [o4] o4 (fun _ q => q) rfl ?_
          have f324 := (s_o4.mod mh245 (fun b hb hc => np_c_o4 (by simp at hc; rw [← hc]; exact hb)))
          exact ⟨p4, o4, rfl, (f324.mono (by omega)), (by first | exact ⟨by omega, fun p hp => by have := hs4 p hp; omega⟩ | exact ⟨by omega, fun p hp => by have := hs5 p hp; omega⟩ | exact ⟨by simp; omega, fun p hp => by have := rd_snoc hs4 (by simp only; omega) p hp; omega⟩ | exact ⟨by simp; omega, rd_set hs4 (by have := hs4 x__ (List.mem_of_getElem? hx__); simp; omega)⟩), (Ch245.le (by first | omega | (simp; omega))), E246⟩

end Go.Proofs.YtbikhpphdhffaaaGreatDoor
