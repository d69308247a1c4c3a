/- What is drawn for messages and texts. Condition: none. Printed in part by a program. -/
import Derived.Test.YtbikhpphdhffaaaGreatDoorPz2
import Derived.Test.YtbikhpphdhffaaaGreatDoorDt4
namespace Go.Proofs.YtbikhpphdhffaaaGreatDoor
open Go.Vc
set_option linter.all false

theorem sslc_beg {s : ByteArray} {b : Nat} {j : Int} {K : Value → Prop} (hj : j = (b : Int)) (h2 : b ≤ s.size) (q : K (.string (tx (s.data.toList.take b)))) : StrSlcVC (.string s) none (some (.int .i64 j)) K := by
  subst hj
  refine ⟨s, 0, b, rfl, Nat.zero_le _, h2, ⟨.i64, rfl⟩, rfl, ?_⟩
  rw [extract_tx, List.drop_zero, Nat.sub_zero]
  exact q

theorem spec_l1Cur_of_ok (p_c : Nat) (t_c : TypeId) (m_c : Int) (lo_c : Nat) (v_l : Value) (l : List ByteArray) (h : Heap) (C_c : Cur h p_c t_c m_c lo_c) (s_l : Sl h v_l l) (ap_l : ∀ b ∈ blks v_l, b ∉ [p_c]) (hm : m_c + 2 ≤ 4000000000000000000) (hl : 0 < l.length) : Cn f_spec_l1Cur_of [.pointer (some ⟨p_c, 0, none⟩), v_l] h fun v h' => ∃ g0 : ByteArray, v = .string g0 ∧ (g0 ∈ l) ∧ Cur h' p_c t_c (m_c + 2) lo_c ∧ Mod [p_c] h h' := by
  have lc_c := C_c.lt
  have ll_c := C_c.low
  have lm_c := C_c.top
  have lt_l := s_l.lt
  have l63_l := s_l.len63
  refine calls_of r_spec_l1Cur_of ?_
  refine v_seq ?_
  refine v_ops ?_
  refine s_pure (.string (tx [])) (fun _ q => q) ?_
  refine s_nil ?_
  refine p_seqN ?_
  refine v_seq ?_
  refine v_ops ?_
  refine s_pure v_l (fun _ q => q) ?_
  refine s_pure (.pointer (some ⟨p_c, 0, none⟩)) (fun _ q => q) ?_
  refine s_pure v_l (fun _ q => q) ?_
  refine s_pure (.int .i64 (l.length : Int)) (fun _ q => s_l.lenVC q) ?_
  refine s_call [.pointer (some ⟨p_c, 0, none⟩), .int .i64 (l.length : Int)] rfl (spec_l1Cur_pick_ok p_c t_c m_c lo_c (l.length : Int) _ C_c (by omega)) ?_
  rintro _ h2 ⟨g1, rfl, qh2, Ch2, mh2⟩
  have zh2 := mh2.size
  have E3 := (Mod.refl [p_c] h).new mh2 (fun b hb => .inl (by simp at hb; simp [hb]))
  have f4 := (s_l.mod mh2 ap_l)
  have hk5 : (g1).toNat < l.length := (by first | omega | (simp; omega))
  obtain ⟨x6, hx6⟩ : ∃ x, l[(g1).toNat]? = some x := ⟨_, List.getElem?_eq_getElem hk5⟩
  refine s_pure (.pointer (some ⟨sblk v_l, soff v_l + ((g1).toNat) * 1, none⟩)) (fun _ q => f4.idx (k := (g1).toNat) (by omega) hk5 q) ?_
  refine s_load (.string x6) (fun _ q => f4.load1 hx6 rfl q) ?_
  refine s_pure (.string x6) (fun _ q => q) ?_
  refine s_nil ?_
  refine p_seqN ?_
  refine v_ret ?_
  refine p_ret [.string x6] (.string x6) (fun _ q => q) rfl ?_
  exact ⟨x6, rfl, (by exact List.mem_of_getElem? (by assumption)), (Ch2.le (by omega)), E3⟩

theorem spec_l1Cur_message_ok (p_c : Nat) (t_c : TypeId) (m_c : Int) (lo_c : Nat) (v_l : Value) (l : List Pk) (h : Heap) (C_c : Cur h p_c t_c m_c lo_c) (s_l : Sl h v_l l) (ap_l : ∀ b ∈ blks v_l, b ∉ [p_c]) (hm : m_c + 4 ≤ 4000000000000000000) : Cn f_spec_l1Cur_message [.pointer (some ⟨p_c, 0, none⟩), v_l] h fun v h' => ∃ g0 : Int, v = .int .i64 g0 ∧ Cur h' p_c t_c (m_c + 4) lo_c ∧ Mod [p_c] h h' := by
  have lc_c := C_c.lt
  have ll_c := C_c.low
  have lm_c := C_c.top
  have lt_l := s_l.lt
  have l63_l := s_l.len63
  refine calls_of r_spec_l1Cur_message ?_
  refine v_seq ?_
  refine v_ops ?_
  refine s_pure (.int .i64 0) (fun _ q => q) ?_
  refine s_nil ?_
  refine p_seqN ?_
  refine v_seq ?_
  refine v_seq ?_
  refine v_ops ?_
  refine s_pure v_l (fun _ q => q) ?_
  refine s_pure (.int .i64 (l.length : Int)) (fun _ q => s_l.lenVC q) ?_
  refine s_pure (.bool (decide ((l.length : Int) > 0))) (fun _ q => q) ?_
  refine s_pure (.bool (decide ((l.length : Int) > 0))) (fun _ q => q) ?_
  refine s_splitT rfl (fun c1 => ?_) (fun c1 => ?_)
  ·
    refine s_run rfl ?_
    refine s_pure (.pointer (some ⟨p_c, 0, none⟩)) (fun _ q => q) ?_
    refine s_run rfl ?_
    refine s_call [.pointer (some ⟨p_c, 0, none⟩), .int .i64 6] rfl (spec_l1Cur_one_ok p_c t_c m_c lo_c 6 _ C_c (by omega)) ?_
    rintro _ h3 ⟨g2, rfl, Ch3, mh3⟩
    have zh3 := mh3.size
    have E4 := (Mod.refl [p_c] h).new mh3 (fun b hb => .inl (by simp at hb; simp [hb]))
    refine s_run rfl ?_
    refine s_pure (.bool (!g2)) (fun _ q => q) ?_
    refine s_pure (.bool (!g2)) (fun _ q => q) ?_
    refine s_nil ?_
    refine p_seqN ?_
    refine v_cond rfl (fun c5 => ?_) (fun c5 => ?_)
    ·
      refine v_seq ?_
      refine v_ops ?_
      refine s_pure v_l (fun _ q => q) ?_
      refine s_pure (.pointer (some ⟨p_c, 0, none⟩)) (fun _ q => q) ?_
      refine s_pure v_l (fun _ q => q) ?_
      refine s_pure (.int .i64 (l.length : Int)) (fun _ q => s_l.lenVC q) ?_
      refine s_call [.pointer (some ⟨p_c, 0, none⟩), .int .i64 (l.length : Int)] rfl (spec_l1Cur_pick_ok p_c t_c (m_c + 2) lo_c (l.length : Int) _ Ch3 (by omega)) ?_
      rintro _ h7 ⟨g6, rfl, qh7, Ch7, mh7⟩
      have zh7 := mh7.size
      have E8 := E4.new mh7 (fun b hb => .inl (by simp at hb; simp [hb]))
      have f9 := ((s_l.mod mh3 ap_l).mod mh7 ap_l)
      have hk10 : (g6).toNat < l.length := (by first | omega | (simp; omega))
      obtain ⟨x11, hx11⟩ : ∃ x, l[(g6).toNat]? = some x := ⟨_, List.getElem?_eq_getElem hk10⟩
      refine s_pure (.pointer (some ⟨sblk v_l, soff v_l + ((g6).toNat) * 4, none⟩)) (fun _ q => f9.idx (k := (g6).toNat) (by omega) hk10 q) ?_
      refine s_pure (.pointer (some ⟨sblk v_l, soff v_l + ((g6).toNat) * 4, none⟩)) (fun _ q => q) ?_
      refine s_load (.int .i64 x11.message) (fun _ q => f9.load hx11 (j := 0) rfl rfl q) ?_
      refine s_pure (.int .i64 x11.message) (fun _ q => q) ?_
      refine s_nil ?_
      refine p_seqN ?_
      refine v_ret ?_
      refine p_seqR ?_
      refine p_ret [.int .i64 x11.message] (.int .i64 x11.message) (fun _ q => q) rfl ?_
      exact ⟨x11.message, rfl, (Ch7.le (by omega)), E8⟩
    ·
      have c5 := Classical.not_not.1 c5
      refine v_skip ?_
      refine p_seqN ?_
      refine v_seq ?_
      refine v_ops ?_
      refine s_pure (.pointer (some ⟨p_c, 0, none⟩)) (fun _ q => q) ?_
      refine s_row (α := Int) [1, 7, 999, 0, 1000] (fun _ q => seg_i rfl (seg_i rfl (seg_i rfl (seg_i rfl (seg_i rfl (seg_nil q)))))) rfl (by simp [maxLen]) (fun r12 h13 eh13 zh13 s_r12 fr_r12 => ?_)
      have E14 := E4.trans (Mod.of_ext eh13 _)
      have z15 := eh13.size
      have lt_r12 := s_r12.lt
      have f16 := (Ch3.ext eh13)
      refine s_call [.pointer (some ⟨p_c, 0, none⟩), r12] rfl (spec_l1Cur_among_ok p_c t_c (m_c + 2) lo_c r12 [1, 7, 999, 0, 1000] _ f16 s_r12.toSl (fun b hb hc => by simp at hc; have := fr_r12 b hb; omega) (by omega) (by first | omega | assumption | (simp; done) | (simp; omega))) ?_
      rintro _ h18 ⟨g17, rfl, qh18, Ch18, mh18⟩
      have zh18 := mh18.size
      have E19 := E14.new mh18 (fun b hb => .inl (by simp at hb; simp [hb]))
      simp only [List.mem_cons, List.not_mem_nil, or_false] at qh18
      refine s_pure (.int .i64 g17) (fun _ q => q) ?_
      refine s_nil ?_
      refine p_seqN ?_
      refine v_ret ?_
      refine p_ret [.int .i64 g17] (.int .i64 g17) (fun _ q => q) rfl ?_
      exact ⟨g17, rfl, (Ch18.le (by omega)), E19⟩
  ·
    refine s_pass rfl ?_
    refine s_pass rfl ?_
    refine s_pass rfl ?_
    refine s_pure (.bool false) (fun _ q => q) ?_
    refine s_nil ?_
    refine p_seqN ?_
    refine v_condN rfl (by simp) ?_
    refine v_skip ?_
    refine p_seqN ?_
    refine v_seq ?_
    refine v_ops ?_
    refine s_pure (.pointer (some ⟨p_c, 0, none⟩)) (fun _ q => q) ?_
    refine s_row (α := Int) [1, 7, 999, 0, 1000] (fun _ q => seg_i rfl (seg_i rfl (seg_i rfl (seg_i rfl (seg_i rfl (seg_nil q)))))) rfl (by simp [maxLen]) (fun r20 h21 eh21 zh21 s_r20 fr_r20 => ?_)
    have E22 := (Mod.refl [p_c] h).trans (Mod.of_ext eh21 _)
    have z23 := eh21.size
    have lt_r20 := s_r20.lt
    have f24 := (C_c.ext eh21)
    refine s_call [.pointer (some ⟨p_c, 0, none⟩), r20] rfl (spec_l1Cur_among_ok p_c t_c m_c lo_c r20 [1, 7, 999, 0, 1000] _ f24 s_r20.toSl (fun b hb hc => by simp at hc; have := fr_r20 b hb; omega) (by omega) (by first | omega | assumption | (simp; done) | (simp; omega))) ?_
    rintro _ h26 ⟨g25, rfl, qh26, Ch26, mh26⟩
    have zh26 := mh26.size
    have E27 := E22.new mh26 (fun b hb => .inl (by simp at hb; simp [hb]))
    simp only [List.mem_cons, List.not_mem_nil, or_false] at qh26
    refine s_pure (.int .i64 g25) (fun _ q => q) ?_
    refine s_nil ?_
    refine p_seqN ?_
    refine v_ret ?_
    refine p_ret [.int .i64 g25] (.int .i64 g25) (fun _ q => q) rfl ?_
    exact ⟨g25, rfl, (Ch26.le (by omega)), E27⟩

set_option maxRecDepth 10000 in
set_option maxHeartbeats 4000000 in
theorem spec_l1Cur_spoilt_ok (p_c : Nat) (t_c : TypeId) (m_c : Int) (lo_c : Nat) (t : ByteArray) (with_ : ByteArray) (h : Heap) (C_c : Cur h p_c t_c m_c lo_c) (b_t : t.size ≤ maxLen) (b_with_ : with_.size ≤ maxLen) (hm : m_c + 20 ≤ 4000000000000000000) (hw : 0 < with_.size) (ht : t.size ≤ 1000) : Cn f_spec_l1Cur_spoilt [.pointer (some ⟨p_c, 0, none⟩), .string t, .string with_] h fun v h' => ∃ g0 : ByteArray, v = .string g0 ∧ ((g0.size : Int) ≤ (t.size : Int) + 3) ∧ Cur h' p_c t_c (m_c + 20) lo_c ∧ Mod [p_c] h h' := by
  have lc_c := C_c.lt
  have ll_c := C_c.low
  have lm_c := C_c.top
  refine calls_of r_spec_l1Cur_spoilt ?_
  refine v_seq ?_
  refine v_ops ?_
  refine s_pure (.string (tx [])) (fun _ q => q) ?_
  refine s_nil ?_
  refine p_seqN ?_
  refine v_seq ?_
  refine v_seq ?_
  refine v_ops ?_
  refine s_pure (.pointer (some ⟨p_c, 0, none⟩)) (fun _ q => q) ?_
  refine s_call [.pointer (some ⟨p_c, 0, none⟩), .int .i64 2] rfl (spec_l1Cur_pick_ok p_c t_c m_c lo_c 2 _ C_c (by omega)) ?_
  rintro _ h2 ⟨g1, rfl, qh2, Ch2, mh2⟩
  have zh2 := mh2.size
  have E3 := (Mod.refl [p_c] h).new mh2 (fun b hb => .inl (by simp at hb; simp [hb]))
  refine s_pure (.int .i64 (1 + g1)) (fun _ q => ArithVC.mk (by omega) q) ?_
  refine s_pure (.int .i64 (1 + g1)) (fun _ q => q) ?_
  refine s_nil ?_
  refine p_seqN ?_
  refine v_block ?_
  refine v_loop2 (α := Int) (β := ByteArray) (fun n t2 => [(0, .pointer (some ⟨p_c, 0, none⟩)), (1, .string t2), (2, .string with_), (7, .int .i64 n)]) (fun n t2 hh => Mod [p_c] h hh ∧ Cur hh p_c t_c (m_c + 2 + 6 * (2 - n)) lo_c ∧ n ≤ 2 ∧ -1 ≤ n ∧ (t2.size : Int) ≤ (t.size : Int) + (2 - n)) (fun n t2 => (n + 1).toNat) (1 + g1) t ⟨rfl, rfl, rfl, rfl⟩ ⟨E3, (Ch2.le (by first | omega | (simp; omega))), (by exact ⟨by omega, by omega, by omega⟩)⟩ ?_
  rintro n t2 R5 h4 ⟨Eh, bxc, ⟨hn2, hn0, ht2⟩⟩
  have zEh := Eh.size
  have lbc := bxc.lt
  refine v_seq ?_
  refine v_seq ?_
  refine v_ops ?_
  refine s_pure (.int .i64 n) (fun _ q => q) ?_
  refine s_pure (.bool (decide (n > 0))) (fun _ q => q) ?_
  refine s_pure (.bool (decide (n > 0))) (fun _ q => q) ?_
  refine s_splitT rfl (fun c7 => ?_) (fun c7 => ?_)
  ·
    refine s_run rfl ?_
    refine s_pure (.string t2) (fun _ q => q) ?_
    refine s_run rfl ?_
    refine s_pure (.int .i64 (t2.size : Int)) (fun _ q => q) ?_
    refine s_run rfl ?_
    refine s_pure (.bool (decide ((t2.size : Int) > 0))) (fun _ q => q) ?_
    refine s_pure (.bool (decide ((t2.size : Int) > 0))) (fun _ q => q) ?_
    refine s_nil ?_
    refine p_seqN ?_
    refine v_cond rfl (fun c8 => ?_) (fun c8 => ?_)
    ·
      refine v_skip ?_
      refine p_seqN ?_
      refine v_seq ?_
      refine v_block ?_
      refine v_seq ?_
      refine v_ops ?_
      refine s_pure (.pointer (some ⟨p_c, 0, none⟩)) (fun _ q => q) ?_
      refine s_pure (.string t2) (fun _ q => q) ?_
      refine s_pure (.int .i64 (t2.size : Int)) (fun _ q => q) ?_
      refine s_call [.pointer (some ⟨p_c, 0, none⟩), .int .i64 (t2.size : Int)] rfl (spec_l1Cur_pick_ok p_c t_c (m_c + 2 + 6 * (2 - n)) lo_c (t2.size : Int) _ bxc (by omega)) ?_
      rintro _ h10 ⟨g9, rfl, qh10, Ch10, mh10⟩
      have zh10 := mh10.size
      have E11 := Eh.new mh10 (fun b hb => .inl (by simp at hb; simp [hb]))
      refine s_pure (.int .i64 g9) (fun _ q => q) ?_
      refine s_nil ?_
      refine p_seqN ?_
      refine v_seq ?_
      refine v_ops ?_
      refine s_pure (.string with_) (fun _ q => q) ?_
      refine s_pure (.pointer (some ⟨p_c, 0, none⟩)) (fun _ q => q) ?_
      refine s_pure (.string with_) (fun _ q => q) ?_
      refine s_pure (.int .i64 (with_.size : Int)) (fun _ q => q) ?_
      refine s_call [.pointer (some ⟨p_c, 0, none⟩), .int .i64 (with_.size : Int)] rfl (spec_l1Cur_pick_ok p_c t_c ((m_c + 2 + 6 * (2 - n)) + 2) lo_c (with_.size : Int) _ Ch10 (by omega)) ?_
      rintro _ h13 ⟨g12, rfl, qh13, Ch13, mh13⟩
      have zh13 := mh13.size
      have E14 := E11.new mh13 (fun b hb => .inl (by simp at hb; simp [hb]))
      have hk16 : (g12).toNat < with_.data.toList.length := by rw [bsize]; first | omega | (simp; omega)
      obtain ⟨x15, hx15⟩ : ∃ x, with_.data.toList[(g12).toNat]? = some x := ⟨_, List.getElem?_eq_getElem hk16⟩
      have hux15 : (x15.toNat : Int) ≤ 255 := by (have := UInt8.toNat_lt x15); omega
      refine s_pure (.int .u8 (x15.toNat : Int)) (fun _ q => sidx_vc (k := (g12).toNat) (by omega) hx15 q) ?_
      refine s_row (α := By) [(⟨(x15.toNat : Int)⟩ : By)] (fun _ q => seg_i rfl (seg_nil q)) rfl (by simp [maxLen]) (fun r17 h18 eh18 zh18 s_r17 fr_r17 => ?_)
      have E19 := E14.trans (Mod.of_ext eh18 _)
      have z20 := eh18.size
      have lt_r17 := s_r17.lt
      refine s_bstr s_r17 rfl ?_
      refine s_pure (.string (bstr ([(⟨(x15.toNat : Int)⟩ : By)].map By.n))) (fun _ q => q) ?_
      refine s_nil ?_
      refine p_seqN ?_
      refine v_seq ?_
      refine v_ops ?_
      refine s_pure (.pointer (some ⟨p_c, 0, none⟩)) (fun _ q => q) ?_
      have f21 := (Ch13.ext eh18)
      refine s_call [.pointer (some ⟨p_c, 0, none⟩), .int .i64 3] rfl (spec_l1Cur_pick_ok p_c t_c (((m_c + 2 + 6 * (2 - n)) + 2) + 2) lo_c 3 _ f21 (by omega)) ?_
      rintro _ h23 ⟨g22, rfl, qh23, Ch23, mh23⟩
      have zh23 := mh23.size
      have E24 := E19.new mh23 (fun b hb => .inl (by simp at hb; simp [hb]))
      refine s_nil ?_
      refine p_seqN ?_
      refine v_block ?_
      refine v_seq ?_
      refine v_ops ?_
      refine s_pure (.bool (g22 == 0)) (fun _ q => q) ?_
      refine s_pure (.bool (g22 == 0)) (fun _ q => q) ?_
      refine s_nil ?_
      refine p_seqN ?_
      refine v_cond rfl (fun c25 => ?_) (fun c25 => ?_)
      ·
        refine v_ops ?_
        refine s_pure (.string t2) (fun _ q => q) ?_
        refine s_pure (.int .i64 g9) (fun _ q => q) ?_
        refine s_pure (.string (tx (t2.data.toList.take (g9).toNat))) (fun _ q => sslc_beg (by omega) (by omega) q) ?_
        refine s_pure (.string (bstr ([(⟨(x15.toNat : Int)⟩ : By)].map By.n))) (fun _ q => q) ?_
        refine s_pure (.string ((tx (t2.data.toList.take (g9).toNat)) ++ (bstr ([(⟨(x15.toNat : Int)⟩ : By)].map By.n)))) (fun _ q => CatVC.mk (a := (tx (t2.data.toList.take (g9).toNat))) (b := (bstr ([(⟨(x15.toNat : Int)⟩ : By)].map By.n))) (by simp only [tx_append, tx_size, tx_list, List.length_append, List.length_take, List.length_drop, bsize, List.length_map, List.length_cons, List.length_nil, bstr_tx, List.map_cons, List.map_nil] at *; omega) q) ?_
        refine s_pure (.string t2) (fun _ q => q) ?_
        refine s_pure (.int .i64 g9) (fun _ q => q) ?_
        refine s_pure (.string (tx (t2.data.toList.drop (g9).toNat))) (fun _ q => sslc_end (by omega) (by omega) q) ?_
        refine s_pure (.string (((tx (t2.data.toList.take (g9).toNat)) ++ (bstr ([(⟨(x15.toNat : Int)⟩ : By)].map By.n))) ++ (tx (t2.data.toList.drop (g9).toNat)))) (fun _ q => CatVC.mk (a := ((tx (t2.data.toList.take (g9).toNat)) ++ (bstr ([(⟨(x15.toNat : Int)⟩ : By)].map By.n)))) (b := (tx (t2.data.toList.drop (g9).toNat))) (by simp only [tx_append, tx_size, tx_list, List.length_append, List.length_take, List.length_drop, bsize, List.length_map, List.length_cons, List.length_nil, bstr_tx, List.map_cons, List.map_nil] at *; omega) q) ?_
        refine s_pure (.string (((tx (t2.data.toList.take (g9).toNat)) ++ (bstr ([(⟨(x15.toNat : Int)⟩ : By)].map By.n))) ++ (tx (t2.data.toList.drop (g9).toNat)))) (fun _ q => q) ?_
        refine s_nil ?_
        refine p_blkN ?_
        refine p_blkN ?_
        refine p_seqN ?_
        refine v_ops ?_
        refine s_pure (.int .i64 n) (fun _ q => q) ?_
        refine s_pure (.int .i64 (n - 1)) (fun _ q => ArithVC.mk (by omega) q) ?_
        refine s_pure (.int .i64 (n - 1)) (fun _ q => q) ?_
        refine s_nil ?_
        exact p_lpN ⟨(n - 1), (((tx (t2.data.toList.take (g9).toNat)) ++ (bstr ([(⟨(x15.toNat : Int)⟩ : By)].map By.n))) ++ (tx (t2.data.toList.drop (g9).toNat))), ⟨rfl, rfl, rfl, rfl⟩, ⟨E24, (Ch23.le (by first | omega | (simp; omega))), (by exact ⟨by omega, by omega, (by simp [tx_append, tx_size, tx_list, bsize, bstr_tx]; omega)⟩)⟩, by omega⟩
      ·
        refine v_seq ?_
        refine v_ops ?_
        refine s_pure (.bool (g22 == 1)) (fun _ q => q) ?_
        refine s_pure (.bool (g22 == 1)) (fun _ q => q) ?_
        refine s_nil ?_
        refine p_seqN ?_
        refine v_cond rfl (fun c26 => ?_) (fun c26 => ?_)
        ·
          refine v_ops ?_
          refine s_pure (.string t2) (fun _ q => q) ?_
          refine s_pure (.int .i64 g9) (fun _ q => q) ?_
          refine s_pure (.string (tx (t2.data.toList.take (g9).toNat))) (fun _ q => sslc_beg (by omega) (by omega) q) ?_
          refine s_pure (.string (bstr ([(⟨(x15.toNat : Int)⟩ : By)].map By.n))) (fun _ q => q) ?_
          refine s_pure (.string ((tx (t2.data.toList.take (g9).toNat)) ++ (bstr ([(⟨(x15.toNat : Int)⟩ : By)].map By.n)))) (fun _ q => CatVC.mk (a := (tx (t2.data.toList.take (g9).toNat))) (b := (bstr ([(⟨(x15.toNat : Int)⟩ : By)].map By.n))) (by simp only [tx_append, tx_size, tx_list, List.length_append, List.length_take, List.length_drop, bsize, List.length_map, List.length_cons, List.length_nil, bstr_tx, List.map_cons, List.map_nil] at *; omega) q) ?_
          refine s_pure (.string t2) (fun _ q => q) ?_
          refine s_pure (.int .i64 g9) (fun _ q => q) ?_
          refine s_pure (.int .i64 (g9 + 1)) (fun _ q => ArithVC.mk (by omega) q) ?_
          refine s_pure (.string (tx (t2.data.toList.drop ((g9 + 1)).toNat))) (fun _ q => sslc_end (by omega) (by omega) q) ?_
          refine s_pure (.string (((tx (t2.data.toList.take (g9).toNat)) ++ (bstr ([(⟨(x15.toNat : Int)⟩ : By)].map By.n))) ++ (tx (t2.data.toList.drop ((g9 + 1)).toNat)))) (fun _ q => CatVC.mk (a := ((tx (t2.data.toList.take (g9).toNat)) ++ (bstr ([(⟨(x15.toNat : Int)⟩ : By)].map By.n)))) (b := (tx (t2.data.toList.drop ((g9 + 1)).toNat))) (by simp only [tx_append, tx_size, tx_list, List.length_append, List.length_take, List.length_drop, bsize, List.length_map, List.length_cons, List.length_nil, bstr_tx, List.map_cons, List.map_nil] at *; omega) q) ?_
          refine s_pure (.string (((tx (t2.data.toList.take (g9).toNat)) ++ (bstr ([(⟨(x15.toNat : Int)⟩ : By)].map By.n))) ++ (tx (t2.data.toList.drop ((g9 + 1)).toNat)))) (fun _ q => q) ?_
          refine s_nil ?_
          refine p_blkN ?_
          refine p_blkN ?_
          refine p_seqN ?_
          refine v_ops ?_
          refine s_pure (.int .i64 n) (fun _ q => q) ?_
          refine s_pure (.int .i64 (n - 1)) (fun _ q => ArithVC.mk (by omega) q) ?_
          refine s_pure (.int .i64 (n - 1)) (fun _ q => q) ?_
          refine s_nil ?_
          exact p_lpN ⟨(n - 1), (((tx (t2.data.toList.take (g9).toNat)) ++ (bstr ([(⟨(x15.toNat : Int)⟩ : By)].map By.n))) ++ (tx (t2.data.toList.drop ((g9 + 1)).toNat))), ⟨rfl, rfl, rfl, rfl⟩, ⟨E24, (Ch23.le (by first | omega | (simp; omega))), (by exact ⟨by omega, by omega, (by simp [tx_append, tx_size, tx_list, bsize, bstr_tx]; omega)⟩)⟩, by omega⟩
        ·
          refine v_ops ?_
          refine s_pure (.string t2) (fun _ q => q) ?_
          refine s_pure (.int .i64 g9) (fun _ q => q) ?_
          refine s_pure (.string (tx (t2.data.toList.take (g9).toNat))) (fun _ q => sslc_beg (by omega) (by omega) q) ?_
          refine s_pure (.string t2) (fun _ q => q) ?_
          refine s_pure (.int .i64 g9) (fun _ q => q) ?_
          refine s_pure (.int .i64 (g9 + 1)) (fun _ q => ArithVC.mk (by omega) q) ?_
          refine s_pure (.string (tx (t2.data.toList.drop ((g9 + 1)).toNat))) (fun _ q => sslc_end (by omega) (by omega) q) ?_
          refine s_pure (.string ((tx (t2.data.toList.take (g9).toNat)) ++ (tx (t2.data.toList.drop ((g9 + 1)).toNat)))) (fun _ q => CatVC.mk (a := (tx (t2.data.toList.take (g9).toNat))) (b := (tx (t2.data.toList.drop ((g9 + 1)).toNat))) (by simp only [tx_append, tx_size, tx_list, List.length_append, List.length_take, List.length_drop, bsize, List.length_map, List.length_cons, List.length_nil, bstr_tx, List.map_cons, List.map_nil] at *; omega) q) ?_
          refine s_pure (.string ((tx (t2.data.toList.take (g9).toNat)) ++ (tx (t2.data.toList.drop ((g9 + 1)).toNat)))) (fun _ q => q) ?_
          refine s_nil ?_
          refine p_blkN ?_
          refine p_blkN ?_
          refine p_seqN ?_
          refine v_ops ?_
          refine s_pure (.int .i64 n) (fun _ q => q) ?_
          refine s_pure (.int .i64 (n - 1)) (fun _ q => ArithVC.mk (by omega) q) ?_
          refine s_pure (.int .i64 (n - 1)) (fun _ q => q) ?_
          refine s_nil ?_
          exact p_lpN ⟨(n - 1), ((tx (t2.data.toList.take (g9).toNat)) ++ (tx (t2.data.toList.drop ((g9 + 1)).toNat))), ⟨rfl, rfl, rfl, rfl⟩, ⟨E24, (Ch23.le (by first | omega | (simp; omega))), (by exact ⟨by omega, by omega, (by simp [tx_append, tx_size, tx_list, bsize, bstr_tx]; omega)⟩)⟩, by omega⟩
    ·
      refine v_exit ?_
      refine p_seqX ?_
      refine p_lpX ?_
      refine p_blkX ?_
      refine p_seqN ?_
      refine v_seq ?_
      refine v_ops ?_
      refine s_pure (.string t2) (fun _ q => q) ?_
      refine s_pure (.string t2) (fun _ q => q) ?_
      refine s_nil ?_
      refine p_seqN ?_
      refine v_ret ?_
      refine p_ret [.string t2] (.string t2) (fun _ q => q) rfl ?_
      exact ⟨t2, rfl, (by omega), (bxc.le (by omega)), Eh⟩
  ·
    refine s_pass rfl ?_
    refine s_pass rfl ?_
    refine s_pass rfl ?_
    refine s_pure (.bool false) (fun _ q => q) ?_
    refine s_nil ?_
    refine p_seqN ?_
    refine v_condN rfl (by simp) ?_
    refine v_exit ?_
    refine p_seqX ?_
    refine p_lpX ?_
    refine p_blkX ?_
    refine p_seqN ?_
    refine v_seq ?_
    refine v_ops ?_
    refine s_pure (.string t2) (fun _ q => q) ?_
    refine s_pure (.string t2) (fun _ q => q) ?_
    refine s_nil ?_
    refine p_seqN ?_
    refine v_ret ?_
    refine p_ret [.string t2] (.string t2) (fun _ q => q) rfl ?_
    exact ⟨t2, rfl, (by omega), (bxc.le (by omega)), Eh⟩


theorem of_size {g : ByteArray} {l : List ByteArray} (h : g ∈ l) (hl : ∀ x ∈ l, x.size ≤ 9) : (g.size : Int) ≤ 1000 := by have := hl g h; omega
theorem pk_size {p : PkP} (hp : PkOk p) : (tx (pkTx p)).size ≤ 250 := by
  have h1 := line_all (sep := [47]) (by simp) (pk_three hp)
  have h2 := line_all (sep := [32]) (by simp) (pk_nums hp)
  have h3 := hp.2.2.2.1
  rw [tx_size, pkTx, List.length_append, List.length_append, List.length_cons, List.length_nil]
  simp only [List.length_cons, List.length_nil] at h1
  omega

theorem spec_l1Most_ok (a : Int) (b : Int) (h : Heap)  : Cn f_spec_l1Most [.int .i64 a, .int .i64 b] h fun v h' => v = .int .i64 (max a b) ∧ h' = h := by
  refine calls_of r_spec_l1Most ?_
  refine v_seq ?_
  refine v_ops ?_
  refine s_pure (.int .i64 0) (fun _ q => q) ?_
  refine s_nil ?_
  refine p_seqN ?_
  refine v_seq ?_
  refine v_seq ?_
  refine v_ops ?_
  refine s_pure (.int .i64 a) (fun _ q => q) ?_
  refine s_pure (.int .i64 b) (fun _ q => q) ?_
  refine s_pure (.bool (decide (a > b))) (fun _ q => q) ?_
  refine s_nil ?_
  refine p_seqN ?_
  refine v_cond rfl (fun c1 => ?_) (fun c1 => ?_)
  ·
    refine v_seq ?_
    refine v_ops ?_
    refine s_pure (.int .i64 a) (fun _ q => q) ?_
    refine s_pure (.int .i64 a) (fun _ q => q) ?_
    refine s_nil ?_
    refine p_seqN ?_
    refine v_ret ?_
    refine p_seqR ?_
    refine p_ret [.int .i64 a] (.int .i64 a) (fun _ q => q) rfl ?_
    have ho : (max a b) = a := by omega
    exact ⟨by first | (rw [ho]; done) | rfl, rfl⟩
  ·
    refine v_skip ?_
    refine p_seqN ?_
    refine v_seq ?_
    refine v_ops ?_
    refine s_pure (.int .i64 b) (fun _ q => q) ?_
    refine s_pure (.int .i64 b) (fun _ q => q) ?_
    refine s_nil ?_
    refine p_seqN ?_
    refine v_ret ?_
    refine p_ret [.int .i64 b] (.int .i64 b) (fun _ q => q) rfl ?_
    have ho : (max a b) = b := by omega
    exact ⟨by first | (rw [ho]; done) | rfl, rfl⟩

set_option maxRecDepth 10000 in
set_option maxHeartbeats 4000000 in
theorem spec_DrawSplitMessage_ok (v_code : Value) (code : List By) (h : Heap) (s_code : Sl h v_code code) (hby : ∀ y ∈ code, 0 ≤ y.n ∧ y.n ≤ 255) (hsz : code.length ≤ 2000000) : Cn f_spec_DrawSplitMessage [v_code] h fun v h' => ∃ g0 : Int, ∃ g1 : List Int, ∃ g2 : Int, ∃ r0 : Value, v = .tuple #[.int .i64 g0, r0, .int .i64 g2] ∧ SlO h' r0 g1 ∧ Fr h.size r0 ∧ (g1.length ≤ 1000) ∧ Ext h h' := by
  have lt_code := s_code.lt
  have l63_code := s_code.len63
  refine calls_of r_spec_DrawSplitMessage ?_
  refine v_seq ?_
  refine v_ops ?_
  refine s_pure (.int .i64 0) (fun _ q => q) ?_
  refine s_pure (.slice none 0 0) (fun _ q => q) ?_
  refine s_pure (.int .i64 0) (fun _ q => q) ?_
  refine s_nil ?_
  refine p_seqN ?_
  refine v_seq ?_
  refine v_ops ?_
  refine s_pure v_code (fun _ q => q) ?_
  refine s_pure (.agg #[v_code, .int .i64 0, .int .u64 0]) (fun _ q => w_build (seg_sl s_code rfl (seg_nil q))) ?_
  refine s_box [v_code, .int .i64 0, .int .u64 0] rfl (fun h2 b1 hbb1 hzb1 eh2 bxb1 => ?_)
  have E3 := (Ext.refl h).trans eh2
  have z4 := eh2.size
  have lbb1 := bxb1.lt
  refine s_pure (.pointer (some ⟨b1, 0, none⟩)) (fun _ q => q) ?_
  refine s_nil ?_
  refine p_seqN ?_
  refine v_seq ?_
  refine v_ops ?_
  refine s_pure (.pointer (some ⟨b1, 0, none⟩)) (fun _ q => q) ?_
  refine s_pure (.pointer (some ⟨b1, 0, none⟩)) (fun _ q => q) ?_
  refine s_row (α := Int) [0, 9] (fun _ q => seg_i rfl (seg_i rfl (seg_nil q))) rfl (by simp [maxLen]) (fun r5 h6 eh6 zh6 s_r5 fr_r5 => ?_)
  have E7 := E3.trans eh6
  have z8 := eh6.size
  have lt_r5 := s_r5.lt
  have f9 := (bxb1.ext eh6)
  have f10 := ((s_code.ext eh2).ext eh6)
  have C11 : Cur h6 b1 49 0 h.size := Cur.mk2 f9 f10 lt_code hby (by omega) (by omega)
  refine s_call [.pointer (some ⟨b1, 0, none⟩), r5] rfl (spec_l1Cur_among_ok b1 49 0 h.size r5 [0, 9] _ C11 s_r5.toSl (fun b hb hc => by simp at hc; have := fr_r5 b hb; omega) (by omega) (by first | omega | assumption | (simp; done) | (simp; omega))) ?_
  rintro _ h13 ⟨g12, rfl, qh13, Ch13, mh13⟩
  have zh13 := mh13.size
  have E14 := E7.mod mh13 (fun b hb => by simp at hb; omega)
  simp only [List.mem_cons, List.not_mem_nil, or_false] at qh13
  refine s_row (α := Int) [1, 2, 3, 8, g12] (fun _ q => seg_i rfl (seg_i rfl (seg_i rfl (seg_i rfl (seg_i rfl (seg_nil q)))))) rfl (by simp [maxLen]) (fun r15 h16 eh16 zh16 s_r15 fr_r15 => ?_)
  have E17 := E14.trans eh16
  have z18 := eh16.size
  have lt_r15 := s_r15.lt
  have f19 := (Ch13.ext eh16)
  refine s_call [.pointer (some ⟨b1, 0, none⟩), r15] rfl (spec_l1Cur_among_ok b1 49 (0 + 2) h.size r15 [1, 2, 3, 8, g12] _ f19 s_r15.toSl (fun b hb hc => by simp at hc; have := fr_r15 b hb; omega) (by omega) (by first | omega | assumption | (simp; done) | (simp; omega))) ?_
  rintro _ h21 ⟨g20, rfl, qh21, Ch21, mh21⟩
  have zh21 := mh21.size
  have E22 := E17.mod mh21 (fun b hb => by simp at hb; omega)
  simp only [List.mem_cons, List.not_mem_nil, or_false] at qh21
  refine s_pure (.int .i64 g20) (fun _ q => q) ?_
  refine s_nil ?_
  refine p_seqN ?_
  refine v_seq ?_
  refine v_ops ?_
  refine s_pure (.pointer (some ⟨b1, 0, none⟩)) (fun _ q => q) ?_
  refine s_pure (.pointer (some ⟨b1, 0, none⟩)) (fun _ q => q) ?_
  refine s_pure (.int .i64 g20) (fun _ q => q) ?_
  refine s_pure (.int .i64 (g20 * 9)) (fun _ q => ArithVC.mk (by omega) q) ?_
  refine s_callS [.int .i64 0, .int .i64 (g20 * 9)] (.int .i64 (max 0 (g20 * 9))) rfl (spec_l1Most_ok 0 (g20 * 9) _ ) ?_
  refine s_pure (.int .i64 g20) (fun _ q => q) ?_
  refine s_pure (.int .i64 (g20 * 9)) (fun _ q => ArithVC.mk (by omega) q) ?_
  refine s_pure (.int .i64 ((g20 * 9) + 1)) (fun _ q => ArithVC.mk (by omega) q) ?_
  refine s_row (α := Int) [0, 1, 2, 5, 9, 10, (max 0 (g20 * 9)), ((g20 * 9) + 1)] (fun _ q => seg_i rfl (seg_i rfl (seg_i rfl (seg_i rfl (seg_i rfl (seg_i rfl (seg_i rfl (seg_i rfl (seg_nil q))))))))) rfl (by simp [maxLen]) (fun r23 h24 eh24 zh24 s_r23 fr_r23 => ?_)
  have E25 := E22.trans eh24
  have z26 := eh24.size
  have lt_r23 := s_r23.lt
  have f27 := (Ch21.ext eh24)
  refine s_call [.pointer (some ⟨b1, 0, none⟩), r23] rfl (spec_l1Cur_among_ok b1 49 ((0 + 2) + 2) h.size r23 [0, 1, 2, 5, 9, 10, (max 0 (g20 * 9)), ((g20 * 9) + 1)] _ f27 s_r23.toSl (fun b hb hc => by simp at hc; have := fr_r23 b hb; omega) (by omega) (by first | omega | assumption | (simp; done) | (simp; omega))) ?_
  rintro _ h29 ⟨g28, rfl, qh29, Ch29, mh29⟩
  have zh29 := mh29.size
  have E30 := E25.mod mh29 (fun b hb => by simp at hb; omega)
  simp only [List.mem_cons, List.not_mem_nil, or_false] at qh29
  refine s_call [.pointer (some ⟨b1, 0, none⟩), .int .i64 g28] rfl (spec_l1Cur_contents_ok b1 49 (((0 + 2) + 2) + 2) h.size g28 _ Ch29 (by omega) (by omega)) ?_
  rintro r32 h33 ⟨g31, _, rfl, s_r32, fr_r32, qh33, Ch33, mh33⟩
  have zh33 := mh33.size
  have E34 := E30.mod mh33 (fun b hb => by simp at hb; omega)
  have lt_r32 := s_r32.lt
  refine s_pure r32 (fun _ q => q) ?_
  refine s_nil ?_
  refine p_seqN ?_
  refine v_seq ?_
  refine v_seq ?_
  refine v_ops ?_
  refine s_pure r32 (fun _ q => q) ?_
  refine s_pure (.int .i64 (g31.length : Int)) (fun _ q => s_r32.lenVC q) ?_
  refine s_pure (.bool (decide ((g31.length : Int) > 0))) (fun _ q => q) ?_
  refine s_pure (.bool (decide ((g31.length : Int) > 0))) (fun _ q => q) ?_
  refine s_splitT rfl (fun c35 => ?_) (fun c35 => ?_)
  ·
    refine s_run rfl ?_
    refine s_pure (.pointer (some ⟨b1, 0, none⟩)) (fun _ q => q) ?_
    refine s_run rfl ?_
    refine s_call [.pointer (some ⟨b1, 0, none⟩), .int .i64 16] rfl (spec_l1Cur_one_ok b1 49 ((((0 + 2) + 2) + 2) + (6 * g28)) h.size 16 _ Ch33 (by omega)) ?_
    rintro _ h37 ⟨g36, rfl, Ch37, mh37⟩
    have zh37 := mh37.size
    have E38 := E34.mod mh37 (fun b hb => by simp at hb; omega)
    refine s_pure (.bool g36) (fun _ q => q) ?_
    refine s_nil ?_
    refine p_seqN ?_
    refine v_cond rfl (fun c39 => ?_) (fun c39 => ?_)
    ·
      refine v_ops ?_
      refine s_pure r32 (fun _ q => q) ?_
      refine s_pure (.pointer (some ⟨b1, 0, none⟩)) (fun _ q => q) ?_
      refine s_row (α := Int) [0, 60, 61] (fun _ q => seg_i rfl (seg_i rfl (seg_i rfl (seg_nil q)))) rfl (by simp [maxLen]) (fun r40 h41 eh41 zh41 s_r40 fr_r40 => ?_)
      have E42 := E38.trans eh41
      have z43 := eh41.size
      have lt_r40 := s_r40.lt
      have f44 := (Ch37.ext eh41)
      refine s_call [.pointer (some ⟨b1, 0, none⟩), r40] rfl (spec_l1Cur_among_ok b1 49 (((((0 + 2) + 2) + 2) + (6 * g28)) + 2) h.size r40 [0, 60, 61] _ f44 s_r40.toSl (fun b hb hc => by simp at hc; have := fr_r40 b hb; omega) (by omega) (by first | omega | assumption | (simp; done) | (simp; omega))) ?_
      rintro _ h46 ⟨g45, rfl, qh46, Ch46, mh46⟩
      have zh46 := mh46.size
      have E47 := E42.mod mh46 (fun b hb => by simp at hb; omega)
      simp only [List.mem_cons, List.not_mem_nil, or_false] at qh46
      have f48 := (((s_r32.mod mh37 (fun b hb hc => by simp at hc; have := fr_r32 b hb; omega)).ext eh41).mod mh46 (fun b hb hc => by simp at hc; have := fr_r32 b hb; omega))
      have hk49 : 0 < g31.length := (by first | omega | (simp; omega))
      obtain ⟨x50, hx50⟩ : ∃ x, g31[0]? = some x := ⟨_, List.getElem?_eq_getElem hk49⟩
      refine s_pure (.pointer (some ⟨sblk r32, soff r32 + 0 * 1, none⟩)) (fun _ q => f48.idx (k := 0) rfl hk49 q) ?_
      refine s_stSl (k := 0) (j := 0) g45 (.int .i64 g45) [.int .i64 g45] f48 rfl rfl rfl rfl rfl hx50 (Nat.le_of_ble_eq_true rfl) rfl (all_cons rfl all_nil) (fun h51 mh51 sh51 s52 => ?_)
      have E53 := E47.mod mh51 (fun b hb => by have := fr_r32 b hb; omega)
      refine s_nil ?_
      refine p_seqN ?_
      refine v_seq ?_
      refine v_ops ?_
      refine s_pure (.pointer (some ⟨b1, 0, none⟩)) (fun _ q => q) ?_
      refine s_pure (.pointer (some ⟨b1, 0, none⟩)) (fun _ q => q) ?_
      refine s_row (α := Int) [0, 1000] (fun _ q => seg_i rfl (seg_i rfl (seg_nil q))) rfl (by simp [maxLen]) (fun r54 h55 eh55 zh55 s_r54 fr_r54 => ?_)
      have E56 := E53.trans eh55
      have z57 := eh55.size
      have lt_r54 := s_r54.lt
      have f58 := ((Ch46.mod mh51 (fun hc => by have := fr_r32 _ hc; omega) (fun b hb => by have := fr_r32 b hb; omega)).ext eh55)
      refine s_call [.pointer (some ⟨b1, 0, none⟩), r54] rfl (spec_l1Cur_among_ok b1 49 ((((((0 + 2) + 2) + 2) + (6 * g28)) + 2) + 2) h.size r54 [0, 1000] _ f58 s_r54.toSl (fun b hb hc => by simp at hc; have := fr_r54 b hb; omega) (by omega) (by first | omega | assumption | (simp; done) | (simp; omega))) ?_
      rintro _ h60 ⟨g59, rfl, qh60, Ch60, mh60⟩
      have zh60 := mh60.size
      have E61 := E56.mod mh60 (fun b hb => by simp at hb; omega)
      simp only [List.mem_cons, List.not_mem_nil, or_false] at qh60
      refine s_row (α := Int) [1, 12, 999, g59] (fun _ q => seg_i rfl (seg_i rfl (seg_i rfl (seg_i rfl (seg_nil q))))) rfl (by simp [maxLen]) (fun r62 h63 eh63 zh63 s_r62 fr_r62 => ?_)
      have E64 := E61.trans eh63
      have z65 := eh63.size
      have lt_r62 := s_r62.lt
      have f66 := (Ch60.ext eh63)
      refine s_call [.pointer (some ⟨b1, 0, none⟩), r62] rfl (spec_l1Cur_among_ok b1 49 (((((((0 + 2) + 2) + 2) + (6 * g28)) + 2) + 2) + 2) h.size r62 [1, 12, 999, g59] _ f66 s_r62.toSl (fun b hb hc => by simp at hc; have := fr_r62 b hb; omega) (by omega) (by first | omega | assumption | (simp; done) | (simp; omega))) ?_
      rintro _ h68 ⟨g67, rfl, qh68, Ch68, mh68⟩
      have zh68 := mh68.size
      have E69 := E64.mod mh68 (fun b hb => by simp at hb; omega)
      simp only [List.mem_cons, List.not_mem_nil, or_false] at qh68
      refine s_pure r32 (fun _ q => q) ?_
      refine s_pure (.int .i64 g20) (fun _ q => q) ?_
      refine s_pure (.int .i64 g67) (fun _ q => q) ?_
      refine s_pure r32 (fun _ q => q) ?_
      refine s_pure (.int .i64 g20) (fun _ q => q) ?_
      refine s_nil ?_
      refine p_seqN ?_
      refine v_ret ?_
      refine p_ret [.int .i64 g67, r32, .int .i64 g20] (.tuple #[.int .i64 g67, r32, .int .i64 g20]) (fun _ q => q) rfl ?_
      have f70 := ((((s52.ext eh55).mod mh60 (fun b hb hc => by simp at hc; have := fr_r32 b hb; omega)).ext eh63).mod mh68 (fun b hb hc => by simp at hc; have := fr_r32 b hb; omega))
      exact ⟨g67, (g31.set 0 g45), g20, r32, rfl, f70, (fr_r32.mono (by omega)), (by first | omega | (simp; omega)), E69⟩
    ·
      refine v_skip ?_
      refine p_seqN ?_
      refine v_seq ?_
      refine v_ops ?_
      refine s_pure (.pointer (some ⟨b1, 0, none⟩)) (fun _ q => q) ?_
      refine s_pure (.pointer (some ⟨b1, 0, none⟩)) (fun _ q => q) ?_
      refine s_row (α := Int) [0, 1000] (fun _ q => seg_i rfl (seg_i rfl (seg_nil q))) rfl (by simp [maxLen]) (fun r71 h72 eh72 zh72 s_r71 fr_r71 => ?_)
      have E73 := E38.trans eh72
      have z74 := eh72.size
      have lt_r71 := s_r71.lt
      have f75 := (Ch37.ext eh72)
      refine s_call [.pointer (some ⟨b1, 0, none⟩), r71] rfl (spec_l1Cur_among_ok b1 49 (((((0 + 2) + 2) + 2) + (6 * g28)) + 2) h.size r71 [0, 1000] _ f75 s_r71.toSl (fun b hb hc => by simp at hc; have := fr_r71 b hb; omega) (by omega) (by first | omega | assumption | (simp; done) | (simp; omega))) ?_
      rintro _ h77 ⟨g76, rfl, qh77, Ch77, mh77⟩
      have zh77 := mh77.size
      have E78 := E73.mod mh77 (fun b hb => by simp at hb; omega)
      simp only [List.mem_cons, List.not_mem_nil, or_false] at qh77
      refine s_row (α := Int) [1, 12, 999, g76] (fun _ q => seg_i rfl (seg_i rfl (seg_i rfl (seg_i rfl (seg_nil q))))) rfl (by simp [maxLen]) (fun r79 h80 eh80 zh80 s_r79 fr_r79 => ?_)
      have E81 := E78.trans eh80
      have z82 := eh80.size
      have lt_r79 := s_r79.lt
      have f83 := (Ch77.ext eh80)
      refine s_call [.pointer (some ⟨b1, 0, none⟩), r79] rfl (spec_l1Cur_among_ok b1 49 ((((((0 + 2) + 2) + 2) + (6 * g28)) + 2) + 2) h.size r79 [1, 12, 999, g76] _ f83 s_r79.toSl (fun b hb hc => by simp at hc; have := fr_r79 b hb; omega) (by omega) (by first | omega | assumption | (simp; done) | (simp; omega))) ?_
      rintro _ h85 ⟨g84, rfl, qh85, Ch85, mh85⟩
      have zh85 := mh85.size
      have E86 := E81.mod mh85 (fun b hb => by simp at hb; omega)
      simp only [List.mem_cons, List.not_mem_nil, or_false] at qh85
      refine s_pure r32 (fun _ q => q) ?_
      refine s_pure (.int .i64 g20) (fun _ q => q) ?_
      refine s_pure (.int .i64 g84) (fun _ q => q) ?_
      refine s_pure r32 (fun _ q => q) ?_
      refine s_pure (.int .i64 g20) (fun _ q => q) ?_
      refine s_nil ?_
      refine p_seqN ?_
      refine v_ret ?_
      refine p_ret [.int .i64 g84, r32, .int .i64 g20] (.tuple #[.int .i64 g84, r32, .int .i64 g20]) (fun _ q => q) rfl ?_
      have f87 := (((((s_r32.mod mh37 (fun b hb hc => by simp at hc; have := fr_r32 b hb; omega)).ext eh72).mod mh77 (fun b hb hc => by simp at hc; have := fr_r32 b hb; omega)).ext eh80).mod mh85 (fun b hb hc => by simp at hc; have := fr_r32 b hb; omega))
      exact ⟨g84, g31, g20, r32, rfl, f87, (fr_r32.mono (by omega)), (by first | omega | (simp; omega)), E86⟩
  ·
    refine s_pass rfl ?_
    refine s_pass rfl ?_
    refine s_pure (.bool false) (fun _ q => q) ?_
    refine s_nil ?_
    refine p_seqN ?_
    refine v_condN rfl (by simp) ?_
    refine v_skip ?_
    refine p_seqN ?_
    refine v_seq ?_
    refine v_ops ?_
    refine s_pure (.pointer (some ⟨b1, 0, none⟩)) (fun _ q => q) ?_
    refine s_pure (.pointer (some ⟨b1, 0, none⟩)) (fun _ q => q) ?_
    refine s_row (α := Int) [0, 1000] (fun _ q => seg_i rfl (seg_i rfl (seg_nil q))) rfl (by simp [maxLen]) (fun r88 h89 eh89 zh89 s_r88 fr_r88 => ?_)
    have E90 := E34.trans eh89
    have z91 := eh89.size
    have lt_r88 := s_r88.lt
    have f92 := (Ch33.ext eh89)
    refine s_call [.pointer (some ⟨b1, 0, none⟩), r88] rfl (spec_l1Cur_among_ok b1 49 ((((0 + 2) + 2) + 2) + (6 * g28)) h.size r88 [0, 1000] _ f92 s_r88.toSl (fun b hb hc => by simp at hc; have := fr_r88 b hb; omega) (by omega) (by first | omega | assumption | (simp; done) | (simp; omega))) ?_
    rintro _ h94 ⟨g93, rfl, qh94, Ch94, mh94⟩
    have zh94 := mh94.size
    have E95 := E90.mod mh94 (fun b hb => by simp at hb; omega)
    simp only [List.mem_cons, List.not_mem_nil, or_false] at qh94
    refine s_row (α := Int) [1, 12, 999, g93] (fun _ q => seg_i rfl (seg_i rfl (seg_i rfl (seg_i rfl (seg_nil q))))) rfl (by simp [maxLen]) (fun r96 h97 eh97 zh97 s_r96 fr_r96 => ?_)
    have E98 := E95.trans eh97
    have z99 := eh97.size
    have lt_r96 := s_r96.lt
    have f100 := (Ch94.ext eh97)
    refine s_call [.pointer (some ⟨b1, 0, none⟩), r96] rfl (spec_l1Cur_among_ok b1 49 (((((0 + 2) + 2) + 2) + (6 * g28)) + 2) h.size r96 [1, 12, 999, g93] _ f100 s_r96.toSl (fun b hb hc => by simp at hc; have := fr_r96 b hb; omega) (by omega) (by first | omega | assumption | (simp; done) | (simp; omega))) ?_
    rintro _ h102 ⟨g101, rfl, qh102, Ch102, mh102⟩
    have zh102 := mh102.size
    have E103 := E98.mod mh102 (fun b hb => by simp at hb; omega)
    simp only [List.mem_cons, List.not_mem_nil, or_false] at qh102
    refine s_pure r32 (fun _ q => q) ?_
    refine s_pure (.int .i64 g20) (fun _ q => q) ?_
    refine s_pure (.int .i64 g101) (fun _ q => q) ?_
    refine s_pure r32 (fun _ q => q) ?_
    refine s_pure (.int .i64 g20) (fun _ q => q) ?_
    refine s_nil ?_
    refine p_seqN ?_
    refine v_ret ?_
    refine p_ret [.int .i64 g101, r32, .int .i64 g20] (.tuple #[.int .i64 g101, r32, .int .i64 g20]) (fun _ q => q) rfl ?_
    have f104 := ((((s_r32.ext eh89).mod mh94 (fun b hb hc => by simp at hc; have := fr_r32 b hb; omega)).ext eh97).mod mh102 (fun b hb hc => by simp at hc; have := fr_r32 b hb; omega))
    exact ⟨g101, g31, g20, r32, rfl, f104, (fr_r32.mono (by omega)), (by first | omega | (simp; omega)), E103⟩

theorem spec_DrawJoinMessage_ok (v_code : Value) (code : List By) (h : Heap) (s_code : Sl h v_code code) (hby : ∀ y ∈ code, 0 ≤ y.n ∧ y.n ≤ 255) (hsz : code.length ≤ 2000000) : Cn f_spec_DrawJoinMessage [v_code] h fun v h' => ∃ g0 : List Pk, ∃ g1 : Int, ∃ r0 : Value, v = .tuple #[r0, .int .i64 g1] ∧ RdO h' r0 g0 h.size ∧ (g0.length ≤ 100 ∧ ∀ p ∈ g0, p.sig.length ≤ 200) ∧ Ext h h' := by
  have lt_code := s_code.lt
  have l63_code := s_code.len63
  refine calls_of r_spec_DrawJoinMessage ?_
  refine v_seq ?_
  refine v_ops ?_
  refine s_pure (.slice none 0 0) (fun _ q => q) ?_
  refine s_pure (.int .i64 0) (fun _ q => q) ?_
  refine s_nil ?_
  refine p_seqN ?_
  refine v_seq ?_
  refine v_ops ?_
  refine s_pure v_code (fun _ q => q) ?_
  refine s_pure (.agg #[v_code, .int .i64 0, .int .u64 0]) (fun _ q => w_build (seg_sl s_code rfl (seg_nil q))) ?_
  refine s_box [v_code, .int .i64 0, .int .u64 0] rfl (fun h2 b1 hbb1 hzb1 eh2 bxb1 => ?_)
  have E3 := (Ext.refl h).trans eh2
  have z4 := eh2.size
  have lbb1 := bxb1.lt
  refine s_pure (.pointer (some ⟨b1, 0, none⟩)) (fun _ q => q) ?_
  refine s_nil ?_
  refine p_seqN ?_
  refine v_seq ?_
  refine v_ops ?_
  refine s_pure (.pointer (some ⟨b1, 0, none⟩)) (fun _ q => q) ?_
  have f5 := (s_code.ext eh2)
  have C6 : Cur h2 b1 49 0 h.size := Cur.mk2 bxb1 f5 lt_code hby (by omega) (by omega)
  refine s_call [.pointer (some ⟨b1, 0, none⟩)] rfl (spec_l1Cur_packets_ok b1 49 0 h.size _ C6 (by omega)) ?_
  rintro r8 h9 ⟨g7, _, rfl, s_r8, qh9, Ch9, mh9⟩
  have zh9 := mh9.size
  have E10 := E3.mod mh9 (fun b hb => by simp at hb; omega)
  have lt_r8 := s_r8.lt
  have fr_r8 := s_r8.fr
  refine s_pure r8 (fun _ q => q) ?_
  refine s_nil ?_
  refine p_seqN ?_
  refine v_seq ?_
  refine v_ops ?_
  refine s_pure r8 (fun _ q => q) ?_
  refine s_pure (.pointer (some ⟨b1, 0, none⟩)) (fun _ q => q) ?_
  refine s_pure r8 (fun _ q => q) ?_
  refine s_call [.pointer (some ⟨b1, 0, none⟩), r8] rfl (spec_l1Cur_message_ok b1 49 (0 + 3000) h.size r8 g7 _ Ch9 s_r8.row.toSl (fun b hb => ((fun b hb hc => by simp at hc; have := fr_r8 b hb; omega) : ∀ b ∈ fpts r8 g7, b ∉ [b1]) b (mem_fpts.2 (.inl hb))) (by omega)) ?_
  rintro _ h12 ⟨g11, rfl, Ch12, mh12⟩
  have zh12 := mh12.size
  have E13 := E10.mod mh12 (fun b hb => by simp at hb; omega)
  refine s_pure r8 (fun _ q => q) ?_
  refine s_pure (.int .i64 g11) (fun _ q => q) ?_
  refine s_nil ?_
  refine p_seqN ?_
  refine v_ret ?_
  refine p_ret [r8, .int .i64 g11] (.tuple #[r8, .int .i64 g11]) (fun _ q => q) rfl ?_
  have f14 := (s_r8.mod mh12 (fun b hb hc => by simp at hc; have := fr_r8 b hb; omega))
  exact ⟨g7, g11, r8, rfl, (f14.mono (by omega)), (by assumption), E13⟩

theorem spec_DrawIsPacket_ok (v_code : Value) (code : List By) (h : Heap) (s_code : Sl h v_code code) (hby : ∀ y ∈ code, 0 ≤ y.n ∧ y.n ≤ 255) (hsz : code.length ≤ 2000000) : Cn f_spec_DrawIsPacket [v_code] h fun v h' => ∃ g0 : PkP, ∃ r0 : Value, v = .agg #[.int .i64 g0.message, .int .i64 g0.part, .int .i64 g0.parts, r0] ∧ SlO h' r0 g0.signals ∧ Fr h.size r0 ∧ (g0.signals.length ≤ 12) ∧ Ext h h' := by
  have lt_code := s_code.lt
  have l63_code := s_code.len63
  refine calls_of r_spec_DrawIsPacket ?_
  refine v_seq ?_
  refine v_ops ?_
  refine s_new (fun h2 b1 hbb1 hzb1 eh2 bxb1 => ?_)
  have E3 := (Ext.refl h).trans eh2
  have z4 := eh2.size
  have lbb1 := bxb1.lt
  refine s_nil ?_
  refine p_seqN ?_
  refine v_seq ?_
  refine v_ops ?_
  refine s_pure v_code (fun _ q => q) ?_
  refine s_pure (.agg #[v_code, .int .i64 0, .int .u64 0]) (fun _ q => w_build (seg_sl s_code rfl (seg_nil q))) ?_
  refine s_box [v_code, .int .i64 0, .int .u64 0] rfl (fun h6 b5 hbb5 hzb5 eh6 bxb5 => ?_)
  have E7 := E3.trans eh6
  have z8 := eh6.size
  have lbb5 := bxb5.lt
  refine s_pure (.pointer (some ⟨b5, 0, none⟩)) (fun _ q => q) ?_
  refine s_nil ?_
  refine p_seqN ?_
  refine v_seq ?_
  refine v_ops ?_
  refine s_pure (.pointer (some ⟨b5, 0, none⟩)) (fun _ q => q) ?_
  have f9 := ((s_code.ext eh2).ext eh6)
  have C10 : Cur h6 b5 49 0 h.size := Cur.mk2 bxb5 f9 lt_code hby (by omega) (by omega)
  refine s_call [.pointer (some ⟨b5, 0, none⟩)] rfl (spec_l1Cur_packet_ok b5 49 0 h.size _ C10 (by omega)) ?_
  rintro _ h13 ⟨g11, r12, rfl, s_r12, fr_r12, qh13, Ch13, mh13⟩
  have zh13 := mh13.size
  have E14 := E7.mod mh13 (fun b hb => by simp at hb; omega)
  have lt_r12 := s_r12.lt
  have f15 := ((bxb1.ext eh6).mod mh13 (by simp; omega))
  refine s_stBx (.agg #[.int .i64 g11.message, .int .i64 g11.part, .int .i64 g11.parts, r12]) [.int .i64 g11.message, .int .i64 g11.part, .int .i64 g11.parts, r12] [.int .i64 g11.message, .int .i64 g11.part, .int .i64 g11.parts, r12] f15 rfl rfl rfl rfl (by simp) (all_cons rfl (all_cons rfl (all_cons rfl (all_cons s_r12.one1 all_nil)))) rfl (fun h16 mh16 sh16 bxx17 => ?_)
  have E18 := E14.mod mh16 (fun b hb => by simp at hb; omega)
  refine s_nil ?_
  refine p_seqN ?_
  refine v_ret ?_
  refine p_ret [.agg #[.int .i64 g11.message, .int .i64 g11.part, .int .i64 g11.parts, r12]] (.agg #[.int .i64 g11.message, .int .i64 g11.part, .int .i64 g11.parts, r12]) (fun _ q => (bxx17.loadA rfl q)) rfl ?_
  have f19 := (s_r12.mod mh16 (fun b hb hc => by simp at hc; have := fr_r12 b hb; omega))
  exact ⟨⟨g11.message, g11.part, g11.parts, g11.signals⟩, r12, rfl, f19, (fr_r12.mono (by omega)), (by first | omega | assumption), E18⟩

theorem spec_DrawPacketText_ok (v_code : Value) (code : List By) (h : Heap) (s_code : Sl h v_code code) (hby : ∀ y ∈ code, 0 ≤ y.n ∧ y.n ≤ 255) (hsz : code.length ≤ 2000000) : Cn f_spec_DrawPacketText [v_code] h fun v h' => ∃ g0 : PkP, ∃ r0 : Value, v = .agg #[.int .i64 g0.message, .int .i64 g0.part, .int .i64 g0.parts, r0] ∧ SlO h' r0 g0.signals ∧ Fr h.size r0 ∧ (g0.signals.length ≤ 12) ∧ Ext h h' := by
  have lt_code := s_code.lt
  have l63_code := s_code.len63
  refine calls_of r_spec_DrawPacketText ?_
  refine v_seq ?_
  refine v_ops ?_
  refine s_new (fun h2 b1 hbb1 hzb1 eh2 bxb1 => ?_)
  have E3 := (Ext.refl h).trans eh2
  have z4 := eh2.size
  have lbb1 := bxb1.lt
  refine s_nil ?_
  refine p_seqN ?_
  refine v_seq ?_
  refine v_ops ?_
  refine s_pure v_code (fun _ q => q) ?_
  have f5 := (s_code.ext eh2)
  refine s_call [v_code] rfl (spec_DrawIsPacket_ok v_code code _ f5 (by first | omega | assumption | (simp; done) | (simp; omega)) (by first | omega | assumption | (simp; done) | (simp; omega))) ?_
  rintro _ h8 ⟨g6, r7, rfl, s_r7, fr_r7, qh8, eh8⟩
  have E9 := E3.trans eh8
  have z10 := eh8.size
  have lt_r7 := s_r7.lt
  have f11 := (bxb1.ext eh8)
  refine s_stBx (.agg #[.int .i64 g6.message, .int .i64 g6.part, .int .i64 g6.parts, r7]) [.int .i64 g6.message, .int .i64 g6.part, .int .i64 g6.parts, r7] [.int .i64 g6.message, .int .i64 g6.part, .int .i64 g6.parts, r7] f11 rfl rfl rfl rfl (by simp) (all_cons rfl (all_cons rfl (all_cons rfl (all_cons s_r7.one1 all_nil)))) rfl (fun h12 mh12 sh12 bxx13 => ?_)
  have E14 := E9.mod mh12 (fun b hb => by simp at hb; omega)
  refine s_nil ?_
  refine p_seqN ?_
  refine v_ret ?_
  refine p_ret [.agg #[.int .i64 g6.message, .int .i64 g6.part, .int .i64 g6.parts, r7]] (.agg #[.int .i64 g6.message, .int .i64 g6.part, .int .i64 g6.parts, r7]) (fun _ q => (bxx13.loadA rfl q)) rfl ?_
  have f15 := (s_r7.mod mh12 (fun b hb hc => by simp at hc; have := fr_r7 b hb; omega))
  exact ⟨⟨g6.message, g6.part, g6.parts, g6.signals⟩, r7, rfl, f15, (fr_r7.mono (by omega)), (by first | omega | assumption), E14⟩

theorem spec_DrawParsePacket_ok (v_code : Value) (code : List By) (h : Heap) (s_code : Sl h v_code code) (hby : ∀ y ∈ code, 0 ≤ y.n ∧ y.n ≤ 255) (hsz : code.length ≤ 2000000) : Cn f_spec_DrawParsePacket [v_code] h fun v h' => ∃ g0 : ByteArray, v = .string g0 ∧ ((g0.size : Int) ≤ 1100) ∧ Ext h h' := by
  have lt_code := s_code.lt
  have l63_code := s_code.len63
  refine calls_of r_spec_DrawParsePacket ?_
  refine v_seq ?_
  refine v_ops ?_
  refine s_pure (.string (tx [])) (fun _ q => q) ?_
  refine s_nil ?_
  refine p_seqN ?_
  refine v_seq ?_
  refine v_ops ?_
  refine s_pure v_code (fun _ q => q) ?_
  refine s_pure (.agg #[v_code, .int .i64 0, .int .u64 0]) (fun _ q => w_build (seg_sl s_code rfl (seg_nil q))) ?_
  refine s_box [v_code, .int .i64 0, .int .u64 0] rfl (fun h2 b1 hbb1 hzb1 eh2 bxb1 => ?_)
  have E3 := (Ext.refl h).trans eh2
  have z4 := eh2.size
  have lbb1 := bxb1.lt
  refine s_pure (.pointer (some ⟨b1, 0, none⟩)) (fun _ q => q) ?_
  refine s_nil ?_
  refine p_seqN ?_
  refine v_seq ?_
  refine v_ops ?_
  refine s_pure (.pointer (some ⟨b1, 0, none⟩)) (fun _ q => q) ?_
  have f5 := (s_code.ext eh2)
  have C6 : Cur h2 b1 49 0 h.size := Cur.mk2 bxb1 f5 lt_code hby (by omega) (by omega)
  refine s_call [.pointer (some ⟨b1, 0, none⟩)] rfl (spec_l1Cur_packet_ok b1 49 0 h.size _ C6 (by omega)) ?_
  rintro _ h9 ⟨g7, r8, rfl, s_r8, fr_r8, qh9, Ch9, mh9⟩
  have zh9 := mh9.size
  have E10 := E3.mod mh9 (fun b hb => by simp at hb; omega)
  have lt_r8 := s_r8.lt
  refine s_new (fun h12 b11 hbb11 hzb11 eh12 bxb11 => ?_)
  have E13 := E10.trans eh12
  have z14 := eh12.size
  have lbb11 := bxb11.lt
  refine s_stBx (.agg #[.int .i64 g7.message, .int .i64 g7.part, .int .i64 g7.parts, r8]) [.int .i64 g7.message, .int .i64 g7.part, .int .i64 g7.parts, r8] [.int .i64 g7.message, .int .i64 g7.part, .int .i64 g7.parts, r8] bxb11 rfl rfl rfl rfl (by simp) (all_cons rfl (all_cons rfl (all_cons rfl (all_cons s_r8.one1 all_nil)))) rfl (fun h15 mh15 sh15 bxx16 => ?_)
  have E17 := E13.mod mh15 (fun b hb => by simp at hb; omega)
  refine s_nil ?_
  refine p_seqN ?_
  refine v_seq ?_
  refine v_seq ?_
  refine v_ops ?_
  refine s_load (.agg #[.int .i64 g7.message, .int .i64 g7.part, .int .i64 g7.parts, r8]) (fun _ q => bxx16.loadA rfl q) ?_
  have f18 := ((s_r8.ext eh12).mod mh15 (fun b hb hc => by simp at hc; have := lt_r8 b hb; omega))
  refine s_call [.agg #[.int .i64 g7.message, .int .i64 g7.part, .int .i64 g7.parts, r8]] rfl (spec_pkGood_ok g7 r8 _ f18.toSl) ?_
  rintro _ h19 ⟨rfl, eh19⟩
  have E20 := E17.trans eh19
  have z21 := eh19.size
  refine s_pure (.bool (!decide (PkOk g7))) (fun _ q => q) ?_
  refine s_nil ?_
  refine p_seqN ?_
  refine v_cond rfl (fun c22 => ?_) (fun c22 => ?_)
  ·
    refine v_seq ?_
    refine v_ops ?_
    refine s_pure (.pointer (some ⟨b1, 0, none⟩)) (fun _ q => q) ?_
    refine s_row (α := ByteArray) [(tx []), (tx [49, 50, 47, 48, 47, 50]), (tx [49, 50, 47, 48, 47, 50, 58]), (tx [49, 50, 47, 50, 47, 50, 58, 53]), (tx [49, 50, 47, 48, 47, 50, 58, 54, 49]), (tx [48, 49, 50, 47, 48, 47, 49, 58, 53]), (tx [49, 50, 47, 48, 47, 49, 58, 53, 32]), (tx [49, 50, 47, 48, 58, 53])] (fun _ q => seg_s rfl (seg_s rfl (seg_s rfl (seg_s rfl (seg_s rfl (seg_s rfl (seg_s rfl (seg_s rfl (seg_nil q))))))))) rfl (by simp [maxLen]) (fun r23 h24 eh24 zh24 s_r23 fr_r23 => ?_)
    have E25 := E20.trans eh24
    have z26 := eh24.size
    have lt_r23 := s_r23.lt
    have f27 := ((((Ch9.ext eh12).mod mh15 (by simp; omega) (fun b hb => by simp at hb; omega)).ext eh19).ext eh24)
    refine s_call [.pointer (some ⟨b1, 0, none⟩), r23] rfl (spec_l1Cur_of_ok b1 49 (0 + 1000) h.size r23 [(tx []), (tx [49, 50, 47, 48, 47, 50]), (tx [49, 50, 47, 48, 47, 50, 58]), (tx [49, 50, 47, 50, 47, 50, 58, 53]), (tx [49, 50, 47, 48, 47, 50, 58, 54, 49]), (tx [48, 49, 50, 47, 48, 47, 49, 58, 53]), (tx [49, 50, 47, 48, 47, 49, 58, 53, 32]), (tx [49, 50, 47, 48, 58, 53])] _ f27 s_r23.toSl (fun b hb hc => by simp at hc; have := fr_r23 b hb; omega) (by omega) (by simp)) ?_
    rintro _ h29 ⟨g28, rfl, qh29, Ch29, mh29⟩
    have zh29 := mh29.size
    have E30 := E25.mod mh29 (fun b hb => by simp at hb; omega)
    refine s_pure (.string g28) (fun _ q => q) ?_
    refine s_nil ?_
    refine p_seqN ?_
    refine v_ret ?_
    refine p_seqR ?_
    refine p_ret [.string g28] (.string g28) (fun _ q => q) rfl ?_
    exact ⟨g28, rfl, (by first | omega | (have := pk_size (by assumption); omega) | (have := of_size (by assumption) (by simp [tx_size]); omega)), E30⟩
  ·
    have c22 := Classical.not_not.1 c22
    refine v_skip ?_
    refine p_seqN ?_
    refine v_seq ?_
    refine v_ops ?_
    have f31 := (bxx16.ext eh19)
    refine s_load (.agg #[.int .i64 g7.message, .int .i64 g7.part, .int .i64 g7.parts, r8]) (fun _ q => f31.loadA rfl q) ?_
    have f32 := (f18.ext eh19)
    refine s_call [.agg #[.int .i64 g7.message, .int .i64 g7.part, .int .i64 g7.parts, r8]] rfl (spec_pkText_ok g7 r8 _ f32.toSl (by assumption)) ?_
    rintro _ h33 ⟨rfl, eh33⟩
    have E34 := E20.trans eh33
    have z35 := eh33.size
    refine s_pure (.string (tx (pkTx g7))) (fun _ q => q) ?_
    refine s_nil ?_
    refine p_seqN ?_
    refine v_seq ?_
    refine v_seq ?_
    refine v_ops ?_
    refine s_pure (.pointer (some ⟨b1, 0, none⟩)) (fun _ q => q) ?_
    have f36 := ((((Ch9.ext eh12).mod mh15 (by simp; omega) (fun b hb => by simp at hb; omega)).ext eh19).ext eh33)
    refine s_call [.pointer (some ⟨b1, 0, none⟩), .int .i64 3] rfl (spec_l1Cur_one_ok b1 49 (0 + 1000) h.size 3 _ f36 (by omega)) ?_
    rintro _ h38 ⟨g37, rfl, Ch38, mh38⟩
    have zh38 := mh38.size
    have E39 := E34.mod mh38 (fun b hb => by simp at hb; omega)
    refine s_nil ?_
    refine p_seqN ?_
    refine v_cond rfl (fun c40 => ?_) (fun c40 => ?_)
    ·
      refine v_seq ?_
      refine v_ops ?_
      refine s_pure (.pointer (some ⟨b1, 0, none⟩)) (fun _ q => q) ?_
      refine s_pure (.string (tx (pkTx g7))) (fun _ q => q) ?_
      refine s_call [.pointer (some ⟨b1, 0, none⟩), .string (tx (pkTx g7)), .string (tx [48, 49, 50, 47, 58, 32])] rfl (spec_l1Cur_spoilt_ok b1 49 ((0 + 1000) + 2) h.size (tx (pkTx g7)) (tx [48, 49, 50, 47, 58, 32]) _ Ch38 (by first | (have := pk_size (by assumption); simp [maxLen]; omega) | (simp [maxLen]; omega) | decide) (by first | (have := pk_size (by assumption); simp [maxLen]; omega) | (simp [maxLen]; omega) | decide) (by omega) (by decide) (by have := pk_size (by assumption); omega)) ?_
      rintro _ h42 ⟨g41, rfl, qh42, Ch42, mh42⟩
      have zh42 := mh42.size
      have E43 := E39.mod mh42 (fun b hb => by simp at hb; omega)
      refine s_pure (.string g41) (fun _ q => q) ?_
      refine s_nil ?_
      refine p_seqN ?_
      refine v_ret ?_
      refine p_seqR ?_
      refine p_ret [.string g41] (.string g41) (fun _ q => q) rfl ?_
      exact ⟨g41, rfl, (by first | omega | (have := pk_size (by assumption); omega) | (have := of_size (by assumption) (by simp [tx_size]); omega)), E43⟩
    ·
      refine v_skip ?_
      refine p_seqN ?_
      refine v_seq ?_
      refine v_ops ?_
      refine s_pure (.string (tx (pkTx g7))) (fun _ q => q) ?_
      refine s_pure (.string (tx (pkTx g7))) (fun _ q => q) ?_
      refine s_nil ?_
      refine p_seqN ?_
      refine v_ret ?_
      refine p_ret [.string (tx (pkTx g7))] (.string (tx (pkTx g7))) (fun _ q => q) rfl ?_
      exact ⟨(tx (pkTx g7)), rfl, (by first | omega | (have := pk_size (by assumption); omega) | (have := of_size (by assumption) (by simp [tx_size]); omega)), E39⟩

end Go.Proofs.YtbikhpphdhffaaaGreatDoor
