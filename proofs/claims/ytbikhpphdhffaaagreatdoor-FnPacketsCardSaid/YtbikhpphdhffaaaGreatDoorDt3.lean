/- Texts cut and numbers read by the specification. Condition: none. Printed in part by a program. -/
import Derived.Test.YtbikhpphdhffaaaGreatDoorDt1
namespace Go.Proofs.YtbikhpphdhffaaaGreatDoor
open Go.Vc
set_option linter.all false

theorem sp_keep {b c : UInt8} {l : List UInt8} {fr k : Nat} (h : b ∉ (l.drop fr).take (k - fr)) (hf : fr ≤ k) (hc : l[k]? = some c) (hb : c ≠ b) : b ∉ (l.drop fr).take (k + 1 - fr) := by
  have e : (l.drop fr)[k - fr]? = some c := by rw [List.getElem?_drop, show fr + (k - fr) = k by omega, hc]
  rw [show k + 1 - fr = (k - fr) + 1 by omega, snoc_get e]
  intro hm
  rcases List.mem_append.1 hm with hm | hm
  · exact h hm
  · exact hb (List.mem_singleton.1 hm).symm
theorem sp_cut {b : UInt8} {l : List UInt8} {fr k : Nat} (h : b ∉ (l.drop fr).take (k - fr)) (hf : fr ≤ k) (hc : l[k]? = some b) : splitOn b (l.drop fr) = (l.drop fr).take (k - fr) :: splitOn b (l.drop (k + 1)) := by
  have e : (l.drop fr)[k - fr]? = some b := by rw [List.getElem?_drop, show fr + (k - fr) = k by omega, hc]
  have hlt := (List.getElem?_eq_some_iff.1 e).1
  have e2 : l.drop fr = (l.drop fr).take (k - fr) ++ b :: l.drop (k + 1) := by
    conv => lhs; rw [← List.take_append_drop (k - fr) (l.drop fr)]
    rw [List.drop_eq_getElem_cons hlt, (List.getElem?_eq_some_iff.1 e).2, List.drop_drop]
    congr 2
    congr 1
    omega
  conv => lhs; rw [e2]
  exact splitOn_app h
theorem sp_step {b : UInt8} {l : List UInt8} {fr k : Nat} {o : List ByteArray} (h : b ∉ (l.drop fr).take (k - fr)) (hf : fr ≤ k) (hc : l[k]? = some b) (ho : o ++ (splitOn b (l.drop fr)).map tx = (splitOn b l).map tx) :
    (o ++ [tx ((l.drop fr).take (k - fr))]) ++ (splitOn b (l.drop (k + 1))).map tx = (splitOn b l).map tx := by
  rw [← ho, sp_cut h hf hc, List.map_cons, List.append_assoc]; rfl
theorem sp_end {b : UInt8} {l : List UInt8} {fr k : Nat} {o : List ByteArray} (h : b ∉ (l.drop fr).take (k - fr)) (hk : l.length ≤ k) (ho : o ++ (splitOn b (l.drop fr)).map tx = (splitOn b l).map tx) :
    o ++ [tx (l.drop fr)] = (splitOn b l).map tx := by
  rw [List.take_of_length_le (by rw [List.length_drop]; omega)] at h
  rw [← ho, splitOn_none h]; rfl
theorem u8_of {x b : UInt8} (h : (x.toNat : Int) = (b.toNat : Int)) : x = b := UInt8.toNat_inj.1 (by omega)
theorem u8_ne {x b : UInt8} (h : ¬ (x.toNat : Int) = (b.toNat : Int)) : x ≠ b := fun e => h (by rw [e])

theorem spec_l1Split_ok (s : ByteArray) (b : UInt8) (h : Heap) (b_s : s.size ≤ maxLen) (hs : s.size ≤ 1048576) : Cn f_spec_l1Split [.string s, .int .u8 (b.toNat : Int)] h fun v h' => ∃ r0 : Value, v = r0 ∧ SlO h' r0 ((splitOn b s.data.toList).map tx) ∧ Fr h.size r0 ∧ Ext h h' := by
  have hub : (b.toNat : Int) ≤ 255 := by (have := UInt8.toNat_lt b); omega
  refine calls_of r_spec_l1Split ?_
  refine v_seq ?_
  refine v_ops ?_
  refine s_pure (.slice none 0 0) (fun _ q => q) ?_
  refine s_nil ?_
  refine p_seqN ?_
  refine v_seq ?_
  refine v_ops ?_
  refine s_pure (.slice none 0 0) (fun _ q => q) ?_
  refine s_nil ?_
  refine p_seqN ?_
  refine v_seq ?_
  refine v_ops ?_
  refine s_pure (.int .i64 0) (fun _ q => q) ?_
  refine s_nil ?_
  refine p_seqN ?_
  refine v_seq ?_
  refine v_seq ?_
  refine v_ops ?_
  refine s_pure (.int .i64 0) (fun _ q => q) ?_
  refine s_nil ?_
  refine p_seqN ?_
  refine v_block ?_
  refine v_loop4 (α := Nat) (β := Nat) (γ := List ByteArray) (δ := Value) (fun k fr o w => [(0, .string s), (1, .int .u8 (b.toNat : Int)), (5, w), (6, .int .i64 (fr : Int)), (7, .int .i64 (k : Int))]) (fun k fr o w hh => Ext h hh ∧ SlO hh w o ∧ Fr h.size w ∧ fr ≤ k ∧ k ≤ s.size ∧ (b ∉ (s.data.toList.drop fr).take (k - fr)) ∧ o.length ≤ fr ∧ (o ++ (splitOn b (s.data.toList.drop fr)).map tx = (splitOn b s.data.toList).map tx)) (fun k fr o w => s.size - k) 0 0 [] (.slice none 0 0) ⟨rfl, rfl, rfl, rfl, rfl⟩ ⟨(Ext.refl h), (sl_eq (SlX.nil (α := ByteArray) true h) (by simp)), (Fr.nil _), (by exact ⟨Nat.le_refl _, by omega, by simp, by simp, by simp⟩)⟩ ?_
  rintro k fr o w R2 h1 ⟨Eh, s_w, fr_w, ⟨hf, hk, hn, hol, ho⟩⟩
  have zEh := Eh.size
  have lt_w := s_w.lt
  refine v_seq ?_
  refine v_seq ?_
  refine v_ops ?_
  refine s_pure (.int .i64 (k : Int)) (fun _ q => q) ?_
  refine s_pure (.string s) (fun _ q => q) ?_
  refine s_pure (.int .i64 (s.size : Int)) (fun _ q => q) ?_
  refine s_pure (.bool (decide ((k : Int) < (s.size : Int)))) (fun _ q => q) ?_
  refine s_nil ?_
  refine p_seqN ?_
  refine v_cond rfl (fun c4 => ?_) (fun c4 => ?_)
  ·
    refine v_skip ?_
    refine p_seqN ?_
    refine v_seq ?_
    refine v_block ?_
    refine v_seq ?_
    refine v_ops ?_
    refine s_pure (.string s) (fun _ q => q) ?_
    refine s_pure (.int .i64 (k : Int)) (fun _ q => q) ?_
    have hk6 : k < s.data.toList.length := by rw [bsize]; first | omega | (simp; omega)
    obtain ⟨x5, hx5⟩ : ∃ x, s.data.toList[k]? = some x := ⟨_, List.getElem?_eq_getElem hk6⟩
    have hux5 : (x5.toNat : Int) ≤ 255 := by (have := UInt8.toNat_lt x5); omega
    refine s_pure (.int .u8 (x5.toNat : Int)) (fun _ q => sidx_vc (k := k) rfl hx5 q) ?_
    refine s_pure (.int .u8 (b.toNat : Int)) (fun _ q => q) ?_
    refine s_pure (.bool ((x5.toNat : Int) == (b.toNat : Int))) (fun _ q => CmpVC.mk q) ?_
    refine s_nil ?_
    refine p_seqN ?_
    refine v_cond rfl (fun c7 => ?_) (fun c7 => ?_)
    ·
      refine v_seq ?_
      refine v_ops ?_
      refine s_pure w (fun _ q => q) ?_
      refine s_pure (.string s) (fun _ q => q) ?_
      refine s_pure (.int .i64 (fr : Int)) (fun _ q => q) ?_
      refine s_pure (.int .i64 (k : Int)) (fun _ q => q) ?_
      refine s_pure (.string (tx ((s.data.toList.drop fr).take (k - fr)))) (fun _ q => sslc_vc rfl rfl (by omega) (by omega) q) ?_
      refine s_row (α := ByteArray) [(tx ((s.data.toList.drop fr).take (k - fr)))] (fun _ q => seg_s rfl (seg_nil q)) rfl (by simp [maxLen]) (fun r8 h9 eh9 zh9 s_r8 fr_r8 => ?_)
      have E10 := Eh.trans eh9
      have z11 := eh9.size
      have lt_r8 := s_r8.lt
      have f12 := (s_w.ext eh9)
      refine s_app f12 s_r8 rfl rfl rfl (by simp [maxLen]; omega) (by simp; omega) (fun r13 h14 mh14 zh14 s_r13 ab_r13 => ?_)
      have E15 := E10.mod mh14 (fun b hb => by have := fr_w b hb; omega)
      have fr_r13 := fr_w.app ab_r13 (by omega)
      have np16 : ∀ b ∈ blks r8, b ∉ blks r13 := fun b hb hc => (ab_r13 _ hc).elim (((fun b hb hc => by have := fr_r8 b hb; have := lt_w b hc; omega) : ∀ b ∈ blks r8, b ∉ blks w) b hb) (fun hc => by have := lt_r8 b hb; omega)
      have lt_r13 := s_r13.lt
      refine s_pure r13 (fun _ q => q) ?_
      refine s_nil ?_
      refine p_seqN ?_
      refine v_ops ?_
      refine s_pure (.int .i64 (k : Int)) (fun _ q => q) ?_
      refine s_pure (.int .i64 ((k : Int) + 1)) (fun _ q => ArithVC.mk (by omega) q) ?_
      refine s_pure (.int .i64 ((k : Int) + 1)) (fun _ q => q) ?_
      refine s_nil ?_
      refine p_blkN ?_
      refine p_seqN ?_
      refine v_ops ?_
      refine s_pure (.int .i64 (k : Int)) (fun _ q => q) ?_
      refine s_pure (.int .i64 ((k : Int) + 1)) (fun _ q => ArithVC.mk (by omega) q) ?_
      refine s_pure (.int .i64 ((k : Int) + 1)) (fun _ q => q) ?_
      refine s_nil ?_
      exact p_lpN ⟨k + 1, k + 1, (o ++ [(tx ((s.data.toList.drop fr).take (k - fr)))]), r13, ⟨rfl, rfl, rfl, rfl, rfl⟩, ⟨E15, (sl_eq s_r13 (by simp)), (fr_r13.mono (by omega)), (by first | exact ⟨by omega, by omega, sp_keep hn hf (by assumption) (u8_ne (by assumption)), hol, ho⟩ | (have hc_ := u8_of (by assumption : _ = (b.toNat : Int)); subst hc_; exact ⟨by omega, by omega, by simp, by simp; omega, sp_step hn hf (by assumption) ho⟩))⟩, by omega⟩
    ·
      refine v_skip ?_
      refine p_blkN ?_
      refine p_seqN ?_
      refine v_ops ?_
      refine s_pure (.int .i64 (k : Int)) (fun _ q => q) ?_
      refine s_pure (.int .i64 ((k : Int) + 1)) (fun _ q => ArithVC.mk (by omega) q) ?_
      refine s_pure (.int .i64 ((k : Int) + 1)) (fun _ q => q) ?_
      refine s_nil ?_
      exact p_lpN ⟨k + 1, fr, o, w, ⟨rfl, rfl, rfl, rfl, rfl⟩, ⟨Eh, (sl_eq s_w (by simp)), (fr_w.mono (by omega)), (by first | exact ⟨by omega, by omega, sp_keep hn hf (by assumption) (u8_ne (by assumption)), hol, ho⟩ | (have hc_ := u8_of (by assumption : _ = (b.toNat : Int)); subst hc_; exact ⟨by omega, by omega, by simp, by simp; omega, sp_step hn hf (by assumption) ho⟩))⟩, by omega⟩
  ·
    refine v_exit ?_
    refine p_seqX ?_
    refine p_lpX ?_
    refine p_blkX ?_
    refine p_seqN ?_
    refine v_seq ?_
    refine v_ops ?_
    refine s_pure w (fun _ q => q) ?_
    refine s_pure (.string s) (fun _ q => q) ?_
    refine s_pure (.int .i64 (fr : Int)) (fun _ q => q) ?_
    refine s_pure (.string (tx (s.data.toList.drop fr))) (fun _ q => sslc_end rfl (by omega) q) ?_
    refine s_row (α := ByteArray) [(tx (s.data.toList.drop fr))] (fun _ q => seg_s rfl (seg_nil q)) rfl (by simp [maxLen]) (fun r17 h18 eh18 zh18 s_r17 fr_r17 => ?_)
    have E19 := Eh.trans eh18
    have z20 := eh18.size
    have lt_r17 := s_r17.lt
    have f21 := (s_w.ext eh18)
    refine s_app f21 s_r17 rfl rfl rfl (by simp [maxLen]; omega) (by simp; omega) (fun r22 h23 mh23 zh23 s_r22 ab_r22 => ?_)
    have E24 := E19.mod mh23 (fun b hb => by have := fr_w b hb; omega)
    have fr_r22 := fr_w.app ab_r22 (by omega)
    have np25 : ∀ b ∈ blks r17, b ∉ blks r22 := fun b hb hc => (ab_r22 _ hc).elim (((fun b hb hc => by have := fr_r17 b hb; have := lt_w b hc; omega) : ∀ b ∈ blks r17, b ∉ blks w) b hb) (fun hc => by have := lt_r17 b hb; omega)
    have lt_r22 := s_r22.lt
    refine s_pure r22 (fun _ q => q) ?_
    refine s_nil ?_
    refine p_seqN ?_
    refine v_ret ?_
    refine p_ret [r22] r22 (fun _ q => q) rfl ?_
    have ho : ((splitOn b s.data.toList).map tx) = (o ++ [(tx (s.data.toList.drop fr))]) := by exact (sp_end hn (by rw [bsize]; omega) ho).symm
    exact ⟨r22, by first | (rw [ho]; done) | rfl, sl_eq s_r22 (congrArg (fun o => o) ho).symm, fr_r22.mono (by omega), E24⟩


theorem rd_no1 {w : List UInt8} (h : ¬ (1 ≤ w.length ∧ w.length ≤ 6)) : rdOut w = -1 := by rw [rdOut, if_neg (fun q => h q.1)]
theorem rd_no2 {w : List UInt8} {c : UInt8} (h0 : w[0]? = some c) (hc : (c.toNat : Int) = 48) (h1 : 1 < w.length) : rdOut w = -1 := by
  have e : c = 48 := UInt8.toNat_inj.1 (by show c.toNat = 48; omega)
  rw [rdOut, if_neg (fun q => q.2.1 ⟨by rw [h0, e], h1⟩)]
theorem rd_no3 {w : List UInt8} {k : Nat} {c : UInt8} (hk : w[k]? = some c) (h : ¬ Dig c) : rdOut w = -1 := by rw [rdOut, if_neg (fun q => h (q.2.2 c (List.mem_of_getElem? hk)))]
theorem rd_yes {w : List UInt8} {k : Nat} {n : Int} (h1 : 1 ≤ w.length ∧ w.length ≤ 6) (h2 : ¬ (w[0]? = some 48 ∧ 1 < w.length)) (hn : n = (valN (w.take k) : Int)) (hd : ∀ c ∈ w.take k, Dig c) (hk : w.length ≤ k) : rdOut w = n := by
  rw [List.take_of_length_le hk] at hn hd
  rw [rdOut, if_pos ⟨h1, h2, hd⟩, hn]
theorem z48 {w : List UInt8} {c : UInt8} (h0 : w[0]? = some c) (hc : ¬ ((c.toNat : Int) = 48 ∧ 1 < w.length)) : ¬ (w[0]? = some 48 ∧ 1 < w.length) := fun q => hc ⟨by have := h0.symm.trans q.1; rw [Option.some.inj this]; rfl, q.2⟩
theorem rd_bound {w : List UInt8} {k : Nat} {n : Int} (hn : n = (valN (w.take k) : Int)) (hd : ∀ c ∈ w.take k, Dig c) (h6 : w.length ≤ 6) : 0 ≤ n ∧ n ≤ 999999 := by
  have h := valN_lt _ hd
  have h2 : (w.take k).length ≤ 6 := by rw [List.length_take]; omega
  have h3 : 10 ^ (w.take k).length ≤ 10 ^ 6 := Nat.pow_le_pow_right (by omega) h2
  omega
theorem rdv_snoc {w : List UInt8} {k : Nat} {n : Int} {c : UInt8} (hn : n = (valN (w.take k) : Int)) (hd : ∀ c ∈ w.take k, Dig c) (hc : w[k]? = some c) (h1 : 48 ≤ (c.toNat : Int)) (h2 : (c.toNat : Int) ≤ 57) :
    10 * n + ((c.toNat : Int) - 48) = (valN (w.take (k + 1)) : Int) ∧ ∀ c ∈ w.take (k + 1), Dig c := by
  rw [snoc_get hc, valN_snoc, hn]
  refine ⟨by omega, fun x hx => ?_⟩
  rcases List.mem_append.1 hx with hx | hx
  · exact hd x hx
  · obtain rfl := List.mem_singleton.1 hx; exact ⟨by omega, by omega⟩

set_option maxRecDepth 10000 in
set_option maxHeartbeats 4000000 in
theorem spec_l1Read_ok (s : ByteArray) (h : Heap) (b_s : s.size ≤ maxLen) (hs : s.size ≤ 1048576) : Cn f_spec_l1Read [.string s] h fun v h' => v = .int .i64 (rdOut s.data.toList) ∧ Ext h h' := by
  have hsz := bsize s
  refine calls_of r_spec_l1Read ?_
  refine v_seq ?_
  refine v_ops ?_
  refine s_pure (.int .i64 0) (fun _ q => q) ?_
  refine s_nil ?_
  refine p_seqN ?_
  refine v_seq ?_
  refine v_seq ?_
  refine v_ops ?_
  refine s_pure (.string s) (fun _ q => q) ?_
  refine s_pure (.int .i64 (s.size : Int)) (fun _ q => q) ?_
  refine s_callS [.int .i64 (s.size : Int), .int .i64 1, .int .i64 6] (.bool (decide (1 ≤ (s.size : Int) ∧ (s.size : Int) ≤ 6))) rfl (l1In_ok (s.size : Int) 1 6 _ ) ?_
  refine s_pure (.bool (!(decide (1 ≤ (s.size : Int) ∧ (s.size : Int) ≤ 6)))) (fun _ q => q) ?_
  refine s_pure (.bool (!(decide (1 ≤ (s.size : Int) ∧ (s.size : Int) ≤ 6)))) (fun _ q => q) ?_
  refine s_splitT rfl (fun c1 => ?_) (fun c1 => ?_)
  ·
    refine s_pass rfl ?_
    refine s_pass rfl ?_
    refine s_pass rfl ?_
    refine s_pass rfl ?_
    refine s_splitU rfl ?_
    refine s_passU rfl ?_
    refine s_passU rfl ?_
    refine s_passU rfl ?_
    refine s_pass rfl ?_
    refine s_pure (.bool true) (fun _ q => q) ?_
    refine s_nil ?_
    refine p_seqN ?_
    refine v_condY rfl rfl ?_
    refine v_seq ?_
    refine v_ops ?_
    refine s_pure (.int .i64 (-1)) (fun _ q => q) ?_
    refine s_nil ?_
    refine p_seqN ?_
    refine v_ret ?_
    refine p_seqR ?_
    refine p_ret [.int .i64 (-1)] (.int .i64 (-1)) (fun _ q => q) rfl ?_
    have ho : (rdOut s.data.toList) = (-1) := by first | exact rd_no1 (by omega) | exact rd_no2 (by assumption) (by omega) (by omega) | exact rd_no3 (by assumption) (by unfold Dig; omega) | exact rd_yes (by omega) (z48 (by assumption) (by omega)) hn hd (by omega)
    exact ⟨by first | (rw [ho]; done) | rfl, (Ext.refl h)⟩
  ·
    have c1 := Classical.not_not.1 c1
    refine s_run rfl ?_
    refine s_pure (.string s) (fun _ q => q) ?_
    refine s_run rfl ?_
    have hk3 : 0 < s.data.toList.length := by rw [bsize]; first | omega | (simp; omega)
    obtain ⟨x2, hx2⟩ : ∃ x, s.data.toList[0]? = some x := ⟨_, List.getElem?_eq_getElem hk3⟩
    have hux2 : (x2.toNat : Int) ≤ 255 := by (have := UInt8.toNat_lt x2); omega
    refine s_pure (.int .u8 (x2.toNat : Int)) (fun _ q => sidx_vc (k := 0) rfl hx2 q) ?_
    refine s_run rfl ?_
    refine s_pure (.bool ((x2.toNat : Int) == 48)) (fun _ q => CmpVC.mk q) ?_
    refine s_run rfl ?_
    refine s_pure (.bool ((x2.toNat : Int) == 48)) (fun _ q => q) ?_
    refine s_splitT rfl (fun c4 => ?_) (fun c4 => ?_)
    ·
      refine s_run rfl ?_
      refine s_pure (.string s) (fun _ q => q) ?_
      refine s_run rfl ?_
      refine s_pure (.int .i64 (s.size : Int)) (fun _ q => q) ?_
      refine s_run rfl ?_
      refine s_pure (.bool (decide ((s.size : Int) > 1))) (fun _ q => q) ?_
      refine s_run rfl ?_
      refine s_pure (.bool (decide ((s.size : Int) > 1))) (fun _ q => q) ?_
      refine s_pure (.bool (decide ((s.size : Int) > 1))) (fun _ q => q) ?_
      refine s_nil ?_
      refine p_seqN ?_
      refine v_cond rfl (fun c5 => ?_) (fun c5 => ?_)
      ·
        refine v_seq ?_
        refine v_ops ?_
        refine s_pure (.int .i64 (-1)) (fun _ q => q) ?_
        refine s_nil ?_
        refine p_seqN ?_
        refine v_ret ?_
        refine p_seqR ?_
        refine p_ret [.int .i64 (-1)] (.int .i64 (-1)) (fun _ q => q) rfl ?_
        have ho : (rdOut s.data.toList) = (-1) := by first | exact rd_no1 (by omega) | exact rd_no2 (by assumption) (by omega) (by omega) | exact rd_no3 (by assumption) (by unfold Dig; omega) | exact rd_yes (by omega) (z48 (by assumption) (by omega)) hn hd (by omega)
        exact ⟨by first | (rw [ho]; done) | rfl, (Ext.refl h)⟩
      ·
        refine v_skip ?_
        refine p_seqN ?_
        refine v_seq ?_
        refine v_ops ?_
        refine s_pure (.int .i64 0) (fun _ q => q) ?_
        refine s_nil ?_
        refine p_seqN ?_
        refine v_seq ?_
        refine v_seq ?_
        refine v_ops ?_
        refine s_pure (.int .i64 0) (fun _ q => q) ?_
        refine s_nil ?_
        refine p_seqN ?_
        refine v_block ?_
        refine v_loop2 (α := Nat) (β := Int) (fun k n => [(0, .string s), (3, .int .i64 n), (4, .int .i64 (k : Int))]) (fun k n hh => Ext h hh ∧ k ≤ s.size ∧ (n = (valN (s.data.toList.take k) : Int)) ∧ (∀ c ∈ s.data.toList.take k, Dig c)) (fun k n => s.size - k) 0 0 ⟨rfl, rfl, rfl⟩ ⟨(Ext.refl h), (by exact ⟨by omega, by simp [valN], by simp⟩)⟩ ?_
        rintro k n R7 h6 ⟨Eh, ⟨hk, hn, hd⟩⟩
        have zEh := Eh.size
        have hnb := rd_bound hn hd (by omega)
        refine v_seq ?_
        refine v_seq ?_
        refine v_ops ?_
        refine s_pure (.int .i64 (k : Int)) (fun _ q => q) ?_
        refine s_pure (.string s) (fun _ q => q) ?_
        refine s_pure (.int .i64 (s.size : Int)) (fun _ q => q) ?_
        refine s_pure (.bool (decide ((k : Int) < (s.size : Int)))) (fun _ q => q) ?_
        refine s_nil ?_
        refine p_seqN ?_
        refine v_cond rfl (fun c9 => ?_) (fun c9 => ?_)
        ·
          refine v_skip ?_
          refine p_seqN ?_
          refine v_seq ?_
          refine v_block ?_
          refine v_seq ?_
          refine v_seq ?_
          refine v_ops ?_
          refine s_pure (.string s) (fun _ q => q) ?_
          refine s_pure (.int .i64 (k : Int)) (fun _ q => q) ?_
          have hk11 : k < s.data.toList.length := by rw [bsize]; first | omega | (simp; omega)
          obtain ⟨x10, hx10⟩ : ∃ x, s.data.toList[k]? = some x := ⟨_, List.getElem?_eq_getElem hk11⟩
          have hux10 : (x10.toNat : Int) ≤ 255 := by (have := UInt8.toNat_lt x10); omega
          refine s_pure (.int .u8 (x10.toNat : Int)) (fun _ q => sidx_vc (k := k) rfl hx10 q) ?_
          refine s_pure (.bool (decide ((x10.toNat : Int) < 48))) (fun _ q => CmpVC.mk q) ?_
          refine s_pure (.bool (decide ((x10.toNat : Int) < 48))) (fun _ q => q) ?_
          refine s_splitT rfl (fun c12 => ?_) (fun c12 => ?_)
          ·
            refine s_pass rfl ?_
            refine s_pass rfl ?_
            refine s_pass rfl ?_
            refine s_pass rfl ?_
            refine s_pure (.bool true) (fun _ q => q) ?_
            refine s_nil ?_
            refine p_seqN ?_
            refine v_condY rfl rfl ?_
            refine v_seq ?_
            refine v_ops ?_
            refine s_pure (.int .i64 (-1)) (fun _ q => q) ?_
            refine s_nil ?_
            refine p_seqN ?_
            refine v_ret ?_
            refine p_seqR ?_
            refine p_blkR ?_
            refine p_seqR ?_
            refine p_lpR ?_
            refine p_blkR ?_
            refine p_seqR ?_
            refine p_ret [.int .i64 (-1)] (.int .i64 (-1)) (fun _ q => q) rfl ?_
            have ho : (rdOut s.data.toList) = (-1) := by first | exact rd_no1 (by omega) | exact rd_no2 (by assumption) (by omega) (by omega) | exact rd_no3 (by assumption) (by unfold Dig; omega) | exact rd_yes (by omega) (z48 (by assumption) (by omega)) hn hd (by omega)
            exact ⟨by first | (rw [ho]; done) | rfl, Eh⟩
          ·
            refine s_run rfl ?_
            refine s_pure (.string s) (fun _ q => q) ?_
            refine s_run rfl ?_
            refine s_pure (.int .i64 (k : Int)) (fun _ q => q) ?_
            refine s_run rfl ?_
            refine s_pure (.int .u8 (x10.toNat : Int)) (fun _ q => sidx_vc (k := k) rfl hx10 q) ?_
            refine s_run rfl ?_
            refine s_pure (.bool (decide ((x10.toNat : Int) > 57))) (fun _ q => CmpVC.mk q) ?_
            refine s_pure (.bool (decide ((x10.toNat : Int) > 57))) (fun _ q => q) ?_
            refine s_nil ?_
            refine p_seqN ?_
            refine v_cond rfl (fun c13 => ?_) (fun c13 => ?_)
            ·
              refine v_seq ?_
              refine v_ops ?_
              refine s_pure (.int .i64 (-1)) (fun _ q => q) ?_
              refine s_nil ?_
              refine p_seqN ?_
              refine v_ret ?_
              refine p_seqR ?_
              refine p_blkR ?_
              refine p_seqR ?_
              refine p_lpR ?_
              refine p_blkR ?_
              refine p_seqR ?_
              refine p_ret [.int .i64 (-1)] (.int .i64 (-1)) (fun _ q => q) rfl ?_
              have ho : (rdOut s.data.toList) = (-1) := by first | exact rd_no1 (by omega) | exact rd_no2 (by assumption) (by omega) (by omega) | exact rd_no3 (by assumption) (by unfold Dig; omega) | exact rd_yes (by omega) (z48 (by assumption) (by omega)) hn hd (by omega)
              exact ⟨by first | (rw [ho]; done) | rfl, Eh⟩
            ·
              refine v_skip ?_
              refine p_seqN ?_
              refine v_ops ?_
              refine s_pure (.int .i64 n) (fun _ q => q) ?_
              refine s_pure (.int .i64 (10 * n)) (fun _ q => ArithVC.mk (by omega) q) ?_
              refine s_pure (.string s) (fun _ q => q) ?_
              refine s_pure (.int .i64 (k : Int)) (fun _ q => q) ?_
              refine s_pure (.int .u8 (x10.toNat : Int)) (fun _ q => sidx_vc (k := k) rfl hx10 q) ?_
              refine s_pure (.int .u8 ((x10.toNat : Int) - 48)) (fun _ q => arith_u8 (by omega) q) ?_
              refine s_pure (.int .i64 ((x10.toNat : Int) - 48)) (fun _ q => conv_i64 (by omega) q) ?_
              refine s_pure (.int .i64 ((10 * n) + ((x10.toNat : Int) - 48))) (fun _ q => ArithVC.mk (by omega) q) ?_
              refine s_pure (.int .i64 ((10 * n) + ((x10.toNat : Int) - 48))) (fun _ q => q) ?_
              refine s_nil ?_
              refine p_blkN ?_
              refine p_seqN ?_
              refine v_ops ?_
              refine s_pure (.int .i64 (k : Int)) (fun _ q => q) ?_
              refine s_pure (.int .i64 ((k : Int) + 1)) (fun _ q => ArithVC.mk (by omega) q) ?_
              refine s_pure (.int .i64 ((k : Int) + 1)) (fun _ q => q) ?_
              refine s_nil ?_
              exact p_lpN ⟨k + 1, ((10 * n) + ((x10.toNat : Int) - 48)), ⟨rfl, rfl, rfl⟩, ⟨Eh, (by (have q_ := rdv_snoc hn hd (by assumption) (by omega) (by omega)); exact ⟨by omega, q_.1, q_.2⟩)⟩, by omega⟩
        ·
          refine v_exit ?_
          refine p_seqX ?_
          refine p_lpX ?_
          refine p_blkX ?_
          refine p_seqN ?_
          refine v_seq ?_
          refine v_ops ?_
          refine s_pure (.int .i64 n) (fun _ q => q) ?_
          refine s_pure (.int .i64 n) (fun _ q => q) ?_
          refine s_nil ?_
          refine p_seqN ?_
          refine v_ret ?_
          refine p_ret [.int .i64 n] (.int .i64 n) (fun _ q => q) rfl ?_
          have ho : (rdOut s.data.toList) = n := by first | exact rd_no1 (by omega) | exact rd_no2 (by assumption) (by omega) (by omega) | exact rd_no3 (by assumption) (by unfold Dig; omega) | exact rd_yes (by omega) (z48 (by assumption) (by omega)) hn hd (by omega)
          exact ⟨by first | (rw [ho]; done) | rfl, Eh⟩
    ·
      refine s_pass rfl ?_
      refine s_pass rfl ?_
      refine s_pass rfl ?_
      refine s_run rfl ?_
      refine s_pure (.bool false) (fun _ q => q) ?_
      refine s_pure (.bool false) (fun _ q => q) ?_
      refine s_nil ?_
      refine p_seqN ?_
      refine v_condN rfl (by simp) ?_
      refine v_skip ?_
      refine p_seqN ?_
      refine v_seq ?_
      refine v_ops ?_
      refine s_pure (.int .i64 0) (fun _ q => q) ?_
      refine s_nil ?_
      refine p_seqN ?_
      refine v_seq ?_
      refine v_seq ?_
      refine v_ops ?_
      refine s_pure (.int .i64 0) (fun _ q => q) ?_
      refine s_nil ?_
      refine p_seqN ?_
      refine v_block ?_
      refine v_loop2 (α := Nat) (β := Int) (fun k n => [(0, .string s), (3, .int .i64 n), (4, .int .i64 (k : Int))]) (fun k n hh => Ext h hh ∧ k ≤ s.size ∧ (n = (valN (s.data.toList.take k) : Int)) ∧ (∀ c ∈ s.data.toList.take k, Dig c)) (fun k n => s.size - k) 0 0 ⟨rfl, rfl, rfl⟩ ⟨(Ext.refl h), (by exact ⟨by omega, by simp [valN], by simp⟩)⟩ ?_
      rintro k n R15 h14 ⟨Eh, ⟨hk, hn, hd⟩⟩
      have zEh := Eh.size
      have hnb := rd_bound hn hd (by omega)
      refine v_seq ?_
      refine v_seq ?_
      refine v_ops ?_
      refine s_pure (.int .i64 (k : Int)) (fun _ q => q) ?_
      refine s_pure (.string s) (fun _ q => q) ?_
      refine s_pure (.int .i64 (s.size : Int)) (fun _ q => q) ?_
      refine s_pure (.bool (decide ((k : Int) < (s.size : Int)))) (fun _ q => q) ?_
      refine s_nil ?_
      refine p_seqN ?_
      refine v_cond rfl (fun c17 => ?_) (fun c17 => ?_)
      ·
        refine v_skip ?_
        refine p_seqN ?_
        refine v_seq ?_
        refine v_block ?_
        refine v_seq ?_
        refine v_seq ?_
        refine v_ops ?_
        refine s_pure (.string s) (fun _ q => q) ?_
        refine s_pure (.int .i64 (k : Int)) (fun _ q => q) ?_
        have hk19 : k < s.data.toList.length := by rw [bsize]; first | omega | (simp; omega)
        obtain ⟨x18, hx18⟩ : ∃ x, s.data.toList[k]? = some x := ⟨_, List.getElem?_eq_getElem hk19⟩
        have hux18 : (x18.toNat : Int) ≤ 255 := by (have := UInt8.toNat_lt x18); omega
        refine s_pure (.int .u8 (x18.toNat : Int)) (fun _ q => sidx_vc (k := k) rfl hx18 q) ?_
        refine s_pure (.bool (decide ((x18.toNat : Int) < 48))) (fun _ q => CmpVC.mk q) ?_
        refine s_pure (.bool (decide ((x18.toNat : Int) < 48))) (fun _ q => q) ?_
        refine s_splitT rfl (fun c20 => ?_) (fun c20 => ?_)
        ·
          refine s_pass rfl ?_
          refine s_pass rfl ?_
          refine s_pass rfl ?_
          refine s_pass rfl ?_
          refine s_pure (.bool true) (fun _ q => q) ?_
          refine s_nil ?_
          refine p_seqN ?_
          refine v_condY rfl rfl ?_
          refine v_seq ?_
          refine v_ops ?_
          refine s_pure (.int .i64 (-1)) (fun _ q => q) ?_
          refine s_nil ?_
          refine p_seqN ?_
          refine v_ret ?_
          refine p_seqR ?_
          refine p_blkR ?_
          refine p_seqR ?_
          refine p_lpR ?_
          refine p_blkR ?_
          refine p_seqR ?_
          refine p_ret [.int .i64 (-1)] (.int .i64 (-1)) (fun _ q => q) rfl ?_
          have ho : (rdOut s.data.toList) = (-1) := by first | exact rd_no1 (by omega) | exact rd_no2 (by assumption) (by omega) (by omega) | exact rd_no3 (by assumption) (by unfold Dig; omega) | exact rd_yes (by omega) (z48 (by assumption) (by omega)) hn hd (by omega)
          exact ⟨by first | (rw [ho]; done) | rfl, Eh⟩
        ·
          refine s_run rfl ?_
          refine s_pure (.string s) (fun _ q => q) ?_
          refine s_run rfl ?_
          refine s_pure (.int .i64 (k : Int)) (fun _ q => q) ?_
          refine s_run rfl ?_
          refine s_pure (.int .u8 (x18.toNat : Int)) (fun _ q => sidx_vc (k := k) rfl hx18 q) ?_
          refine s_run rfl ?_
          refine s_pure (.bool (decide ((x18.toNat : Int) > 57))) (fun _ q => CmpVC.mk q) ?_
          refine s_pure (.bool (decide ((x18.toNat : Int) > 57))) (fun _ q => q) ?_
          refine s_nil ?_
          refine p_seqN ?_
          refine v_cond rfl (fun c21 => ?_) (fun c21 => ?_)
          ·
            refine v_seq ?_
            refine v_ops ?_
            refine s_pure (.int .i64 (-1)) (fun _ q => q) ?_
            refine s_nil ?_
            refine p_seqN ?_
            refine v_ret ?_
            refine p_seqR ?_
            refine p_blkR ?_
            refine p_seqR ?_
            refine p_lpR ?_
            refine p_blkR ?_
            refine p_seqR ?_
            refine p_ret [.int .i64 (-1)] (.int .i64 (-1)) (fun _ q => q) rfl ?_
            have ho : (rdOut s.data.toList) = (-1) := by first | exact rd_no1 (by omega) | exact rd_no2 (by assumption) (by omega) (by omega) | exact rd_no3 (by assumption) (by unfold Dig; omega) | exact rd_yes (by omega) (z48 (by assumption) (by omega)) hn hd (by omega)
            exact ⟨by first | (rw [ho]; done) | rfl, Eh⟩
          ·
            refine v_skip ?_
            refine p_seqN ?_
            refine v_ops ?_
            refine s_pure (.int .i64 n) (fun _ q => q) ?_
            refine s_pure (.int .i64 (10 * n)) (fun _ q => ArithVC.mk (by omega) q) ?_
            refine s_pure (.string s) (fun _ q => q) ?_
            refine s_pure (.int .i64 (k : Int)) (fun _ q => q) ?_
            refine s_pure (.int .u8 (x18.toNat : Int)) (fun _ q => sidx_vc (k := k) rfl hx18 q) ?_
            refine s_pure (.int .u8 ((x18.toNat : Int) - 48)) (fun _ q => arith_u8 (by omega) q) ?_
            refine s_pure (.int .i64 ((x18.toNat : Int) - 48)) (fun _ q => conv_i64 (by omega) q) ?_
            refine s_pure (.int .i64 ((10 * n) + ((x18.toNat : Int) - 48))) (fun _ q => ArithVC.mk (by omega) q) ?_
            refine s_pure (.int .i64 ((10 * n) + ((x18.toNat : Int) - 48))) (fun _ q => q) ?_
            refine s_nil ?_
            refine p_blkN ?_
            refine p_seqN ?_
            refine v_ops ?_
            refine s_pure (.int .i64 (k : Int)) (fun _ q => q) ?_
            refine s_pure (.int .i64 ((k : Int) + 1)) (fun _ q => ArithVC.mk (by omega) q) ?_
            refine s_pure (.int .i64 ((k : Int) + 1)) (fun _ q => q) ?_
            refine s_nil ?_
            exact p_lpN ⟨k + 1, ((10 * n) + ((x18.toNat : Int) - 48)), ⟨rfl, rfl, rfl⟩, ⟨Eh, (by (have q_ := rdv_snoc hn hd (by assumption) (by omega) (by omega)); exact ⟨by omega, q_.1, q_.2⟩)⟩, by omega⟩
      ·
        refine v_exit ?_
        refine p_seqX ?_
        refine p_lpX ?_
        refine p_blkX ?_
        refine p_seqN ?_
        refine v_seq ?_
        refine v_ops ?_
        refine s_pure (.int .i64 n) (fun _ q => q) ?_
        refine s_pure (.int .i64 n) (fun _ q => q) ?_
        refine s_nil ?_
        refine p_seqN ?_
        refine v_ret ?_
        refine p_ret [.int .i64 n] (.int .i64 n) (fun _ q => q) rfl ?_
        have ho : (rdOut s.data.toList) = n := by first | exact rd_no1 (by omega) | exact rd_no2 (by assumption) (by omega) (by omega) | exact rd_no3 (by assumption) (by unfold Dig; omega) | exact rd_yes (by omega) (z48 (by assumption) (by omega)) hn hd (by omega)
        exact ⟨by first | (rw [ho]; done) | rfl, Eh⟩

end Go.Proofs.YtbikhpphdhffaaaGreatDoor
