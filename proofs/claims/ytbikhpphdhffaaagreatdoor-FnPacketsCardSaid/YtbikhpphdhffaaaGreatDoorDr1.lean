/- Texts of packets. Condition: none. Printed in part by a program. -/
import Derived.Test.YtbikhpphdhffaaaGreatDoorDpA
namespace Go.Proofs.YtbikhpphdhffaaaGreatDoor
open Go.Vc
set_option linter.all false
theorem impl_joinNumbers_ok (v_l : Value) (l : List Int) (by_ : ByteArray) (h : Heap) (s_l : Sl h v_l l) (b_by_ : by_.size ≤ maxLen) (ht : Gl h) (hb : ∀ x ∈ l, 0 ≤ x ∧ x ≤ 1000000) (hs1 : by_.data.toList.length ≤ 1) (hl : l.length ≤ 100) : Cn f_impl_joinNumbers [v_l, .string by_] h fun v h' => v = .string (tx (lineOf l by_.data.toList)) ∧ Ext h h' := by
  have lt_l := s_l.lt
  have l63_l := s_l.len63
  refine calls_of r_impl_joinNumbers ?_
  refine v_seq ?_
  refine v_ops ?_
  refine s_pure (.string (tx [])) (fun _ q => q) ?_
  refine s_nil ?_
  refine p_seqN ?_
  refine v_seq ?_
  refine v_ops ?_
  refine s_pure v_l (fun _ q => q) ?_
  refine s_pure (.int .i64 (l.length : Int)) (fun _ q => s_l.lenVC q) ?_
  refine s_mk (α := ByteArray) l.length (tx []) rfl rfl rfl rfl rfl rfl (by simp [maxLen]; omega) (by omega) (fun r1 h2 eh2 zh2 s_r1 fr_r1 => ?_)
  have E3 := (Ext.refl h).trans eh2
  have z4 := eh2.size
  have lt_r1 := s_r1.lt
  refine s_pure r1 (fun _ q => q) ?_
  refine s_nil ?_
  refine p_seqN ?_
  refine v_seq ?_
  refine v_seq ?_
  refine v_ops ?_
  refine s_pure v_l (fun _ q => q) ?_
  refine s_pure (.int .i64 (l.length : Int)) (fun _ q => s_l.lenVC q) ?_
  refine s_pure (.int .i64 0) (fun _ q => q) ?_
  refine s_nil ?_
  refine p_seqN ?_
  refine v_block ?_
  refine v_loop3 (α := Nat) (β := List ByteArray) (γ := Value) (fun k ps y => [(1, .string by_), (5, y), (11, v_l), (12, .int .i64 (l.length : Int)), (13, .int .i64 (k : Int))]) (fun k ps y hh => Ext h hh ∧ SlO hh y ps ∧ Fr h.size y ∧ k ≤ l.length ∧ ps.length = l.length ∧ ps.take k = (l.take k).map (fun n => tx (dec n))) (fun k ps y => l.length - k) 0 (List.replicate l.length (tx [])) r1 ⟨rfl, rfl, rfl, rfl, rfl⟩ ⟨E3, (sl_eq s_r1 (by simp)), (fr_r1.mono (by omega)), (by exact ⟨by omega, by simp, by simp⟩)⟩ ?_
  rintro k ps y R6 h5 ⟨Eh, s_y, fr_y, ⟨hk, hps, hpt⟩⟩
  have zEh := Eh.size
  have f8 := s_l.ext Eh
  have lt_y := s_y.lt
  refine v_seq ?_
  refine v_ops ?_
  refine s_pure (.bool (decide ((k : Int) < (l.length : Int)))) (fun _ q => q) ?_
  refine s_nil ?_
  refine p_seqN ?_
  refine v_seq ?_
  refine v_cond rfl (fun c9 => ?_) (fun c9 => ?_)
  ·
    refine v_skip ?_
    refine p_seqN ?_
    refine v_seq ?_
    refine v_block ?_
    refine v_seq ?_
    refine v_ops ?_
    refine s_pure (.int .i64 (k : Int)) (fun _ q => q) ?_
    have hk10 : k < l.length := (by first | omega | (simp; omega))
    obtain ⟨x11, hx11⟩ : ∃ x, l[k]? = some x := ⟨_, List.getElem?_eq_getElem hk10⟩
    refine s_pure (.pointer (some ⟨sblk v_l, soff v_l + k * 1, none⟩)) (fun _ q => f8.idx (k := k) rfl hk10 q) ?_
    refine s_load (.int .i64 x11) (fun _ q => f8.load1 hx11 rfl q) ?_
    refine s_pure (.int .i64 (k : Int)) (fun _ q => q) ?_
    refine s_pure (.int .i64 x11) (fun _ q => q) ?_
    refine s_nil ?_
    refine p_seqN ?_
    refine v_ops ?_
    refine s_pure y (fun _ q => q) ?_
    refine s_pure (.int .i64 (k : Int)) (fun _ q => q) ?_
    refine s_pure (.int .i64 x11) (fun _ q => q) ?_
    refine s_call [.int .i64 x11] rfl (itoa_ok x11 _ (hb _ (List.mem_of_getElem? (by assumption : l[k]? = some _))).1 (by have q_ := (hb _ (List.mem_of_getElem? (by assumption : l[k]? = some _))).2; omega) (ht.ext Eh)) ?_
    rintro _ h12 ⟨rfl, eh12⟩
    have E13 := Eh.trans eh12
    have z14 := eh12.size
    have f15 := (s_y.ext eh12)
    have hk16 : k < ps.length := (by first | omega | (simp; omega))
    obtain ⟨x17, hx17⟩ : ∃ x, ps[k]? = some x := ⟨_, List.getElem?_eq_getElem hk16⟩
    refine s_pure (.pointer (some ⟨sblk y, soff y + k * 1, none⟩)) (fun _ q => f15.idx (k := k) rfl hk16 q) ?_
    refine s_stSl (k := k) (j := 0) (tx (dec x11)) (.string (tx (dec x11))) [.string (tx (dec x11))] f15 rfl rfl rfl rfl rfl hx17 (Nat.le_of_ble_eq_true rfl) rfl (all_cons rfl all_nil) (fun h18 mh18 sh18 s19 => ?_)
    have E20 := E13.mod mh18 (fun b hb => by have := fr_y b hb; omega)
    refine s_nil ?_
    refine p_blkN ?_
    refine p_seqN ?_
    refine v_ops ?_
    refine s_pure (.int .i64 ((k : Int) + 1)) (fun _ q => ArithVC.mk (by omega) q) ?_
    refine s_pure (.int .i64 ((k : Int) + 1)) (fun _ q => q) ?_
    refine s_nil ?_
    exact p_lpN ⟨k + 1, (ps.set k (tx (dec x11))), y, ⟨rfl, rfl, rfl, rfl, rfl⟩, ⟨E20, (sl_eq s19 (by simp)), (fr_y.mono (by omega)), (by (have q_ := parts_set hps hpt (by assumption)); exact ⟨by omega, q_⟩)⟩, by omega⟩
  ·
    refine v_exit ?_
    refine p_seqX ?_
    refine p_lpX ?_
    refine p_blkX ?_
    refine p_seqN ?_
    refine v_seq ?_
    refine v_ops ?_
    refine s_pure y (fun _ q => q) ?_
    refine s_pure (.string by_) (fun _ q => q) ?_
    have hpe := parts_end hps hpt (by omega)
    have hjl := line_all hs1 hb
    refine s_call [y, .string by_] rfl (join_ok y ps by_ _ s_y.toSl (by omega) (by rw [hpe]; exact Nat.le_trans hjl (by omega))) ?_
    rintro _ h21 ⟨rfl, eh21⟩
    have E22 := Eh.trans eh21
    have z23 := eh21.size
    refine s_pure (.string (tx (Lib.join (ps.map (fun q : ByteArray => q.data.toList)) by_.data.toList))) (fun _ q => q) ?_
    refine s_nil ?_
    refine p_seqN ?_
    refine v_ret ?_
    refine p_ret [.string (tx (Lib.join (ps.map (fun q : ByteArray => q.data.toList)) by_.data.toList))] (.string (tx (Lib.join (ps.map (fun q : ByteArray => q.data.toList)) by_.data.toList))) (fun _ q => q) rfl ?_
    have ho : (tx (lineOf l by_.data.toList)) = (tx (Lib.join (ps.map (fun q : ByteArray => q.data.toList)) by_.data.toList)) := by rw [hpe]; rfl
    exact ⟨by first | (rw [ho]; done) | rfl, E22⟩

theorem l1Num_step (n : Int) (h : Heap) (N : Nat) (hN : n.toNat = N) (h0 : 0 ≤ n) (h1 : n ≤ 1000000) (ih : ∀ (n : Int) (h : Heap), n.toNat < N → 0 ≤ n → n ≤ 1000000 → Cn f_spec_l1Num [.int .i64 n] h fun v h' => v = .string (tx (dec n)) ∧ Ext h h') : Cn f_spec_l1Num [.int .i64 n] h fun v h' => v = .string (tx (dec n)) ∧ Ext h h' := by
  refine calls_of r_spec_l1Num ?_
  refine v_seq ?_
  refine v_ops ?_
  refine s_pure (.string (tx [])) (fun _ q => q) ?_
  refine s_nil ?_
  refine p_seqN ?_
  refine v_seq ?_
  refine v_seq ?_
  refine v_ops ?_
  refine s_pure (.int .i64 n) (fun _ q => q) ?_
  refine s_pure (.bool (decide (n < 10))) (fun _ q => q) ?_
  refine s_nil ?_
  refine p_seqN ?_
  refine v_cond rfl (fun c1 => ?_) (fun c1 => ?_)
  ·
    refine v_seq ?_
    refine v_ops ?_
    refine s_pure (.int .i64 n) (fun _ q => q) ?_
    refine s_pure (.int .i64 (48 + n)) (fun _ q => ArithVC.mk (by omega) q) ?_
    refine s_pure (.int .u8 (48 + n)) (fun _ q => conv_u8 (by omega) q) ?_
    refine s_row (α := By) [(⟨(48 + n)⟩ : By)] (fun _ q => seg_i rfl (seg_nil q)) rfl (by simp [maxLen]) (fun r2 h3 eh3 zh3 s_r2 fr_r2 => ?_)
    have E4 := (Ext.refl h).trans eh3
    have z5 := eh3.size
    have lt_r2 := s_r2.lt
    refine s_bstr s_r2 rfl ?_
    refine s_pure (.string (bstr ([(⟨(48 + n)⟩ : By)].map By.n))) (fun _ q => q) ?_
    refine s_nil ?_
    refine p_seqN ?_
    refine v_ret ?_
    refine p_seqR ?_
    refine p_ret [.string (bstr ([(⟨(48 + n)⟩ : By)].map By.n))] (.string (bstr ([(⟨(48 + n)⟩ : By)].map By.n))) (fun _ q => q) rfl ?_
    have ho : (tx (dec n)) = (bstr ([(⟨(48 + n)⟩ : By)].map By.n)) := by first | exact (dec_small h0 (by assumption)).symm | exact (dec_big (by assumption)).symm
    exact ⟨by first | (rw [ho]; done) | rfl, E4⟩
  ·
    refine v_skip ?_
    refine p_seqN ?_
    refine v_seq ?_
    refine v_draw (DrawVC.hold ([]) ?_)
    refine d_pureT (.int .i64 n) (fun _ q => q) ?_
    refine d_pureT (.int .i64 (n / 10)) (fun _ q => QuoVC.mk (by omega) (by omega) (by omega) q) ?_
    refine d_pureT (.int .i64 n) (fun _ q => q) ?_
    refine d_pureT (.int .i64 (n % 10)) (fun _ q => RemVC.mk (by omega) (by omega) q) ?_
    refine d_pureT (.int .i64 (48 + (n % 10))) (fun _ q => ArithVC.mk (by omega) q) ?_
    refine d_pureT (.int .u8 (48 + (n % 10))) (fun _ q => conv_u8 (by omega) q) ?_
    refine d_fork ?_ ?_
    ·
      refine d_eff ?_
      refine s_call [.int .i64 (n / 10)] rfl (ih (n / 10) _ (by omega) (by omega) (by omega)) ?_
      rintro _ h6 ⟨rfl, eh6⟩
      have E7 := (Ext.refl h).trans eh6
      have z8 := eh6.size
      have G9 := eh6
      refine s_nil ⟨fun hl => (by cases hl), ?_⟩
      refine d_eff ?_
      refine s_row (α := By) [(⟨(48 + (n % 10))⟩ : By)] (fun _ q => seg_i rfl (seg_nil q)) rfl (by simp [maxLen]) (fun r10 h11 eh11 zh11 s_r10 fr_r10 => ?_)
      have E12 := E7.trans eh11
      have z13 := eh11.size
      have G14 := G9.trans eh11
      have lt_r10 := s_r10.lt
      refine s_nil ⟨fun hl => (by cases hl), ?_⟩
      refine d_eff ?_
      refine s_bstr s_r10 rfl ?_
      refine s_nil ⟨fun hl => (by cases hl), ?_⟩
      refine d_pureT (.string ((tx (dec (n / 10))) ++ (bstr ([(⟨(48 + (n % 10))⟩ : By)].map By.n)))) (fun _ q => CatVC.mk (a := (tx (dec (n / 10)))) (b := (bstr ([(⟨(48 + (n % 10))⟩ : By)].map By.n))) (by have q_ := dec_len (n := n / 10) (by omega) (by omega); rw [bstr_tx, tx_size, tx_size]; simp; omega) q) ?_
      refine d_pureT (.string ((tx (dec (n / 10))) ++ (bstr ([(⟨(48 + (n % 10))⟩ : By)].map By.n)))) (fun _ q => q) ?_
      refine d_done ?_
      refine p_seqN ?_
      refine v_ret ?_
      refine p_ret [.string ((tx (dec (n / 10))) ++ (bstr ([(⟨(48 + (n % 10))⟩ : By)].map By.n)))] (.string ((tx (dec (n / 10))) ++ (bstr ([(⟨(48 + (n % 10))⟩ : By)].map By.n)))) (fun _ q => q) rfl ?_
      have ho : (tx (dec n)) = ((tx (dec (n / 10))) ++ (bstr ([(⟨(48 + (n % 10))⟩ : By)].map By.n))) := by first | exact (dec_small h0 (by assumption)).symm | exact (dec_big (by assumption)).symm
      exact ⟨by first | (rw [ho]; done) | rfl, E12⟩
    ·
      refine d_eff ?_
      refine s_row (α := By) [(⟨(48 + (n % 10))⟩ : By)] (fun _ q => seg_i rfl (seg_nil q)) rfl (by simp [maxLen]) (fun r15 h16 eh16 zh16 s_r15 fr_r15 => ?_)
      have E17 := (Ext.refl h).trans eh16
      have z18 := eh16.size
      have G19 := eh16
      have lt_r15 := s_r15.lt
      refine s_nil ⟨fun hl => (by cases hl), ?_⟩
      refine d_fork ?_ ?_
      ·
        refine d_eff ?_
        refine s_call [.int .i64 (n / 10)] rfl (ih (n / 10) _ (by omega) (by omega) (by omega)) ?_
        rintro _ h20 ⟨rfl, eh20⟩
        have E21 := E17.trans eh20
        have z22 := eh20.size
        have G23 := G19.trans eh20
        refine s_nil ⟨fun hl => (by cases hl), ?_⟩
        refine d_eff ?_
        have f24 := (s_r15.ext eh20)
        refine s_bstr f24 rfl ?_
        refine s_nil ⟨fun hl => (by cases hl), ?_⟩
        refine d_pureT (.string ((tx (dec (n / 10))) ++ (bstr ([(⟨(48 + (n % 10))⟩ : By)].map By.n)))) (fun _ q => CatVC.mk (a := (tx (dec (n / 10)))) (b := (bstr ([(⟨(48 + (n % 10))⟩ : By)].map By.n))) (by have q_ := dec_len (n := n / 10) (by omega) (by omega); rw [bstr_tx, tx_size, tx_size]; simp; omega) q) ?_
        refine d_pureT (.string ((tx (dec (n / 10))) ++ (bstr ([(⟨(48 + (n % 10))⟩ : By)].map By.n)))) (fun _ q => q) ?_
        refine d_done ?_
        refine p_seqN ?_
        refine v_ret ?_
        refine p_ret [.string ((tx (dec (n / 10))) ++ (bstr ([(⟨(48 + (n % 10))⟩ : By)].map By.n)))] (.string ((tx (dec (n / 10))) ++ (bstr ([(⟨(48 + (n % 10))⟩ : By)].map By.n)))) (fun _ q => q) rfl ?_
        have ho : (tx (dec n)) = ((tx (dec (n / 10))) ++ (bstr ([(⟨(48 + (n % 10))⟩ : By)].map By.n))) := by first | exact (dec_small h0 (by assumption)).symm | exact (dec_big (by assumption)).symm
        exact ⟨by first | (rw [ho]; done) | rfl, E21⟩
      ·
        refine d_eff ?_
        refine s_bstr s_r15 rfl ?_
        refine s_nil ⟨fun hl => (by cases hl), ?_⟩
        refine d_eff ?_
        refine s_call [.int .i64 (n / 10)] rfl (ih (n / 10) _ (by omega) (by omega) (by omega)) ?_
        rintro _ h25 ⟨rfl, eh25⟩
        have E26 := E17.trans eh25
        have z27 := eh25.size
        have G28 := G19.trans eh25
        refine s_nil ⟨fun hl => (by cases hl), ?_⟩
        refine d_pureT (.string ((tx (dec (n / 10))) ++ (bstr ([(⟨(48 + (n % 10))⟩ : By)].map By.n)))) (fun _ q => CatVC.mk (a := (tx (dec (n / 10)))) (b := (bstr ([(⟨(48 + (n % 10))⟩ : By)].map By.n))) (by have q_ := dec_len (n := n / 10) (by omega) (by omega); rw [bstr_tx, tx_size, tx_size]; simp; omega) q) ?_
        refine d_pureT (.string ((tx (dec (n / 10))) ++ (bstr ([(⟨(48 + (n % 10))⟩ : By)].map By.n)))) (fun _ q => q) ?_
        refine d_done ?_
        refine p_seqN ?_
        refine v_ret ?_
        refine p_ret [.string ((tx (dec (n / 10))) ++ (bstr ([(⟨(48 + (n % 10))⟩ : By)].map By.n)))] (.string ((tx (dec (n / 10))) ++ (bstr ([(⟨(48 + (n % 10))⟩ : By)].map By.n)))) (fun _ q => q) rfl ?_
        have ho : (tx (dec n)) = ((tx (dec (n / 10))) ++ (bstr ([(⟨(48 + (n % 10))⟩ : By)].map By.n))) := by first | exact (dec_small h0 (by assumption)).symm | exact (dec_big (by assumption)).symm
        exact ⟨by first | (rw [ho]; done) | rfl, E26⟩


theorem l1Num_all (N : Nat) : ∀ (n : Int) (h : Heap), n.toNat < N → 0 ≤ n → n ≤ 1000000 → Cn f_spec_l1Num [.int .i64 n] h fun v h' => v = .string (tx (dec n)) ∧ Ext h h' := by
  induction N with
  | zero => intro n h hn; omega
  | succ N ih =>
    intro n h hn h0 h1
    refine l1Num_step n h n.toNat rfl h0 h1 fun n' h' hn' h0' h1' => ih n' h' (by omega) h0' h1'
theorem spec_l1Num_ok (n : Int) (h : Heap) (h0 : 0 ≤ n) (h1 : n ≤ 1000000) : Cn f_spec_l1Num [.int .i64 n] h fun v h' => v = .string (tx (dec n)) ∧ Ext h h' := l1Num_all (n.toNat + 1) n h (Nat.lt_succ_self _) h0 h1

theorem spec_sgLine_ok (v_l : Value) (l : List Int) (h : Heap) (s_l : Sl h v_l l) (hb : ∀ x ∈ l, 0 ≤ x ∧ x ≤ 1000000) (hl : l.length ≤ 100) : Cn f_spec_sgLine [v_l] h fun v h' => v = .string (tx (lineOf l [32])) ∧ Ext h h' := by
  have lt_l := s_l.lt
  have l63_l := s_l.len63
  refine calls_of r_spec_sgLine ?_
  refine v_seq ?_
  refine v_ops ?_
  refine s_pure (.string (tx [])) (fun _ q => q) ?_
  refine s_nil ?_
  refine p_seqN ?_
  refine v_seq ?_
  refine v_ops ?_
  refine s_pure (.string (tx [])) (fun _ q => q) ?_
  refine s_nil ?_
  refine p_seqN ?_
  refine v_seq ?_
  refine v_seq ?_
  refine v_ops ?_
  refine s_pure v_l (fun _ q => q) ?_
  refine s_pure (.int .i64 (l.length : Int)) (fun _ q => s_l.lenVC q) ?_
  refine s_pure (.int .i64 0) (fun _ q => q) ?_
  refine s_nil ?_
  refine p_seqN ?_
  refine v_block ?_
  refine v_loop2 (α := Nat) (β := ByteArray) (fun k s => [(3, .string s), (6, v_l), (7, .int .i64 (l.length : Int)), (8, .int .i64 (k : Int))]) (fun k s hh => Ext h hh ∧ k ≤ l.length ∧ s = tx (lineOf (l.take k) [32])) (fun k s => l.length - k) 0 (tx []) ⟨rfl, rfl, rfl, rfl⟩ ⟨(Ext.refl h), (by exact ⟨by omega, rfl⟩)⟩ ?_
  rintro k s R2 h1 ⟨Eh, ⟨hk, hs⟩⟩
  have zEh := Eh.size
  have f4 := s_l.ext Eh
  refine v_seq ?_
  refine v_ops ?_
  refine s_pure (.bool (decide ((k : Int) < (l.length : Int)))) (fun _ q => q) ?_
  refine s_nil ?_
  refine p_seqN ?_
  refine v_seq ?_
  refine v_cond rfl (fun c5 => ?_) (fun c5 => ?_)
  ·
    refine v_skip ?_
    refine p_seqN ?_
    refine v_seq ?_
    refine v_block ?_
    refine v_seq ?_
    refine v_ops ?_
    refine s_pure (.int .i64 (k : Int)) (fun _ q => q) ?_
    have hk6 : k < l.length := (by first | omega | (simp; omega))
    obtain ⟨x7, hx7⟩ : ∃ x, l[k]? = some x := ⟨_, List.getElem?_eq_getElem hk6⟩
    refine s_pure (.pointer (some ⟨sblk v_l, soff v_l + k * 1, none⟩)) (fun _ q => f4.idx (k := k) rfl hk6 q) ?_
    refine s_load (.int .i64 x7) (fun _ q => f4.load1 hx7 rfl q) ?_
    refine s_pure (.int .i64 (k : Int)) (fun _ q => q) ?_
    refine s_pure (.int .i64 x7) (fun _ q => q) ?_
    refine s_nil ?_
    refine p_seqN ?_
    refine v_seq ?_
    refine v_seq ?_
    refine v_ops ?_
    refine s_pure (.int .i64 (k : Int)) (fun _ q => q) ?_
    refine s_pure (.bool (decide ((k : Int) > 0))) (fun _ q => q) ?_
    refine s_nil ?_
    refine p_seqN ?_
    refine v_cond rfl (fun c8 => ?_) (fun c8 => ?_)
    ·
      refine v_ops ?_
      refine s_pure (.string s) (fun _ q => q) ?_
      refine s_pure (.string (s ++ (tx [32]))) (fun _ q => CatVC.mk (a := s) (b := (tx [32])) (by first | exact (by have q_ := line_len (sep := [32]) (by simp) hb k; have r_ := dec_len (hb _ (List.mem_of_getElem? (by assumption : l[k]? = some _))).1 (hb _ (List.mem_of_getElem? (by assumption : l[k]? = some _))).2; subst hs; simp only [tx_append, tx_size, List.length_append, List.length_cons, List.length_nil]; omega) | exact (by have q_ := line_len (sep := [32]) (by simp) hb k; subst hs; simp only [tx_append, tx_size, List.length_append, List.length_cons, List.length_nil]; omega)) q) ?_
      refine s_pure (.string (s ++ (tx [32]))) (fun _ q => q) ?_
      refine s_nil ?_
      refine p_seqN ?_
      refine v_ops ?_
      refine s_pure (.string (s ++ (tx [32]))) (fun _ q => q) ?_
      refine s_pure (.int .i64 x7) (fun _ q => q) ?_
      refine s_call [.int .i64 x7] rfl (spec_l1Num_ok x7 _ (hb _ (List.mem_of_getElem? (by assumption : l[k]? = some _))).1 (hb _ (List.mem_of_getElem? (by assumption : l[k]? = some _))).2) ?_
      rintro _ h9 ⟨rfl, eh9⟩
      have E10 := Eh.trans eh9
      have z11 := eh9.size
      refine s_pure (.string ((s ++ (tx [32])) ++ (tx (dec x7)))) (fun _ q => CatVC.mk (a := (s ++ (tx [32]))) (b := (tx (dec x7))) (by first | exact (by have q_ := line_len (sep := [32]) (by simp) hb k; have r_ := dec_len (hb _ (List.mem_of_getElem? (by assumption : l[k]? = some _))).1 (hb _ (List.mem_of_getElem? (by assumption : l[k]? = some _))).2; subst hs; simp only [tx_append, tx_size, List.length_append, List.length_cons, List.length_nil]; omega) | exact (by have q_ := line_len (sep := [32]) (by simp) hb k; subst hs; simp only [tx_append, tx_size, List.length_append, List.length_cons, List.length_nil]; omega)) q) ?_
      refine s_pure (.string ((s ++ (tx [32])) ++ (tx (dec x7)))) (fun _ q => q) ?_
      refine s_nil ?_
      refine p_blkN ?_
      refine p_seqN ?_
      refine v_ops ?_
      refine s_pure (.int .i64 ((k : Int) + 1)) (fun _ q => ArithVC.mk (by omega) q) ?_
      refine s_pure (.int .i64 ((k : Int) + 1)) (fun _ q => q) ?_
      refine s_nil ?_
      exact p_lpN ⟨k + 1, ((s ++ (tx [32])) ++ (tx (dec x7))), ⟨rfl, rfl, rfl, rfl⟩, ⟨E10, (by exact ⟨by omega, by rw [line_snoc (by assumption), hs]; first | (rw [if_pos (by omega), show k = 0 by omega]; rfl) | (rw [if_neg (by omega)]; simp only [tx_append]; done)⟩)⟩, by omega⟩
    ·
      refine v_skip ?_
      refine p_seqN ?_
      refine v_ops ?_
      refine s_pure (.string s) (fun _ q => q) ?_
      refine s_pure (.int .i64 x7) (fun _ q => q) ?_
      refine s_call [.int .i64 x7] rfl (spec_l1Num_ok x7 _ (hb _ (List.mem_of_getElem? (by assumption : l[k]? = some _))).1 (hb _ (List.mem_of_getElem? (by assumption : l[k]? = some _))).2) ?_
      rintro _ h12 ⟨rfl, eh12⟩
      have E13 := Eh.trans eh12
      have z14 := eh12.size
      refine s_pure (.string (s ++ (tx (dec x7)))) (fun _ q => CatVC.mk (a := s) (b := (tx (dec x7))) (by first | exact (by have q_ := line_len (sep := [32]) (by simp) hb k; have r_ := dec_len (hb _ (List.mem_of_getElem? (by assumption : l[k]? = some _))).1 (hb _ (List.mem_of_getElem? (by assumption : l[k]? = some _))).2; subst hs; simp only [tx_append, tx_size, List.length_append, List.length_cons, List.length_nil]; omega) | exact (by have q_ := line_len (sep := [32]) (by simp) hb k; subst hs; simp only [tx_append, tx_size, List.length_append, List.length_cons, List.length_nil]; omega)) q) ?_
      refine s_pure (.string (s ++ (tx (dec x7)))) (fun _ q => q) ?_
      refine s_nil ?_
      refine p_blkN ?_
      refine p_seqN ?_
      refine v_ops ?_
      refine s_pure (.int .i64 ((k : Int) + 1)) (fun _ q => ArithVC.mk (by omega) q) ?_
      refine s_pure (.int .i64 ((k : Int) + 1)) (fun _ q => q) ?_
      refine s_nil ?_
      exact p_lpN ⟨k + 1, (s ++ (tx (dec x7))), ⟨rfl, rfl, rfl, rfl⟩, ⟨E13, (by exact ⟨by omega, by rw [line_snoc (by assumption), hs]; first | (rw [if_pos (by omega), show k = 0 by omega]; rfl) | (rw [if_neg (by omega)]; simp only [tx_append]; done)⟩)⟩, by omega⟩
  ·
    refine v_exit ?_
    refine p_seqX ?_
    refine p_lpX ?_
    refine p_blkX ?_
    refine p_seqN ?_
    refine v_seq ?_
    refine v_ops ?_
    refine s_pure (.string s) (fun _ q => q) ?_
    refine s_pure (.string s) (fun _ q => q) ?_
    refine s_nil ?_
    refine p_seqN ?_
    refine v_ret ?_
    refine p_ret [.string s] (.string s) (fun _ q => q) rfl ?_
    have ho : (tx (lineOf l [32])) = s := by rw [hs, take_all (by assumption)]
    exact ⟨by first | (rw [ho]; done) | rfl, Eh⟩

theorem spec_pkText_ok (p : PkP) (v_p_signals : Value) (h : Heap) (s_p_signals : Sl h v_p_signals p.signals) (hp : PkOk p) : Cn f_spec_pkText [.agg #[.int .i64 p.message, .int .i64 p.part, .int .i64 p.parts, v_p_signals]] h fun v h' => v = .string (tx (pkTx p)) ∧ Ext h h' := by
  have lt_p_signals := s_p_signals.lt
  have l63_p_signals := s_p_signals.len63
  obtain ⟨hp1, hp2, hp3, hp4, hp5⟩ := hp
  have hpp : PkOk p := ⟨hp1, hp2, hp3, hp4, hp5⟩
  have d1 := dec_len (n := p.message) (by omega) (by omega)
  have d2 := dec_len (n := p.part) (by omega) (by omega)
  have d3 := dec_len (n := p.parts) (by omega) (by omega)
  have d4 := line_all (sep := [32]) (by simp) (pk_nums hpp)
  refine calls_of r_spec_pkText ?_
  refine v_seq ?_
  refine v_ops ?_
  refine s_box [.int .i64 p.message, .int .i64 p.part, .int .i64 p.parts, v_p_signals] rfl (fun h2 b1 hbb1 hzb1 eh2 bxb1 => ?_)
  have E3 := (Ext.refl h).trans eh2
  have z4 := eh2.size
  have lbb1 := bxb1.lt
  refine s_pure (.string (tx [])) (fun _ q => q) ?_
  refine s_nil ?_
  refine p_seqN ?_
  refine v_seq ?_
  refine v_draw (DrawVC.hold ([b1]) ?_)
  refine d_pureT (.pointer (some ⟨b1, 0, none⟩)) (fun _ q => q) ?_
  refine d_pureT (.pointer (some ⟨b1, 1, none⟩)) (fun _ q => q) ?_
  refine d_pureT (.pointer (some ⟨b1, 2, none⟩)) (fun _ q => q) ?_
  refine d_pureT (.pointer (some ⟨b1, 3, none⟩)) (fun _ q => q) ?_
  refine d_loadO (.int .i64 p.message) (fun _ q => bxb1.load rfl q) ?_
  refine d_loadT (.int .i64 p.part) (fun _ q => bxb1.take (by simp) rfl q) ?_
  refine d_loadT (.int .i64 p.parts) (fun _ q => bxb1.take (by simp) rfl q) ?_
  refine d_loadT v_p_signals (fun _ q => bxb1.take (by simp) rfl q) ?_
  refine d_eff ?_
  refine s_call [.int .i64 p.message] rfl (spec_l1Num_ok p.message _ (by omega) (by omega)) ?_
  rintro _ h5 ⟨rfl, eh5⟩
  have E6 := E3.trans eh5
  have z7 := eh5.size
  have G8 := eh5
  refine s_nil ⟨fun _ x hx => G8.blk x (by simp at hx; omega), ?_⟩
  refine d_pureT (.string ((tx (dec p.message)) ++ (tx [47]))) (fun _ q => CatVC.mk (a := (tx (dec p.message))) (b := (tx [47])) (by simp only [tx_append, tx_size, List.length_append, List.length_cons, List.length_nil]; omega) q) ?_
  refine d_eff ?_
  refine s_call [.int .i64 p.part] rfl (spec_l1Num_ok p.part _ (by omega) (by omega)) ?_
  rintro _ h9 ⟨rfl, eh9⟩
  have E10 := E6.trans eh9
  have z11 := eh9.size
  have G12 := G8.trans eh9
  refine s_nil ⟨fun _ x hx => G12.blk x (by simp at hx; omega), ?_⟩
  refine d_pureT (.string (((tx (dec p.message)) ++ (tx [47])) ++ (tx (dec p.part)))) (fun _ q => CatVC.mk (a := ((tx (dec p.message)) ++ (tx [47]))) (b := (tx (dec p.part))) (by simp only [tx_append, tx_size, List.length_append, List.length_cons, List.length_nil]; omega) q) ?_
  refine d_pureT (.string ((((tx (dec p.message)) ++ (tx [47])) ++ (tx (dec p.part))) ++ (tx [47]))) (fun _ q => CatVC.mk (a := (((tx (dec p.message)) ++ (tx [47])) ++ (tx (dec p.part)))) (b := (tx [47])) (by simp only [tx_append, tx_size, List.length_append, List.length_cons, List.length_nil]; omega) q) ?_
  refine d_eff ?_
  refine s_call [.int .i64 p.parts] rfl (spec_l1Num_ok p.parts _ (by omega) (by omega)) ?_
  rintro _ h13 ⟨rfl, eh13⟩
  have E14 := E10.trans eh13
  have z15 := eh13.size
  have G16 := G12.trans eh13
  refine s_nil ⟨fun _ x hx => G16.blk x (by simp at hx; omega), ?_⟩
  refine d_pureT (.string (((((tx (dec p.message)) ++ (tx [47])) ++ (tx (dec p.part))) ++ (tx [47])) ++ (tx (dec p.parts)))) (fun _ q => CatVC.mk (a := ((((tx (dec p.message)) ++ (tx [47])) ++ (tx (dec p.part))) ++ (tx [47]))) (b := (tx (dec p.parts))) (by simp only [tx_append, tx_size, List.length_append, List.length_cons, List.length_nil]; omega) q) ?_
  refine d_pureT (.string ((((((tx (dec p.message)) ++ (tx [47])) ++ (tx (dec p.part))) ++ (tx [47])) ++ (tx (dec p.parts))) ++ (tx [58]))) (fun _ q => CatVC.mk (a := (((((tx (dec p.message)) ++ (tx [47])) ++ (tx (dec p.part))) ++ (tx [47])) ++ (tx (dec p.parts)))) (b := (tx [58])) (by simp only [tx_append, tx_size, List.length_append, List.length_cons, List.length_nil]; omega) q) ?_
  refine d_eff ?_
  have f17 := ((((s_p_signals.ext eh2).ext eh5).ext eh9).ext eh13)
  refine s_call [v_p_signals] rfl (spec_sgLine_ok v_p_signals p.signals _ f17 (pk_nums hpp) (by omega)) ?_
  rintro _ h18 ⟨rfl, eh18⟩
  have E19 := E14.trans eh18
  have z20 := eh18.size
  have G21 := G16.trans eh18
  refine s_nil ⟨fun hl => (by cases hl), ?_⟩
  refine d_pureT (.string (((((((tx (dec p.message)) ++ (tx [47])) ++ (tx (dec p.part))) ++ (tx [47])) ++ (tx (dec p.parts))) ++ (tx [58])) ++ (tx (lineOf p.signals [32])))) (fun _ q => CatVC.mk (a := ((((((tx (dec p.message)) ++ (tx [47])) ++ (tx (dec p.part))) ++ (tx [47])) ++ (tx (dec p.parts))) ++ (tx [58]))) (b := (tx (lineOf p.signals [32]))) (by simp only [tx_append, tx_size, List.length_append, List.length_cons, List.length_nil]; omega) q) ?_
  refine d_pureT (.string (((((((tx (dec p.message)) ++ (tx [47])) ++ (tx (dec p.part))) ++ (tx [47])) ++ (tx (dec p.parts))) ++ (tx [58])) ++ (tx (lineOf p.signals [32])))) (fun _ q => q) ?_
  refine d_done ?_
  refine p_seqN ?_
  refine v_ret ?_
  refine p_ret [.string (((((((tx (dec p.message)) ++ (tx [47])) ++ (tx (dec p.part))) ++ (tx [47])) ++ (tx (dec p.parts))) ++ (tx [58])) ++ (tx (lineOf p.signals [32])))] (.string (((((((tx (dec p.message)) ++ (tx [47])) ++ (tx (dec p.part))) ++ (tx [47])) ++ (tx (dec p.parts))) ++ (tx [58])) ++ (tx (lineOf p.signals [32])))) (fun _ q => q) rfl ?_
  have ho : (tx (pkTx p)) = (((((((tx (dec p.message)) ++ (tx [47])) ++ (tx (dec p.part))) ++ (tx [47])) ++ (tx (dec p.parts))) ++ (tx [58])) ++ (tx (lineOf p.signals [32]))) := by simp only [pkTx, line_three, tx_append, List.append_assoc]
  exact ⟨by first | (rw [ho]; done) | rfl, E19⟩

theorem spec_PacketText_ok (p : PkP) (v_p_signals : Value) (h : Heap) (s_p_signals : Sl h v_p_signals p.signals) : Cn f_spec_PacketText [.agg #[.int .i64 p.message, .int .i64 p.part, .int .i64 p.parts, v_p_signals]] h fun v h' => v = .tuple #[.string ((ptOut p).1), .bool ((ptOut p).2)] ∧ Ext h h' := by
  have lt_p_signals := s_p_signals.lt
  have l63_p_signals := s_p_signals.len63
  refine calls_of r_spec_PacketText ?_
  refine v_seq ?_
  refine v_ops ?_
  refine s_box [.int .i64 p.message, .int .i64 p.part, .int .i64 p.parts, v_p_signals] rfl (fun h2 b1 hbb1 hzb1 eh2 bxb1 => ?_)
  have E3 := (Ext.refl h).trans eh2
  have z4 := eh2.size
  have lbb1 := bxb1.lt
  refine s_pure (.string (tx [])) (fun _ q => q) ?_
  refine s_pure (.bool false) (fun _ q => q) ?_
  refine s_nil ?_
  refine p_seqN ?_
  refine v_seq ?_
  refine v_seq ?_
  refine v_ops ?_
  refine s_load (.agg #[.int .i64 p.message, .int .i64 p.part, .int .i64 p.parts, v_p_signals]) (fun _ q => bxb1.loadA rfl q) ?_
  have f5 := (s_p_signals.ext eh2)
  refine s_call [.agg #[.int .i64 p.message, .int .i64 p.part, .int .i64 p.parts, v_p_signals]] rfl (spec_pkGood_ok p v_p_signals _ f5) ?_
  rintro _ h6 ⟨rfl, eh6⟩
  have E7 := E3.trans eh6
  have z8 := eh6.size
  refine s_pure (.bool (!decide (PkOk p))) (fun _ q => q) ?_
  refine s_nil ?_
  refine p_seqN ?_
  refine v_cond rfl (fun c9 => ?_) (fun c9 => ?_)
  ·
    refine v_seq ?_
    refine v_ops ?_
    refine s_pure (.string (tx [])) (fun _ q => q) ?_
    refine s_pure (.bool false) (fun _ q => q) ?_
    refine s_nil ?_
    refine p_seqN ?_
    refine v_ret ?_
    refine p_seqR ?_
    refine p_ret [.string (tx []), .bool false] (.tuple #[.string (tx []), .bool false]) (fun _ q => q) rfl ?_
    have ho : (ptOut p) = ((tx []), false) := by first | exact if_neg (by assumption) | exact if_pos (by assumption)
    exact ⟨by first | (rw [ho]; done) | rfl, E7⟩
  ·
    have c9 := Classical.not_not.1 c9
    refine v_skip ?_
    refine p_seqN ?_
    refine v_seq ?_
    refine v_ops ?_
    have f10 := (bxb1.ext eh6)
    refine s_load (.agg #[.int .i64 p.message, .int .i64 p.part, .int .i64 p.parts, v_p_signals]) (fun _ q => f10.loadA rfl q) ?_
    have f11 := (f5.ext eh6)
    refine s_call [.agg #[.int .i64 p.message, .int .i64 p.part, .int .i64 p.parts, v_p_signals]] rfl (spec_pkText_ok p v_p_signals _ f11 (by assumption : PkOk p)) ?_
    rintro _ h12 ⟨rfl, eh12⟩
    have E13 := E7.trans eh12
    have z14 := eh12.size
    refine s_pure (.string (tx (pkTx p))) (fun _ q => q) ?_
    refine s_pure (.bool true) (fun _ q => q) ?_
    refine s_nil ?_
    refine p_seqN ?_
    refine v_ret ?_
    refine p_ret [.string (tx (pkTx p)), .bool true] (.tuple #[.string (tx (pkTx p)), .bool true]) (fun _ q => q) rfl ?_
    have ho : (ptOut p) = ((tx (pkTx p)), true) := by first | exact if_neg (by assumption) | exact if_pos (by assumption)
    exact ⟨by first | (rw [ho]; done) | rfl, E13⟩

theorem impl_PacketText_ok (p : PkP) (v_p_signals : Value) (h : Heap) (s_p_signals : Sl h v_p_signals p.signals) (ht : Gl h) : Cn f_impl_PacketText [.agg #[.int .i64 p.message, .int .i64 p.part, .int .i64 p.parts, v_p_signals]] h fun v h' => v = .tuple #[.string ((ptOut p).1), .bool ((ptOut p).2)] ∧ Ext h h' := by
  have lt_p_signals := s_p_signals.lt
  have l63_p_signals := s_p_signals.len63
  refine calls_of r_impl_PacketText ?_
  refine v_seq ?_
  refine v_ops ?_
  refine s_box [.int .i64 p.message, .int .i64 p.part, .int .i64 p.parts, v_p_signals] rfl (fun h2 b1 hbb1 hzb1 eh2 bxb1 => ?_)
  have E3 := (Ext.refl h).trans eh2
  have z4 := eh2.size
  have lbb1 := bxb1.lt
  refine s_pure (.string (tx [])) (fun _ q => q) ?_
  refine s_pure (.bool false) (fun _ q => q) ?_
  refine s_nil ?_
  refine p_seqN ?_
  refine v_seq ?_
  refine v_seq ?_
  refine v_ops ?_
  refine s_load (.agg #[.int .i64 p.message, .int .i64 p.part, .int .i64 p.parts, v_p_signals]) (fun _ q => bxb1.loadA rfl q) ?_
  have f5 := (s_p_signals.ext eh2)
  refine s_call [.agg #[.int .i64 p.message, .int .i64 p.part, .int .i64 p.parts, v_p_signals]] rfl (impl_IsPacket_ok p v_p_signals _ f5) ?_
  rintro _ h6 ⟨rfl, eh6⟩
  have E7 := E3.trans eh6
  have z8 := eh6.size
  refine s_pure (.bool (!decide (PkOk p))) (fun _ q => q) ?_
  refine s_nil ?_
  refine p_seqN ?_
  refine v_cond rfl (fun c9 => ?_) (fun c9 => ?_)
  ·
    refine v_seq ?_
    refine v_ops ?_
    refine s_pure (.string (tx [])) (fun _ q => q) ?_
    refine s_pure (.bool false) (fun _ q => q) ?_
    refine s_nil ?_
    refine p_seqN ?_
    refine v_ret ?_
    refine p_seqR ?_
    refine p_ret [.string (tx []), .bool false] (.tuple #[.string (tx []), .bool false]) (fun _ q => q) rfl ?_
    have ho : (ptOut p) = ((tx []), false) := by first | exact if_neg (by assumption) | (rw [ptOut, if_pos (by assumption), pkTx]; simp only [tx_append, tx_list, List.append_assoc]; first | done | rfl)
    exact ⟨by first | (rw [ho]; done) | rfl, E7⟩
  ·
    have c9 := Classical.not_not.1 c9
    have hpp : PkOk p := c9
    refine v_skip ?_
    refine p_seqN ?_
    refine v_seq ?_
    have f10 := (bxb1.ext eh6)
    refine v_draw (DrawVC.hold ([b1]) ?_)
    refine d_pureT (.pointer (some ⟨b1, 0, none⟩)) (fun _ q => q) ?_
    refine d_pureT (.pointer (some ⟨b1, 1, none⟩)) (fun _ q => q) ?_
    refine d_pureT (.pointer (some ⟨b1, 2, none⟩)) (fun _ q => q) ?_
    refine d_pureT (.pointer (some ⟨b1, 3, none⟩)) (fun _ q => q) ?_
    refine d_loadO (.int .i64 p.message) (fun _ q => f10.load rfl q) ?_
    refine d_loadO (.int .i64 p.part) (fun _ q => f10.load rfl q) ?_
    refine d_loadO (.int .i64 p.parts) (fun _ q => f10.load rfl q) ?_
    refine d_loadT v_p_signals (fun _ q => f10.take (by simp) rfl q) ?_
    refine d_eff ?_
    refine s_row (α := Int) [p.message, p.part, p.parts] (fun _ q => seg_i rfl (seg_i rfl (seg_i rfl (seg_nil q)))) rfl (by simp [maxLen]) (fun r11 h12 eh12 zh12 s_r11 fr_r11 => ?_)
    have E13 := E7.trans eh12
    have z14 := eh12.size
    have G15 := eh12
    have lt_r11 := s_r11.lt
    refine s_nil ⟨fun _ x hx => G15.blk x (by simp at hx; omega), ?_⟩
    refine d_eff ?_
    refine s_call [r11, .string (tx [47])] rfl (impl_joinNumbers_ok r11 [p.message, p.part, p.parts] (tx [47]) _ s_r11.toSl (by first | (simp [maxLen]; omega) | decide) (ht.ext E13) (by first | exact pk_three hpp | exact pk_nums hpp) (by simp [tx]) (by have q_ := hpp.2.2.2.1; first | omega | (simp; done) | (simp; omega))) ?_
    rintro _ h16 ⟨rfl, eh16⟩
    have E17 := E13.trans eh16
    have z18 := eh16.size
    have G19 := G15.trans eh16
    refine s_nil ⟨fun _ x hx => G19.blk x (by simp at hx; omega), ?_⟩
    refine d_pureT (.string ((tx (lineOf [p.message, p.part, p.parts] (tx [47]).data.toList)) ++ (tx [58]))) (fun _ q => CatVC.mk (a := (tx (lineOf [p.message, p.part, p.parts] (tx [47]).data.toList))) (b := (tx [58])) (by have q_ := line_all (sep := [47]) (by simp) (pk_three hpp); have r_ := line_all (sep := [32]) (by simp) (pk_nums hpp); have s_ := hpp.2.2.2.1; simp only [tx_append, tx_size, tx_list, List.length_append, List.length_cons, List.length_nil] at *; omega) q) ?_
    refine d_eff ?_
    have f20 := (((f5.ext eh6).ext eh12).ext eh16)
    refine s_call [v_p_signals, .string (tx [32])] rfl (impl_joinNumbers_ok v_p_signals p.signals (tx [32]) _ f20 (by first | (simp [maxLen]; omega) | decide) (ht.ext E17) (by first | exact pk_three hpp | exact pk_nums hpp) (by simp [tx]) (by have q_ := hpp.2.2.2.1; first | omega | (simp; done) | (simp; omega))) ?_
    rintro _ h21 ⟨rfl, eh21⟩
    have E22 := E17.trans eh21
    have z23 := eh21.size
    have G24 := G19.trans eh21
    refine s_nil ⟨fun hl => (by cases hl), ?_⟩
    refine d_pureT (.string (((tx (lineOf [p.message, p.part, p.parts] (tx [47]).data.toList)) ++ (tx [58])) ++ (tx (lineOf p.signals (tx [32]).data.toList)))) (fun _ q => CatVC.mk (a := ((tx (lineOf [p.message, p.part, p.parts] (tx [47]).data.toList)) ++ (tx [58]))) (b := (tx (lineOf p.signals (tx [32]).data.toList))) (by have q_ := line_all (sep := [47]) (by simp) (pk_three hpp); have r_ := line_all (sep := [32]) (by simp) (pk_nums hpp); have s_ := hpp.2.2.2.1; simp only [tx_append, tx_size, tx_list, List.length_append, List.length_cons, List.length_nil] at *; omega) q) ?_
    refine d_pureT (.string (((tx (lineOf [p.message, p.part, p.parts] (tx [47]).data.toList)) ++ (tx [58])) ++ (tx (lineOf p.signals (tx [32]).data.toList)))) (fun _ q => q) ?_
    refine d_pureT (.bool true) (fun _ q => q) ?_
    refine d_done ?_
    refine p_seqN ?_
    refine v_ret ?_
    refine p_ret [.string (((tx (lineOf [p.message, p.part, p.parts] (tx [47]).data.toList)) ++ (tx [58])) ++ (tx (lineOf p.signals (tx [32]).data.toList))), .bool true] (.tuple #[.string (((tx (lineOf [p.message, p.part, p.parts] (tx [47]).data.toList)) ++ (tx [58])) ++ (tx (lineOf p.signals (tx [32]).data.toList))), .bool true]) (fun _ q => q) rfl ?_
    have ho : (ptOut p) = ((((tx (lineOf [p.message, p.part, p.parts] (tx [47]).data.toList)) ++ (tx [58])) ++ (tx (lineOf p.signals (tx [32]).data.toList))), true) := by first | exact if_neg (by assumption) | (rw [ptOut, if_pos (by assumption), pkTx]; simp only [tx_append, tx_list, List.append_assoc]; first | done | rfl)
    exact ⟨by first | (rw [ho]; done) | rfl, E22⟩

end Go.Proofs.YtbikhpphdhffaaaGreatDoor
