/- Repeaters: contracts wanted by the laws of draws. Condition: none. Printed in part by a program. -/
import Derived.Test.YtpbjcaadnbeplaaRq1
import Derived.Test.YtpbjcaadnbeplaaDr1
import Derived.Test.YtpbjcaadnbeplaaMerge
namespace Go.Proofs.Ytpbjcaadnbeplaa
open Go.Vc
set_option linter.all false
theorem w_implPlainGlances (v_xs : Value) (xs : List Int) (h : Heap) (s_xs : Sl h v_xs xs) : Cn f_impl_PlainGlances [v_xs] h fun v h' => ∃ r0 : Value, v = .tuple #[r0, .bool ((pgOut xs).2)] ∧ SlO h' r0 ((pgOut xs).1) ∧ Fr h.size r0 ∧ Ext h h' := (implPlainGlances_ok v_xs xs h s_xs).mono (fun _ _ ⟨r, e, s, x, f⟩ => ⟨r, e, s, f, x⟩)
theorem w_specPlainGlances (v_xs : Value) (xs : List Int) (h : Heap) (s_xs : Sl h v_xs xs) : Cn f_spec_PlainGlances [v_xs] h fun v h' => ∃ r0 : Value, v = .tuple #[r0, .bool ((pgOut xs).2)] ∧ SlO h' r0 ((pgOut xs).1) ∧ Fr h.size r0 ∧ Ext h h' := (specPlainGlances_ok v_xs xs h s_xs).mono (fun _ _ ⟨r, e, s, x, f⟩ => ⟨r, e, s, f, x⟩)
theorem laws_qInts_ok (v_a : Value) (a : List Int) (v_b : Value) (b : List Int) (h : Heap) (s_a : Sl h v_a a) (s_b : Sl h v_b b) : Cn f_laws_qInts [v_a, v_b] h fun v h' => v = .bool (decide (a = b)) ∧ Ext h h' := by
  have lt_a := s_a.lt
  have l63_a := s_a.len63
  have lt_b := s_b.lt
  have l63_b := s_b.len63
  refine calls_of r_laws_qInts ?_
  refine v_seq ?_
  refine v_ops ?_
  refine s_pure (.bool false) (fun _ q => q) ?_
  refine s_nil ?_
  refine p_seqN ?_
  refine v_seq ?_
  refine v_seq ?_
  refine v_ops ?_
  refine s_pure v_a (fun _ q => q) ?_
  refine s_pure (.int .i64 (a.length : Int)) (fun _ q => s_a.lenVC q) ?_
  refine s_pure v_b (fun _ q => q) ?_
  refine s_pure (.int .i64 (b.length : Int)) (fun _ q => s_b.lenVC q) ?_
  refine s_pure (.bool ((a.length : Int) != (b.length : Int))) (fun _ q => q) ?_
  refine s_nil ?_
  refine p_seqN ?_
  refine v_cond rfl (fun c1 => ?_) (fun c1 => ?_)
  ·
    refine v_seq ?_
    refine v_ops ?_
    refine s_pure (.bool false) (fun _ q => q) ?_
    refine s_nil ?_
    refine p_seqN ?_
    refine v_ret ?_
    refine p_seqR ?_
    refine p_ret [.bool false] (.bool false) (fun _ q => q) rfl ?_
    have ho : (decide (a = b)) = false := by first | exact decide_eq_true (q_done hab (by assumption) (by assumption)) | exact decide_eq_false (q_ne (by assumption) (by assumption) (by assumption)) | exact decide_eq_false (fun hc => by subst hc; omega)
    exact ⟨by first | (rw [ho]; done) | rfl, (Ext.refl h)⟩
  ·
    have c1 := Classical.not_not.1 c1
    refine v_skip ?_
    refine p_seqN ?_
    refine v_seq ?_
    refine v_seq ?_
    refine v_ops ?_
    refine s_pure v_a (fun _ q => q) ?_
    refine s_pure (.int .i64 (a.length : Int)) (fun _ q => s_a.lenVC q) ?_
    refine s_pure (.int .i64 0) (fun _ q => q) ?_
    refine s_nil ?_
    refine p_seqN ?_
    refine v_block ?_
    refine v_loop1 (α := Nat) (fun k => [(0, v_a), (1, v_b), (12, .int .i64 (a.length : Int)), (13, .int .i64 (k : Int))]) (fun k hh => Ext h hh ∧ k ≤ a.length ∧ a.take k = b.take k) (fun k => a.length - k) 0 ⟨rfl, rfl, rfl, rfl⟩ ⟨(Ext.refl h), (by simp)⟩ ?_
    rintro k R3 h2 ⟨Eh, ⟨hk, hab⟩⟩
    have zEh := Eh.size
    have f5 := s_a.ext Eh
    have f6 := s_b.ext Eh
    refine v_seq ?_
    refine v_ops ?_
    refine s_pure (.bool (decide ((k : Int) < (a.length : Int)))) (fun _ q => q) ?_
    refine s_nil ?_
    refine p_seqN ?_
    refine v_seq ?_
    refine v_cond rfl (fun c7 => ?_) (fun c7 => ?_)
    ·
      refine v_skip ?_
      refine p_seqN ?_
      refine v_seq ?_
      refine v_block ?_
      refine v_seq ?_
      refine v_ops ?_
      refine s_pure (.int .i64 (k : Int)) (fun _ q => q) ?_
      refine s_pure (.int .i64 (k : Int)) (fun _ q => q) ?_
      refine s_nil ?_
      refine p_seqN ?_
      refine v_seq ?_
      refine v_ops ?_
      refine s_pure v_a (fun _ q => q) ?_
      refine s_pure (.int .i64 (k : Int)) (fun _ q => q) ?_
      have hk8 : k < a.length := (by first | omega | (simp; omega))
      obtain ⟨x9, hx9⟩ : ∃ x, a[k]? = some x := ⟨_, List.getElem?_eq_getElem hk8⟩
      refine s_pure (.pointer (some ⟨sblk v_a, soff v_a + k * 1, none⟩)) (fun _ q => f5.idx (k := k) rfl hk8 q) ?_
      refine s_pure v_b (fun _ q => q) ?_
      refine s_pure (.int .i64 (k : Int)) (fun _ q => q) ?_
      have hk10 : k < b.length := (by first | omega | (simp; omega))
      obtain ⟨x11, hx11⟩ : ∃ x, b[k]? = some x := ⟨_, List.getElem?_eq_getElem hk10⟩
      refine s_pure (.pointer (some ⟨sblk v_b, soff v_b + k * 1, none⟩)) (fun _ q => f6.idx (k := k) rfl hk10 q) ?_
      refine s_load (.int .i64 x9) (fun _ q => f5.load1 hx9 rfl q) ?_
      refine s_load (.int .i64 x11) (fun _ q => f6.load1 hx11 rfl q) ?_
      refine s_pure (.bool (x9 != x11)) (fun _ q => q) ?_
      refine s_nil ?_
      refine p_seqN ?_
      refine v_cond rfl (fun c12 => ?_) (fun c12 => ?_)
      ·
        refine v_seq ?_
        refine v_ops ?_
        refine s_pure (.bool false) (fun _ q => q) ?_
        refine s_nil ?_
        refine p_seqN ?_
        refine v_ret ?_
        refine p_blkR ?_
        refine p_seqR ?_
        refine p_lpR ?_
        refine p_blkR ?_
        refine p_seqR ?_
        refine p_ret [.bool false] (.bool false) (fun _ q => q) rfl ?_
        have ho : (decide (a = b)) = false := by first | exact decide_eq_true (q_done hab (by assumption) (by assumption)) | exact decide_eq_false (q_ne (by assumption) (by assumption) (by assumption)) | exact decide_eq_false (fun hc => by subst hc; omega)
        exact ⟨by first | (rw [ho]; done) | rfl, Eh⟩
      ·
        have c12 := Classical.not_not.1 c12
        refine v_skip ?_
        refine p_blkN ?_
        refine p_seqN ?_
        refine v_ops ?_
        refine s_pure (.int .i64 ((k : Int) + 1)) (fun _ q => ArithVC.mk (by omega) q) ?_
        refine s_pure (.int .i64 ((k : Int) + 1)) (fun _ q => q) ?_
        refine s_nil ?_
        exact p_lpN ⟨k + 1, ⟨rfl, rfl, rfl, rfl⟩, ⟨Eh, (by exact ⟨by omega, q_step hab (by assumption) (by assumption) ((by first | assumption | (simp_all; done)))⟩)⟩, by omega⟩
    ·
      refine v_exit ?_
      refine p_seqX ?_
      refine p_lpX ?_
      refine p_blkX ?_
      refine p_seqN ?_
      refine v_seq ?_
      refine v_ops ?_
      refine s_pure (.bool true) (fun _ q => q) ?_
      refine s_nil ?_
      refine p_seqN ?_
      refine v_ret ?_
      refine p_ret [.bool true] (.bool true) (fun _ q => q) rfl ?_
      have ho : (decide (a = b)) = true := by first | exact decide_eq_true (q_done hab (by assumption) (by assumption)) | exact decide_eq_false (q_ne (by assumption) (by assumption) (by assumption)) | exact decide_eq_false (fun hc => by subst hc; omega)
      exact ⟨by first | (rw [ho]; done) | rfl, Eh⟩

theorem laws_qGlances_ok (v_a : Value) (a : List GlanceD) (v_b : Value) (b : List GlanceD) (h : Heap) (s_a : Sl h v_a a) (s_b : Sl h v_b b) : Cn f_laws_qGlances [v_a, v_b] h fun v h' => v = .bool (decide (a = b)) ∧ Ext h h' := by
  have lt_a := s_a.lt
  have l63_a := s_a.len63
  have lt_b := s_b.lt
  have l63_b := s_b.len63
  refine calls_of r_laws_qGlances ?_
  refine v_seq ?_
  refine v_ops ?_
  refine s_pure (.bool false) (fun _ q => q) ?_
  refine s_nil ?_
  refine p_seqN ?_
  refine v_seq ?_
  refine v_seq ?_
  refine v_ops ?_
  refine s_pure v_a (fun _ q => q) ?_
  refine s_pure (.int .i64 (a.length : Int)) (fun _ q => s_a.lenVC q) ?_
  refine s_pure v_b (fun _ q => q) ?_
  refine s_pure (.int .i64 (b.length : Int)) (fun _ q => s_b.lenVC q) ?_
  refine s_pure (.bool ((a.length : Int) != (b.length : Int))) (fun _ q => q) ?_
  refine s_nil ?_
  refine p_seqN ?_
  refine v_cond rfl (fun c1 => ?_) (fun c1 => ?_)
  ·
    refine v_seq ?_
    refine v_ops ?_
    refine s_pure (.bool false) (fun _ q => q) ?_
    refine s_nil ?_
    refine p_seqN ?_
    refine v_ret ?_
    refine p_seqR ?_
    refine p_ret [.bool false] (.bool false) (fun _ q => q) rfl ?_
    have ho : (decide (a = b)) = false := by first | exact decide_eq_true (q_done hab (by assumption) (by assumption)) | exact decide_eq_false (q_ne (by assumption) (by assumption) (fun e => (by assumption : ¬ (_ ∧ _)) (by rw [e]; exact ⟨rfl, rfl⟩))) | exact decide_eq_false (fun hc => by subst hc; omega)
    exact ⟨by first | (rw [ho]; done) | rfl, (Ext.refl h)⟩
  ·
    have c1 := Classical.not_not.1 c1
    refine v_skip ?_
    refine p_seqN ?_
    refine v_seq ?_
    refine v_seq ?_
    refine v_ops ?_
    refine s_pure v_a (fun _ q => q) ?_
    refine s_pure (.int .i64 (a.length : Int)) (fun _ q => s_a.lenVC q) ?_
    refine s_pure (.int .i64 0) (fun _ q => q) ?_
    refine s_nil ?_
    refine p_seqN ?_
    refine v_block ?_
    refine v_loop1 (α := Nat) (fun k => [(0, v_a), (1, v_b), (12, .int .i64 (a.length : Int)), (13, .int .i64 (k : Int))]) (fun k hh => Ext h hh ∧ k ≤ a.length ∧ a.take k = b.take k) (fun k => a.length - k) 0 ⟨rfl, rfl, rfl, rfl⟩ ⟨(Ext.refl h), (by simp)⟩ ?_
    rintro k R3 h2 ⟨Eh, ⟨hk, hab⟩⟩
    have zEh := Eh.size
    have f5 := s_a.ext Eh
    have f6 := s_b.ext Eh
    refine v_seq ?_
    refine v_ops ?_
    refine s_pure (.bool (decide ((k : Int) < (a.length : Int)))) (fun _ q => q) ?_
    refine s_nil ?_
    refine p_seqN ?_
    refine v_seq ?_
    refine v_cond rfl (fun c7 => ?_) (fun c7 => ?_)
    ·
      refine v_skip ?_
      refine p_seqN ?_
      refine v_seq ?_
      refine v_block ?_
      refine v_seq ?_
      refine v_ops ?_
      refine s_pure (.int .i64 (k : Int)) (fun _ q => q) ?_
      refine s_pure (.int .i64 (k : Int)) (fun _ q => q) ?_
      refine s_nil ?_
      refine p_seqN ?_
      refine v_seq ?_
      refine v_ops ?_
      refine s_pure v_a (fun _ q => q) ?_
      refine s_pure (.int .i64 (k : Int)) (fun _ q => q) ?_
      have hk8 : k < a.length := (by first | omega | (simp; omega))
      obtain ⟨x9, hx9⟩ : ∃ x, a[k]? = some x := ⟨_, List.getElem?_eq_getElem hk8⟩
      refine s_pure (.pointer (some ⟨sblk v_a, soff v_a + k * 2, none⟩)) (fun _ q => f5.idx (k := k) rfl hk8 q) ?_
      refine s_pure v_b (fun _ q => q) ?_
      refine s_pure (.int .i64 (k : Int)) (fun _ q => q) ?_
      have hk10 : k < b.length := (by first | omega | (simp; omega))
      obtain ⟨x11, hx11⟩ : ∃ x, b[k]? = some x := ⟨_, List.getElem?_eq_getElem hk10⟩
      refine s_pure (.pointer (some ⟨sblk v_b, soff v_b + k * 2, none⟩)) (fun _ q => f6.idx (k := k) rfl hk10 q) ?_
      refine s_load (.agg #[.bool x9.next, .int .i64 x9.signal]) (fun _ q => f5.loadN hx9 rfl q) ?_
      refine s_load (.agg #[.bool x11.next, .int .i64 x11.signal]) (fun _ q => f6.loadN hx11 rfl q) ?_
      refine s_pure (.bool (!(decide (x9.next = x11.next ∧ x9.signal = x11.signal)))) (fun _ q => ⟨_, _, _, rfl, rfl, (by simp [eqC, Bool.decide_and, beqI, beqB]), q⟩) ?_
      refine s_nil ?_
      refine p_seqN ?_
      refine v_cond rfl (fun c12 => ?_) (fun c12 => ?_)
      ·
        refine v_seq ?_
        refine v_ops ?_
        refine s_pure (.bool false) (fun _ q => q) ?_
        refine s_nil ?_
        refine p_seqN ?_
        refine v_ret ?_
        refine p_blkR ?_
        refine p_seqR ?_
        refine p_lpR ?_
        refine p_blkR ?_
        refine p_seqR ?_
        refine p_ret [.bool false] (.bool false) (fun _ q => q) rfl ?_
        have ho : (decide (a = b)) = false := by first | exact decide_eq_true (q_done hab (by assumption) (by assumption)) | exact decide_eq_false (q_ne (by assumption) (by assumption) (fun e => (by assumption : ¬ (_ ∧ _)) (by rw [e]; exact ⟨rfl, rfl⟩))) | exact decide_eq_false (fun hc => by subst hc; omega)
        exact ⟨by first | (rw [ho]; done) | rfl, Eh⟩
      ·
        have c12 := Classical.not_not.1 c12
        refine v_skip ?_
        refine p_blkN ?_
        refine p_seqN ?_
        refine v_ops ?_
        refine s_pure (.int .i64 ((k : Int) + 1)) (fun _ q => ArithVC.mk (by omega) q) ?_
        refine s_pure (.int .i64 ((k : Int) + 1)) (fun _ q => q) ?_
        refine s_nil ?_
        exact p_lpN ⟨k + 1, ⟨rfl, rfl, rfl, rfl⟩, ⟨Eh, (by exact ⟨by omega, q_step hab (by assumption) (by assumption) (g_ext (by first | assumption | (simp_all; done)))⟩)⟩, by omega⟩
    ·
      refine v_exit ?_
      refine p_seqX ?_
      refine p_lpX ?_
      refine p_blkX ?_
      refine p_seqN ?_
      refine v_seq ?_
      refine v_ops ?_
      refine s_pure (.bool true) (fun _ q => q) ?_
      refine s_nil ?_
      refine p_seqN ?_
      refine v_ret ?_
      refine p_ret [.bool true] (.bool true) (fun _ q => q) rfl ?_
      have ho : (decide (a = b)) = true := by first | exact decide_eq_true (q_done hab (by assumption) (by assumption)) | exact decide_eq_false (q_ne (by assumption) (by assumption) (fun e => (by assumption : ¬ (_ ∧ _)) (by rw [e]; exact ⟨rfl, rfl⟩))) | exact decide_eq_false (fun hc => by subst hc; omega)
      exact ⟨by first | (rw [ho]; done) | rfl, Eh⟩

set_option maxRecDepth 10000 in
set_option maxHeartbeats 4000000 in
theorem laws_qRepeater_ok (a : RepP) (v_a_passed : Value) (b : RepP) (v_b_passed : Value) (h : Heap) (s_a_passed : Sl h v_a_passed a.passed) (s_b_passed : Sl h v_b_passed b.passed) : Cn f_laws_qRepeater [.agg #[.int .i64 a.phase, .int .i64 a.holds, .int .i64 a.again, .int .i64 a.shown, v_a_passed], .agg #[.int .i64 b.phase, .int .i64 b.holds, .int .i64 b.again, .int .i64 b.shown, v_b_passed]] h fun v h' => v = .bool (decide (a.same b)) ∧ Ext h h' := by
  have lt_a_passed := s_a_passed.lt
  have l63_a_passed := s_a_passed.len63
  have lt_b_passed := s_b_passed.lt
  have l63_b_passed := s_b_passed.len63
  refine calls_of r_laws_qRepeater ?_
  refine v_seq ?_
  refine v_ops ?_
  refine s_box [.int .i64 a.phase, .int .i64 a.holds, .int .i64 a.again, .int .i64 a.shown, v_a_passed] rfl (fun h2 b1 hbb1 hzb1 eh2 bxb1 => ?_)
  have E3 := (Ext.refl h).trans eh2
  have z4 := eh2.size
  have lbb1 := bxb1.lt
  refine s_box [.int .i64 b.phase, .int .i64 b.holds, .int .i64 b.again, .int .i64 b.shown, v_b_passed] rfl (fun h6 b5 hbb5 hzb5 eh6 bxb5 => ?_)
  have E7 := E3.trans eh6
  have z8 := eh6.size
  have lbb5 := bxb5.lt
  refine s_pure (.bool false) (fun _ q => q) ?_
  refine s_nil ?_
  refine p_seqN ?_
  refine v_seq ?_
  refine v_ops ?_
  refine s_pure (.pointer (some ⟨b1, 0, none⟩)) (fun _ q => q) ?_
  have f9 := (bxb1.ext eh6)
  refine s_load (.int .i64 a.phase) (fun _ q => f9.load rfl q) ?_
  refine s_pure (.pointer (some ⟨b5, 0, none⟩)) (fun _ q => q) ?_
  refine s_load (.int .i64 b.phase) (fun _ q => bxb5.load rfl q) ?_
  refine s_pure (.bool (a.phase == b.phase)) (fun _ q => q) ?_
  refine s_pure (.bool (a.phase == b.phase)) (fun _ q => q) ?_
  refine s_splitT rfl (fun c10 => ?_) (fun c10 => ?_)
  ·
    refine s_run rfl ?_
    refine s_pure (.pointer (some ⟨b1, 1, none⟩)) (fun _ q => q) ?_
    refine s_run rfl ?_
    refine s_load (.int .i64 a.holds) (fun _ q => f9.load rfl q) ?_
    refine s_run rfl ?_
    refine s_pure (.pointer (some ⟨b5, 1, none⟩)) (fun _ q => q) ?_
    refine s_run rfl ?_
    refine s_load (.int .i64 b.holds) (fun _ q => bxb5.load rfl q) ?_
    refine s_run rfl ?_
    refine s_pure (.bool (a.holds == b.holds)) (fun _ q => q) ?_
    refine s_pure (.bool (a.holds == b.holds)) (fun _ q => q) ?_
    refine s_pure (.bool (a.holds == b.holds)) (fun _ q => q) ?_
    refine s_splitT rfl (fun c11 => ?_) (fun c11 => ?_)
    ·
      refine s_run rfl ?_
      refine s_pure (.pointer (some ⟨b1, 2, none⟩)) (fun _ q => q) ?_
      refine s_run rfl ?_
      refine s_load (.int .i64 a.again) (fun _ q => f9.load rfl q) ?_
      refine s_run rfl ?_
      refine s_pure (.pointer (some ⟨b5, 2, none⟩)) (fun _ q => q) ?_
      refine s_run rfl ?_
      refine s_load (.int .i64 b.again) (fun _ q => bxb5.load rfl q) ?_
      refine s_run rfl ?_
      refine s_pure (.bool (a.again == b.again)) (fun _ q => q) ?_
      refine s_pure (.bool (a.again == b.again)) (fun _ q => q) ?_
      refine s_pure (.bool (a.again == b.again)) (fun _ q => q) ?_
      refine s_splitT rfl (fun c12 => ?_) (fun c12 => ?_)
      ·
        refine s_run rfl ?_
        refine s_pure (.pointer (some ⟨b1, 3, none⟩)) (fun _ q => q) ?_
        refine s_run rfl ?_
        refine s_load (.int .i64 a.shown) (fun _ q => f9.load rfl q) ?_
        refine s_run rfl ?_
        refine s_pure (.pointer (some ⟨b5, 3, none⟩)) (fun _ q => q) ?_
        refine s_run rfl ?_
        refine s_load (.int .i64 b.shown) (fun _ q => bxb5.load rfl q) ?_
        refine s_run rfl ?_
        refine s_pure (.bool (a.shown == b.shown)) (fun _ q => q) ?_
        refine s_pure (.bool (a.shown == b.shown)) (fun _ q => q) ?_
        refine s_pure (.bool (a.shown == b.shown)) (fun _ q => q) ?_
        refine s_splitT rfl (fun c13 => ?_) (fun c13 => ?_)
        ·
          refine s_run rfl ?_
          refine s_pure (.pointer (some ⟨b1, 4, none⟩)) (fun _ q => q) ?_
          refine s_run rfl ?_
          refine s_load v_a_passed (fun _ q => f9.load rfl q) ?_
          refine s_run rfl ?_
          refine s_pure (.pointer (some ⟨b5, 4, none⟩)) (fun _ q => q) ?_
          refine s_run rfl ?_
          refine s_load v_b_passed (fun _ q => bxb5.load rfl q) ?_
          refine s_run rfl ?_
          have f15 := ((s_a_passed.ext eh2).ext eh6)
          have f16 := ((s_b_passed.ext eh2).ext eh6)
          refine s_call [v_a_passed, v_b_passed] rfl (laws_qInts_ok v_a_passed a.passed v_b_passed b.passed _ f15 f16) ?_
          rintro _ h14 ⟨rfl, eh14⟩
          have E17 := E7.trans eh14
          have z18 := eh14.size
          refine s_pure (.bool (decide (a.passed = b.passed))) (fun _ q => q) ?_
          refine s_pure (.bool (decide (a.passed = b.passed))) (fun _ q => q) ?_
          refine s_nil ?_
          refine p_seqN ?_
          refine v_ret ?_
          refine p_ret [.bool (decide (a.passed = b.passed))] (.bool (decide (a.passed = b.passed))) (fun _ q => q) rfl ?_
          have ho : (decide (a.same b)) = (decide (a.passed = b.passed)) := by unfold RepP.same; simp [*]
          exact ⟨by first | (rw [ho]; done) | rfl, E17⟩
        ·
          refine s_pass rfl ?_
          refine s_pass rfl ?_
          refine s_pass rfl ?_
          refine s_pass rfl ?_
          refine s_pass rfl ?_
          refine s_pure (.bool false) (fun _ q => q) ?_
          refine s_pure (.bool false) (fun _ q => q) ?_
          refine s_nil ?_
          refine p_seqN ?_
          refine v_ret ?_
          refine p_ret [.bool false] (.bool false) (fun _ q => q) rfl ?_
          have ho : (decide (a.same b)) = false := by unfold RepP.same; simp [*]
          exact ⟨by first | (rw [ho]; done) | rfl, E7⟩
      ·
        refine s_pass rfl ?_
        refine s_pass rfl ?_
        refine s_pass rfl ?_
        refine s_pass rfl ?_
        refine s_pass rfl ?_
        refine s_pure (.bool false) (fun _ q => q) ?_
        refine s_pure (.bool false) (fun _ q => q) ?_
        refine s_splitN rfl (by simp) ?_
        refine s_pass rfl ?_
        refine s_pass rfl ?_
        refine s_pass rfl ?_
        refine s_pass rfl ?_
        refine s_pass rfl ?_
        refine s_pure (.bool false) (fun _ q => q) ?_
        refine s_pure (.bool false) (fun _ q => q) ?_
        refine s_nil ?_
        refine p_seqN ?_
        refine v_ret ?_
        refine p_ret [.bool false] (.bool false) (fun _ q => q) rfl ?_
        have ho : (decide (a.same b)) = false := by unfold RepP.same; simp [*]
        exact ⟨by first | (rw [ho]; done) | rfl, E7⟩
    ·
      refine s_pass rfl ?_
      refine s_pass rfl ?_
      refine s_pass rfl ?_
      refine s_pass rfl ?_
      refine s_pass rfl ?_
      refine s_pure (.bool false) (fun _ q => q) ?_
      refine s_pure (.bool false) (fun _ q => q) ?_
      refine s_splitN rfl (by simp) ?_
      refine s_pass rfl ?_
      refine s_pass rfl ?_
      refine s_pass rfl ?_
      refine s_pass rfl ?_
      refine s_pass rfl ?_
      refine s_pure (.bool false) (fun _ q => q) ?_
      refine s_pure (.bool false) (fun _ q => q) ?_
      refine s_splitN rfl (by simp) ?_
      refine s_pass rfl ?_
      refine s_pass rfl ?_
      refine s_pass rfl ?_
      refine s_pass rfl ?_
      refine s_pass rfl ?_
      refine s_pure (.bool false) (fun _ q => q) ?_
      refine s_pure (.bool false) (fun _ q => q) ?_
      refine s_nil ?_
      refine p_seqN ?_
      refine v_ret ?_
      refine p_ret [.bool false] (.bool false) (fun _ q => q) rfl ?_
      have ho : (decide (a.same b)) = false := by unfold RepP.same; simp [*]
      exact ⟨by first | (rw [ho]; done) | rfl, E7⟩
  ·
    refine s_pass rfl ?_
    refine s_pass rfl ?_
    refine s_pass rfl ?_
    refine s_pass rfl ?_
    refine s_pass rfl ?_
    refine s_pure (.bool false) (fun _ q => q) ?_
    refine s_pure (.bool false) (fun _ q => q) ?_
    refine s_splitN rfl (by simp) ?_
    refine s_pass rfl ?_
    refine s_pass rfl ?_
    refine s_pass rfl ?_
    refine s_pass rfl ?_
    refine s_pass rfl ?_
    refine s_pure (.bool false) (fun _ q => q) ?_
    refine s_pure (.bool false) (fun _ q => q) ?_
    refine s_splitN rfl (by simp) ?_
    refine s_pass rfl ?_
    refine s_pass rfl ?_
    refine s_pass rfl ?_
    refine s_pass rfl ?_
    refine s_pass rfl ?_
    refine s_pure (.bool false) (fun _ q => q) ?_
    refine s_pure (.bool false) (fun _ q => q) ?_
    refine s_splitN rfl (by simp) ?_
    refine s_pass rfl ?_
    refine s_pass rfl ?_
    refine s_pass rfl ?_
    refine s_pass rfl ?_
    refine s_pass rfl ?_
    refine s_pure (.bool false) (fun _ q => q) ?_
    refine s_pure (.bool false) (fun _ q => q) ?_
    refine s_nil ?_
    refine p_seqN ?_
    refine v_ret ?_
    refine p_ret [.bool false] (.bool false) (fun _ q => q) rfl ?_
    have ho : (decide (a.same b)) = false := by unfold RepP.same; simp [*]
    exact ⟨by first | (rw [ho]; done) | rfl, E7⟩

end Go.Proofs.Ytpbjcaadnbeplaa

