/- Contracts wanted by the law of packets, plain parts. Condition: none. Printed in part by a program. -/
import Derived.Test.YtbikhpphdhffaaaGreatDoorPz3
import Derived.Test.YtbikhpphdhffaaaGreatDoorDt2
namespace Go.Proofs.YtbikhpphdhffaaaGreatDoor
open Go.Vc
set_option linter.all false

theorem mq_step {α β : Type} {f : α → β} {a b : List α} {k : Nat} {x y : α} (h : (a.map f).take k = (b.map f).take k) (hx : a[k]? = some x) (hy : b[k]? = some y) (e : f x = f y) : (a.map f).take (k + 1) = (b.map f).take (k + 1) := by
  rw [List.take_add_one, List.take_add_one, h, List.getElem?_map, List.getElem?_map, hx, hy]; simp [e]
theorem mq_done {α β : Type} {f : α → β} {a b : List α} {k : Nat} (h : (a.map f).take k = (b.map f).take k) (hk : ¬ (k : Int) < (a.length : Int)) (hl : (a.length : Int) = (b.length : Int)) : a.map f = b.map f := by
  rw [List.take_of_length_le (by rw [List.length_map]; omega), List.take_of_length_le (by rw [List.length_map]; omega)] at h; exact h
theorem mq_ne {α β : Type} {f : α → β} {a b : List α} {k : Nat} {x y : α} (hx : a[k]? = some x) (hy : b[k]? = some y) (h : ¬ f x = f y) : a.map f ≠ b.map f := fun e => by
  have e2 := congrArg (fun l => l[k]?) e
  simp only [List.getElem?_map, hx, hy, Option.map_some, Option.some.injEq] at e2
  exact h e2
theorem mq_len {α β : Type} {f : α → β} {a b : List α} (e : a.map f = b.map f) : (a.length : Int) = (b.length : Int) := by
  have := congrArg List.length e
  rw [List.length_map, List.length_map] at this; omega

theorem laws_big_ok (v_code : Value) (code : List By) (v_more : Value) (more : List By) (h : Heap) (s_code : Sl h v_code code) (s_more : Sl h v_more more) : Cn f_laws_big [v_code, v_more] h fun v h' => v = .bool (decide (1048576 < code.length + more.length)) ∧ Ext h h' := by
  have lt_code := s_code.lt
  have l63_code := s_code.len63
  have lt_more := s_more.lt
  have l63_more := s_more.len63
  refine calls_of r_laws_big ?_
  refine v_seq ?_
  refine v_ops ?_
  refine s_pure (.bool false) (fun _ q => q) ?_
  refine s_nil ?_
  refine p_seqN ?_
  refine v_seq ?_
  refine v_ops ?_
  refine s_pure v_code (fun _ q => q) ?_
  refine s_pure (.int .i64 (code.length : Int)) (fun _ q => s_code.lenVC q) ?_
  refine s_pure (.bool (decide ((code.length : Int) > 1048576))) (fun _ q => q) ?_
  refine s_pure (.bool (decide ((code.length : Int) > 1048576))) (fun _ q => q) ?_
  refine s_splitT rfl (fun c1 => ?_) (fun c1 => ?_)
  ·
    refine s_pass rfl ?_
    refine s_pass rfl ?_
    refine s_pass rfl ?_
    refine s_pass rfl ?_
    refine s_pass rfl ?_
    refine s_pass rfl ?_
    refine s_pure (.bool true) (fun _ q => q) ?_
    refine s_pure (.bool true) (fun _ q => q) ?_
    refine s_nil ?_
    refine p_seqN ?_
    refine v_ret ?_
    refine p_ret [.bool true] (.bool true) (fun _ q => q) rfl ?_
    have ho : (decide (1048576 < code.length + more.length)) = true := by first | exact decide_eq_true (by omega) | exact decide_eq_decide.2 (by omega)
    exact ⟨by first | (rw [ho]; done) | rfl, (Ext.refl h)⟩
  ·
    refine s_run rfl ?_
    refine s_pure v_more (fun _ q => q) ?_
    refine s_run rfl ?_
    refine s_pure (.int .i64 (more.length : Int)) (fun _ q => s_more.lenVC q) ?_
    refine s_run rfl ?_
    refine s_pure v_code (fun _ q => q) ?_
    refine s_run rfl ?_
    refine s_pure (.int .i64 (code.length : Int)) (fun _ q => s_code.lenVC q) ?_
    refine s_run rfl ?_
    refine s_pure (.int .i64 (1048576 - (code.length : Int))) (fun _ q => ArithVC.mk (by omega) q) ?_
    refine s_run rfl ?_
    refine s_pure (.bool (decide ((more.length : Int) > (1048576 - (code.length : Int))))) (fun _ q => q) ?_
    refine s_pure (.bool (decide ((more.length : Int) > (1048576 - (code.length : Int))))) (fun _ q => q) ?_
    refine s_pure (.bool (decide ((more.length : Int) > (1048576 - (code.length : Int))))) (fun _ q => q) ?_
    refine s_nil ?_
    refine p_seqN ?_
    refine v_ret ?_
    refine p_ret [.bool (decide ((more.length : Int) > (1048576 - (code.length : Int))))] (.bool (decide ((more.length : Int) > (1048576 - (code.length : Int))))) (fun _ q => q) rfl ?_
    have ho : (decide (1048576 < code.length + more.length)) = (decide ((more.length : Int) > (1048576 - (code.length : Int)))) := by first | exact decide_eq_true (by omega) | exact decide_eq_decide.2 (by omega)
    exact ⟨by first | (rw [ho]; done) | rfl, (Ext.refl h)⟩

theorem laws_sameInts_ok (v_a : Value) (a : List Int) (v_b : Value) (b : List Int) (h : Heap) (s_a : Sl h v_a a) (s_b : Sl h v_b b) : Cn f_laws_sameInts [v_a, v_b] h fun v h' => v = .bool (decide (a = b)) ∧ Ext h h' := by
  have lt_a := s_a.lt
  have l63_a := s_a.len63
  have lt_b := s_b.lt
  have l63_b := s_b.len63
  refine calls_of r_laws_sameInts ?_
  refine v_seq ?_
  refine v_ops ?_
  refine s_pure (.bool false) (fun _ q => q) ?_
  refine s_nil ?_
  refine p_seqN ?_
  refine v_seq ?_
  refine v_seq ?_
  refine v_ops ?_
  refine s_pure v_a (fun _ q => q) ?_
  refine s_pure (.int .i64 (a.length : Int)) (fun _ q => s_a.lenVC q) ?_
  refine s_pure v_b (fun _ q => q) ?_
  refine s_pure (.int .i64 (b.length : Int)) (fun _ q => s_b.lenVC q) ?_
  refine s_pure (.bool ((a.length : Int) != (b.length : Int))) (fun _ q => q) ?_
  refine s_nil ?_
  refine p_seqN ?_
  refine v_cond rfl (fun c1 => ?_) (fun c1 => ?_)
  ·
    refine v_seq ?_
    refine v_ops ?_
    refine s_pure (.bool false) (fun _ q => q) ?_
    refine s_nil ?_
    refine p_seqN ?_
    refine v_ret ?_
    refine p_seqR ?_
    refine p_ret [.bool false] (.bool false) (fun _ q => q) rfl ?_
    have ho : (decide (a = b)) = false := by simp only [decide_eq_true_eq, decide_eq_false_iff_not]; first | (intro hab; subst hab; omega) | exact get_ne (by assumption) (by assumption) (by assumption) | exact take_done hab (by assumption) (by omega)
    exact ⟨by first | (rw [ho]; done) | rfl, (Ext.refl h)⟩
  ·
    have c1 := Classical.not_not.1 c1
    refine v_skip ?_
    refine p_seqN ?_
    refine v_seq ?_
    refine v_seq ?_
    refine v_ops ?_
    refine s_pure v_a (fun _ q => q) ?_
    refine s_pure (.int .i64 (a.length : Int)) (fun _ q => s_a.lenVC q) ?_
    refine s_pure (.int .i64 0) (fun _ q => q) ?_
    refine s_nil ?_
    refine p_seqN ?_
    refine v_block ?_
    refine v_loop1 (α := Nat) (fun k => [(0, v_a), (1, v_b), (12, .int .i64 (a.length : Int)), (13, .int .i64 (k : Int))]) (fun k hh => Ext h hh ∧ k ≤ a.length ∧ a.take k = b.take k) (fun k => a.length - k) 0 ⟨rfl, rfl, rfl, rfl⟩ ⟨(Ext.refl h), (by simp)⟩ ?_
    rintro k R3 h2 ⟨Eh, ⟨hk, hab⟩⟩
    have zEh := Eh.size
    have f5 := s_a.ext Eh
    have f6 := s_b.ext Eh
    refine v_seq ?_
    refine v_ops ?_
    refine s_pure (.bool (decide ((k : Int) < (a.length : Int)))) (fun _ q => q) ?_
    refine s_nil ?_
    refine p_seqN ?_
    refine v_seq ?_
    refine v_cond rfl (fun c7 => ?_) (fun c7 => ?_)
    ·
      refine v_skip ?_
      refine p_seqN ?_
      refine v_seq ?_
      refine v_block ?_
      refine v_seq ?_
      refine v_ops ?_
      refine s_pure (.int .i64 (k : Int)) (fun _ q => q) ?_
      refine s_pure (.int .i64 (k : Int)) (fun _ q => q) ?_
      refine s_nil ?_
      refine p_seqN ?_
      refine v_seq ?_
      refine v_ops ?_
      refine s_pure v_a (fun _ q => q) ?_
      refine s_pure (.int .i64 (k : Int)) (fun _ q => q) ?_
      have hk8 : k < a.length := (by first | omega | (simp; omega))
      obtain ⟨x9, hx9⟩ : ∃ x, a[k]? = some x := ⟨_, List.getElem?_eq_getElem hk8⟩
      refine s_pure (.pointer (some ⟨sblk v_a, soff v_a + k * 1, none⟩)) (fun _ q => f5.idx (k := k) rfl hk8 q) ?_
      refine s_pure v_b (fun _ q => q) ?_
      refine s_pure (.int .i64 (k : Int)) (fun _ q => q) ?_
      have hk10 : k < b.length := (by first | omega | (simp; omega))
      obtain ⟨x11, hx11⟩ : ∃ x, b[k]? = some x := ⟨_, List.getElem?_eq_getElem hk10⟩
      refine s_pure (.pointer (some ⟨sblk v_b, soff v_b + k * 1, none⟩)) (fun _ q => f6.idx (k := k) rfl hk10 q) ?_
      refine s_load (.int .i64 x9) (fun _ q => f5.load1 hx9 rfl q) ?_
      refine s_load (.int .i64 x11) (fun _ q => f6.load1 hx11 rfl q) ?_
      refine s_pure (.bool (x9 != x11)) (fun _ q => q) ?_
      refine s_nil ?_
      refine p_seqN ?_
      refine v_cond rfl (fun c12 => ?_) (fun c12 => ?_)
      ·
        refine v_seq ?_
        refine v_ops ?_
        refine s_pure (.bool false) (fun _ q => q) ?_
        refine s_nil ?_
        refine p_seqN ?_
        refine v_ret ?_
        refine p_blkR ?_
        refine p_seqR ?_
        refine p_lpR ?_
        refine p_blkR ?_
        refine p_seqR ?_
        refine p_ret [.bool false] (.bool false) (fun _ q => q) rfl ?_
        have ho : (decide (a = b)) = false := by simp only [decide_eq_true_eq, decide_eq_false_iff_not]; first | (intro hab; subst hab; omega) | exact get_ne (by assumption) (by assumption) (by assumption) | exact take_done hab (by assumption) (by omega)
        exact ⟨by first | (rw [ho]; done) | rfl, Eh⟩
      ·
        have c12 := Classical.not_not.1 c12
        refine v_skip ?_
        refine p_blkN ?_
        refine p_seqN ?_
        refine v_ops ?_
        refine s_pure (.int .i64 ((k : Int) + 1)) (fun _ q => ArithVC.mk (by omega) q) ?_
        refine s_pure (.int .i64 ((k : Int) + 1)) (fun _ q => q) ?_
        refine s_nil ?_
        exact p_lpN ⟨k + 1, ⟨rfl, rfl, rfl, rfl⟩, ⟨Eh, (by exact ⟨by omega, take_ext hab (by assumption) (by assumption) (by assumption)⟩)⟩, by omega⟩
    ·
      refine v_exit ?_
      refine p_seqX ?_
      refine p_lpX ?_
      refine p_blkX ?_
      refine p_seqN ?_
      refine v_seq ?_
      refine v_ops ?_
      refine s_pure (.bool true) (fun _ q => q) ?_
      refine s_nil ?_
      refine p_seqN ?_
      refine v_ret ?_
      refine p_ret [.bool true] (.bool true) (fun _ q => q) rfl ?_
      have ho : (decide (a = b)) = true := by simp only [decide_eq_true_eq, decide_eq_false_iff_not]; first | (intro hab; subst hab; omega) | exact get_ne (by assumption) (by assumption) (by assumption) | exact take_done hab (by assumption) (by omega)
      exact ⟨by first | (rw [ho]; done) | rfl, Eh⟩

theorem laws_pSamePacket_ok (a : PkP) (v_a_signals : Value) (b : PkP) (v_b_signals : Value) (h : Heap) (s_a_signals : Sl h v_a_signals a.signals) (s_b_signals : Sl h v_b_signals b.signals) : Cn f_laws_pSamePacket [.agg #[.int .i64 a.message, .int .i64 a.part, .int .i64 a.parts, v_a_signals], .agg #[.int .i64 b.message, .int .i64 b.part, .int .i64 b.parts, v_b_signals]] h fun v h' => v = .bool (decide (a = b)) ∧ Ext h h' := by
  have lt_a_signals := s_a_signals.lt
  have l63_a_signals := s_a_signals.len63
  have lt_b_signals := s_b_signals.lt
  have l63_b_signals := s_b_signals.len63
  refine calls_of r_laws_pSamePacket ?_
  refine v_seq ?_
  refine v_ops ?_
  refine s_box [.int .i64 a.message, .int .i64 a.part, .int .i64 a.parts, v_a_signals] rfl (fun h2 b1 hbb1 hzb1 eh2 bxb1 => ?_)
  have E3 := (Ext.refl h).trans eh2
  have z4 := eh2.size
  have lbb1 := bxb1.lt
  refine s_box [.int .i64 b.message, .int .i64 b.part, .int .i64 b.parts, v_b_signals] rfl (fun h6 b5 hbb5 hzb5 eh6 bxb5 => ?_)
  have E7 := E3.trans eh6
  have z8 := eh6.size
  have lbb5 := bxb5.lt
  refine s_pure (.bool false) (fun _ q => q) ?_
  refine s_nil ?_
  refine p_seqN ?_
  refine v_seq ?_
  refine v_ops ?_
  refine s_pure (.pointer (some ⟨b1, 0, none⟩)) (fun _ q => q) ?_
  have f9 := (bxb1.ext eh6)
  refine s_load (.int .i64 a.message) (fun _ q => f9.load rfl q) ?_
  refine s_pure (.pointer (some ⟨b5, 0, none⟩)) (fun _ q => q) ?_
  refine s_load (.int .i64 b.message) (fun _ q => bxb5.load rfl q) ?_
  refine s_pure (.bool (a.message == b.message)) (fun _ q => q) ?_
  refine s_pure (.bool (a.message == b.message)) (fun _ q => q) ?_
  refine s_splitT rfl (fun c10 => ?_) (fun c10 => ?_)
  ·
    refine s_run rfl ?_
    refine s_pure (.pointer (some ⟨b1, 1, none⟩)) (fun _ q => q) ?_
    refine s_run rfl ?_
    refine s_load (.int .i64 a.part) (fun _ q => f9.load rfl q) ?_
    refine s_run rfl ?_
    refine s_pure (.pointer (some ⟨b5, 1, none⟩)) (fun _ q => q) ?_
    refine s_run rfl ?_
    refine s_load (.int .i64 b.part) (fun _ q => bxb5.load rfl q) ?_
    refine s_run rfl ?_
    refine s_pure (.bool (a.part == b.part)) (fun _ q => q) ?_
    refine s_pure (.bool (a.part == b.part)) (fun _ q => q) ?_
    refine s_pure (.bool (a.part == b.part)) (fun _ q => q) ?_
    refine s_splitT rfl (fun c11 => ?_) (fun c11 => ?_)
    ·
      refine s_run rfl ?_
      refine s_pure (.pointer (some ⟨b1, 2, none⟩)) (fun _ q => q) ?_
      refine s_run rfl ?_
      refine s_load (.int .i64 a.parts) (fun _ q => f9.load rfl q) ?_
      refine s_run rfl ?_
      refine s_pure (.pointer (some ⟨b5, 2, none⟩)) (fun _ q => q) ?_
      refine s_run rfl ?_
      refine s_load (.int .i64 b.parts) (fun _ q => bxb5.load rfl q) ?_
      refine s_run rfl ?_
      refine s_pure (.bool (a.parts == b.parts)) (fun _ q => q) ?_
      refine s_pure (.bool (a.parts == b.parts)) (fun _ q => q) ?_
      refine s_pure (.bool (a.parts == b.parts)) (fun _ q => q) ?_
      refine s_splitT rfl (fun c12 => ?_) (fun c12 => ?_)
      ·
        refine s_run rfl ?_
        refine s_pure (.pointer (some ⟨b1, 3, none⟩)) (fun _ q => q) ?_
        refine s_run rfl ?_
        refine s_load v_a_signals (fun _ q => f9.load rfl q) ?_
        refine s_run rfl ?_
        refine s_pure (.pointer (some ⟨b5, 3, none⟩)) (fun _ q => q) ?_
        refine s_run rfl ?_
        refine s_load v_b_signals (fun _ q => bxb5.load rfl q) ?_
        refine s_run rfl ?_
        have f14 := ((s_a_signals.ext eh2).ext eh6)
        have f15 := ((s_b_signals.ext eh2).ext eh6)
        refine s_call [v_a_signals, v_b_signals] rfl (laws_sameInts_ok v_a_signals a.signals v_b_signals b.signals _ f14 f15) ?_
        rintro _ h13 ⟨rfl, eh13⟩
        have E16 := E7.trans eh13
        have z17 := eh13.size
        refine s_pure (.bool (decide (a.signals = b.signals))) (fun _ q => q) ?_
        refine s_pure (.bool (decide (a.signals = b.signals))) (fun _ q => q) ?_
        refine s_nil ?_
        refine p_seqN ?_
        refine v_ret ?_
        refine p_ret [.bool (decide (a.signals = b.signals))] (.bool (decide (a.signals = b.signals))) (fun _ q => q) rfl ?_
        have ho : (decide (a = b)) = (decide (a.signals = b.signals)) := by simp only [pkp_ext]; simp [*]
        exact ⟨by first | (rw [ho]; done) | rfl, E16⟩
      ·
        refine s_pass rfl ?_
        refine s_pass rfl ?_
        refine s_pass rfl ?_
        refine s_pass rfl ?_
        refine s_pass rfl ?_
        refine s_pure (.bool false) (fun _ q => q) ?_
        refine s_pure (.bool false) (fun _ q => q) ?_
        refine s_nil ?_
        refine p_seqN ?_
        refine v_ret ?_
        refine p_ret [.bool false] (.bool false) (fun _ q => q) rfl ?_
        have ho : (decide (a = b)) = false := by simp only [pkp_ext]; simp [*]
        exact ⟨by first | (rw [ho]; done) | rfl, E7⟩
    ·
      refine s_pass rfl ?_
      refine s_pass rfl ?_
      refine s_pass rfl ?_
      refine s_pass rfl ?_
      refine s_pass rfl ?_
      refine s_pure (.bool false) (fun _ q => q) ?_
      refine s_pure (.bool false) (fun _ q => q) ?_
      refine s_splitN rfl (by simp) ?_
      refine s_pass rfl ?_
      refine s_pass rfl ?_
      refine s_pass rfl ?_
      refine s_pass rfl ?_
      refine s_pass rfl ?_
      refine s_pure (.bool false) (fun _ q => q) ?_
      refine s_pure (.bool false) (fun _ q => q) ?_
      refine s_nil ?_
      refine p_seqN ?_
      refine v_ret ?_
      refine p_ret [.bool false] (.bool false) (fun _ q => q) rfl ?_
      have ho : (decide (a = b)) = false := by simp only [pkp_ext]; simp [*]
      exact ⟨by first | (rw [ho]; done) | rfl, E7⟩
  ·
    refine s_pass rfl ?_
    refine s_pass rfl ?_
    refine s_pass rfl ?_
    refine s_pass rfl ?_
    refine s_pass rfl ?_
    refine s_pure (.bool false) (fun _ q => q) ?_
    refine s_pure (.bool false) (fun _ q => q) ?_
    refine s_splitN rfl (by simp) ?_
    refine s_pass rfl ?_
    refine s_pass rfl ?_
    refine s_pass rfl ?_
    refine s_pass rfl ?_
    refine s_pass rfl ?_
    refine s_pure (.bool false) (fun _ q => q) ?_
    refine s_pure (.bool false) (fun _ q => q) ?_
    refine s_splitN rfl (by simp) ?_
    refine s_pass rfl ?_
    refine s_pass rfl ?_
    refine s_pass rfl ?_
    refine s_pass rfl ?_
    refine s_pass rfl ?_
    refine s_pure (.bool false) (fun _ q => q) ?_
    refine s_pure (.bool false) (fun _ q => q) ?_
    refine s_nil ?_
    refine p_seqN ?_
    refine v_ret ?_
    refine p_ret [.bool false] (.bool false) (fun _ q => q) rfl ?_
    have ho : (decide (a = b)) = false := by simp only [pkp_ext]; simp [*]
    exact ⟨by first | (rw [ho]; done) | rfl, E7⟩

theorem laws_pSamePackets_ok (v_a : Value) (a : List Pk) (d_a : List (PkP)) (v_b : Value) (b : List Pk) (d_b : List (PkP)) (h : Heap) (s_a : Sl h v_a a) (in_a : ∀ p ∈ a, Sl h p.sv.v p.sig) (hd_a : a.map Pk.p = d_a) (s_b : Sl h v_b b) (in_b : ∀ p ∈ b, Sl h p.sv.v p.sig) (hd_b : b.map Pk.p = d_b) : Cn f_laws_pSamePackets [v_a, v_b] h fun v h' => v = .bool (decide (d_a = d_b)) ∧ Ext h h' := by
  subst hd_a
  have lt_a := s_a.lt
  have l63_a := s_a.len63
  have inlt_a := fun p hp => (in_a p hp).lt
  subst hd_b
  have lt_b := s_b.lt
  have l63_b := s_b.len63
  have inlt_b := fun p hp => (in_b p hp).lt
  refine calls_of r_laws_pSamePackets ?_
  refine v_seq ?_
  refine v_ops ?_
  refine s_pure (.bool false) (fun _ q => q) ?_
  refine s_nil ?_
  refine p_seqN ?_
  refine v_seq ?_
  refine v_seq ?_
  refine v_ops ?_
  refine s_pure v_a (fun _ q => q) ?_
  refine s_pure (.int .i64 (a.length : Int)) (fun _ q => s_a.lenVC q) ?_
  refine s_pure v_b (fun _ q => q) ?_
  refine s_pure (.int .i64 (b.length : Int)) (fun _ q => s_b.lenVC q) ?_
  refine s_pure (.bool ((a.length : Int) != (b.length : Int))) (fun _ q => q) ?_
  refine s_nil ?_
  refine p_seqN ?_
  refine v_cond rfl (fun c1 => ?_) (fun c1 => ?_)
  ·
    refine v_seq ?_
    refine v_ops ?_
    refine s_pure (.bool false) (fun _ q => q) ?_
    refine s_nil ?_
    refine p_seqN ?_
    refine v_ret ?_
    refine p_seqR ?_
    refine p_ret [.bool false] (.bool false) (fun _ q => q) rfl ?_
    have ho : (decide ((a.map Pk.p) = (b.map Pk.p))) = false := by first | exact decide_eq_true (mq_done hab (by assumption) (by assumption)) | exact decide_eq_false (mq_ne (by assumption) (by assumption) (by first | assumption | (simp_all; done))) | exact decide_eq_false (fun hc => absurd (mq_len hc) (by assumption))
    exact ⟨by first | (rw [ho]; done) | rfl, (Ext.refl h)⟩
  ·
    have c1 := Classical.not_not.1 c1
    refine v_skip ?_
    refine p_seqN ?_
    refine v_seq ?_
    refine v_seq ?_
    refine v_ops ?_
    refine s_pure v_a (fun _ q => q) ?_
    refine s_pure (.int .i64 (a.length : Int)) (fun _ q => s_a.lenVC q) ?_
    refine s_pure (.int .i64 0) (fun _ q => q) ?_
    refine s_nil ?_
    refine p_seqN ?_
    refine v_block ?_
    refine v_loop1 (α := Nat) (fun k => [(0, v_a), (1, v_b), (12, .int .i64 (a.length : Int)), (13, .int .i64 (k : Int))]) (fun k hh => Ext h hh ∧ k ≤ a.length ∧ (a.map Pk.p).take k = (b.map Pk.p).take k) (fun k => a.length - k) 0 ⟨rfl, rfl, rfl, rfl⟩ ⟨(Ext.refl h), (by simp)⟩ ?_
    rintro k R3 h2 ⟨Eh, ⟨hk, hab⟩⟩
    have zEh := Eh.size
    have f5 := s_a.ext Eh
    have in6 := fun p hp => (in_a p hp).ext Eh
    have f7 := s_b.ext Eh
    have in8 := fun p hp => (in_b p hp).ext Eh
    refine v_seq ?_
    refine v_ops ?_
    refine s_pure (.bool (decide ((k : Int) < (a.length : Int)))) (fun _ q => q) ?_
    refine s_nil ?_
    refine p_seqN ?_
    refine v_seq ?_
    refine v_cond rfl (fun c9 => ?_) (fun c9 => ?_)
    ·
      refine v_skip ?_
      refine p_seqN ?_
      refine v_seq ?_
      refine v_block ?_
      refine v_seq ?_
      refine v_ops ?_
      refine s_pure (.int .i64 (k : Int)) (fun _ q => q) ?_
      refine s_pure (.int .i64 (k : Int)) (fun _ q => q) ?_
      refine s_nil ?_
      refine p_seqN ?_
      refine v_seq ?_
      refine v_drawF ?_
      refine d_pureT v_a (fun _ q => q) ?_
      refine d_pureT (.int .i64 (k : Int)) (fun _ q => q) ?_
      have hk10 : k < a.length := (by first | omega | (simp; omega))
      obtain ⟨x11, hx11⟩ : ∃ x, a[k]? = some x := ⟨_, List.getElem?_eq_getElem hk10⟩
      refine d_pureT (.pointer (some ⟨sblk v_a, soff v_a + k * 4, none⟩)) (fun _ q => f5.idx (k := k) rfl hk10 q) ?_
      refine d_pureT v_b (fun _ q => q) ?_
      refine d_pureT (.int .i64 (k : Int)) (fun _ q => q) ?_
      have hk12 : k < b.length := (by first | omega | (simp; omega))
      obtain ⟨x13, hx13⟩ : ∃ x, b[k]? = some x := ⟨_, List.getElem?_eq_getElem hk12⟩
      refine d_pureT (.pointer (some ⟨sblk v_b, soff v_b + k * 4, none⟩)) (fun _ q => f7.idx (k := k) rfl hk12 q) ?_
      have s14 := in6 x11 (List.mem_of_getElem? hx11)
      refine d_loadO (.agg #[.int .i64 x11.message, .int .i64 x11.part, .int .i64 x11.parts, x11.sv.v]) (fun _ q => f5.loadN hx11 rfl q) ?_
      have s15 := in8 x13 (List.mem_of_getElem? hx13)
      refine d_loadO (.agg #[.int .i64 x13.message, .int .i64 x13.part, .int .i64 x13.parts, x13.sv.v]) (fun _ q => f7.loadN hx13 rfl q) ?_
      refine d_eff ?_
      refine s_call [.agg #[.int .i64 x11.message, .int .i64 x11.part, .int .i64 x11.parts, x11.sv.v], .agg #[.int .i64 x13.message, .int .i64 x13.part, .int .i64 x13.parts, x13.sv.v]] rfl (laws_pSamePacket_ok (Pk.p x11) x11.sv.v (Pk.p x13) x13.sv.v _ s14 s15) ?_
      rintro _ h16 ⟨rfl, eh16⟩
      have E17 := Eh.trans eh16
      have z18 := eh16.size
      have G19 := eh16
      refine s_nil ⟨fun hl => (by cases hl), ?_⟩
      refine d_pureT (.bool (!(decide ((Pk.p x11) = (Pk.p x13))))) (fun _ q => q) ?_
      refine d_done ?_
      refine p_seqN ?_
      refine v_cond rfl (fun c20 => ?_) (fun c20 => ?_)
      ·
        refine v_seq ?_
        refine v_ops ?_
        refine s_pure (.bool false) (fun _ q => q) ?_
        refine s_nil ?_
        refine p_seqN ?_
        refine v_ret ?_
        refine p_blkR ?_
        refine p_seqR ?_
        refine p_lpR ?_
        refine p_blkR ?_
        refine p_seqR ?_
        refine p_ret [.bool false] (.bool false) (fun _ q => q) rfl ?_
        have ho : (decide ((a.map Pk.p) = (b.map Pk.p))) = false := by first | exact decide_eq_true (mq_done hab (by assumption) (by assumption)) | exact decide_eq_false (mq_ne (by assumption) (by assumption) (by first | assumption | (simp_all; done))) | exact decide_eq_false (fun hc => absurd (mq_len hc) (by assumption))
        exact ⟨by first | (rw [ho]; done) | rfl, E17⟩
      ·
        have c20 := Classical.not_not.1 c20
        refine v_skip ?_
        refine p_blkN ?_
        refine p_seqN ?_
        refine v_ops ?_
        refine s_pure (.int .i64 ((k : Int) + 1)) (fun _ q => ArithVC.mk (by omega) q) ?_
        refine s_pure (.int .i64 ((k : Int) + 1)) (fun _ q => q) ?_
        refine s_nil ?_
        exact p_lpN ⟨k + 1, ⟨rfl, rfl, rfl, rfl⟩, ⟨E17, (by exact ⟨by omega, mq_step hab (by assumption) (by assumption) (by first | assumption | (simp_all; done))⟩)⟩, by omega⟩
    ·
      refine v_exit ?_
      refine p_seqX ?_
      refine p_lpX ?_
      refine p_blkX ?_
      refine p_seqN ?_
      refine v_seq ?_
      refine v_ops ?_
      refine s_pure (.bool true) (fun _ q => q) ?_
      refine s_nil ?_
      refine p_seqN ?_
      refine v_ret ?_
      refine p_ret [.bool true] (.bool true) (fun _ q => q) rfl ?_
      have ho : (decide ((a.map Pk.p) = (b.map Pk.p))) = true := by first | exact decide_eq_true (mq_done hab (by assumption) (by assumption)) | exact decide_eq_false (mq_ne (by assumption) (by assumption) (by first | assumption | (simp_all; done))) | exact decide_eq_false (fun hc => absurd (mq_len hc) (by assumption))
      exact ⟨by first | (rw [ho]; done) | rfl, Eh⟩


theorem tn_step {R ts : List Pk} {k : Nat} {a b : Pk} (hsub : ∀ p ∈ ts, p ∈ R) (hln : ts.length = 2 * k) (hcov : ∀ p ∈ R.take k, p ∈ ts) (ha : a ∈ R) (hb : R[k]? = some b) :
    (∀ p ∈ ts ++ [a, b], p ∈ R) ∧ (ts ++ [a, b]).length = 2 * (k + 1) ∧ ∀ p ∈ R.take (k + 1), p ∈ ts ++ [a, b] := by
  refine ⟨fun p hp => ?_, by simp [hln]; omega, fun p hp => ?_⟩
  · rcases List.mem_append.1 hp with hp | hp
    · exact hsub p hp
    · simp only [List.mem_cons, List.not_mem_nil, or_false] at hp
      rcases hp with rfl | rfl
      · exact ha
      · exact List.mem_of_getElem? hb
  · rw [snoc_get hb] at hp
    rcases List.mem_append.1 hp with hp | hp
    · exact List.mem_append.2 (.inl (hcov p hp))
    · rw [List.mem_singleton.1 hp]; simp
theorem tn_end {R ts : List Pk} {k : Nat} {m : Int} {sig : List Int} {sz : Int} (hq : R.map Pk.p = (smOut m sig sz).1) (hS : (smOut m sig sz).2 = true) (hsub : ∀ p ∈ ts, p ∈ R) (hln : ts.length = 2 * k) (hk : k ≤ R.length) (hcov : ∀ p ∈ R.take k, p ∈ ts) (hk2 : ¬ (k : Int) < (R.length : Int)) :
    jnOut (ts.map Pk.p) m = (sig, true) ∧ msOut (ts.map Pk.p) m = ([], true) := by
  have h9 := sm_nine (m := m) (sig := sig) (sz := sz)
  rw [← hq, List.length_map] at h9
  refine turned_all hS (by rw [List.length_map]; omega) (fun p hp => ?_) (fun p hp => ?_)
  · obtain ⟨x, hx, rfl⟩ := List.mem_map.1 hp
    rw [← hq]; exact List.mem_map_of_mem (hsub x hx)
  · rw [← hq] at hp
    obtain ⟨x, hx, rfl⟩ := List.mem_map.1 hp
    exact List.mem_map_of_mem (hcov x (by rw [List.take_of_length_le (by omega)]; exact hx))
theorem pt_ok {p : PkP} (h : PkOk p) : ptOut p = (tx (pkTx p), true) := by rw [ptOut, if_pos h]
theorem pt_size (p : PkP) : (ptOut p).1.size ≤ 250 := by
  by_cases h : PkOk p
  · rw [pt_ok h]; exact pk_size h
  · rw [ptOut, if_neg h]; decide
theorem pt_flag (p : PkP) : (ptOut p).2 = decide (PkOk p) := by
  by_cases h : PkOk p
  · rw [pt_ok h, decide_eq_true h]
  · rw [ptOut, if_neg h, decide_eq_false h]
theorem pt_back {p : PkP} (h : PkOk p) : ppOut (ptOut p).1.data.toList = (p, true) := by
  rw [pt_ok h]
  show ppOut (tx (pkTx p)).data.toList = (p, true)
  rw [tx_list]; exact pp_yes ⟨h, rfl⟩
theorem jn_eqT {l : List PkP} {m : Int} (h : (msOut l m).2 = true) : (jnOut l m).2 = (((msOut l m).1.length : Int) == 0) := by
  rw [jn_iff, h, Bool.true_and, Bool.eq_iff_iff]
  simp
theorem sm_oks {R : List Pk} {m : Int} {sig : List Int} {sz : Int} (hq : R.map Pk.p = (smOut m sig sz).1) (hS : (smOut m sig sz).2 = true) : ∀ p ∈ R, PkOk p.p := fun p hp => sm_good (sm_yes hS) _ (by rw [← hq]; exact List.mem_map_of_mem hp)
theorem sm_both {R Q : List Pk} {D : List PkP} (h1 : R.map Pk.p = D) (h2 : Q.map Pk.p = D) {k : Nat} {x y : Pk} (hx : R[k]? = some x) (hy : Q[k]? = some y) : x.p = y.p := by
  have e := congrArg (fun l => l[k]?) (h1.trans h2.symm)
  simp only [List.getElem?_map, hx, hy, Option.map_some, Option.some.injEq] at e
  exact e
theorem sm_len2 {R Q : List Pk} {D : List PkP} (h1 : R.map Pk.p = D) (h2 : Q.map Pk.p = D) : R.length = Q.length := by
  have := congrArg List.length (h1.trans h2.symm)
  simpa using this

end Go.Proofs.YtbikhpphdhffaaaGreatDoor
