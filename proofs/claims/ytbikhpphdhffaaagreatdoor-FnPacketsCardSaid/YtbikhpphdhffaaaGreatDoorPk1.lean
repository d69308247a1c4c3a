/- Tests of packets. Condition: none. Printed in part by a program. -/
import Derived.Test.YtbikhpphdhffaaaGreatDoorComA
namespace Go.Proofs.YtbikhpphdhffaaaGreatDoor
open Go.Vc
set_option linter.all false

structure PkP where
  message : Int
  part : Int
  parts : Int
  signals : List Int
instance : DecidableEq PkP := fun a b => decidable_of_iff (a.message = b.message ∧ a.part = b.part ∧ a.parts = b.parts ∧ a.signals = b.signals) (by cases a; cases b; simp)
def PkOk (p : PkP) : Prop := (1 ≤ p.message ∧ p.message ≤ 999) ∧ (1 ≤ p.parts ∧ p.parts ≤ 9) ∧ (0 ≤ p.part ∧ p.part ≤ p.parts - 1) ∧ (1 ≤ (p.signals.length : Int) ∧ (p.signals.length : Int) ≤ 8) ∧ AllIn 1 60 p.signals
noncomputable instance (p : PkP) : Decidable (PkOk p) := Classical.propDecidable _

set_option maxRecDepth 10000 in
set_option maxHeartbeats 4000000 in
theorem impl_IsPacket_ok (p : PkP) (v_p_signals : Value) (h : Heap) (s_p_signals : Sl h v_p_signals p.signals) : Cn f_impl_IsPacket [.agg #[.int .i64 p.message, .int .i64 p.part, .int .i64 p.parts, v_p_signals]] h fun v h' => v = .bool (decide (PkOk p)) ∧ Ext h h' := by
  have lt_p_signals := s_p_signals.lt
  have l63_p_signals := s_p_signals.len63
  refine calls_of r_impl_IsPacket ?_
  refine v_seq ?_
  refine v_ops ?_
  refine s_box [.int .i64 p.message, .int .i64 p.part, .int .i64 p.parts, v_p_signals] rfl (fun h2 b1 hbb1 hzb1 eh2 bxb1 => ?_)
  have E3 := (Ext.refl h).trans eh2
  have z4 := eh2.size
  have lbb1 := bxb1.lt
  refine s_pure (.bool false) (fun _ q => q) ?_
  refine s_nil ?_
  refine p_seqN ?_
  refine v_seq ?_
  refine v_ops ?_
  refine s_pure (.pointer (some ⟨b1, 0, none⟩)) (fun _ q => q) ?_
  refine s_load (.int .i64 p.message) (fun _ q => bxb1.load rfl q) ?_
  refine s_callS [.int .i64 p.message, .int .i64 1, .int .i64 999] (.bool (decide (1 ≤ p.message ∧ p.message ≤ 999))) rfl (within_ok p.message 1 999 _ ) ?_
  refine s_pure (.bool (decide (1 ≤ p.message ∧ p.message ≤ 999))) (fun _ q => q) ?_
  refine s_splitT rfl (fun c5 => ?_) (fun c5 => ?_)
  ·
    refine s_run rfl ?_
    refine s_pure (.pointer (some ⟨b1, 2, none⟩)) (fun _ q => q) ?_
    refine s_run rfl ?_
    refine s_load (.int .i64 p.parts) (fun _ q => bxb1.load rfl q) ?_
    refine s_run rfl ?_
    refine s_callS [.int .i64 p.parts, .int .i64 1, .int .i64 9] (.bool (decide (1 ≤ p.parts ∧ p.parts ≤ 9))) rfl (within_ok p.parts 1 9 _ ) ?_
    refine s_pure (.bool (decide (1 ≤ p.parts ∧ p.parts ≤ 9))) (fun _ q => q) ?_
    refine s_pure (.bool (decide (1 ≤ p.parts ∧ p.parts ≤ 9))) (fun _ q => q) ?_
    refine s_splitT rfl (fun c6 => ?_) (fun c6 => ?_)
    ·
      refine s_run rfl ?_
      refine s_pure (.pointer (some ⟨b1, 1, none⟩)) (fun _ q => q) ?_
      refine s_run rfl ?_
      refine s_load (.int .i64 p.part) (fun _ q => bxb1.load rfl q) ?_
      refine s_run rfl ?_
      refine s_pure (.pointer (some ⟨b1, 2, none⟩)) (fun _ q => q) ?_
      refine s_run rfl ?_
      refine s_load (.int .i64 p.parts) (fun _ q => bxb1.load rfl q) ?_
      refine s_run rfl ?_
      refine s_pure (.int .i64 (p.parts - 1)) (fun _ q => ArithVC.mk (by omega) q) ?_
      refine s_run rfl ?_
      refine s_callS [.int .i64 p.part, .int .i64 0, .int .i64 (p.parts - 1)] (.bool (decide (0 ≤ p.part ∧ p.part ≤ (p.parts - 1)))) rfl (within_ok p.part 0 (p.parts - 1) _ ) ?_
      refine s_pure (.bool (decide (0 ≤ p.part ∧ p.part ≤ (p.parts - 1)))) (fun _ q => q) ?_
      refine s_pure (.bool (decide (0 ≤ p.part ∧ p.part ≤ (p.parts - 1)))) (fun _ q => q) ?_
      refine s_splitT rfl (fun c7 => ?_) (fun c7 => ?_)
      ·
        refine s_run rfl ?_
        refine s_pure (.pointer (some ⟨b1, 3, none⟩)) (fun _ q => q) ?_
        refine s_run rfl ?_
        refine s_load v_p_signals (fun _ q => bxb1.load rfl q) ?_
        refine s_run rfl ?_
        refine s_pure (.int .i64 (p.signals.length : Int)) (fun _ q => s_p_signals.lenVC q) ?_
        refine s_run rfl ?_
        refine s_callS [.int .i64 (p.signals.length : Int), .int .i64 1, .int .i64 8] (.bool (decide (1 ≤ (p.signals.length : Int) ∧ (p.signals.length : Int) ≤ 8))) rfl (within_ok (p.signals.length : Int) 1 8 _ ) ?_
        refine s_pure (.bool (decide (1 ≤ (p.signals.length : Int) ∧ (p.signals.length : Int) ≤ 8))) (fun _ q => q) ?_
        refine s_pure (.bool (decide (1 ≤ (p.signals.length : Int) ∧ (p.signals.length : Int) ≤ 8))) (fun _ q => q) ?_
        refine s_splitT rfl (fun c8 => ?_) (fun c8 => ?_)
        ·
          refine s_run rfl ?_
          refine s_pure (.pointer (some ⟨b1, 3, none⟩)) (fun _ q => q) ?_
          refine s_run rfl ?_
          refine s_load v_p_signals (fun _ q => bxb1.load rfl q) ?_
          refine s_run rfl ?_
          have f9 := (s_p_signals.ext eh2)
          refine s_callS [v_p_signals, .int .i64 1, .int .i64 60] (.bool (decide (AllIn 1 60 p.signals))) rfl (allWithin_ok v_p_signals p.signals 1 60 _ f9) ?_
          refine s_pure (.bool (decide (AllIn 1 60 p.signals))) (fun _ q => q) ?_
          refine s_pure (.bool (decide (AllIn 1 60 p.signals))) (fun _ q => q) ?_
          refine s_nil ?_
          refine p_seqN ?_
          refine v_ret ?_
          refine p_ret [.bool (decide (AllIn 1 60 p.signals))] (.bool (decide (AllIn 1 60 p.signals))) (fun _ q => q) rfl ?_
          have ho : decide (PkOk p) = (decide (AllIn 1 60 p.signals)) := by unfold PkOk; simp [*]; try omega
          exact ⟨by first | (rw [ho]; done) | rfl, E3⟩
        ·
          refine s_pass rfl ?_
          refine s_pass rfl ?_
          refine s_pass rfl ?_
          refine s_pure (.bool false) (fun _ q => q) ?_
          refine s_pure (.bool false) (fun _ q => q) ?_
          refine s_nil ?_
          refine p_seqN ?_
          refine v_ret ?_
          refine p_ret [.bool false] (.bool false) (fun _ q => q) rfl ?_
          have ho : decide (PkOk p) = false := by unfold PkOk; simp [*]; try omega
          exact ⟨by first | (rw [ho]; done) | rfl, E3⟩
      ·
        refine s_pass rfl ?_
        refine s_pass rfl ?_
        refine s_pass rfl ?_
        refine s_pass rfl ?_
        refine s_pure (.bool false) (fun _ q => q) ?_
        refine s_pure (.bool false) (fun _ q => q) ?_
        refine s_splitN rfl (by simp) ?_
        refine s_pass rfl ?_
        refine s_pass rfl ?_
        refine s_pass rfl ?_
        refine s_pure (.bool false) (fun _ q => q) ?_
        refine s_pure (.bool false) (fun _ q => q) ?_
        refine s_nil ?_
        refine p_seqN ?_
        refine v_ret ?_
        refine p_ret [.bool false] (.bool false) (fun _ q => q) rfl ?_
        have ho : decide (PkOk p) = false := by unfold PkOk; simp [*]; try omega
        exact ⟨by first | (rw [ho]; done) | rfl, E3⟩
    ·
      refine s_pass rfl ?_
      refine s_pass rfl ?_
      refine s_pass rfl ?_
      refine s_pass rfl ?_
      refine s_pass rfl ?_
      refine s_pass rfl ?_
      refine s_pure (.bool false) (fun _ q => q) ?_
      refine s_pure (.bool false) (fun _ q => q) ?_
      refine s_splitN rfl (by simp) ?_
      refine s_pass rfl ?_
      refine s_pass rfl ?_
      refine s_pass rfl ?_
      refine s_pass rfl ?_
      refine s_pure (.bool false) (fun _ q => q) ?_
      refine s_pure (.bool false) (fun _ q => q) ?_
      refine s_splitN rfl (by simp) ?_
      refine s_pass rfl ?_
      refine s_pass rfl ?_
      refine s_pass rfl ?_
      refine s_pure (.bool false) (fun _ q => q) ?_
      refine s_pure (.bool false) (fun _ q => q) ?_
      refine s_nil ?_
      refine p_seqN ?_
      refine v_ret ?_
      refine p_ret [.bool false] (.bool false) (fun _ q => q) rfl ?_
      have ho : decide (PkOk p) = false := by unfold PkOk; simp [*]; try omega
      exact ⟨by first | (rw [ho]; done) | rfl, E3⟩
  ·
    refine s_pass rfl ?_
    refine s_pass rfl ?_
    refine s_pass rfl ?_
    refine s_pure (.bool false) (fun _ q => q) ?_
    refine s_pure (.bool false) (fun _ q => q) ?_
    refine s_splitN rfl (by simp) ?_
    refine s_pass rfl ?_
    refine s_pass rfl ?_
    refine s_pass rfl ?_
    refine s_pass rfl ?_
    refine s_pass rfl ?_
    refine s_pass rfl ?_
    refine s_pure (.bool false) (fun _ q => q) ?_
    refine s_pure (.bool false) (fun _ q => q) ?_
    refine s_splitN rfl (by simp) ?_
    refine s_pass rfl ?_
    refine s_pass rfl ?_
    refine s_pass rfl ?_
    refine s_pass rfl ?_
    refine s_pure (.bool false) (fun _ q => q) ?_
    refine s_pure (.bool false) (fun _ q => q) ?_
    refine s_splitN rfl (by simp) ?_
    refine s_pass rfl ?_
    refine s_pass rfl ?_
    refine s_pass rfl ?_
    refine s_pure (.bool false) (fun _ q => q) ?_
    refine s_pure (.bool false) (fun _ q => q) ?_
    refine s_nil ?_
    refine p_seqN ?_
    refine v_ret ?_
    refine p_ret [.bool false] (.bool false) (fun _ q => q) rfl ?_
    have ho : decide (PkOk p) = false := by unfold PkOk; simp [*]; try omega
    exact ⟨by first | (rw [ho]; done) | rfl, E3⟩

set_option maxRecDepth 10000 in
set_option maxHeartbeats 4000000 in
theorem spec_pkGood_ok (p : PkP) (v_p_signals : Value) (h : Heap) (s_p_signals : Sl h v_p_signals p.signals) : Cn f_spec_pkGood [.agg #[.int .i64 p.message, .int .i64 p.part, .int .i64 p.parts, v_p_signals]] h fun v h' => v = .bool (decide (PkOk p)) ∧ Ext h h' := by
  have lt_p_signals := s_p_signals.lt
  have l63_p_signals := s_p_signals.len63
  refine calls_of r_spec_pkGood ?_
  refine v_seq ?_
  refine v_ops ?_
  refine s_box [.int .i64 p.message, .int .i64 p.part, .int .i64 p.parts, v_p_signals] rfl (fun h2 b1 hbb1 hzb1 eh2 bxb1 => ?_)
  have E3 := (Ext.refl h).trans eh2
  have z4 := eh2.size
  have lbb1 := bxb1.lt
  refine s_pure (.bool false) (fun _ q => q) ?_
  refine s_nil ?_
  refine p_seqN ?_
  refine v_seq ?_
  refine v_ops ?_
  refine s_pure (.pointer (some ⟨b1, 0, none⟩)) (fun _ q => q) ?_
  refine s_load (.int .i64 p.message) (fun _ q => bxb1.load rfl q) ?_
  refine s_callS [.int .i64 p.message, .int .i64 1, .int .i64 999] (.bool (decide (1 ≤ p.message ∧ p.message ≤ 999))) rfl (l1In_ok p.message 1 999 _ ) ?_
  refine s_pure (.bool (decide (1 ≤ p.message ∧ p.message ≤ 999))) (fun _ q => q) ?_
  refine s_splitT rfl (fun c5 => ?_) (fun c5 => ?_)
  ·
    refine s_run rfl ?_
    refine s_pure (.pointer (some ⟨b1, 2, none⟩)) (fun _ q => q) ?_
    refine s_run rfl ?_
    refine s_load (.int .i64 p.parts) (fun _ q => bxb1.load rfl q) ?_
    refine s_run rfl ?_
    refine s_callS [.int .i64 p.parts, .int .i64 1, .int .i64 9] (.bool (decide (1 ≤ p.parts ∧ p.parts ≤ 9))) rfl (l1In_ok p.parts 1 9 _ ) ?_
    refine s_pure (.bool (decide (1 ≤ p.parts ∧ p.parts ≤ 9))) (fun _ q => q) ?_
    refine s_pure (.bool (decide (1 ≤ p.parts ∧ p.parts ≤ 9))) (fun _ q => q) ?_
    refine s_splitT rfl (fun c6 => ?_) (fun c6 => ?_)
    ·
      refine s_run rfl ?_
      refine s_pure (.pointer (some ⟨b1, 1, none⟩)) (fun _ q => q) ?_
      refine s_run rfl ?_
      refine s_load (.int .i64 p.part) (fun _ q => bxb1.load rfl q) ?_
      refine s_run rfl ?_
      refine s_pure (.pointer (some ⟨b1, 2, none⟩)) (fun _ q => q) ?_
      refine s_run rfl ?_
      refine s_load (.int .i64 p.parts) (fun _ q => bxb1.load rfl q) ?_
      refine s_run rfl ?_
      refine s_pure (.int .i64 (p.parts - 1)) (fun _ q => ArithVC.mk (by omega) q) ?_
      refine s_run rfl ?_
      refine s_callS [.int .i64 p.part, .int .i64 0, .int .i64 (p.parts - 1)] (.bool (decide (0 ≤ p.part ∧ p.part ≤ (p.parts - 1)))) rfl (l1In_ok p.part 0 (p.parts - 1) _ ) ?_
      refine s_pure (.bool (decide (0 ≤ p.part ∧ p.part ≤ (p.parts - 1)))) (fun _ q => q) ?_
      refine s_pure (.bool (decide (0 ≤ p.part ∧ p.part ≤ (p.parts - 1)))) (fun _ q => q) ?_
      refine s_splitT rfl (fun c7 => ?_) (fun c7 => ?_)
      ·
        refine s_run rfl ?_
        refine s_pure (.pointer (some ⟨b1, 3, none⟩)) (fun _ q => q) ?_
        refine s_run rfl ?_
        refine s_load v_p_signals (fun _ q => bxb1.load rfl q) ?_
        refine s_run rfl ?_
        refine s_pure (.int .i64 (p.signals.length : Int)) (fun _ q => s_p_signals.lenVC q) ?_
        refine s_run rfl ?_
        refine s_callS [.int .i64 (p.signals.length : Int), .int .i64 1, .int .i64 8] (.bool (decide (1 ≤ (p.signals.length : Int) ∧ (p.signals.length : Int) ≤ 8))) rfl (l1In_ok (p.signals.length : Int) 1 8 _ ) ?_
        refine s_pure (.bool (decide (1 ≤ (p.signals.length : Int) ∧ (p.signals.length : Int) ≤ 8))) (fun _ q => q) ?_
        refine s_pure (.bool (decide (1 ≤ (p.signals.length : Int) ∧ (p.signals.length : Int) ≤ 8))) (fun _ q => q) ?_
        refine s_splitT rfl (fun c8 => ?_) (fun c8 => ?_)
        ·
          refine s_run rfl ?_
          refine s_pure (.pointer (some ⟨b1, 3, none⟩)) (fun _ q => q) ?_
          refine s_run rfl ?_
          refine s_load v_p_signals (fun _ q => bxb1.load rfl q) ?_
          refine s_run rfl ?_
          have f9 := (s_p_signals.ext eh2)
          refine s_callS [v_p_signals, .int .i64 1, .int .i64 60] (.bool (decide (AllIn 1 60 p.signals))) rfl (l1All_ok v_p_signals p.signals 1 60 _ f9) ?_
          refine s_pure (.bool (decide (AllIn 1 60 p.signals))) (fun _ q => q) ?_
          refine s_pure (.bool (decide (AllIn 1 60 p.signals))) (fun _ q => q) ?_
          refine s_nil ?_
          refine p_seqN ?_
          refine v_ret ?_
          refine p_ret [.bool (decide (AllIn 1 60 p.signals))] (.bool (decide (AllIn 1 60 p.signals))) (fun _ q => q) rfl ?_
          have ho : decide (PkOk p) = (decide (AllIn 1 60 p.signals)) := by unfold PkOk; simp [*]; try omega
          exact ⟨by first | (rw [ho]; done) | rfl, E3⟩
        ·
          refine s_pass rfl ?_
          refine s_pass rfl ?_
          refine s_pass rfl ?_
          refine s_pure (.bool false) (fun _ q => q) ?_
          refine s_pure (.bool false) (fun _ q => q) ?_
          refine s_nil ?_
          refine p_seqN ?_
          refine v_ret ?_
          refine p_ret [.bool false] (.bool false) (fun _ q => q) rfl ?_
          have ho : decide (PkOk p) = false := by unfold PkOk; simp [*]; try omega
          exact ⟨by first | (rw [ho]; done) | rfl, E3⟩
      ·
        refine s_pass rfl ?_
        refine s_pass rfl ?_
        refine s_pass rfl ?_
        refine s_pass rfl ?_
        refine s_pure (.bool false) (fun _ q => q) ?_
        refine s_pure (.bool false) (fun _ q => q) ?_
        refine s_splitN rfl (by simp) ?_
        refine s_pass rfl ?_
        refine s_pass rfl ?_
        refine s_pass rfl ?_
        refine s_pure (.bool false) (fun _ q => q) ?_
        refine s_pure (.bool false) (fun _ q => q) ?_
        refine s_nil ?_
        refine p_seqN ?_
        refine v_ret ?_
        refine p_ret [.bool false] (.bool false) (fun _ q => q) rfl ?_
        have ho : decide (PkOk p) = false := by unfold PkOk; simp [*]; try omega
        exact ⟨by first | (rw [ho]; done) | rfl, E3⟩
    ·
      refine s_pass rfl ?_
      refine s_pass rfl ?_
      refine s_pass rfl ?_
      refine s_pass rfl ?_
      refine s_pass rfl ?_
      refine s_pass rfl ?_
      refine s_pure (.bool false) (fun _ q => q) ?_
      refine s_pure (.bool false) (fun _ q => q) ?_
      refine s_splitN rfl (by simp) ?_
      refine s_pass rfl ?_
      refine s_pass rfl ?_
      refine s_pass rfl ?_
      refine s_pass rfl ?_
      refine s_pure (.bool false) (fun _ q => q) ?_
      refine s_pure (.bool false) (fun _ q => q) ?_
      refine s_splitN rfl (by simp) ?_
      refine s_pass rfl ?_
      refine s_pass rfl ?_
      refine s_pass rfl ?_
      refine s_pure (.bool false) (fun _ q => q) ?_
      refine s_pure (.bool false) (fun _ q => q) ?_
      refine s_nil ?_
      refine p_seqN ?_
      refine v_ret ?_
      refine p_ret [.bool false] (.bool false) (fun _ q => q) rfl ?_
      have ho : decide (PkOk p) = false := by unfold PkOk; simp [*]; try omega
      exact ⟨by first | (rw [ho]; done) | rfl, E3⟩
  ·
    refine s_pass rfl ?_
    refine s_pass rfl ?_
    refine s_pass rfl ?_
    refine s_pure (.bool false) (fun _ q => q) ?_
    refine s_pure (.bool false) (fun _ q => q) ?_
    refine s_splitN rfl (by simp) ?_
    refine s_pass rfl ?_
    refine s_pass rfl ?_
    refine s_pass rfl ?_
    refine s_pass rfl ?_
    refine s_pass rfl ?_
    refine s_pass rfl ?_
    refine s_pure (.bool false) (fun _ q => q) ?_
    refine s_pure (.bool false) (fun _ q => q) ?_
    refine s_splitN rfl (by simp) ?_
    refine s_pass rfl ?_
    refine s_pass rfl ?_
    refine s_pass rfl ?_
    refine s_pass rfl ?_
    refine s_pure (.bool false) (fun _ q => q) ?_
    refine s_pure (.bool false) (fun _ q => q) ?_
    refine s_splitN rfl (by simp) ?_
    refine s_pass rfl ?_
    refine s_pass rfl ?_
    refine s_pass rfl ?_
    refine s_pure (.bool false) (fun _ q => q) ?_
    refine s_pure (.bool false) (fun _ q => q) ?_
    refine s_nil ?_
    refine p_seqN ?_
    refine v_ret ?_
    refine p_ret [.bool false] (.bool false) (fun _ q => q) rfl ?_
    have ho : decide (PkOk p) = false := by unfold PkOk; simp [*]; try omega
    exact ⟨by first | (rw [ho]; done) | rfl, E3⟩

end Go.Proofs.YtbikhpphdhffaaaGreatDoor
