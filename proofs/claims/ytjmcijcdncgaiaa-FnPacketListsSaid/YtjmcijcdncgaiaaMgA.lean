/- Laws1, SzI, Com1, Com2, Laws2, Find, Pa0, Pa1, Pk1, Deep2, Pk2, Rw1, Pk3. Condition: none. -/
import Derived.Test.YtjmcijcdncgaiaaCode
import Derived.Test.YtjmcijcdncgaiaaLib1
import Derived.Test.YtjmcijcdncgaiaaRes
import Derived.Test.YtjmcijcdncgaiaaStep2
import Derived.Test.YtjmcijcdncgaiaaTypes
/- The laws' helpers on slices of ints: toIntS copies, eqIntS compares. Condition: none. -/
namespace Go.Proofs.Ytjmcijcdncgaiaa
open Go.Vc

abbrev Cn (f : Nat) (args : List Value) (h : Heap) (R : Value → Heap → Prop) : Prop := CallsH Try.prog f args h R

end Go.Proofs.Ytjmcijcdncgaiaa


/- The law's helper szIntS. Condition: none. -/
namespace Go.Proofs.Ytjmcijcdncgaiaa
open Go.Vc
end Go.Proofs.Ytjmcijcdncgaiaa


/- Tests whether numbers lie within bounds. Condition: none. -/
namespace Go.Proofs.Ytjmcijcdncgaiaa
open Go.Vc

theorem within_ok (n lo hi : Int) (h : Heap) : Cn f_impl_within [.int .i64 n, .int .i64 lo, .int .i64 hi] h fun v h' => v = .bool (decide (lo ≤ n ∧ n ≤ hi)) ∧ h' = h := by
  refine calls_of r_impl_within ?_
  refine SplitVC.mk (fun h1 => ?_) (fun h1 => ?_)
  · exact ⟨bool_is (by omega), rfl⟩
  · exact ⟨bool_f (by omega), rfl⟩
theorem l1In_ok (n lo hi : Int) (h : Heap) : Cn f_spec_l1In [.int .i64 n, .int .i64 lo, .int .i64 hi] h fun v h' => v = .bool (decide (lo ≤ n ∧ n ≤ hi)) ∧ h' = h := by
  refine calls_of r_spec_l1In ?_
  refine SplitVC.mk (fun h1 => ?_) (fun h1 => ?_)
  · exact ⟨bool_is (by omega), rfl⟩
  · exact ⟨bool_f (by omega), rfl⟩

abbrev AllIn (lo hi : Int) (xs : List Int) : Prop := ∀ x ∈ xs, lo ≤ x ∧ x ≤ hi

theorem allIn_step {lo hi : Int} {xs : List Int} {k : Nat} (hk : k < xs.length) (h : AllIn lo hi (xs.take k)) (hx : lo ≤ xs[k] ∧ xs[k] ≤ hi) : AllIn lo hi (xs.take (k + 1)) := by
  intro x hm
  rw [List.take_succ_eq_append_getElem hk] at hm
  rcases List.mem_append.1 hm with hm | hm
  · exact h x hm
  · simp at hm; subst hm; exact hx

end Go.Proofs.Ytjmcijcdncgaiaa


/- Tests whether all numbers of a slice lie within bounds. Condition: none. -/
namespace Go.Proofs.Ytjmcijcdncgaiaa
open Go.Vc

theorem allWithin_ok (v : Value) (xs : List Int) (lo hi : Int) (h : Heap) (hs : Sl h v xs) : Cn f_impl_allWithin [v, .int .i64 lo, .int .i64 hi] h fun r h' => r = .bool (decide (AllIn lo hi xs)) ∧ h' = h := by
  refine calls_of r_impl_allWithin ?_
  refine hs.lenVC ?_
  refine LoopVC.mk (α := Nat) (fun k => [(1, .int .i64 lo), (2, .int .i64 hi), (9, v), (10, .int .i64 (xs.length : Int)), (11, .int .i64 (k : Int))]) (fun k h2 => h2 = h ∧ k ≤ xs.length ∧ AllIn lo hi (xs.take k)) (fun k => xs.length - k) 0 ⟨rfl, rfl, rfl, rfl, rfl⟩ ⟨rfl, by omega, by simp [AllIn]⟩ ?_
  rintro k R h2 ⟨rfl, hk, hall⟩
  have hl := hs.len63
  refine CondVC.mk (fun hlt => ?_) (fun hlt => ?_)
  · have hk' : k < xs.length := by omega
    refine hs.idx rfl hk' (hs.load1 (x := xs[k]) (by simp [hk']) rfl ?_)
    refine (within_ok _ _ _ _).mono ?_
    rintro _ _ ⟨rfl, rfl⟩
    refine CondVC.mk (fun hc => ?_) (fun hc => ?_)
    · exact ⟨bool_f (fun ha => hc (ha _ (List.getElem_mem hk'))), rfl⟩
    · refine ArithVC.mk (by omega) ?_
      exact ⟨k + 1, ⟨⟨rfl, rfl, rfl, rfl, rfl⟩, rfl, by omega, allIn_step hk' hall (by omega)⟩, by omega⟩
  · have hk' : k = xs.length := by omega
    subst hk'
    rw [List.take_length] at hall
    exact ⟨bool_t hall, rfl⟩
theorem l1All_ok (v : Value) (xs : List Int) (lo hi : Int) (h : Heap) (hs : Sl h v xs) : Cn f_spec_l1All [v, .int .i64 lo, .int .i64 hi] h fun r h' => r = .bool (decide (AllIn lo hi xs)) ∧ h' = h := by
  refine calls_of r_spec_l1All ?_
  refine hs.lenVC ?_
  refine LoopVC.mk (α := Nat) (fun k => [(1, .int .i64 lo), (2, .int .i64 hi), (9, v), (10, .int .i64 (xs.length : Int)), (11, .int .i64 (k : Int))]) (fun k h2 => h2 = h ∧ k ≤ xs.length ∧ AllIn lo hi (xs.take k)) (fun k => xs.length - k) 0 ⟨rfl, rfl, rfl, rfl, rfl⟩ ⟨rfl, by omega, by simp [AllIn]⟩ ?_
  rintro k R h2 ⟨rfl, hk, hall⟩
  have hl := hs.len63
  refine CondVC.mk (fun hlt => ?_) (fun hlt => ?_)
  · have hk' : k < xs.length := by omega
    refine hs.idx rfl hk' (hs.load1 (x := xs[k]) (by simp [hk']) rfl ?_)
    refine (l1In_ok _ _ _ _).mono ?_
    rintro _ _ ⟨rfl, rfl⟩
    refine CondVC.mk (fun hc => ?_) (fun hc => ?_)
    · exact ⟨bool_f (fun ha => hc (ha _ (List.getElem_mem hk'))), rfl⟩
    · refine ArithVC.mk (by omega) ?_
      exact ⟨k + 1, ⟨⟨rfl, rfl, rfl, rfl, rfl⟩, rfl, by omega, allIn_step hk' hall (by omega)⟩, by omega⟩
  · have hk' : k = xs.length := by omega
    subst hk'
    rw [List.take_length] at hall
    exact ⟨bool_t hall, rfl⟩

end Go.Proofs.Ytjmcijcdncgaiaa


/- The laws' helpers on slices of ints: markIntS writes k, k + 1, .., heldIntS looks whether they are there. Condition: none. -/
namespace Go.Proofs.Ytjmcijcdncgaiaa
open Go.Vc

end Go.Proofs.Ytjmcijcdncgaiaa


/- Where the first element lies of which a test holds. Condition: none. -/
namespace Go.Vc
/-- the index of the first element of which p holds, or -1 -/
def firstF {α : Type} (p : α → Bool) : List α → Nat → Int
  | [], _ => -1
  | x :: xs, i => bif p x then (i : Int) else firstF p xs (i + 1)
theorem firstF_nonneg {α : Type} (p : α → Bool) : ∀ (xs : List α) (i : Nat), 0 ≤ firstF p xs i ↔ xs.any p = true
  | [], i => by simp [firstF]
  | x :: xs, i => by
    simp only [firstF, List.any_cons]
    cases p x with
    | true => simp
    | false => simpa using firstF_nonneg p xs (i + 1)
theorem firstF_bound {α : Type} (p : α → Bool) : ∀ (xs : List α) (i : Nat), -1 ≤ firstF p xs i ∧ firstF p xs i < (i : Int) + xs.length ∨ firstF p xs i = -1
  | [], i => by simp [firstF]
  | x :: xs, i => by
    simp only [firstF]
    cases p x with
    | true => left; simp only [cond_true, List.length_cons]; omega
    | false =>
      have := firstF_bound p xs (i + 1)
      simp only [cond_false, List.length_cons]; omega
theorem NilVC.mk {a : Option Addr} {n c : Nat} {ng : Bool} {K : Value → Prop} (hk : K (.bool (bif ng then !a.isNone else a.isNone))) : NilVC (.slice a n c) ng K := ⟨a, n, c, rfl, hk⟩
end Go.Vc


/- The laws' helper toPacket. Condition: none. Printed in part by a program. -/
namespace Go.Proofs.Ytjmcijcdncgaiaa
open Go.Vc
set_option linter.all false
end Go.Proofs.Ytjmcijcdncgaiaa


/- The laws' helpers on Packet: what they return. Condition: none. Printed by a program. -/
namespace Go.Proofs.Ytjmcijcdncgaiaa
open Go.Vc

end Go.Proofs.Ytjmcijcdncgaiaa


/- Tests of packets. Condition: none. Printed in part by a program. -/
namespace Go.Proofs.Ytjmcijcdncgaiaa
open Go.Vc
set_option linter.all false

structure PkP where
 message : Int
 part : Int
 parts : Int
 signals : List Int
instance : DecidableEq PkP := fun a b => decidable_of_iff (a.message = b.message ∧ a.part = b.part ∧ a.parts = b.parts ∧ a.signals = b.signals) (by cases a; cases b; simp)
def PkOk (p : PkP) : Prop := (1 ≤ p.message ∧ p.message ≤ 999) ∧ (1 ≤ p.parts ∧ p.parts ≤ 9) ∧ (0 ≤ p.part ∧ p.part ≤ p.parts - 1) ∧ (1 ≤ (p.signals.length : Int) ∧ (p.signals.length : Int) ≤ 8) ∧ AllIn 1 60 p.signals
noncomputable instance (p : PkP) : Decidable (PkOk p) := Classical.propDecidable _

set_option maxRecDepth 10000 in
set_option maxHeartbeats 4000000 in
theorem impl_IsPacket_ok (p : PkP) (v_p_signals : Value) (h : Heap) (s_p_signals : Sl h v_p_signals p.signals) : Cn f_impl_IsPacket [.agg #[.int .i64 p.message, .int .i64 p.part, .int .i64 p.parts, v_p_signals]] h fun v h' => v = .bool (decide (PkOk p)) ∧ Ext h h' := by
 have lt_p_signals := s_p_signals.lt
 have l63_p_signals := s_p_signals.len63
 refine calls_of r_impl_IsPacket ?_
 refine v_seq ?_
 refine v_ops ?_
 refine s_box [.int .i64 p.message, .int .i64 p.part, .int .i64 p.parts, v_p_signals] rfl (fun h2 b1 hbb1 hzb1 eh2 bxb1 => ?_)
 have E3 := (Ext.refl h).trans eh2
 have z4 := eh2.size
 have lbb1 := bxb1.lt
 refine s_pure (.bool false) (fun _ q => q) ?_
 refine s_nil ?_
 refine p_seqN ?_
 refine v_seq ?_
 refine v_ops ?_
 refine s_pure (.pointer (some ⟨b1, 0, none⟩)) (fun _ q => q) ?_
 refine s_load (.int .i64 p.message) (fun _ q => bxb1.load rfl q) ?_
 refine s_callS [.int .i64 p.message, .int .i64 1, .int .i64 999] (.bool (decide (1 ≤ p.message ∧ p.message ≤ 999))) rfl (within_ok p.message 1 999 _ ) ?_
 refine s_pure (.bool (decide (1 ≤ p.message ∧ p.message ≤ 999))) (fun _ q => q) ?_
 refine s_splitT rfl (fun c5 => ?_) (fun c5 => ?_)
 ·
  refine s_run rfl ?_
  refine s_pure (.pointer (some ⟨b1, 2, none⟩)) (fun _ q => q) ?_
  refine s_run rfl ?_
  refine s_load (.int .i64 p.parts) (fun _ q => bxb1.load rfl q) ?_
  refine s_run rfl ?_
  refine s_callS [.int .i64 p.parts, .int .i64 1, .int .i64 9] (.bool (decide (1 ≤ p.parts ∧ p.parts ≤ 9))) rfl (within_ok p.parts 1 9 _ ) ?_
  refine s_pure (.bool (decide (1 ≤ p.parts ∧ p.parts ≤ 9))) (fun _ q => q) ?_
  refine s_pure (.bool (decide (1 ≤ p.parts ∧ p.parts ≤ 9))) (fun _ q => q) ?_
  refine s_splitT rfl (fun c6 => ?_) (fun c6 => ?_)
  ·
   refine s_run rfl ?_
   refine s_pure (.pointer (some ⟨b1, 1, none⟩)) (fun _ q => q) ?_
   refine s_run rfl ?_
   refine s_load (.int .i64 p.part) (fun _ q => bxb1.load rfl q) ?_
   refine s_run rfl ?_
   refine s_pure (.pointer (some ⟨b1, 2, none⟩)) (fun _ q => q) ?_
   refine s_run rfl ?_
   refine s_load (.int .i64 p.parts) (fun _ q => bxb1.load rfl q) ?_
   refine s_run rfl ?_
   refine s_pure (.int .i64 (p.parts - 1)) (fun _ q => ArithVC.mk (by omega) q) ?_
   refine s_run rfl ?_
   refine s_callS [.int .i64 p.part, .int .i64 0, .int .i64 (p.parts - 1)] (.bool (decide (0 ≤ p.part ∧ p.part ≤ (p.parts - 1)))) rfl (within_ok p.part 0 (p.parts - 1) _ ) ?_
   refine s_pure (.bool (decide (0 ≤ p.part ∧ p.part ≤ (p.parts - 1)))) (fun _ q => q) ?_
   refine s_pure (.bool (decide (0 ≤ p.part ∧ p.part ≤ (p.parts - 1)))) (fun _ q => q) ?_
   refine s_splitT rfl (fun c7 => ?_) (fun c7 => ?_)
   ·
    refine s_run rfl ?_
    refine s_pure (.pointer (some ⟨b1, 3, none⟩)) (fun _ q => q) ?_
    refine s_run rfl ?_
    refine s_load v_p_signals (fun _ q => bxb1.load rfl q) ?_
    refine s_run rfl ?_
    refine s_pure (.int .i64 (p.signals.length : Int)) (fun _ q => s_p_signals.lenVC q) ?_
    refine s_run rfl ?_
    refine s_callS [.int .i64 (p.signals.length : Int), .int .i64 1, .int .i64 8] (.bool (decide (1 ≤ (p.signals.length : Int) ∧ (p.signals.length : Int) ≤ 8))) rfl (within_ok (p.signals.length : Int) 1 8 _ ) ?_
    refine s_pure (.bool (decide (1 ≤ (p.signals.length : Int) ∧ (p.signals.length : Int) ≤ 8))) (fun _ q => q) ?_
    refine s_pure (.bool (decide (1 ≤ (p.signals.length : Int) ∧ (p.signals.length : Int) ≤ 8))) (fun _ q => q) ?_
    refine s_splitT rfl (fun c8 => ?_) (fun c8 => ?_)
    ·
     refine s_run rfl ?_
     refine s_pure (.pointer (some ⟨b1, 3, none⟩)) (fun _ q => q) ?_
     refine s_run rfl ?_
     refine s_load v_p_signals (fun _ q => bxb1.load rfl q) ?_
     refine s_run rfl ?_
     have f9 := (s_p_signals.ext eh2)
     refine s_callS [v_p_signals, .int .i64 1, .int .i64 60] (.bool (decide (AllIn 1 60 p.signals))) rfl (allWithin_ok v_p_signals p.signals 1 60 _ f9) ?_
     refine s_pure (.bool (decide (AllIn 1 60 p.signals))) (fun _ q => q) ?_
     refine s_pure (.bool (decide (AllIn 1 60 p.signals))) (fun _ q => q) ?_
     refine s_nil ?_
     refine p_seqN ?_
     refine v_ret ?_
     refine p_ret [.bool (decide (AllIn 1 60 p.signals))] (.bool (decide (AllIn 1 60 p.signals))) (fun _ q => q) rfl ?_
     have ho : decide (PkOk p) = (decide (AllIn 1 60 p.signals)) := by unfold PkOk; simp [*]; try omega
     exact ⟨by first | (rw [ho]; done) | rfl, E3⟩
    ·
     refine s_pass rfl ?_
     refine s_pass rfl ?_
     refine s_pass rfl ?_
     refine s_pure (.bool false) (fun _ q => q) ?_
     refine s_pure (.bool false) (fun _ q => q) ?_
     refine s_nil ?_
     refine p_seqN ?_
     refine v_ret ?_
     refine p_ret [.bool false] (.bool false) (fun _ q => q) rfl ?_
     have ho : decide (PkOk p) = false := by unfold PkOk; simp [*]; try omega
     exact ⟨by first | (rw [ho]; done) | rfl, E3⟩
   ·
    refine s_pass rfl ?_
    refine s_pass rfl ?_
    refine s_pass rfl ?_
    refine s_pass rfl ?_
    refine s_pure (.bool false) (fun _ q => q) ?_
    refine s_pure (.bool false) (fun _ q => q) ?_
    refine s_splitN rfl (by simp) ?_
    refine s_pass rfl ?_
    refine s_pass rfl ?_
    refine s_pass rfl ?_
    refine s_pure (.bool false) (fun _ q => q) ?_
    refine s_pure (.bool false) (fun _ q => q) ?_
    refine s_nil ?_
    refine p_seqN ?_
    refine v_ret ?_
    refine p_ret [.bool false] (.bool false) (fun _ q => q) rfl ?_
    have ho : decide (PkOk p) = false := by unfold PkOk; simp [*]; try omega
    exact ⟨by first | (rw [ho]; done) | rfl, E3⟩
  ·
   refine s_pass rfl ?_
   refine s_pass rfl ?_
   refine s_pass rfl ?_
   refine s_pass rfl ?_
   refine s_pass rfl ?_
   refine s_pass rfl ?_
   refine s_pure (.bool false) (fun _ q => q) ?_
   refine s_pure (.bool false) (fun _ q => q) ?_
   refine s_splitN rfl (by simp) ?_
   refine s_pass rfl ?_
   refine s_pass rfl ?_
   refine s_pass rfl ?_
   refine s_pass rfl ?_
   refine s_pure (.bool false) (fun _ q => q) ?_
   refine s_pure (.bool false) (fun _ q => q) ?_
   refine s_splitN rfl (by simp) ?_
   refine s_pass rfl ?_
   refine s_pass rfl ?_
   refine s_pass rfl ?_
   refine s_pure (.bool false) (fun _ q => q) ?_
   refine s_pure (.bool false) (fun _ q => q) ?_
   refine s_nil ?_
   refine p_seqN ?_
   refine v_ret ?_
   refine p_ret [.bool false] (.bool false) (fun _ q => q) rfl ?_
   have ho : decide (PkOk p) = false := by unfold PkOk; simp [*]; try omega
   exact ⟨by first | (rw [ho]; done) | rfl, E3⟩
 ·
  refine s_pass rfl ?_
  refine s_pass rfl ?_
  refine s_pass rfl ?_
  refine s_pure (.bool false) (fun _ q => q) ?_
  refine s_pure (.bool false) (fun _ q => q) ?_
  refine s_splitN rfl (by simp) ?_
  refine s_pass rfl ?_
  refine s_pass rfl ?_
  refine s_pass rfl ?_
  refine s_pass rfl ?_
  refine s_pass rfl ?_
  refine s_pass rfl ?_
  refine s_pure (.bool false) (fun _ q => q) ?_
  refine s_pure (.bool false) (fun _ q => q) ?_
  refine s_splitN rfl (by simp) ?_
  refine s_pass rfl ?_
  refine s_pass rfl ?_
  refine s_pass rfl ?_
  refine s_pass rfl ?_
  refine s_pure (.bool false) (fun _ q => q) ?_
  refine s_pure (.bool false) (fun _ q => q) ?_
  refine s_splitN rfl (by simp) ?_
  refine s_pass rfl ?_
  refine s_pass rfl ?_
  refine s_pass rfl ?_
  refine s_pure (.bool false) (fun _ q => q) ?_
  refine s_pure (.bool false) (fun _ q => q) ?_
  refine s_nil ?_
  refine p_seqN ?_
  refine v_ret ?_
  refine p_ret [.bool false] (.bool false) (fun _ q => q) rfl ?_
  have ho : decide (PkOk p) = false := by unfold PkOk; simp [*]; try omega
  exact ⟨by first | (rw [ho]; done) | rfl, E3⟩

set_option maxRecDepth 10000 in
set_option maxHeartbeats 4000000 in
theorem spec_pkGood_ok (p : PkP) (v_p_signals : Value) (h : Heap) (s_p_signals : Sl h v_p_signals p.signals) : Cn f_spec_pkGood [.agg #[.int .i64 p.message, .int .i64 p.part, .int .i64 p.parts, v_p_signals]] h fun v h' => v = .bool (decide (PkOk p)) ∧ Ext h h' := by
 have lt_p_signals := s_p_signals.lt
 have l63_p_signals := s_p_signals.len63
 refine calls_of r_spec_pkGood ?_
 refine v_seq ?_
 refine v_ops ?_
 refine s_box [.int .i64 p.message, .int .i64 p.part, .int .i64 p.parts, v_p_signals] rfl (fun h2 b1 hbb1 hzb1 eh2 bxb1 => ?_)
 have E3 := (Ext.refl h).trans eh2
 have z4 := eh2.size
 have lbb1 := bxb1.lt
 refine s_pure (.bool false) (fun _ q => q) ?_
 refine s_nil ?_
 refine p_seqN ?_
 refine v_seq ?_
 refine v_ops ?_
 refine s_pure (.pointer (some ⟨b1, 0, none⟩)) (fun _ q => q) ?_
 refine s_load (.int .i64 p.message) (fun _ q => bxb1.load rfl q) ?_
 refine s_callS [.int .i64 p.message, .int .i64 1, .int .i64 999] (.bool (decide (1 ≤ p.message ∧ p.message ≤ 999))) rfl (l1In_ok p.message 1 999 _ ) ?_
 refine s_pure (.bool (decide (1 ≤ p.message ∧ p.message ≤ 999))) (fun _ q => q) ?_
 refine s_splitT rfl (fun c5 => ?_) (fun c5 => ?_)
 ·
  refine s_run rfl ?_
  refine s_pure (.pointer (some ⟨b1, 2, none⟩)) (fun _ q => q) ?_
  refine s_run rfl ?_
  refine s_load (.int .i64 p.parts) (fun _ q => bxb1.load rfl q) ?_
  refine s_run rfl ?_
  refine s_callS [.int .i64 p.parts, .int .i64 1, .int .i64 9] (.bool (decide (1 ≤ p.parts ∧ p.parts ≤ 9))) rfl (l1In_ok p.parts 1 9 _ ) ?_
  refine s_pure (.bool (decide (1 ≤ p.parts ∧ p.parts ≤ 9))) (fun _ q => q) ?_
  refine s_pure (.bool (decide (1 ≤ p.parts ∧ p.parts ≤ 9))) (fun _ q => q) ?_
  refine s_splitT rfl (fun c6 => ?_) (fun c6 => ?_)
  ·
   refine s_run rfl ?_
   refine s_pure (.pointer (some ⟨b1, 1, none⟩)) (fun _ q => q) ?_
   refine s_run rfl ?_
   refine s_load (.int .i64 p.part) (fun _ q => bxb1.load rfl q) ?_
   refine s_run rfl ?_
   refine s_pure (.pointer (some ⟨b1, 2, none⟩)) (fun _ q => q) ?_
   refine s_run rfl ?_
   refine s_load (.int .i64 p.parts) (fun _ q => bxb1.load rfl q) ?_
   refine s_run rfl ?_
   refine s_pure (.int .i64 (p.parts - 1)) (fun _ q => ArithVC.mk (by omega) q) ?_
   refine s_run rfl ?_
   refine s_callS [.int .i64 p.part, .int .i64 0, .int .i64 (p.parts - 1)] (.bool (decide (0 ≤ p.part ∧ p.part ≤ (p.parts - 1)))) rfl (l1In_ok p.part 0 (p.parts - 1) _ ) ?_
   refine s_pure (.bool (decide (0 ≤ p.part ∧ p.part ≤ (p.parts - 1)))) (fun _ q => q) ?_
   refine s_pure (.bool (decide (0 ≤ p.part ∧ p.part ≤ (p.parts - 1)))) (fun _ q => q) ?_
   refine s_splitT rfl (fun c7 => ?_) (fun c7 => ?_)
   ·
    refine s_run rfl ?_
    refine s_pure (.pointer (some ⟨b1, 3, none⟩)) (fun _ q => q) ?_
    refine s_run rfl ?_
    refine s_load v_p_signals (fun _ q => bxb1.load rfl q) ?_
    refine s_run rfl ?_
    refine s_pure (.int .i64 (p.signals.length : Int)) (fun _ q => s_p_signals.lenVC q) ?_
    refine s_run rfl ?_
    refine s_callS [.int .i64 (p.signals.length : Int), .int .i64 1, .int .i64 8] (.bool (decide (1 ≤ (p.signals.length : Int) ∧ (p.signals.length : Int) ≤ 8))) rfl (l1In_ok (p.signals.length : Int) 1 8 _ ) ?_
    refine s_pure (.bool (decide (1 ≤ (p.signals.length : Int) ∧ (p.signals.length : Int) ≤ 8))) (fun _ q => q) ?_
    refine s_pure (.bool (decide (1 ≤ (p.signals.length : Int) ∧ (p.signals.length : Int) ≤ 8))) (fun _ q => q) ?_
    refine s_splitT rfl (fun c8 => ?_) (fun c8 => ?_)
    ·
     refine s_run rfl ?_
     refine s_pure (.pointer (some ⟨b1, 3, none⟩)) (fun _ q => q) ?_
     refine s_run rfl ?_
     refine s_load v_p_signals (fun _ q => bxb1.load rfl q) ?_
     refine s_run rfl ?_
     have f9 := (s_p_signals.ext eh2)
     refine s_callS [v_p_signals, .int .i64 1, .int .i64 60] (.bool (decide (AllIn 1 60 p.signals))) rfl (l1All_ok v_p_signals p.signals 1 60 _ f9) ?_
     refine s_pure (.bool (decide (AllIn 1 60 p.signals))) (fun _ q => q) ?_
     refine s_pure (.bool (decide (AllIn 1 60 p.signals))) (fun _ q => q) ?_
     refine s_nil ?_
     refine p_seqN ?_
     refine v_ret ?_
     refine p_ret [.bool (decide (AllIn 1 60 p.signals))] (.bool (decide (AllIn 1 60 p.signals))) (fun _ q => q) rfl ?_
     have ho : decide (PkOk p) = (decide (AllIn 1 60 p.signals)) := by unfold PkOk; simp [*]; try omega
     exact ⟨by first | (rw [ho]; done) | rfl, E3⟩
    ·
     refine s_pass rfl ?_
     refine s_pass rfl ?_
     refine s_pass rfl ?_
     refine s_pure (.bool false) (fun _ q => q) ?_
     refine s_pure (.bool false) (fun _ q => q) ?_
     refine s_nil ?_
     refine p_seqN ?_
     refine v_ret ?_
     refine p_ret [.bool false] (.bool false) (fun _ q => q) rfl ?_
     have ho : decide (PkOk p) = false := by unfold PkOk; simp [*]; try omega
     exact ⟨by first | (rw [ho]; done) | rfl, E3⟩
   ·
    refine s_pass rfl ?_
    refine s_pass rfl ?_
    refine s_pass rfl ?_
    refine s_pass rfl ?_
    refine s_pure (.bool false) (fun _ q => q) ?_
    refine s_pure (.bool false) (fun _ q => q) ?_
    refine s_splitN rfl (by simp) ?_
    refine s_pass rfl ?_
    refine s_pass rfl ?_
    refine s_pass rfl ?_
    refine s_pure (.bool false) (fun _ q => q) ?_
    refine s_pure (.bool false) (fun _ q => q) ?_
    refine s_nil ?_
    refine p_seqN ?_
    refine v_ret ?_
    refine p_ret [.bool false] (.bool false) (fun _ q => q) rfl ?_
    have ho : decide (PkOk p) = false := by unfold PkOk; simp [*]; try omega
    exact ⟨by first | (rw [ho]; done) | rfl, E3⟩
  ·
   refine s_pass rfl ?_
   refine s_pass rfl ?_
   refine s_pass rfl ?_
   refine s_pass rfl ?_
   refine s_pass rfl ?_
   refine s_pass rfl ?_
   refine s_pure (.bool false) (fun _ q => q) ?_
   refine s_pure (.bool false) (fun _ q => q) ?_
   refine s_splitN rfl (by simp) ?_
   refine s_pass rfl ?_
   refine s_pass rfl ?_
   refine s_pass rfl ?_
   refine s_pass rfl ?_
   refine s_pure (.bool false) (fun _ q => q) ?_
   refine s_pure (.bool false) (fun _ q => q) ?_
   refine s_splitN rfl (by simp) ?_
   refine s_pass rfl ?_
   refine s_pass rfl ?_
   refine s_pass rfl ?_
   refine s_pure (.bool false) (fun _ q => q) ?_
   refine s_pure (.bool false) (fun _ q => q) ?_
   refine s_nil ?_
   refine p_seqN ?_
   refine v_ret ?_
   refine p_ret [.bool false] (.bool false) (fun _ q => q) rfl ?_
   have ho : decide (PkOk p) = false := by unfold PkOk; simp [*]; try omega
   exact ⟨by first | (rw [ho]; done) | rfl, E3⟩
 ·
  refine s_pass rfl ?_
  refine s_pass rfl ?_
  refine s_pass rfl ?_
  refine s_pure (.bool false) (fun _ q => q) ?_
  refine s_pure (.bool false) (fun _ q => q) ?_
  refine s_splitN rfl (by simp) ?_
  refine s_pass rfl ?_
  refine s_pass rfl ?_
  refine s_pass rfl ?_
  refine s_pass rfl ?_
  refine s_pass rfl ?_
  refine s_pass rfl ?_
  refine s_pure (.bool false) (fun _ q => q) ?_
  refine s_pure (.bool false) (fun _ q => q) ?_
  refine s_splitN rfl (by simp) ?_
  refine s_pass rfl ?_
  refine s_pass rfl ?_
  refine s_pass rfl ?_
  refine s_pass rfl ?_
  refine s_pure (.bool false) (fun _ q => q) ?_
  refine s_pure (.bool false) (fun _ q => q) ?_
  refine s_splitN rfl (by simp) ?_
  refine s_pass rfl ?_
  refine s_pass rfl ?_
  refine s_pass rfl ?_
  refine s_pure (.bool false) (fun _ q => q) ?_
  refine s_pure (.bool false) (fun _ q => q) ?_
  refine s_nil ?_
  refine p_seqN ?_
  refine v_ret ?_
  refine p_ret [.bool false] (.bool false) (fun _ q => q) rfl ?_
  have ho : decide (PkOk p) = false := by unfold PkOk; simp [*]; try omega
  exact ⟨by first | (rw [ho]; done) | rfl, E3⟩

end Go.Proofs.Ytjmcijcdncgaiaa


/- Rows of elements that each hold a slice of their own. Condition: none. -/
namespace Go.Vc
set_option linter.all false

/-- An element that holds a slice, and what this holds. -/
class Inn (γ : Type) (β : outParam Type) where
 sv : γ → SV
 sig : γ → List β

section
variable {γ β : Type} [Enc γ] [Enc β] [Inn γ β] {h h' : Heap} {v v' : Value} {ps : List γ} {lo : Nat}

/-- the blocks of a row and of its elements' slices -/
def fpts (v : Value) (ps : List γ) : List Nat := blks v ++ ps.flatMap fun p => blks (Inn.sv p).v
theorem mem_fpts {b : Nat} : b ∈ fpts v ps ↔ b ∈ blks v ∨ ∃ p ∈ ps, b ∈ blks (Inn.sv p).v := by simp [fpts]

structure DeepO (h : Heap) (v : Value) (ps : List γ) (lo : Nat) : Prop where
 row : SlO h v ps
 ins : ∀ p ∈ ps, SlO h (Inn.sv p).v (Inn.sig p)
 fr : ∀ b ∈ fpts v ps, lo ≤ b
 off : ∀ p ∈ ps, ∀ b ∈ blks (Inn.sv p).v, b ∉ blks v
 apart : ps.Pairwise fun p q => ∀ b ∈ blks (Inn.sv p).v, b ∉ blks (Inn.sv q).v

theorem DeepO.lt (D : DeepO h v ps lo) : ∀ b ∈ fpts v ps, b < h.size := by
  intro b hb
  rcases mem_fpts.1 hb with hb | ⟨p, hp, hb⟩
  · exact D.row.lt b hb
  · exact (D.ins p hp).lt b hb
theorem DeepO.frV (D : DeepO h v ps lo) : Fr lo v := fun b hb => D.fr b (mem_fpts.2 (.inl hb))
theorem DeepO.mono (D : DeepO h v ps lo) {lo' : Nat} (hl : lo' ≤ lo) : DeepO h v ps lo' := ⟨D.row, D.ins, fun b hb => Nat.le_trans hl (D.fr b hb), D.off, D.apart⟩
theorem DeepO.insL (D : DeepO h v ps lo) : ∀ p ∈ ps, Sl h (Inn.sv p).v (Inn.sig p) := fun p hp => (D.ins p hp).toSl
theorem DeepO.keep (D : DeepO h v ps lo) (hk : ∀ b ∈ fpts v ps, h'[b]? = h[b]?) : DeepO h' v ps lo :=
 ⟨D.row.keep fun b hb => hk b (mem_fpts.2 (.inl hb)), fun p hp => (D.ins p hp).keep fun b hb => hk b (mem_fpts.2 (.inr ⟨p, hp, hb⟩)), D.fr, D.off, D.apart⟩
theorem DeepO.ext (D : DeepO h v ps lo) (e : Ext h h') : DeepO h' v ps lo := D.keep fun b hb => e.blk b (D.lt b hb)
theorem DeepO.mod (D : DeepO h v ps lo) {bs : List Nat} (m : Mod bs h h') (hd : ∀ b ∈ fpts v ps, b ∉ bs) : DeepO h' v ps lo := D.keep fun b hb => m.blk b (D.lt b hb) (hd b hb)
theorem DeepO.nil (h : Heap) (lo : Nat) : DeepO h (.slice none 0 0) ([] : List γ) lo :=
 ⟨SlX.nil true h, by simp, by simp [fpts, blks], by simp, List.Pairwise.nil⟩
/-- one more element behind the last; its slice is its own -/
theorem DeepO.snoc (D : DeepO h v ps lo) {e : γ} (se : SlO h (Inn.sv e).v (Inn.sig e)) (fe : Fr lo (Inn.sv e).v) (ap : ∀ b ∈ blks (Inn.sv e).v, b ∉ fpts v ps) (hlo : lo ≤ h.size)
    (m : Mod (blks v) h h') (s' : SlO h' v' (ps ++ [e])) (ab : ∀ b ∈ blks v', b ∈ blks v ∨ h.size ≤ b) : DeepO h' v' (ps ++ [e]) lo := by
  have hlt := D.lt
  refine ⟨s', fun p hp => ?_, fun b hb => ?_, fun p hp b hb hc => ?_, ?_⟩
  · rcases List.mem_append.1 hp with hp | hp
    · exact (D.ins p hp).mod m (D.off p hp)
    · obtain rfl := List.mem_singleton.1 hp
      exact se.mod m (fun b hb hc => ap b hb (mem_fpts.2 (.inl hc)))
  · rcases mem_fpts.1 hb with hb2 | ⟨p, hp, hb2⟩
    · rcases ab b hb2 with h1 | h1
      · exact D.frV b h1
      · omega
    · rcases List.mem_append.1 hp with hp | hp
      · exact D.fr b (mem_fpts.2 (.inr ⟨p, hp, hb2⟩))
      · obtain rfl := List.mem_singleton.1 hp
        exact fe b hb2
  · rcases List.mem_append.1 hp with hp | hp
    · rcases ab b hc with h1 | h1
      · exact D.off p hp b hb h1
      · have := hlt b (mem_fpts.2 (.inr ⟨p, hp, hb⟩)); omega
    · obtain rfl := List.mem_singleton.1 hp
      rcases ab b hc with h1 | h1
      · exact ap b hb (mem_fpts.2 (.inl h1))
      · have := se.lt b hb; omega
  · rw [List.pairwise_append]
    refine ⟨D.apart, List.pairwise_singleton _ _, fun p hp q hq b hb hc => ?_⟩
    obtain rfl := List.mem_singleton.1 hq
    exact ap b hc (mem_fpts.2 (.inr ⟨p, hp, hb⟩))

theorem DeepO.snocOut {e : γ} {b n : Nat} (ab : ∀ b ∈ blks v', b ∈ blks v ∨ n ≤ b) (h1 : b ∉ fpts v ps) (h2 : b ∉ blks (Inn.sv e).v) (h3 : b < n) : b ∉ fpts v' (ps ++ [e]) := by
  intro hc
  rcases mem_fpts.1 hc with hc2 | ⟨p, hp, hc2⟩
  · rcases ab b hc2 with h4 | h4
    · exact h1 (mem_fpts.2 (.inl h4))
    · omega
  · rcases List.mem_append.1 hp with hp | hp
    · exact h1 (mem_fpts.2 (.inr ⟨p, hp, hc2⟩))
    · obtain rfl := List.mem_singleton.1 hp
      exact h2 hc2

/-- one element laid anew into its place; its slice is its own -/
theorem DeepO.set (D : DeepO h v ps lo) {e : γ} {k : Nat} (se : SlO h (Inn.sv e).v (Inn.sig e)) (fe : Fr lo (Inn.sv e).v) (ap : ∀ b ∈ blks (Inn.sv e).v, b ∉ fpts v ps)
    (m : Mod (blks v) h h') (s' : SlO h' v (ps.set k e)) : DeepO h' v (ps.set k e) lo := by
  refine ⟨s', fun p hp => ?_, fun b hb => ?_, fun p hp b hb hc => ?_, ?_⟩
  · rcases List.mem_or_eq_of_mem_set hp with hp | rfl
    · exact (D.ins p hp).mod m (D.off p hp)
    · exact se.mod m (fun b hb hc => ap b hb (mem_fpts.2 (.inl hc)))
  · rcases mem_fpts.1 hb with hb2 | ⟨p, hp, hb2⟩
    · exact D.frV b hb2
    · rcases List.mem_or_eq_of_mem_set hp with hp | rfl
      · exact D.fr b (mem_fpts.2 (.inr ⟨p, hp, hb2⟩))
      · exact fe b hb2
  · rcases List.mem_or_eq_of_mem_set hp with hp | rfl
    · exact D.off p hp b hb hc
    · exact ap b hb (mem_fpts.2 (.inl hc))
  · rw [List.pairwise_iff_getElem]
    intro i j hi hj hij b hb hc
    rw [List.length_set] at hi hj
    rw [List.getElem_set] at hb hc
    have hA := List.pairwise_iff_getElem.1 D.apart i j hi hj hij
    split at hb
    · split at hc
      · omega
      · exact ap b hb (mem_fpts.2 (.inr ⟨_, List.getElem_mem hj, hc⟩))
    · split at hc
      · exact ap b hc (mem_fpts.2 (.inr ⟨_, List.getElem_mem hi, hb⟩))
      · exact hA b hb hc

end

/-- a row of rows -/
structure RowI where
  sv : SV
  sig : List Int
instance : Enc RowI := ⟨1, fun p => [.slice p.sv.a p.sv.n p.sv.c], fun _ => rfl, by decide, fun _ _ h => by simp at h; subst h; rfl⟩
instance : Inn RowI Int := ⟨RowI.sv, RowI.sig⟩
end Go.Vc


/- The laws' helpers on rows of packets. Condition: none. Printed in part by a program. -/
namespace Go.Proofs.Ytjmcijcdncgaiaa
open Go.Vc
set_option linter.all false

structure Pk where
 message : Int
 part : Int
 parts : Int
 sv : SV
 sig : List Int
instance : Enc Pk := ⟨4, fun p => [.int .i64 p.message, .int .i64 p.part, .int .i64 p.parts, .slice p.sv.a p.sv.n p.sv.c], fun _ => rfl, by decide, fun a u h => by simp at h; rcases h with rfl | rfl | rfl | rfl <;> rfl⟩
instance : Inn Pk Int := ⟨Pk.sv, Pk.sig⟩
abbrev Pk.p (p : Pk) : PkP := ⟨p.message, p.part, p.parts, p.sig⟩
theorem map_take {α β : Type} (f : α → β) (l : List α) (k : Nat) : (l.take k).map f = (l.map f).take k := List.map_take
theorem map_get {α β : Type} {f : α → β} {l : List α} {k : Nat} {x : α} (h : l[k]? = some x) : (l.map f)[k]? = some (f x) := by simp [h]
theorem take_ext {α : Type} {xs ys : List α} {k : Nat} {x y : α} (h : xs.take k = ys.take k) (hx : xs[k]? = some x) (hy : ys[k]? = some y) (e : x = y) : xs.take (k + 1) = ys.take (k + 1) := by
 rw [snoc_get hx, snoc_get hy, h, e]
theorem get_ne {α : Type} {xs ys : List α} {k : Nat} {x y : α} (hx : xs[k]? = some x) (hy : ys[k]? = some y) (e : ¬ x = y) : ¬ xs = ys := by
 intro h; subst h; rw [hx] at hy; exact e (Option.some.inj hy)
end Go.Proofs.Ytjmcijcdncgaiaa


/- The laws' helpers on rows of rows of numbers. Condition: none. Printed in part by a program. -/
namespace Go.Proofs.Ytjmcijcdncgaiaa
open Go.Vc
set_option linter.all false

end Go.Proofs.Ytjmcijcdncgaiaa


/- Rows of packets as they come in. Condition: none. Printed in part by a program. -/
namespace Go.Proofs.Ytjmcijcdncgaiaa
open Go.Vc
set_option linter.all false

def PksOk (l : List PkP) : Prop := l.length ≤ 40 ∧ ∀ p ∈ l, PkOk p
noncomputable instance (l : List PkP) : Decidable (PksOk l) := Classical.propDecidable _
theorem pks_long {l : List Pk} (h : ¬ l.length ≤ 40) : decide (PksOk (l.map Pk.p)) = false := by
 simp only [decide_eq_false_iff_not]; intro ha; exact h (by simpa using ha.1)
theorem pks_bad {l : List Pk} {k : Nat} {x : Pk} (hx : l[k]? = some x) (h : ¬ PkOk x.p) : decide (PksOk (l.map Pk.p)) = false := by
 simp only [decide_eq_false_iff_not]; intro ha; exact h (ha.2 _ (List.mem_map_of_mem (List.mem_of_getElem? hx)))
theorem all_snoc {l : List Pk} {k : Nat} {x : Pk} {P : PkP → Prop} (h : ∀ p ∈ l.take k, P p.p) (hx : l[k]? = some x) (hp : P x.p) : ∀ p ∈ l.take (k + 1), P p.p := by
  rw [snoc_get hx]
  intro p hm
  rcases List.mem_append.1 hm with hm | hm
  · exact h p hm
  · obtain rfl := List.mem_singleton.1 hm; exact hp
theorem pks_end {l : List Pk} {k : Nat} {b : Bool} (hk : ¬ (k : Int) < (l.length : Int)) (h : ∀ p ∈ l.take k, PkOk p.p) (hb : b = true ↔ l.length ≤ 40) : decide (PksOk (l.map Pk.p)) = b := by
  rw [take_all hk] at h
  cases b
  · exact pks_long (fun hc => by have := hb.2 hc; cases this)
  · simp only [decide_eq_true_eq]
    refine ⟨by simpa using hb.1 rfl, fun p hp => ?_⟩
    obtain ⟨q, hq, rfl⟩ := List.mem_map.1 hp
    exact h q hq

theorem spec_pkAll_ok (v_l : Value) (l : List Pk) (d_l : List (PkP)) (h : Heap) (s_l : Sl h v_l l) (in_l : ∀ p ∈ l, Sl h p.sv.v p.sig) (hd_l : l.map Pk.p = d_l) : Cn f_spec_pkAll [v_l] h fun v h' => v = .bool (decide (PksOk d_l)) ∧ Ext h h' := by
 subst hd_l
 have lt_l := s_l.lt
 have l63_l := s_l.len63
 have inlt_l := fun p hp => (in_l p hp).lt
 refine calls_of r_spec_pkAll ?_
 refine v_seq ?_
 refine v_ops ?_
 refine s_pure (.bool false) (fun _ q => q) ?_
 refine s_nil ?_
 refine p_seqN ?_
 refine v_seq ?_
 refine v_seq ?_
 refine v_ops ?_
 refine s_pure v_l (fun _ q => q) ?_
 refine s_pure (.int .i64 (l.length : Int)) (fun _ q => s_l.lenVC q) ?_
 refine s_pure (.int .i64 0) (fun _ q => q) ?_
 refine s_nil ?_
 refine p_seqN ?_
 refine v_block ?_
 refine v_loop1 (α := Nat) (fun k => [(0, v_l), (5, v_l), (6, .int .i64 (l.length : Int)), (7, .int .i64 (k : Int))]) (fun k hh => Ext h hh ∧ k ≤ l.length ∧ ∀ p ∈ l.take k, PkOk p.p) (fun k => l.length - k) 0 ⟨rfl, rfl, rfl, rfl⟩ ⟨(Ext.refl h), (by simp)⟩ ?_
 rintro k R2 h1 ⟨Eh, ⟨hk, hall⟩⟩
 have zEh := Eh.size
 have f4 := s_l.ext Eh
 have in5 := fun p hp => (in_l p hp).ext Eh
 refine v_seq ?_
 refine v_ops ?_
 refine s_pure (.bool (decide ((k : Int) < (l.length : Int)))) (fun _ q => q) ?_
 refine s_nil ?_
 refine p_seqN ?_
 refine v_seq ?_
 refine v_cond rfl (fun c6 => ?_) (fun c6 => ?_)
 ·
  refine v_skip ?_
  refine p_seqN ?_
  refine v_seq ?_
  refine v_block ?_
  refine v_seq ?_
  refine v_ops ?_
  have hk7 : k < l.length := (by first | omega | (simp; omega))
  obtain ⟨x8, hx8⟩ : ∃ x, l[k]? = some x := ⟨_, List.getElem?_eq_getElem hk7⟩
  refine s_pure (.pointer (some ⟨sblk v_l, soff v_l + k * 4, none⟩)) (fun _ q => f4.idx (k := k) rfl hk7 q) ?_
  have s9 := in5 x8 (List.mem_of_getElem? hx8)
  refine s_load (.agg #[.int .i64 x8.message, .int .i64 x8.part, .int .i64 x8.parts, x8.sv.v]) (fun _ q => f4.loadN hx8 rfl q) ?_
  refine s_new (fun h11 b10 hbb10 hzb10 eh11 bxb10 => ?_)
  have E12 := Eh.trans eh11
  have z13 := eh11.size
  have lbb10 := bxb10.lt
  refine s_stBx (.agg #[.int .i64 x8.message, .int .i64 x8.part, .int .i64 x8.parts, x8.sv.v]) [.int .i64 x8.message, .int .i64 x8.part, .int .i64 x8.parts, x8.sv.v] [.int .i64 x8.message, .int .i64 x8.part, .int .i64 x8.parts, x8.sv.v] bxb10 rfl rfl rfl rfl (by simp) (all_cons rfl (all_cons rfl (all_cons rfl (all_cons s9.one1 all_nil)))) rfl (fun h14 mh14 sh14 bxx15 => ?_)
  have E16 := E12.mod mh14 (fun b hb => by simp at hb; omega)
  refine s_nil ?_
  refine p_seqN ?_
  refine v_seq ?_
  refine v_ops ?_
  refine s_load (.agg #[.int .i64 x8.message, .int .i64 x8.part, .int .i64 x8.parts, x8.sv.v]) (fun _ q => bxx15.loadA rfl q) ?_
  have f17 := ((s9.ext eh11).mod mh14 (fun b hb hc => by simp at hc; have := (inlt_l x8 (List.mem_of_getElem? hx8)) b hb; omega))
  refine s_call [.agg #[.int .i64 x8.message, .int .i64 x8.part, .int .i64 x8.parts, x8.sv.v]] rfl (spec_pkGood_ok (Pk.p x8) x8.sv.v _ f17) ?_
  rintro _ h18 ⟨rfl, eh18⟩
  have E19 := E16.trans eh18
  have z20 := eh18.size
  refine s_pure (.bool (!decide (PkOk (Pk.p x8)))) (fun _ q => q) ?_
  refine s_nil ?_
  refine p_seqN ?_
  refine v_cond rfl (fun c21 => ?_) (fun c21 => ?_)
  ·
   refine v_seq ?_
   refine v_ops ?_
   refine s_pure (.bool false) (fun _ q => q) ?_
   refine s_nil ?_
   refine p_seqN ?_
   refine v_ret ?_
   refine p_blkR ?_
   refine p_seqR ?_
   refine p_lpR ?_
   refine p_blkR ?_
   refine p_seqR ?_
   refine p_ret [.bool false] (.bool false) (fun _ q => q) rfl ?_
   have ho : decide (PksOk (l.map Pk.p)) = false := by first | exact pks_bad (by assumption) (by assumption) | exact pks_end (by assumption) hall (by simp; omega)
   exact ⟨by first | (rw [ho]; done) | rfl, E19⟩
  ·
   have c21 := Classical.not_not.1 c21
   refine v_skip ?_
   refine p_blkN ?_
   refine p_seqN ?_
   refine v_ops ?_
   refine s_pure (.int .i64 ((k : Int) + 1)) (fun _ q => ArithVC.mk (by omega) q) ?_
   refine s_pure (.int .i64 ((k : Int) + 1)) (fun _ q => q) ?_
   refine s_nil ?_
   exact p_lpN ⟨k + 1, ⟨rfl, rfl, rfl, rfl⟩, ⟨E19, (by exact ⟨by omega, all_snoc hall (by assumption) (by assumption)⟩)⟩, by omega⟩
 ·
  refine v_exit ?_
  refine p_seqX ?_
  refine p_lpX ?_
  refine p_blkX ?_
  refine p_seqN ?_
  refine v_seq ?_
  refine v_ops ?_
  refine s_pure v_l (fun _ q => q) ?_
  refine s_pure (.int .i64 (l.length : Int)) (fun _ q => f4.lenVC q) ?_
  refine s_pure (.bool (decide ((l.length : Int) ≤ 40))) (fun _ q => q) ?_
  refine s_pure (.bool (decide ((l.length : Int) ≤ 40))) (fun _ q => q) ?_
  refine s_nil ?_
  refine p_seqN ?_
  refine v_ret ?_
  refine p_ret [.bool (decide ((l.length : Int) ≤ 40))] (.bool (decide ((l.length : Int) ≤ 40))) (fun _ q => q) rfl ?_
  have ho : decide (PksOk (l.map Pk.p)) = (decide ((l.length : Int) ≤ 40)) := by first | exact pks_bad (by assumption) (by assumption) | exact pks_end (by assumption) hall (by simp; omega)
  exact ⟨by first | (rw [ho]; done) | rfl, Eh⟩

theorem drop_at {α : Type} {l : List α} {k : Nat} {x : α} (h : l[k]? = some x) : l.drop k = x :: l.drop (k + 1) := by
 have hk := (List.getElem?_eq_some_iff.1 h).1
 rw [List.drop_eq_getElem_cons hk, (List.getElem?_eq_some_iff.1 h).2]
theorem slices_IndexFunc_Limpl_Packet_impl_Packet_ok (v_l : Value) (l : List Pk) (g : Nat) (fs cs : Array Value) (p : Pk → Bool) (h : Heap) (s_l : Sl h v_l l) (in_l : ∀ p ∈ l, Sl h p.sv.v p.sig) (hc : ∀ x ∈ l, ∀ h2, Ext h h2 → Cn g (fs.toList ++ [.agg #[.int .i64 x.message, .int .i64 x.part, .int .i64 x.parts, x.sv.v]] ++ cs.toList) h2 fun r h' => r = .bool (p x) ∧ Ext h2 h') : Cn f_slices_IndexFunc_Limpl_Packet_impl_Packet [v_l, .func (.func g) fs cs] h fun v h' => v = .int .i64 (firstF p l 0) ∧ Ext h h' := by
 have lt_l := s_l.lt
 have l63_l := s_l.len63
 have inlt_l := fun p hp => (in_l p hp).lt
 refine calls_of r_slices_IndexFunc_Limpl_Packet_impl_Packet ?_
 refine v_seq ?_
 refine v_ops ?_
 refine s_pure (.int .i64 0) (fun _ q => q) ?_
 refine s_nil ?_
 refine p_seqN ?_
 refine v_seq ?_
 refine v_seq ?_
 refine v_ops ?_
 refine s_pure v_l (fun _ q => q) ?_
 refine s_pure (.int .i64 (l.length : Int)) (fun _ q => s_l.lenVC q) ?_
 refine s_pure (.int .i64 0) (fun _ q => q) ?_
 refine s_nil ?_
 refine p_seqN ?_
 refine v_block ?_
 refine v_loop1 (α := Nat) (fun k => [(0, v_l), (1, .func (.func g) fs cs), (7, .int .i64 (l.length : Int)), (8, .int .i64 (k : Int))]) (fun k hh => Ext h hh ∧ k ≤ l.length ∧ firstF p l 0 = firstF p (l.drop k) k) (fun k => l.length - k) 0 ⟨rfl, rfl, rfl, rfl⟩ ⟨(Ext.refl h), (by simp)⟩ ?_
 rintro k R2 h1 ⟨Eh, ⟨hk, hF⟩⟩
 have zEh := Eh.size
 have f4 := s_l.ext Eh
 have in5 := fun p hp => (in_l p hp).ext Eh
 refine v_seq ?_
 refine v_ops ?_
 refine s_pure (.bool (decide ((k : Int) < (l.length : Int)))) (fun _ q => q) ?_
 refine s_nil ?_
 refine p_seqN ?_
 refine v_seq ?_
 refine v_cond rfl (fun c6 => ?_) (fun c6 => ?_)
 ·
  refine v_skip ?_
  refine p_seqN ?_
  refine v_seq ?_
  refine v_block ?_
  refine v_seq ?_
  refine v_ops ?_
  refine s_pure (.int .i64 (k : Int)) (fun _ q => q) ?_
  refine s_pure (.int .i64 (k : Int)) (fun _ q => q) ?_
  refine s_nil ?_
  refine p_seqN ?_
  refine v_seq ?_
  refine v_ops ?_
  refine s_pure (.func (.func g) fs cs) (fun _ q => q) ?_
  refine s_pure v_l (fun _ q => q) ?_
  refine s_pure (.int .i64 (k : Int)) (fun _ q => q) ?_
  have hk7 : k < l.length := (by first | omega | (simp; omega))
  obtain ⟨x8, hx8⟩ : ∃ x, l[k]? = some x := ⟨_, List.getElem?_eq_getElem hk7⟩
  refine s_pure (.pointer (some ⟨sblk v_l, soff v_l + k * 4, none⟩)) (fun _ q => f4.idx (k := k) rfl hk7 q) ?_
  have s9 := in5 x8 (List.mem_of_getElem? hx8)
  refine s_load (.agg #[.int .i64 x8.message, .int .i64 x8.part, .int .i64 x8.parts, x8.sv.v]) (fun _ q => f4.loadN hx8 rfl q) ?_
  refine s_callv (fs.toList ++ [.agg #[.int .i64 x8.message, .int .i64 x8.part, .int .i64 x8.parts, x8.sv.v]] ++ cs.toList) rfl rfl (hc x8 (List.mem_of_getElem? hx8) _ Eh) ?_
  rintro _ h10 ⟨rfl, eh10⟩
  have E11 := Eh.trans eh10
  have z12 := eh10.size
  refine s_nil ?_
  refine p_seqN ?_
  refine v_cond rfl (fun c13 => ?_) (fun c13 => ?_)
  ·
   refine v_seq ?_
   refine v_ops ?_
   refine s_pure (.int .i64 (k : Int)) (fun _ q => q) ?_
   refine s_pure (.int .i64 (k : Int)) (fun _ q => q) ?_
   refine s_nil ?_
   refine p_seqN ?_
   refine v_ret ?_
   refine p_blkR ?_
   refine p_seqR ?_
   refine p_lpR ?_
   refine p_blkR ?_
   refine p_seqR ?_
   refine p_ret [.int .i64 (k : Int)] (.int .i64 (k : Int)) (fun _ q => q) rfl ?_
   have ho : firstF p l 0 = (k : Int) := by first | (rw [hF, drop_at (by assumption), firstF]; simp [*]; done) | (rw [hF, List.drop_of_length_le (by omega), firstF])
   exact ⟨by first | (rw [ho]; done) | rfl, E11⟩
  ·
   refine v_skip ?_
   refine p_blkN ?_
   refine p_seqN ?_
   refine v_ops ?_
   refine s_pure (.int .i64 ((k : Int) + 1)) (fun _ q => ArithVC.mk (by omega) q) ?_
   refine s_pure (.int .i64 ((k : Int) + 1)) (fun _ q => q) ?_
   refine s_nil ?_
   exact p_lpN ⟨k + 1, ⟨rfl, rfl, rfl, rfl⟩, ⟨E11, (by exact ⟨by omega, by rw [hF, drop_at (by assumption), firstF]; simp [*]⟩)⟩, by omega⟩
 ·
  refine v_exit ?_
  refine p_seqX ?_
  refine p_lpX ?_
  refine p_blkX ?_
  refine p_seqN ?_
  refine v_seq ?_
  refine v_ops ?_
  refine s_pure (.int .i64 (-1)) (fun _ q => q) ?_
  refine s_nil ?_
  refine p_seqN ?_
  refine v_ret ?_
  refine p_ret [.int .i64 (-1)] (.int .i64 (-1)) (fun _ q => q) rfl ?_
  have ho : firstF p l 0 = (-1) := by first | (rw [hF, drop_at (by assumption), firstF]; simp [*]; done) | (rw [hF, List.drop_of_length_le (by omega), firstF])
  exact ⟨by first | (rw [ho]; done) | rfl, Eh⟩

theorem slices_ContainsFunc_Limpl_Packet_impl_Packet_ok (v_l : Value) (l : List Pk) (g : Nat) (fs cs : Array Value) (p : Pk → Bool) (h : Heap) (s_l : Sl h v_l l) (in_l : ∀ p ∈ l, Sl h p.sv.v p.sig) (hc : ∀ x ∈ l, ∀ h2, Ext h h2 → Cn g (fs.toList ++ [.agg #[.int .i64 x.message, .int .i64 x.part, .int .i64 x.parts, x.sv.v]] ++ cs.toList) h2 fun r h' => r = .bool (p x) ∧ Ext h2 h') : Cn f_slices_ContainsFunc_Limpl_Packet_impl_Packet [v_l, .func (.func g) fs cs] h fun v h' => v = .bool (l.any p) ∧ Ext h h' := by
 have lt_l := s_l.lt
 have l63_l := s_l.len63
 have inlt_l := fun p hp => (in_l p hp).lt
 refine calls_of r_slices_ContainsFunc_Limpl_Packet_impl_Packet ?_
 refine v_seq ?_
 refine v_ops ?_
 refine s_pure (.bool false) (fun _ q => q) ?_
 refine s_nil ?_
 refine p_seqN ?_
 refine v_seq ?_
 refine v_ops ?_
 refine s_pure v_l (fun _ q => q) ?_
 refine s_pure (.func (.func g) fs cs) (fun _ q => q) ?_
 refine s_call [v_l, .func (.func g) fs cs] rfl (slices_IndexFunc_Limpl_Packet_impl_Packet_ok v_l l g fs cs p _ s_l in_l hc) ?_
 rintro _ h1 ⟨rfl, eh1⟩
 have E2 := (Ext.refl h).trans eh1
 have z3 := eh1.size
 refine s_pure (.bool (decide ((firstF p l 0) ≥ 0))) (fun _ q => q) ?_
 refine s_pure (.bool (decide ((firstF p l 0) ≥ 0))) (fun _ q => q) ?_
 refine s_nil ?_
 refine p_seqN ?_
 refine v_ret ?_
 refine p_ret [.bool (decide ((firstF p l 0) ≥ 0))] (.bool (decide ((firstF p l 0) ≥ 0))) (fun _ q => q) rfl ?_
 have ho : l.any p = (decide ((firstF p l 0) ≥ 0)) := by rw [Bool.eq_iff_iff, decide_eq_true_eq]; exact (firstF_nonneg p l 0).symm
 exact ⟨by first | (rw [ho]; done) | rfl, E2⟩

theorem impl_ArePackets_1_ok (p : PkP) (v_p_signals : Value) (h : Heap) (s_p_signals : Sl h v_p_signals p.signals) : Cn f_impl_ArePackets_1 [.agg #[.int .i64 p.message, .int .i64 p.part, .int .i64 p.parts, v_p_signals]] h fun v h' => v = .bool (!decide (PkOk p)) ∧ Ext h h' := by
 have lt_p_signals := s_p_signals.lt
 have l63_p_signals := s_p_signals.len63
 refine calls_of r_impl_ArePackets_1 ?_
 refine v_seq ?_
 refine v_ops ?_
 refine s_box [.int .i64 p.message, .int .i64 p.part, .int .i64 p.parts, v_p_signals] rfl (fun h2 b1 hbb1 hzb1 eh2 bxb1 => ?_)
 have E3 := (Ext.refl h).trans eh2
 have z4 := eh2.size
 have lbb1 := bxb1.lt
 refine s_pure (.bool false) (fun _ q => q) ?_
 refine s_nil ?_
 refine p_seqN ?_
 refine v_seq ?_
 refine v_ops ?_
 refine s_load (.agg #[.int .i64 p.message, .int .i64 p.part, .int .i64 p.parts, v_p_signals]) (fun _ q => bxb1.loadA rfl q) ?_
 have f5 := (s_p_signals.ext eh2)
 refine s_call [.agg #[.int .i64 p.message, .int .i64 p.part, .int .i64 p.parts, v_p_signals]] rfl (impl_IsPacket_ok p v_p_signals _ f5) ?_
 rintro _ h6 ⟨rfl, eh6⟩
 have E7 := E3.trans eh6
 have z8 := eh6.size
 refine s_pure (.bool (!decide (PkOk p))) (fun _ q => q) ?_
 refine s_pure (.bool (!decide (PkOk p))) (fun _ q => q) ?_
 refine s_nil ?_
 refine p_seqN ?_
 refine v_ret ?_
 refine p_ret [.bool (!decide (PkOk p))] (.bool (!decide (PkOk p))) (fun _ q => q) rfl ?_
 have ho : (!decide (PkOk p)) = (!decide (PkOk p)) := by rfl
 exact ⟨by first | (rw [ho]; done) | rfl, E7⟩

theorem impl_ArePackets_ok (v_l : Value) (l : List Pk) (d_l : List (PkP)) (h : Heap) (s_l : Sl h v_l l) (in_l : ∀ p ∈ l, Sl h p.sv.v p.sig) (hd_l : l.map Pk.p = d_l) : Cn f_impl_ArePackets [v_l] h fun v h' => v = .bool (decide (PksOk d_l)) ∧ Ext h h' := by
 subst hd_l
 have lt_l := s_l.lt
 have l63_l := s_l.len63
 have inlt_l := fun p hp => (in_l p hp).lt
 refine calls_of r_impl_ArePackets ?_
 refine v_seq ?_
 refine v_ops ?_
 refine s_pure (.bool false) (fun _ q => q) ?_
 refine s_nil ?_
 refine p_seqN ?_
 refine v_seq ?_
 refine v_ops ?_
 refine s_pure v_l (fun _ q => q) ?_
 refine s_pure (.int .i64 (l.length : Int)) (fun _ q => s_l.lenVC q) ?_
 refine s_pure (.bool (decide ((l.length : Int) ≤ 40))) (fun _ q => q) ?_
 refine s_pure (.bool (decide ((l.length : Int) ≤ 40))) (fun _ q => q) ?_
 refine s_splitT rfl (fun c1 => ?_) (fun c1 => ?_)
 ·
  refine s_run rfl ?_
  refine s_pure v_l (fun _ q => q) ?_
  refine s_run rfl ?_
  refine s_call [v_l, .func (.func 58) #[] #[]] rfl (slices_ContainsFunc_Limpl_Packet_impl_Packet_ok v_l l 58 #[] #[] (fun x : Pk => (!decide (PkOk x.p))) _ s_l in_l (fun x hx h2 e2 => impl_ArePackets_1_ok x.p x.sv.v h2 ((in_l x hx).ext e2))) ?_
  rintro _ h2 ⟨rfl, eh2⟩
  have E3 := (Ext.refl h).trans eh2
  have z4 := eh2.size
  refine s_run rfl ?_
  refine s_pure (.bool (!(l.any (fun x : Pk => (!decide (PkOk x.p)))))) (fun _ q => q) ?_
  refine s_pure (.bool (!(l.any (fun x : Pk => (!decide (PkOk x.p)))))) (fun _ q => q) ?_
  refine s_pure (.bool (!(l.any (fun x : Pk => (!decide (PkOk x.p)))))) (fun _ q => q) ?_
  refine s_nil ?_
  refine p_seqN ?_
  refine v_ret ?_
  refine p_ret [.bool (!(l.any (fun x : Pk => (!decide (PkOk x.p)))))] (.bool (!(l.any (fun x : Pk => (!decide (PkOk x.p)))))) (fun _ q => q) rfl ?_
  have ho : decide (PksOk (l.map Pk.p)) = (!(l.any (fun x : Pk => (!decide (PkOk x.p))))) := by first | exact pks_long (by omega) | (rw [Bool.eq_iff_iff]; simp [PksOk, *]; try (intro _; omega))
  exact ⟨by first | (rw [ho]; done) | rfl, E3⟩
 ·
  refine s_pass rfl ?_
  refine s_pass rfl ?_
  refine s_pass rfl ?_
  refine s_pure (.bool false) (fun _ q => q) ?_
  refine s_pure (.bool false) (fun _ q => q) ?_
  refine s_nil ?_
  refine p_seqN ?_
  refine v_ret ?_
  refine p_ret [.bool false] (.bool false) (fun _ q => q) rfl ?_
  have ho : decide (PksOk (l.map Pk.p)) = false := by first | exact pks_long (by omega) | (rw [Bool.eq_iff_iff]; simp [PksOk, *]; try (intro _; omega))
  exact ⟨by first | (rw [ho]; done) | rfl, (Ext.refl h)⟩

end Go.Proofs.Ytjmcijcdncgaiaa

