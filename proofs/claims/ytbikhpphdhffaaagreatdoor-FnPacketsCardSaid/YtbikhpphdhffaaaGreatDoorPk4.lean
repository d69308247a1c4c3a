/- Messages split into packets; packets without doubles. Condition: none. Printed in part by a program. -/
import Derived.Test.YtbikhpphdhffaaaGreatDoorPk3
namespace Go.Proofs.YtbikhpphdhffaaaGreatDoor
open Go.Vc
set_option linter.all false

def smPart (sig : List Int) (sz : Int) (k : Nat) : List Int := (sig.take (if (((k : Int) + 1) * sz) < (sig.length : Int) then (((k : Int) + 1) * sz) else (sig.length : Int)).toNat).drop ((k : Int) * sz).toNat
def smL (m : Int) (sig : List Int) (sz n : Int) (k : Nat) : List PkP := (List.range k).map fun (j : Nat) => ⟨m, (j : Int), n, smPart sig sz j⟩
theorem smL_succ (m : Int) (sig : List Int) (sz n : Int) (k : Nat) : smL m sig sz n (k + 1) = smL m sig sz n k ++ [⟨m, (k : Int), n, smPart sig sz k⟩] := by simp [smL, List.range_succ]
def smOk (m : Int) (sig : List Int) (sz : Int) : Prop := (1 ≤ m ∧ m ≤ 999) ∧ (1 ≤ sz ∧ sz ≤ 8) ∧ (sig.length : Int) ≠ 0 ∧ AllIn 1 60 sig ∧ (sig.length : Int) ≤ 9 * sz
noncomputable instance (m : Int) (sig : List Int) (sz : Int) : Decidable (smOk m sig sz) := Classical.propDecidable _
noncomputable def smOut (m : Int) (sig : List Int) (sz : Int) : List PkP × Bool := if smOk m sig sz then (smL m sig sz (((sig.length : Int) + sz - 1) / sz) (((sig.length : Int) + sz - 1) / sz).toNat, true) else ([], false)
theorem sm_no {m : Int} {sig : List Int} {sz : Int} (h : ¬ smOk m sig sz) : smOut m sig sz = ([], false) := by rw [smOut, if_neg h]
theorem sm_div {l sz : Int} (h1 : 1 ≤ sz) (h2 : sz ≤ 8) (h0 : 0 ≤ l) : (l + sz - 1) / sz ≤ 9 ↔ l ≤ 9 * sz := by
  have h3 : (l + sz - 1) / sz < 10 ↔ l + sz - 1 < 10 * sz := Int.ediv_lt_iff_lt_mul (by omega)
  constructor
  · intro h; have := h3.1 (by omega); omega
  · intro h; have := h3.2 (by omega); omega
theorem sm_at {l sz k : Int} (h1 : 1 ≤ sz) (h : k < (l + sz - 1) / sz) : (k + 1) * sz ≤ l + sz - 1 := by
  have := (Int.le_ediv_iff_mul_le (a := k + 1) (b := l + sz - 1) (c := sz) (by omega)).1 (by omega)
  exact this
theorem sm_nonneg {l sz : Int} (h1 : 1 ≤ sz) (h0 : 0 ≤ l) : 0 ≤ (l + sz - 1) / sz := Int.ediv_nonneg (by omega) (by omega)
theorem sm_mul {k : Nat} {sz : Int} (h1 : 1 ≤ sz) : 0 ≤ (k : Int) * sz ∧ ((k : Int) + 1) * sz = (k : Int) * sz + sz := ⟨Int.mul_nonneg (by omega) (by omega), by rw [Int.add_mul, Int.one_mul]⟩
theorem ite_swap (a b : Int) : (if a < b then a else b) = (if b < a then b else a) := by split <;> split <;> omega

theorem slices_Clone_Lint_int_ok (v_l : Value) (l : List Int) (h : Heap) (s_l : Sl h v_l l) (bl : l.length ≤ 2000000) : Cn f_slices_Clone_Lint_int [v_l] h fun v h' => ∃ r0 : Value, v = r0 ∧ SlO h' r0 l ∧ Fr h.size r0 ∧ Ext h h' := by
  have lt_l := s_l.lt
  have l63_l := s_l.len63
  refine calls_of r_slices_Clone_Lint_int ?_
  refine v_seq ?_
  refine v_ops ?_
  refine s_pure (.slice none 0 0) (fun _ q => q) ?_
  refine s_nil ?_
  refine p_seqN ?_
  refine v_seq ?_
  refine v_seq ?_
  refine v_ops ?_
  refine s_pure v_l (fun _ q => q) ?_
  obtain ⟨nb1, nqnb1, hnnb1⟩ := s_l.isNil
  refine s_pure (.bool nb1) (fun K q => nqnb1 false K q) ?_
  refine s_nil ?_
  refine p_seqN ?_
  refine v_cond rfl (fun c2 => ?_) (fun c2 => ?_)
  ·
    refine v_seq ?_
    refine v_ops ?_
    refine s_pure (.slice none 0 0) (fun _ q => q) ?_
    refine s_nil ?_
    refine p_seqN ?_
    refine v_ret ?_
    refine p_seqR ?_
    refine p_ret [.slice none 0 0] (.slice none 0 0) (fun _ q => q) rfl ?_
    have ho : l = [] := by first | exact hnnb1 (by assumption) | simp
    exact ⟨(.slice none 0 0), by first | (rw [ho]; done) | rfl, sl_eq (SlX.nil (α := Int) true _) (congrArg (fun o => o) ho).symm, Fr.nil _, (Ext.refl h)⟩
  ·
    refine v_skip ?_
    refine p_seqN ?_
    refine v_seq ?_
    refine v_ops ?_
    refine s_row (α := Int) [] (fun _ q => seg_nil q) rfl (by simp [maxLen]) (fun r3 h4 eh4 zh4 s_r3 fr_r3 => ?_)
    have E5 := (Ext.refl h).trans eh4
    have z6 := eh4.size
    have lt_r3 := s_r3.lt
    refine s_pure v_l (fun _ q => q) ?_
    have f7 := (s_l.ext eh4)
    refine s_app s_r3 f7 rfl rfl rfl (by simpa using s_l.len_le) (by have := s_l.len_le; simp [maxLen] at *; omega) (fun r8 h9 mh9 zh9 s_r8 ab_r8 => ?_)
    have E10 := E5.mod mh9 (fun b hb => by have := fr_r3 b hb; omega)
    have fr_r8 := fr_r3.app ab_r8 (by omega)
    have lt_r8 := s_r8.lt
    refine s_pure r8 (fun _ q => q) ?_
    refine s_nil ?_
    refine p_seqN ?_
    refine v_ret ?_
    refine p_ret [r8] r8 (fun _ q => q) rfl ?_
    have ho : l = ([] ++ l) := by first | exact hnnb1 (by assumption) | simp
    exact ⟨r8, by first | (rw [ho]; done) | rfl, sl_eq s_r8 (congrArg (fun o => o) ho).symm, fr_r8.mono (by omega), E10⟩

theorem spec_l1Own_ok (v_l : Value) (l : List Int) (h : Heap) (s_l : Sl h v_l l) (bl : l.length ≤ 2000000) : Cn f_spec_l1Own [v_l] h fun v h' => ∃ r0 : Value, v = r0 ∧ SlO h' r0 l ∧ Fr h.size r0 ∧ Ext h h' := by
  have lt_l := s_l.lt
  have l63_l := s_l.len63
  refine calls_of r_spec_l1Own ?_
  refine v_seq ?_
  refine v_ops ?_
  refine s_pure (.slice none 0 0) (fun _ q => q) ?_
  refine s_nil ?_
  refine p_seqN ?_
  refine v_seq ?_
  refine v_ops ?_
  refine s_row (α := Int) [] (fun _ q => seg_nil q) rfl (by simp [maxLen]) (fun r1 h2 eh2 zh2 s_r1 fr_r1 => ?_)
  have E3 := (Ext.refl h).trans eh2
  have z4 := eh2.size
  have lt_r1 := s_r1.lt
  refine s_pure v_l (fun _ q => q) ?_
  have f5 := (s_l.ext eh2)
  refine s_app s_r1 f5 rfl rfl rfl (by simpa using s_l.len_le) (by have := s_l.len_le; simp [maxLen] at *; omega) (fun r6 h7 mh7 zh7 s_r6 ab_r6 => ?_)
  have E8 := E3.mod mh7 (fun b hb => by have := fr_r1 b hb; omega)
  have fr_r6 := fr_r1.app ab_r6 (by omega)
  have lt_r6 := s_r6.lt
  refine s_pure r6 (fun _ q => q) ?_
  refine s_nil ?_
  refine p_seqN ?_
  refine v_ret ?_
  refine p_ret [r6] r6 (fun _ q => q) rfl ?_
  have ho : l = ([] ++ l) := by simp
  exact ⟨r6, by first | (rw [ho]; done) | rfl, sl_eq s_r6 (congrArg (fun o => o) ho).symm, fr_r6.mono (by omega), E8⟩

set_option maxRecDepth 10000 in
set_option maxHeartbeats 4000000 in
theorem impl_SplitMessage_ok (message : Int) (v_signals : Value) (signals : List Int) (size : Int) (h : Heap) (s_signals : Sl h v_signals signals) (bl : signals.length ≤ 1048576) : Cn f_impl_SplitMessage [.int .i64 message, v_signals, .int .i64 size] h fun v h' => ∃ r0 : Value, ∃ qr0 : List Pk, v = .tuple #[r0, .bool ((smOut message signals size).2)] ∧ DeepO h' r0 qr0 h.size ∧ qr0.map Pk.p = (smOut message signals size).1 ∧ Ext h h' := by
  have lt_signals := s_signals.lt
  have l63_signals := s_signals.len63
  refine calls_of r_impl_SplitMessage ?_
  refine v_seq ?_
  refine v_ops ?_
  refine s_pure (.slice none 0 0) (fun _ q => q) ?_
  refine s_pure (.bool false) (fun _ q => q) ?_
  refine s_nil ?_
  refine p_seqN ?_
  refine v_seq ?_
  refine v_seq ?_
  refine v_ops ?_
  refine s_pure (.int .i64 message) (fun _ q => q) ?_
  refine s_callS [.int .i64 message, .int .i64 1, .int .i64 999] (.bool (decide (1 ≤ message ∧ message ≤ 999))) rfl (within_ok message 1 999 _ ) ?_
  refine s_pure (.bool (!(decide (1 ≤ message ∧ message ≤ 999)))) (fun _ q => q) ?_
  refine s_pure (.bool (!(decide (1 ≤ message ∧ message ≤ 999)))) (fun _ q => q) ?_
  refine s_splitT rfl (fun c1 => ?_) (fun c1 => ?_)
  ·
    refine s_pass rfl ?_
    refine s_pass rfl ?_
    refine s_pass rfl ?_
    refine s_pure (.bool true) (fun _ q => q) ?_
    refine s_pure (.bool true) (fun _ q => q) ?_
    refine s_splitY rfl rfl ?_
    refine s_pass rfl ?_
    refine s_pass rfl ?_
    refine s_pass rfl ?_
    refine s_pure (.bool true) (fun _ q => q) ?_
    refine s_pure (.bool true) (fun _ q => q) ?_
    refine s_splitY rfl rfl ?_
    refine s_pass rfl ?_
    refine s_pass rfl ?_
    refine s_pass rfl ?_
    refine s_pure (.bool true) (fun _ q => q) ?_
    refine s_nil ?_
    refine p_seqN ?_
    refine v_condY rfl rfl ?_
    refine v_seq ?_
    refine v_ops ?_
    refine s_pure (.slice none 0 0) (fun _ q => q) ?_
    refine s_pure (.bool false) (fun _ q => q) ?_
    refine s_nil ?_
    refine p_seqN ?_
    refine v_ret ?_
    refine p_seqR ?_
    refine p_ret [.slice none 0 0, .bool false] (.tuple #[.slice none 0 0, .bool false]) (fun _ q => q) rfl ?_
    have ho : smOut message signals size = ([], false) := by first | (exact sm_no (fun hh => absurd hh.1 (by assumption))) | (exact sm_no (fun hh => absurd hh.2.1 (by assumption))) | (exact sm_no (fun hh => hh.2.2.1 (by assumption))) | (exact sm_no (fun hh => absurd hh.2.2.2.1 (by assumption))) | (exact sm_no (fun hh => by (have := (sm_div hh.2.1.1 hh.2.1.2 (by omega)).2 hh.2.2.2.2); omega)) | (rw [smOut, if_pos ⟨by assumption, by assumption, by assumption, by assumption, (sm_div (by omega) (by omega) (by omega)).1 (by omega)⟩, hps]; congr 2; omega)
    exact ⟨(.slice none 0 0), [], by first | (rw [ho]; done) | rfl, DeepO.nil _ _, (congrArg (fun o => o.1) ho).symm, (Ext.refl h)⟩
  ·
    have c1 := Classical.not_not.1 c1
    refine s_run rfl ?_
    refine s_pure (.int .i64 size) (fun _ q => q) ?_
    refine s_run rfl ?_
    refine s_callS [.int .i64 size, .int .i64 1, .int .i64 8] (.bool (decide (1 ≤ size ∧ size ≤ 8))) rfl (within_ok size 1 8 _ ) ?_
    refine s_run rfl ?_
    refine s_pure (.bool (!(decide (1 ≤ size ∧ size ≤ 8)))) (fun _ q => q) ?_
    refine s_pure (.bool (!(decide (1 ≤ size ∧ size ≤ 8)))) (fun _ q => q) ?_
    refine s_pure (.bool (!(decide (1 ≤ size ∧ size ≤ 8)))) (fun _ q => q) ?_
    refine s_splitT rfl (fun c2 => ?_) (fun c2 => ?_)
    ·
      refine s_pass rfl ?_
      refine s_pass rfl ?_
      refine s_pass rfl ?_
      refine s_pure (.bool true) (fun _ q => q) ?_
      refine s_pure (.bool true) (fun _ q => q) ?_
      refine s_splitY rfl rfl ?_
      refine s_pass rfl ?_
      refine s_pass rfl ?_
      refine s_pass rfl ?_
      refine s_pure (.bool true) (fun _ q => q) ?_
      refine s_nil ?_
      refine p_seqN ?_
      refine v_condY rfl rfl ?_
      refine v_seq ?_
      refine v_ops ?_
      refine s_pure (.slice none 0 0) (fun _ q => q) ?_
      refine s_pure (.bool false) (fun _ q => q) ?_
      refine s_nil ?_
      refine p_seqN ?_
      refine v_ret ?_
      refine p_seqR ?_
      refine p_ret [.slice none 0 0, .bool false] (.tuple #[.slice none 0 0, .bool false]) (fun _ q => q) rfl ?_
      have ho : smOut message signals size = ([], false) := by first | (exact sm_no (fun hh => absurd hh.1 (by assumption))) | (exact sm_no (fun hh => absurd hh.2.1 (by assumption))) | (exact sm_no (fun hh => hh.2.2.1 (by assumption))) | (exact sm_no (fun hh => absurd hh.2.2.2.1 (by assumption))) | (exact sm_no (fun hh => by (have := (sm_div hh.2.1.1 hh.2.1.2 (by omega)).2 hh.2.2.2.2); omega)) | (rw [smOut, if_pos ⟨by assumption, by assumption, by assumption, by assumption, (sm_div (by omega) (by omega) (by omega)).1 (by omega)⟩, hps]; congr 2; omega)
      exact ⟨(.slice none 0 0), [], by first | (rw [ho]; done) | rfl, DeepO.nil _ _, (congrArg (fun o => o.1) ho).symm, (Ext.refl h)⟩
    ·
      have c2 := Classical.not_not.1 c2
      refine s_run rfl ?_
      refine s_pure v_signals (fun _ q => q) ?_
      refine s_run rfl ?_
      refine s_pure (.int .i64 (signals.length : Int)) (fun _ q => s_signals.lenVC q) ?_
      refine s_run rfl ?_
      refine s_pure (.bool ((signals.length : Int) == 0)) (fun _ q => q) ?_
      refine s_pure (.bool ((signals.length : Int) == 0)) (fun _ q => q) ?_
      refine s_pure (.bool ((signals.length : Int) == 0)) (fun _ q => q) ?_
      refine s_splitT rfl (fun c3 => ?_) (fun c3 => ?_)
      ·
        refine s_pass rfl ?_
        refine s_pass rfl ?_
        refine s_pass rfl ?_
        refine s_pure (.bool true) (fun _ q => q) ?_
        refine s_nil ?_
        refine p_seqN ?_
        refine v_condY rfl rfl ?_
        refine v_seq ?_
        refine v_ops ?_
        refine s_pure (.slice none 0 0) (fun _ q => q) ?_
        refine s_pure (.bool false) (fun _ q => q) ?_
        refine s_nil ?_
        refine p_seqN ?_
        refine v_ret ?_
        refine p_seqR ?_
        refine p_ret [.slice none 0 0, .bool false] (.tuple #[.slice none 0 0, .bool false]) (fun _ q => q) rfl ?_
        have ho : smOut message signals size = ([], false) := by first | (exact sm_no (fun hh => absurd hh.1 (by assumption))) | (exact sm_no (fun hh => absurd hh.2.1 (by assumption))) | (exact sm_no (fun hh => hh.2.2.1 (by assumption))) | (exact sm_no (fun hh => absurd hh.2.2.2.1 (by assumption))) | (exact sm_no (fun hh => by (have := (sm_div hh.2.1.1 hh.2.1.2 (by omega)).2 hh.2.2.2.2); omega)) | (rw [smOut, if_pos ⟨by assumption, by assumption, by assumption, by assumption, (sm_div (by omega) (by omega) (by omega)).1 (by omega)⟩, hps]; congr 2; omega)
        exact ⟨(.slice none 0 0), [], by first | (rw [ho]; done) | rfl, DeepO.nil _ _, (congrArg (fun o => o.1) ho).symm, (Ext.refl h)⟩
      ·
        refine s_run rfl ?_
        refine s_pure v_signals (fun _ q => q) ?_
        refine s_run rfl ?_
        refine s_callS [v_signals, .int .i64 1, .int .i64 60] (.bool (decide (AllIn 1 60 signals))) rfl (allWithin_ok v_signals signals 1 60 _ s_signals) ?_
        refine s_run rfl ?_
        refine s_pure (.bool (!(decide (AllIn 1 60 signals)))) (fun _ q => q) ?_
        refine s_pure (.bool (!(decide (AllIn 1 60 signals)))) (fun _ q => q) ?_
        refine s_nil ?_
        refine p_seqN ?_
        refine v_cond rfl (fun c4 => ?_) (fun c4 => ?_)
        ·
          refine v_seq ?_
          refine v_ops ?_
          refine s_pure (.slice none 0 0) (fun _ q => q) ?_
          refine s_pure (.bool false) (fun _ q => q) ?_
          refine s_nil ?_
          refine p_seqN ?_
          refine v_ret ?_
          refine p_seqR ?_
          refine p_ret [.slice none 0 0, .bool false] (.tuple #[.slice none 0 0, .bool false]) (fun _ q => q) rfl ?_
          have ho : smOut message signals size = ([], false) := by first | (exact sm_no (fun hh => absurd hh.1 (by assumption))) | (exact sm_no (fun hh => absurd hh.2.1 (by assumption))) | (exact sm_no (fun hh => hh.2.2.1 (by assumption))) | (exact sm_no (fun hh => absurd hh.2.2.2.1 (by assumption))) | (exact sm_no (fun hh => by (have := (sm_div hh.2.1.1 hh.2.1.2 (by omega)).2 hh.2.2.2.2); omega)) | (rw [smOut, if_pos ⟨by assumption, by assumption, by assumption, by assumption, (sm_div (by omega) (by omega) (by omega)).1 (by omega)⟩, hps]; congr 2; omega)
          exact ⟨(.slice none 0 0), [], by first | (rw [ho]; done) | rfl, DeepO.nil _ _, (congrArg (fun o => o.1) ho).symm, (Ext.refl h)⟩
        ·
          have c4 := Classical.not_not.1 c4
          refine v_skip ?_
          refine p_seqN ?_
          refine v_seq ?_
          refine v_ops ?_
          refine s_pure v_signals (fun _ q => q) ?_
          refine s_pure (.int .i64 (signals.length : Int)) (fun _ q => s_signals.lenVC q) ?_
          refine s_pure (.int .i64 size) (fun _ q => q) ?_
          refine s_pure (.int .i64 ((signals.length : Int) + size)) (fun _ q => ArithVC.mk (by omega) q) ?_
          refine s_pure (.int .i64 (((signals.length : Int) + size) - 1)) (fun _ q => ArithVC.mk (by omega) q) ?_
          refine s_pure (.int .i64 size) (fun _ q => q) ?_
          refine s_pure (.int .i64 ((((signals.length : Int) + size) - 1) / size)) (fun _ q => QuoVC.mk (by omega) (by omega) (by omega) q) ?_
          refine s_pure (.int .i64 ((((signals.length : Int) + size) - 1) / size)) (fun _ q => q) ?_
          refine s_nil ?_
          refine p_seqN ?_
          refine v_seq ?_
          refine v_seq ?_
          refine v_ops ?_
          refine s_pure (.int .i64 ((((signals.length : Int) + size) - 1) / size)) (fun _ q => q) ?_
          refine s_pure (.bool (decide (((((signals.length : Int) + size) - 1) / size) > 9))) (fun _ q => q) ?_
          refine s_nil ?_
          refine p_seqN ?_
          refine v_cond rfl (fun c5 => ?_) (fun c5 => ?_)
          ·
            refine v_seq ?_
            refine v_ops ?_
            refine s_pure (.slice none 0 0) (fun _ q => q) ?_
            refine s_pure (.bool false) (fun _ q => q) ?_
            refine s_nil ?_
            refine p_seqN ?_
            refine v_ret ?_
            refine p_seqR ?_
            refine p_ret [.slice none 0 0, .bool false] (.tuple #[.slice none 0 0, .bool false]) (fun _ q => q) rfl ?_
            have ho : smOut message signals size = ([], false) := by first | (exact sm_no (fun hh => absurd hh.1 (by assumption))) | (exact sm_no (fun hh => absurd hh.2.1 (by assumption))) | (exact sm_no (fun hh => hh.2.2.1 (by assumption))) | (exact sm_no (fun hh => absurd hh.2.2.2.1 (by assumption))) | (exact sm_no (fun hh => by (have := (sm_div hh.2.1.1 hh.2.1.2 (by omega)).2 hh.2.2.2.2); omega)) | (rw [smOut, if_pos ⟨by assumption, by assumption, by assumption, by assumption, (sm_div (by omega) (by omega) (by omega)).1 (by omega)⟩, hps]; congr 2; omega)
            exact ⟨(.slice none 0 0), [], by first | (rw [ho]; done) | rfl, DeepO.nil _ _, (congrArg (fun o => o.1) ho).symm, (Ext.refl h)⟩
          ·
            refine v_skip ?_
            refine p_seqN ?_
            refine v_seq ?_
            refine v_ops ?_
            refine s_pure (.slice none 0 0) (fun _ q => q) ?_
            refine s_nil ?_
            refine p_seqN ?_
            refine v_seq ?_
            refine v_seq ?_
            refine v_ops ?_
            refine s_pure (.int .i64 ((((signals.length : Int) + size) - 1) / size)) (fun _ q => q) ?_
            refine s_pure (.int .i64 0) (fun _ q => q) ?_
            refine s_nil ?_
            refine p_seqN ?_
            refine v_block ?_
            have hsz : 1 ≤ size ∧ size ≤ 8 := by assumption
            refine v_loop3 (α := Nat) (β := List Pk) (γ := Value) (fun k ps o => [(0, .int .i64 message), (1, v_signals), (2, .int .i64 size), (8, .int .i64 ((((signals.length : Int) + size) - 1) / size)), (9, o), (39, .int .i64 ((((signals.length : Int) + size) - 1) / size)), (40, .int .i64 (k : Int))]) (fun k ps o hh => Ext h hh ∧ DeepO hh o ps h.size ∧ (k : Int) ≤ ((((signals.length : Int) + size) - 1) / size) ∧ ps.map Pk.p = smL message signals size ((((signals.length : Int) + size) - 1) / size) k) (fun k ps o => (((((signals.length : Int) + size) - 1) / size) - k).toNat) 0 [] (.slice none 0 0) ⟨rfl, rfl, rfl, rfl, rfl, rfl, rfl⟩ ⟨(Ext.refl h), (DeepO.nil _ _), (by exact ⟨sm_nonneg hsz.1 (by omega), rfl⟩)⟩ ?_
            rintro k ps o R7 h6 ⟨Eh, s_o, ⟨hk, hps⟩⟩
            have zEh := Eh.size
            have f9 := s_signals.ext Eh
            have lt_o := s_o.lt
            have fr_o := s_o.fr
            have hat := fun (hlt : (k : Int) < ((((signals.length : Int) + size) - 1) / size)) => sm_at hsz.1 hlt
            obtain ⟨hm0, hm1⟩ := sm_mul (k := k) hsz.1
            have hpl : ps.length = k := by (have := congrArg List.length hps); simpa [smL] using this
            refine v_seq ?_
            refine v_ops ?_
            refine s_pure (.bool (decide ((k : Int) < ((((signals.length : Int) + size) - 1) / size)))) (fun _ q => q) ?_
            refine s_nil ?_
            refine p_seqN ?_
            refine v_seq ?_
            refine v_cond rfl (fun c10 => ?_) (fun c10 => ?_)
            ·
              refine v_skip ?_
              refine p_seqN ?_
              refine v_seq ?_
              refine v_block ?_
              refine v_seq ?_
              refine v_ops ?_
              refine s_pure (.int .i64 (k : Int)) (fun _ q => q) ?_
              refine s_pure (.int .i64 (k : Int)) (fun _ q => q) ?_
              refine s_nil ?_
              refine p_seqN ?_
              refine v_seq ?_
              refine v_ops ?_
              refine s_pure v_signals (fun _ q => q) ?_
              refine s_pure (.int .i64 (k : Int)) (fun _ q => q) ?_
              refine s_pure (.int .i64 size) (fun _ q => q) ?_
              refine s_pure (.int .i64 ((k : Int) * size)) (fun _ q => ArithVC.mk (by omega) q) ?_
              refine s_pure v_signals (fun _ q => q) ?_
              refine s_pure (.int .i64 (signals.length : Int)) (fun _ q => f9.lenVC q) ?_
              refine s_pure (.int .i64 (k : Int)) (fun _ q => q) ?_
              refine s_pure (.int .i64 ((k : Int) + 1)) (fun _ q => ArithVC.mk (by omega) q) ?_
              refine s_pure (.int .i64 size) (fun _ q => q) ?_
              refine s_pure (.int .i64 (((k : Int) + 1) * size)) (fun _ q => ArithVC.mk (by omega) q) ?_
              refine s_pure (.int .i64 (if (((k : Int) + 1) * size) < (signals.length : Int) then (((k : Int) + 1) * size) else (signals.length : Int))) (fun _ q => q) ?_
              obtain ⟨r11, hqr11, s_r11, bk_r11⟩ := f9.slc (l := (((k : Int) * size)).toNat) (m := ((if (((k : Int) + 1) * size) < (signals.length : Int) then (((k : Int) + 1) * size) else (signals.length : Int))).toNat) (by first | omega | (simp; omega)) (by first | omega | (simp; omega))
              have lt_r11 := s_r11.lt
              refine s_pure r11 (fun K q => hqr11 _ rfl (some (.int .i64 ((k : Int) * size))) (some (.int .i64 (if (((k : Int) + 1) * size) < (signals.length : Int) then (((k : Int) + 1) * size) else (signals.length : Int)))) ⟨_, _, rfl, (by omega)⟩ ⟨_, _, rfl, (by omega)⟩ K q) ?_
              refine s_pure r11 (fun _ q => q) ?_
              refine s_nil ?_
              refine p_seqN ?_
              refine v_ops ?_
              refine s_pure o (fun _ q => q) ?_
              refine s_pure (.int .i64 message) (fun _ q => q) ?_
              refine s_pure (.int .i64 (k : Int)) (fun _ q => q) ?_
              refine s_pure (.int .i64 ((((signals.length : Int) + size) - 1) / size)) (fun _ q => q) ?_
              refine s_pure r11 (fun _ q => q) ?_
              refine s_call [r11] rfl (slices_Clone_Lint_int_ok r11 ((signals.take (((if (((k : Int) + 1) * size) < (signals.length : Int) then (((k : Int) + 1) * size) else (signals.length : Int))).toNat)).drop ((((k : Int) * size)).toNat)) _ s_r11 (by simp only [List.length_drop, List.length_take]; omega)) ?_
              rintro r12 h13 ⟨_, rfl, s_r12, fr_r12, eh13⟩
              have E14 := Eh.trans eh13
              have z15 := eh13.size
              have lt_r12 := s_r12.lt
              refine s_pure (.agg #[.int .i64 message, .int .i64 (k : Int), .int .i64 ((((signals.length : Int) + size) - 1) / size), r12]) (fun _ q => w_build (seg_i rfl (seg_i rfl (seg_i rfl (seg_sl s_r12 rfl (seg_nil q)))))) ?_
              obtain ⟨sv16, rfl⟩ := s_r12.sv
              refine s_row (α := Pk) [(⟨message, (k : Int), ((((signals.length : Int) + size) - 1) / size), sv16, ((signals.take (((if (((k : Int) + 1) * size) < (signals.length : Int) then (((k : Int) + 1) * size) else (signals.length : Int))).toNat)).drop ((((k : Int) * size)).toNat))⟩ : Pk)] (fun _ q => seg_agg rfl rfl (seg_nil q)) rfl (by simp [maxLen]) (fun r17 h18 eh18 zh18 s_r17 fr_r17 => ?_)
              have E19 := E14.trans eh18
              have z20 := eh18.size
              have lt_r17 := s_r17.lt
              have f23 := (s_r12.ext eh18)
              have f24 := ((s_o.ext eh13).ext eh18)
              refine s_app f24.row s_r17 rfl rfl rfl (by simp [maxLen]; omega) (by simp; omega) (fun r21 h22 mh22 zh22 s_r21 ab_r21 => ?_)
              have D_r21 := DeepO.snoc (e := (⟨message, (k : Int), ((((signals.length : Int) + size) - 1) / size), sv16, ((signals.take (((if (((k : Int) + 1) * size) < (signals.length : Int) then (((k : Int) + 1) * size) else (signals.length : Int))).toNat)).drop ((((k : Int) * size)).toNat))⟩ : Pk)) f24 f23 (fr_r12.mono (by omega)) (fun b hb hc => by have := fr_r12 b hb; have := lt_o b hc; omega) (by omega) mh22 s_r21 ab_r21
              have E25 := E19.mod mh22 (fun b hb => by have := (fun b hb => fr_o b (mem_fpts.2 (.inl hb))) b hb; omega)
              have lt_r21 := D_r21.lt
              have fr_r21 := D_r21.fr
              have np26a : ∀ b ∈ blks v_signals, b ∉ fpts o ps := (fun b hb hc => by have := lt_signals b hb; have := fr_o b hc; omega)
              have np26b : ∀ b ∈ blks v_signals, b ∉ blks sv16.v := (fun b hb hc => by have := lt_signals b hb; have := fr_r12 b hc; omega)
              have np26 : ∀ b ∈ blks v_signals, b ∉ fpts r21 (ps ++ [(⟨message, (k : Int), ((((signals.length : Int) + size) - 1) / size), sv16, ((signals.take (((if (((k : Int) + 1) * size) < (signals.length : Int) then (((k : Int) + 1) * size) else (signals.length : Int))).toNat)).drop ((((k : Int) * size)).toNat))⟩ : Pk)]) := fun b hb => DeepO.snocOut ab_r21 (np26a b hb) (np26b b hb) (by have := lt_signals b hb; omega)
              have np27a : ∀ b ∈ blks r11, b ∉ fpts o ps := (fun b hb hc => by have := (fun b hb => lt_signals b (bk_r11 b hb)) b hb; have := fr_o b hc; omega)
              have np27b : ∀ b ∈ blks r11, b ∉ blks sv16.v := (fun b hb hc => by have := (fun b hb => lt_signals b (bk_r11 b hb)) b hb; have := fr_r12 b hc; omega)
              have np27 : ∀ b ∈ blks r11, b ∉ fpts r21 (ps ++ [(⟨message, (k : Int), ((((signals.length : Int) + size) - 1) / size), sv16, ((signals.take (((if (((k : Int) + 1) * size) < (signals.length : Int) then (((k : Int) + 1) * size) else (signals.length : Int))).toNat)).drop ((((k : Int) * size)).toNat))⟩ : Pk)]) := fun b hb => DeepO.snocOut ab_r21 (np27a b hb) (np27b b hb) (by have := (fun b hb => lt_signals b (bk_r11 b hb)) b hb; omega)
              refine s_pure r21 (fun _ q => q) ?_
              refine s_nil ?_
              refine p_blkN ?_
              refine p_seqN ?_
              refine v_ops ?_
              refine s_pure (.int .i64 ((k : Int) + 1)) (fun _ q => ArithVC.mk (by omega) q) ?_
              refine s_pure (.int .i64 ((k : Int) + 1)) (fun _ q => q) ?_
              refine s_nil ?_
              exact p_lpN ⟨k + 1, (ps ++ [(⟨message, (k : Int), ((((signals.length : Int) + size) - 1) / size), sv16, ((signals.take (((if (((k : Int) + 1) * size) < (signals.length : Int) then (((k : Int) + 1) * size) else (signals.length : Int))).toNat)).drop ((((k : Int) * size)).toNat))⟩ : Pk)]), r21, ⟨rfl, rfl, rfl, rfl, rfl, rfl, rfl⟩, ⟨E25, (D_r21.mono (by omega)), (by exact ⟨by omega, by rw [List.map_append, hps, smL_succ]; rfl⟩)⟩, by omega⟩
            ·
              refine v_exit ?_
              refine p_seqX ?_
              refine p_lpX ?_
              refine p_blkX ?_
              refine p_seqN ?_
              refine v_seq ?_
              refine v_ops ?_
              refine s_pure o (fun _ q => q) ?_
              refine s_pure o (fun _ q => q) ?_
              refine s_pure (.bool true) (fun _ q => q) ?_
              refine s_nil ?_
              refine p_seqN ?_
              refine v_ret ?_
              refine p_ret [o, .bool true] (.tuple #[o, .bool true]) (fun _ q => q) rfl ?_
              have ho : smOut message signals size = ((ps.map Pk.p), true) := by first | (exact sm_no (fun hh => absurd hh.1 (by assumption))) | (exact sm_no (fun hh => absurd hh.2.1 (by assumption))) | (exact sm_no (fun hh => hh.2.2.1 (by assumption))) | (exact sm_no (fun hh => absurd hh.2.2.2.1 (by assumption))) | (exact sm_no (fun hh => by (have := (sm_div hh.2.1.1 hh.2.1.2 (by omega)).2 hh.2.2.2.2); omega)) | (rw [smOut, if_pos ⟨by assumption, by assumption, by assumption, by assumption, (sm_div (by omega) (by omega) (by omega)).1 (by omega)⟩, hps]; congr 2; omega)
              exact ⟨o, ps, by first | (rw [ho]; done) | rfl, (s_o.mono (by omega)), (congrArg (fun o => o.1) ho).symm, Eh⟩

theorem spec_l1Least_ok (a : Int) (b : Int) (h : Heap)  : Cn f_spec_l1Least [.int .i64 a, .int .i64 b] h fun v h' => v = .int .i64 (if a < b then a else b) ∧ h' = h := by
  refine calls_of r_spec_l1Least ?_
  refine v_seq ?_
  refine v_ops ?_
  refine s_pure (.int .i64 0) (fun _ q => q) ?_
  refine s_nil ?_
  refine p_seqN ?_
  refine v_seq ?_
  refine v_seq ?_
  refine v_ops ?_
  refine s_pure (.int .i64 a) (fun _ q => q) ?_
  refine s_pure (.int .i64 b) (fun _ q => q) ?_
  refine s_pure (.bool (decide (a < b))) (fun _ q => q) ?_
  refine s_nil ?_
  refine p_seqN ?_
  refine v_cond rfl (fun c1 => ?_) (fun c1 => ?_)
  ·
    refine v_seq ?_
    refine v_ops ?_
    refine s_pure (.int .i64 a) (fun _ q => q) ?_
    refine s_pure (.int .i64 a) (fun _ q => q) ?_
    refine s_nil ?_
    refine p_seqN ?_
    refine v_ret ?_
    refine p_seqR ?_
    refine p_ret [.int .i64 a] (.int .i64 a) (fun _ q => q) rfl ?_
    have ho : (if a < b then a else b) = a := by simp [*]
    exact ⟨by first | (rw [ho]; done) | rfl, rfl⟩
  ·
    refine v_skip ?_
    refine p_seqN ?_
    refine v_seq ?_
    refine v_ops ?_
    refine s_pure (.int .i64 b) (fun _ q => q) ?_
    refine s_pure (.int .i64 b) (fun _ q => q) ?_
    refine s_nil ?_
    refine p_seqN ?_
    refine v_ret ?_
    refine p_ret [.int .i64 b] (.int .i64 b) (fun _ q => q) rfl ?_
    have ho : (if a < b then a else b) = b := by simp [*]
    exact ⟨by first | (rw [ho]; done) | rfl, rfl⟩


theorem pkMessage_ok (n : Int) (h : Heap) : Cn f_spec_pkMessage [.int .i64 n] h fun v h' => v = .bool (decide (1 ≤ n ∧ n ≤ 999)) ∧ h' = h := by
  refine calls_of r_spec_pkMessage ?_
  refine (l1In_ok _ _ _ _).mono ?_
  rintro _ _ ⟨rfl, rfl⟩
  exact ⟨rfl, rfl⟩

theorem spec_pkSplit_ok (message : Int) (v_signals : Value) (signals : List Int) (size : Int) (h : Heap) (s_signals : Sl h v_signals signals) (bl : signals.length ≤ 1048576) (hsz : 1 ≤ size ∧ size ≤ 8) (h9 : (signals.length : Int) ≤ 9 * size) : Cn f_spec_pkSplit [.int .i64 message, v_signals, .int .i64 size] h fun v h' => ∃ r0 : Value, ∃ qr0 : List Pk, v = r0 ∧ DeepO h' r0 qr0 h.size ∧ qr0.map Pk.p = smL message signals size ((((signals.length : Int) + size) - 1) / size) ((((signals.length : Int) + size) - 1) / size).toNat ∧ Ext h h' := by
  have lt_signals := s_signals.lt
  have l63_signals := s_signals.len63
  have h10 := (sm_div hsz.1 hsz.2 (by omega)).2 h9
  refine calls_of r_spec_pkSplit ?_
  refine v_seq ?_
  refine v_ops ?_
  refine s_pure (.slice none 0 0) (fun _ q => q) ?_
  refine s_nil ?_
  refine p_seqN ?_
  refine v_seq ?_
  refine v_ops ?_
  refine s_pure v_signals (fun _ q => q) ?_
  refine s_pure (.int .i64 (signals.length : Int)) (fun _ q => s_signals.lenVC q) ?_
  refine s_pure (.int .i64 size) (fun _ q => q) ?_
  refine s_pure (.int .i64 ((signals.length : Int) + size)) (fun _ q => ArithVC.mk (by omega) q) ?_
  refine s_pure (.int .i64 (((signals.length : Int) + size) - 1)) (fun _ q => ArithVC.mk (by omega) q) ?_
  refine s_pure (.int .i64 size) (fun _ q => q) ?_
  refine s_pure (.int .i64 ((((signals.length : Int) + size) - 1) / size)) (fun _ q => QuoVC.mk (by omega) (by omega) (by omega) q) ?_
  refine s_pure (.int .i64 ((((signals.length : Int) + size) - 1) / size)) (fun _ q => q) ?_
  refine s_nil ?_
  refine p_seqN ?_
  refine v_seq ?_
  refine v_ops ?_
  refine s_pure (.slice none 0 0) (fun _ q => q) ?_
  refine s_nil ?_
  refine p_seqN ?_
  refine v_seq ?_
  refine v_seq ?_
  refine v_ops ?_
  refine s_pure (.int .i64 0) (fun _ q => q) ?_
  refine s_nil ?_
  refine p_seqN ?_
  refine v_block ?_
  refine v_loop3 (α := Nat) (β := List Pk) (γ := Value) (fun k ps o => [(0, .int .i64 message), (1, v_signals), (2, .int .i64 size), (7, .int .i64 ((((signals.length : Int) + size) - 1) / size)), (8, o), (9, .int .i64 (k : Int))]) (fun k ps o hh => Ext h hh ∧ DeepO hh o ps h.size ∧ (k : Int) ≤ ((((signals.length : Int) + size) - 1) / size) ∧ ps.map Pk.p = smL message signals size ((((signals.length : Int) + size) - 1) / size) k) (fun k ps o => (((((signals.length : Int) + size) - 1) / size) - k).toNat) 0 [] (.slice none 0 0) ⟨rfl, rfl, rfl, rfl, rfl, rfl⟩ ⟨(Ext.refl h), (DeepO.nil _ _), (by exact ⟨sm_nonneg hsz.1 (by omega), rfl⟩)⟩ ?_
  rintro k ps o R2 h1 ⟨Eh, s_o, ⟨hk, hps⟩⟩
  have zEh := Eh.size
  have f4 := s_signals.ext Eh
  have lt_o := s_o.lt
  have fr_o := s_o.fr
  have hat := fun (hlt : (k : Int) < ((((signals.length : Int) + size) - 1) / size)) => sm_at hsz.1 hlt
  obtain ⟨hm0, hm1⟩ := sm_mul (k := k) hsz.1
  have hpl : ps.length = k := by (have := congrArg List.length hps); simpa [smL] using this
  refine v_seq ?_
  refine v_seq ?_
  refine v_ops ?_
  refine s_pure (.int .i64 (k : Int)) (fun _ q => q) ?_
  refine s_pure (.int .i64 ((((signals.length : Int) + size) - 1) / size)) (fun _ q => q) ?_
  refine s_pure (.bool (decide ((k : Int) < ((((signals.length : Int) + size) - 1) / size)))) (fun _ q => q) ?_
  refine s_nil ?_
  refine p_seqN ?_
  refine v_cond rfl (fun c5 => ?_) (fun c5 => ?_)
  ·
    refine v_skip ?_
    refine p_seqN ?_
    refine v_seq ?_
    refine v_block ?_
    refine v_seq ?_
    refine v_ops ?_
    refine s_pure v_signals (fun _ q => q) ?_
    refine s_pure (.int .i64 (signals.length : Int)) (fun _ q => f4.lenVC q) ?_
    refine s_pure (.int .i64 (k : Int)) (fun _ q => q) ?_
    refine s_pure (.int .i64 ((k : Int) + 1)) (fun _ q => ArithVC.mk (by omega) q) ?_
    refine s_pure (.int .i64 size) (fun _ q => q) ?_
    refine s_pure (.int .i64 (((k : Int) + 1) * size)) (fun _ q => ArithVC.mk (by omega) q) ?_
    refine s_callS [.int .i64 (signals.length : Int), .int .i64 (((k : Int) + 1) * size)] (.int .i64 (if (signals.length : Int) < (((k : Int) + 1) * size) then (signals.length : Int) else (((k : Int) + 1) * size))) rfl (spec_l1Least_ok (signals.length : Int) (((k : Int) + 1) * size) _ ) ?_
    refine s_pure (.int .i64 (if (signals.length : Int) < (((k : Int) + 1) * size) then (signals.length : Int) else (((k : Int) + 1) * size))) (fun _ q => q) ?_
    refine s_nil ?_
    refine p_seqN ?_
    refine v_ops ?_
    refine s_pure o (fun _ q => q) ?_
    refine s_pure (.int .i64 message) (fun _ q => q) ?_
    refine s_pure (.int .i64 (k : Int)) (fun _ q => q) ?_
    refine s_pure (.int .i64 ((((signals.length : Int) + size) - 1) / size)) (fun _ q => q) ?_
    refine s_pure v_signals (fun _ q => q) ?_
    refine s_pure (.int .i64 (k : Int)) (fun _ q => q) ?_
    refine s_pure (.int .i64 size) (fun _ q => q) ?_
    refine s_pure (.int .i64 ((k : Int) * size)) (fun _ q => ArithVC.mk (by omega) q) ?_
    refine s_pure (.int .i64 (if (signals.length : Int) < (((k : Int) + 1) * size) then (signals.length : Int) else (((k : Int) + 1) * size))) (fun _ q => q) ?_
    obtain ⟨r6, hqr6, s_r6, bk_r6⟩ := f4.slc (l := (((k : Int) * size)).toNat) (m := ((if (signals.length : Int) < (((k : Int) + 1) * size) then (signals.length : Int) else (((k : Int) + 1) * size))).toNat) (by first | omega | (simp; omega)) (by first | omega | (simp; omega))
    have lt_r6 := s_r6.lt
    refine s_pure r6 (fun K q => hqr6 _ rfl (some (.int .i64 ((k : Int) * size))) (some (.int .i64 (if (signals.length : Int) < (((k : Int) + 1) * size) then (signals.length : Int) else (((k : Int) + 1) * size)))) ⟨_, _, rfl, (by omega)⟩ ⟨_, _, rfl, (by omega)⟩ K q) ?_
    refine s_call [r6] rfl (spec_l1Own_ok r6 ((signals.take (((if (signals.length : Int) < (((k : Int) + 1) * size) then (signals.length : Int) else (((k : Int) + 1) * size))).toNat)).drop ((((k : Int) * size)).toNat)) _ s_r6 (by simp only [List.length_drop, List.length_take]; omega)) ?_
    rintro r7 h8 ⟨_, rfl, s_r7, fr_r7, eh8⟩
    have E9 := Eh.trans eh8
    have z10 := eh8.size
    have lt_r7 := s_r7.lt
    refine s_pure (.agg #[.int .i64 message, .int .i64 (k : Int), .int .i64 ((((signals.length : Int) + size) - 1) / size), r7]) (fun _ q => w_build (seg_i rfl (seg_i rfl (seg_i rfl (seg_sl s_r7 rfl (seg_nil q)))))) ?_
    obtain ⟨sv11, rfl⟩ := s_r7.sv
    refine s_row (α := Pk) [(⟨message, (k : Int), ((((signals.length : Int) + size) - 1) / size), sv11, ((signals.take (((if (signals.length : Int) < (((k : Int) + 1) * size) then (signals.length : Int) else (((k : Int) + 1) * size))).toNat)).drop ((((k : Int) * size)).toNat))⟩ : Pk)] (fun _ q => seg_agg rfl rfl (seg_nil q)) rfl (by simp [maxLen]) (fun r12 h13 eh13 zh13 s_r12 fr_r12 => ?_)
    have E14 := E9.trans eh13
    have z15 := eh13.size
    have lt_r12 := s_r12.lt
    have f18 := (s_r7.ext eh13)
    have f19 := ((s_o.ext eh8).ext eh13)
    refine s_app f19.row s_r12 rfl rfl rfl (by simp [maxLen]; omega) (by simp; omega) (fun r16 h17 mh17 zh17 s_r16 ab_r16 => ?_)
    have D_r16 := DeepO.snoc (e := (⟨message, (k : Int), ((((signals.length : Int) + size) - 1) / size), sv11, ((signals.take (((if (signals.length : Int) < (((k : Int) + 1) * size) then (signals.length : Int) else (((k : Int) + 1) * size))).toNat)).drop ((((k : Int) * size)).toNat))⟩ : Pk)) f19 f18 (fr_r7.mono (by omega)) (fun b hb hc => by have := fr_r7 b hb; have := lt_o b hc; omega) (by omega) mh17 s_r16 ab_r16
    have E20 := E14.mod mh17 (fun b hb => by have := (fun b hb => fr_o b (mem_fpts.2 (.inl hb))) b hb; omega)
    have lt_r16 := D_r16.lt
    have fr_r16 := D_r16.fr
    have np21a : ∀ b ∈ blks v_signals, b ∉ fpts o ps := (fun b hb hc => by have := lt_signals b hb; have := fr_o b hc; omega)
    have np21b : ∀ b ∈ blks v_signals, b ∉ blks sv11.v := (fun b hb hc => by have := lt_signals b hb; have := fr_r7 b hc; omega)
    have np21 : ∀ b ∈ blks v_signals, b ∉ fpts r16 (ps ++ [(⟨message, (k : Int), ((((signals.length : Int) + size) - 1) / size), sv11, ((signals.take (((if (signals.length : Int) < (((k : Int) + 1) * size) then (signals.length : Int) else (((k : Int) + 1) * size))).toNat)).drop ((((k : Int) * size)).toNat))⟩ : Pk)]) := fun b hb => DeepO.snocOut ab_r16 (np21a b hb) (np21b b hb) (by have := lt_signals b hb; omega)
    have np22a : ∀ b ∈ blks r6, b ∉ fpts o ps := (fun b hb hc => by have := (fun b hb => lt_signals b (bk_r6 b hb)) b hb; have := fr_o b hc; omega)
    have np22b : ∀ b ∈ blks r6, b ∉ blks sv11.v := (fun b hb hc => by have := (fun b hb => lt_signals b (bk_r6 b hb)) b hb; have := fr_r7 b hc; omega)
    have np22 : ∀ b ∈ blks r6, b ∉ fpts r16 (ps ++ [(⟨message, (k : Int), ((((signals.length : Int) + size) - 1) / size), sv11, ((signals.take (((if (signals.length : Int) < (((k : Int) + 1) * size) then (signals.length : Int) else (((k : Int) + 1) * size))).toNat)).drop ((((k : Int) * size)).toNat))⟩ : Pk)]) := fun b hb => DeepO.snocOut ab_r16 (np22a b hb) (np22b b hb) (by have := (fun b hb => lt_signals b (bk_r6 b hb)) b hb; omega)
    refine s_pure r16 (fun _ q => q) ?_
    refine s_nil ?_
    refine p_blkN ?_
    refine p_seqN ?_
    refine v_ops ?_
    refine s_pure (.int .i64 (k : Int)) (fun _ q => q) ?_
    refine s_pure (.int .i64 ((k : Int) + 1)) (fun _ q => ArithVC.mk (by omega) q) ?_
    refine s_pure (.int .i64 ((k : Int) + 1)) (fun _ q => q) ?_
    refine s_nil ?_
    exact p_lpN ⟨k + 1, (ps ++ [(⟨message, (k : Int), ((((signals.length : Int) + size) - 1) / size), sv11, ((signals.take (((if (signals.length : Int) < (((k : Int) + 1) * size) then (signals.length : Int) else (((k : Int) + 1) * size))).toNat)).drop ((((k : Int) * size)).toNat))⟩ : Pk)]), r16, ⟨rfl, rfl, rfl, rfl, rfl, rfl⟩, ⟨E20, (D_r16.mono (by omega)), (by exact ⟨by omega, by rw [List.map_append, hps, smL_succ]; simp only [smPart, ite_swap]; rfl⟩)⟩, by omega⟩
  ·
    refine v_exit ?_
    refine p_seqX ?_
    refine p_lpX ?_
    refine p_blkX ?_
    refine p_seqN ?_
    refine v_seq ?_
    refine v_ops ?_
    refine s_pure o (fun _ q => q) ?_
    refine s_pure o (fun _ q => q) ?_
    refine s_nil ?_
    refine p_seqN ?_
    refine v_ret ?_
    refine p_ret [o] o (fun _ q => q) rfl ?_
    have ho : smL message signals size ((((signals.length : Int) + size) - 1) / size) ((((signals.length : Int) + size) - 1) / size).toNat = (ps.map Pk.p) := by rw [hps]; congr 1; omega
    exact ⟨o, ps, by first | (rw [ho]; done) | rfl, (s_o.mono (by omega)), (congrArg (fun o => o) ho).symm, Eh⟩

set_option maxRecDepth 10000 in
set_option maxHeartbeats 4000000 in
theorem spec_SplitMessage_ok (message : Int) (v_signals : Value) (signals : List Int) (size : Int) (h : Heap) (s_signals : Sl h v_signals signals) (bl : signals.length ≤ 1048576) : Cn f_spec_SplitMessage [.int .i64 message, v_signals, .int .i64 size] h fun v h' => ∃ r0 : Value, ∃ qr0 : List Pk, v = .tuple #[r0, .bool ((smOut message signals size).2)] ∧ DeepO h' r0 qr0 h.size ∧ qr0.map Pk.p = (smOut message signals size).1 ∧ Ext h h' := by
  have lt_signals := s_signals.lt
  have l63_signals := s_signals.len63
  refine calls_of r_spec_SplitMessage ?_
  refine v_seq ?_
  refine v_ops ?_
  refine s_pure (.slice none 0 0) (fun _ q => q) ?_
  refine s_pure (.bool false) (fun _ q => q) ?_
  refine s_nil ?_
  refine p_seqN ?_
  refine v_seq ?_
  refine v_seq ?_
  refine v_ops ?_
  refine s_pure (.int .i64 message) (fun _ q => q) ?_
  refine s_callS [.int .i64 message] (.bool (decide (1 ≤ message ∧ message ≤ 999))) rfl (pkMessage_ok message _ ) ?_
  refine s_pure (.bool (!(decide (1 ≤ message ∧ message ≤ 999)))) (fun _ q => q) ?_
  refine s_pure (.bool (!(decide (1 ≤ message ∧ message ≤ 999)))) (fun _ q => q) ?_
  refine s_splitT rfl (fun c1 => ?_) (fun c1 => ?_)
  ·
    refine s_pass rfl ?_
    refine s_pass rfl ?_
    refine s_pass rfl ?_
    refine s_pure (.bool true) (fun _ q => q) ?_
    refine s_pure (.bool true) (fun _ q => q) ?_
    refine s_splitY rfl rfl ?_
    refine s_pass rfl ?_
    refine s_pass rfl ?_
    refine s_pass rfl ?_
    refine s_pass rfl ?_
    refine s_pass rfl ?_
    refine s_pass rfl ?_
    refine s_pure (.bool true) (fun _ q => q) ?_
    refine s_pure (.bool true) (fun _ q => q) ?_
    refine s_splitY rfl rfl ?_
    refine s_pass rfl ?_
    refine s_pass rfl ?_
    refine s_pass rfl ?_
    refine s_pure (.bool true) (fun _ q => q) ?_
    refine s_nil ?_
    refine p_seqN ?_
    refine v_condY rfl rfl ?_
    refine v_seq ?_
    refine v_ops ?_
    refine s_pure (.slice none 0 0) (fun _ q => q) ?_
    refine s_pure (.bool false) (fun _ q => q) ?_
    refine s_nil ?_
    refine p_seqN ?_
    refine v_ret ?_
    refine p_seqR ?_
    refine p_ret [.slice none 0 0, .bool false] (.tuple #[.slice none 0 0, .bool false]) (fun _ q => q) rfl ?_
    have ho : smOut message signals size = ([], false) := by first | (exact sm_no (fun hh => absurd hh.1 (by assumption))) | (exact sm_no (fun hh => absurd hh.2.1 (by assumption))) | (exact sm_no (fun hh => absurd hh.2.2.2.1 (by assumption))) | (exact sm_no (fun hh => by (have := hh.2.2.1); (have := hh.2.2.2.2); omega)) | (rw [smOut, if_pos ⟨by assumption, by assumption, by omega, by assumption, by omega⟩])
    exact ⟨(.slice none 0 0), [], by first | (rw [ho]; done) | rfl, DeepO.nil _ _, (congrArg (fun o => o.1) ho).symm, (Ext.refl h)⟩
  ·
    have c1 := Classical.not_not.1 c1
    refine s_run rfl ?_
    refine s_pure (.int .i64 size) (fun _ q => q) ?_
    refine s_run rfl ?_
    refine s_callS [.int .i64 size, .int .i64 1, .int .i64 8] (.bool (decide (1 ≤ size ∧ size ≤ 8))) rfl (l1In_ok size 1 8 _ ) ?_
    refine s_run rfl ?_
    refine s_pure (.bool (!(decide (1 ≤ size ∧ size ≤ 8)))) (fun _ q => q) ?_
    refine s_pure (.bool (!(decide (1 ≤ size ∧ size ≤ 8)))) (fun _ q => q) ?_
    refine s_pure (.bool (!(decide (1 ≤ size ∧ size ≤ 8)))) (fun _ q => q) ?_
    refine s_splitT rfl (fun c2 => ?_) (fun c2 => ?_)
    ·
      refine s_pass rfl ?_
      refine s_pass rfl ?_
      refine s_pass rfl ?_
      refine s_pass rfl ?_
      refine s_pass rfl ?_
      refine s_pass rfl ?_
      refine s_pure (.bool true) (fun _ q => q) ?_
      refine s_pure (.bool true) (fun _ q => q) ?_
      refine s_splitY rfl rfl ?_
      refine s_pass rfl ?_
      refine s_pass rfl ?_
      refine s_pass rfl ?_
      refine s_pure (.bool true) (fun _ q => q) ?_
      refine s_nil ?_
      refine p_seqN ?_
      refine v_condY rfl rfl ?_
      refine v_seq ?_
      refine v_ops ?_
      refine s_pure (.slice none 0 0) (fun _ q => q) ?_
      refine s_pure (.bool false) (fun _ q => q) ?_
      refine s_nil ?_
      refine p_seqN ?_
      refine v_ret ?_
      refine p_seqR ?_
      refine p_ret [.slice none 0 0, .bool false] (.tuple #[.slice none 0 0, .bool false]) (fun _ q => q) rfl ?_
      have ho : smOut message signals size = ([], false) := by first | (exact sm_no (fun hh => absurd hh.1 (by assumption))) | (exact sm_no (fun hh => absurd hh.2.1 (by assumption))) | (exact sm_no (fun hh => absurd hh.2.2.2.1 (by assumption))) | (exact sm_no (fun hh => by (have := hh.2.2.1); (have := hh.2.2.2.2); omega)) | (rw [smOut, if_pos ⟨by assumption, by assumption, by omega, by assumption, by omega⟩])
      exact ⟨(.slice none 0 0), [], by first | (rw [ho]; done) | rfl, DeepO.nil _ _, (congrArg (fun o => o.1) ho).symm, (Ext.refl h)⟩
    ·
      have c2 := Classical.not_not.1 c2
      refine s_run rfl ?_
      refine s_pure v_signals (fun _ q => q) ?_
      refine s_run rfl ?_
      refine s_pure (.int .i64 (signals.length : Int)) (fun _ q => s_signals.lenVC q) ?_
      refine s_run rfl ?_
      refine s_pure (.int .i64 size) (fun _ q => q) ?_
      refine s_run rfl ?_
      refine s_pure (.int .i64 (size * 9)) (fun _ q => ArithVC.mk (by omega) q) ?_
      refine s_run rfl ?_
      refine s_callS [.int .i64 (signals.length : Int), .int .i64 1, .int .i64 (size * 9)] (.bool (decide (1 ≤ (signals.length : Int) ∧ (signals.length : Int) ≤ (size * 9)))) rfl (l1In_ok (signals.length : Int) 1 (size * 9) _ ) ?_
      refine s_run rfl ?_
      refine s_pure (.bool (!(decide (1 ≤ (signals.length : Int) ∧ (signals.length : Int) ≤ (size * 9))))) (fun _ q => q) ?_
      refine s_pure (.bool (!(decide (1 ≤ (signals.length : Int) ∧ (signals.length : Int) ≤ (size * 9))))) (fun _ q => q) ?_
      refine s_pure (.bool (!(decide (1 ≤ (signals.length : Int) ∧ (signals.length : Int) ≤ (size * 9))))) (fun _ q => q) ?_
      refine s_splitT rfl (fun c3 => ?_) (fun c3 => ?_)
      ·
        refine s_pass rfl ?_
        refine s_pass rfl ?_
        refine s_pass rfl ?_
        refine s_pure (.bool true) (fun _ q => q) ?_
        refine s_nil ?_
        refine p_seqN ?_
        refine v_condY rfl rfl ?_
        refine v_seq ?_
        refine v_ops ?_
        refine s_pure (.slice none 0 0) (fun _ q => q) ?_
        refine s_pure (.bool false) (fun _ q => q) ?_
        refine s_nil ?_
        refine p_seqN ?_
        refine v_ret ?_
        refine p_seqR ?_
        refine p_ret [.slice none 0 0, .bool false] (.tuple #[.slice none 0 0, .bool false]) (fun _ q => q) rfl ?_
        have ho : smOut message signals size = ([], false) := by first | (exact sm_no (fun hh => absurd hh.1 (by assumption))) | (exact sm_no (fun hh => absurd hh.2.1 (by assumption))) | (exact sm_no (fun hh => absurd hh.2.2.2.1 (by assumption))) | (exact sm_no (fun hh => by (have := hh.2.2.1); (have := hh.2.2.2.2); omega)) | (rw [smOut, if_pos ⟨by assumption, by assumption, by omega, by assumption, by omega⟩])
        exact ⟨(.slice none 0 0), [], by first | (rw [ho]; done) | rfl, DeepO.nil _ _, (congrArg (fun o => o.1) ho).symm, (Ext.refl h)⟩
      ·
        have c3 := Classical.not_not.1 c3
        refine s_run rfl ?_
        refine s_pure v_signals (fun _ q => q) ?_
        refine s_run rfl ?_
        refine s_callS [v_signals, .int .i64 1, .int .i64 60] (.bool (decide (AllIn 1 60 signals))) rfl (l1All_ok v_signals signals 1 60 _ s_signals) ?_
        refine s_run rfl ?_
        refine s_pure (.bool (!(decide (AllIn 1 60 signals)))) (fun _ q => q) ?_
        refine s_pure (.bool (!(decide (AllIn 1 60 signals)))) (fun _ q => q) ?_
        refine s_nil ?_
        refine p_seqN ?_
        refine v_cond rfl (fun c4 => ?_) (fun c4 => ?_)
        ·
          refine v_seq ?_
          refine v_ops ?_
          refine s_pure (.slice none 0 0) (fun _ q => q) ?_
          refine s_pure (.bool false) (fun _ q => q) ?_
          refine s_nil ?_
          refine p_seqN ?_
          refine v_ret ?_
          refine p_seqR ?_
          refine p_ret [.slice none 0 0, .bool false] (.tuple #[.slice none 0 0, .bool false]) (fun _ q => q) rfl ?_
          have ho : smOut message signals size = ([], false) := by first | (exact sm_no (fun hh => absurd hh.1 (by assumption))) | (exact sm_no (fun hh => absurd hh.2.1 (by assumption))) | (exact sm_no (fun hh => absurd hh.2.2.2.1 (by assumption))) | (exact sm_no (fun hh => by (have := hh.2.2.1); (have := hh.2.2.2.2); omega)) | (rw [smOut, if_pos ⟨by assumption, by assumption, by omega, by assumption, by omega⟩])
          exact ⟨(.slice none 0 0), [], by first | (rw [ho]; done) | rfl, DeepO.nil _ _, (congrArg (fun o => o.1) ho).symm, (Ext.refl h)⟩
        ·
          have c4 := Classical.not_not.1 c4
          refine v_skip ?_
          refine p_seqN ?_
          refine v_seq ?_
          refine v_ops ?_
          refine s_pure (.int .i64 message) (fun _ q => q) ?_
          refine s_pure v_signals (fun _ q => q) ?_
          refine s_pure (.int .i64 size) (fun _ q => q) ?_
          refine s_call [.int .i64 message, v_signals, .int .i64 size] rfl (spec_pkSplit_ok message v_signals signals size _ s_signals bl (by assumption) (by omega)) ?_
          rintro r5 h6 ⟨_, qr5, rfl, s_r5, dq_r5, eh6⟩
          have E7 := (Ext.refl h).trans eh6
          have z8 := eh6.size
          have lt_r5 := s_r5.lt
          have fr_r5 := s_r5.fr
          refine s_pure r5 (fun _ q => q) ?_
          refine s_pure (.bool true) (fun _ q => q) ?_
          refine s_nil ?_
          refine p_seqN ?_
          refine v_ret ?_
          refine p_ret [r5, .bool true] (.tuple #[r5, .bool true]) (fun _ q => q) rfl ?_
          have ho : smOut message signals size = (smL message signals size ((((signals.length : Int) + size) - 1) / size) ((((signals.length : Int) + size) - 1) / size).toNat, true) := by first | (exact sm_no (fun hh => absurd hh.1 (by assumption))) | (exact sm_no (fun hh => absurd hh.2.1 (by assumption))) | (exact sm_no (fun hh => absurd hh.2.2.2.1 (by assumption))) | (exact sm_no (fun hh => by (have := hh.2.2.1); (have := hh.2.2.2.2); omega)) | (rw [smOut, if_pos ⟨by assumption, by assumption, by omega, by assumption, by omega⟩])
          exact ⟨r5, qr5, by first | (rw [ho]; done) | rfl, (s_r5.mono (by omega)), (dq_r5.trans (congrArg (fun o => o.1) ho).symm), E7⟩


theorem sm_len (m : Int) (sig : List Int) (sz : Int) : szD (smOut m sig sz).1 ≤ 3000000 := by
  unfold smOut
  split
  · rename_i c
    have h9 := (sm_div c.2.1.1 c.2.1.2 (by omega)).2 c.2.2.2.2
    have h72 : sig.length ≤ 72 := by have := c.2.2.2.2; have := c.2.1.2; omega
    simp only
    generalize ((sig.length : Int) + sz - 1) / sz = d at *
    have hb : ∀ n : Nat, n ≤ 9 → szD (smL m sig sz d n) ≤ 75 * n := by
      intro n hn
      induction n with
      | zero => simp [smL, szD]
      | succ n ih =>
        have := ih (by omega)
        rw [smL_succ]
        simp only [szD, List.length_append, List.map_append, List.sum_append, List.length_cons, List.length_nil, List.map_cons, List.map_nil, List.sum_cons, List.sum_nil] at *
        have hp : (smPart sig sz n).length ≤ sig.length := by unfold smPart; simp only [List.length_drop, List.length_take]; omega
        omega
    have := hb d.toNat (by omega)
    omega
  · simp [szD]

end Go.Proofs.YtbikhpphdhffaaaGreatDoor
