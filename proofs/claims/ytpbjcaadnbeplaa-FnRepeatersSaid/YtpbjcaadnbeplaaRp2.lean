/- Tests of repeaters. Condition: none. Printed in part by a program. -/
import Derived.Test.YtpbjcaadnbeplaaRep1
import Derived.Test.YtpbjcaadnbeplaaGl2
namespace Go.Proofs.Ytpbjcaadnbeplaa
open Go.Vc
set_option linter.all false

/-- what a repeater has passed -/
abbrev PassedOk (ph : Int) (xs : List Int) (k : Nat) : Prop := ∀ i x, i < k → xs[i]? = some x → PassOk x ∧ (x = 61 → ph = 3 ∧ i + 1 = xs.length)
structure RepP where
  phase : Int
  holds : Int
  again : Int
  shown : Int
  passed : List Int
/-- the rest -/
abbrev RepTail (r : RepP) : Prop :=
  (r.phase = 0 ∧ r.holds = 0 ∧ r.again = 0 ∧ (r.shown = 0 ∨ r.shown = 62)) ∨ (r.phase = 1 ∧ PassOk r.holds ∧ r.shown = r.holds ∧ 0 ≤ r.again ∧ r.again ≤ 3) ∨
  (r.phase = 2 ∧ PassOk r.holds ∧ r.again = 3 ∧ r.shown = 63) ∨ (r.phase = 3 ∧ r.holds = 0 ∧ r.again = 0 ∧ r.shown = 0 ∧ 0 < r.passed.length ∧ r.passed.getD (r.passed.length - 1) 0 = 61)
def RepOk (r : RepP) : Prop := r.passed.length ≤ 80 ∧ PassedOk r.phase r.passed r.passed.length ∧ RepTail r
noncomputable instance (r : RepP) : Decidable (RepOk r) := Classical.propDecidable _
theorem passed_step {ph : Int} {xs : List Int} {k : Nat} {x : Int} (h : PassedOk ph xs k) (hx : xs[k]? = some x) (hp : PassOk x ∧ (x = 61 → ph = 3 ∧ k + 1 = xs.length)) : PassedOk ph xs (k + 1) := by
  intro i y hi hy
  by_cases e : i = k
  · subst e; rw [hx] at hy; obtain rfl := Option.some.inj hy; exact hp
  · exact h i y (by omega) hy
theorem rep_bad {r : RepP} {k : Nat} {x : Int} (hk : k < r.passed.length) (hx : r.passed[k]? = some x) (hn : ¬ (PassOk x ∧ (x = 61 → r.phase = 3 ∧ k + 1 = r.passed.length))) : decide (RepOk r) = false := by
  simp only [decide_eq_false_iff_not]
  exact fun ha => hn (ha.2.1 k x hk hx)
theorem rep_end {r : RepP} {b : Bool} {k : Nat} (hk : ¬ (k : Int) < (r.passed.length : Int)) (hk2 : k ≤ r.passed.length) (hl : r.passed.length ≤ 80) (h : PassedOk r.phase r.passed k) (hb : b = true ↔ RepTail r) : decide (RepOk r) = b := by
  obtain rfl : k = r.passed.length := by omega
  cases b
  · simp only [decide_eq_false_iff_not]; intro ha; have := hb.2 ha.2.2; cases this
  · simp only [decide_eq_true_eq]; exact ⟨hl, h, hb.1 rfl⟩
theorem rep_long {r : RepP} (hl : ¬ r.passed.length ≤ 80) : decide (RepOk r) = false := by
  simp only [decide_eq_false_iff_not]; exact fun ha => hl ha.1
theorem getD_some {xs : List Int} {k : Nat} {x : Int} (h : xs[k]? = some x) : xs.getD k 0 = x := by simp [List.getD_eq_getElem?_getD, h]

set_option maxRecDepth 10000 in
set_option maxHeartbeats 4000000 in
theorem impl_IsRepeater_ok (r : RepP) (v_r_passed : Value) (h : Heap) (s_r_passed : Sl h v_r_passed r.passed) : Cn f_impl_IsRepeater [.agg #[.int .i64 r.phase, .int .i64 r.holds, .int .i64 r.again, .int .i64 r.shown, v_r_passed]] h fun v h' => v = .bool (decide (RepOk r)) ∧ Ext h h' := by
  have lt_r_passed := s_r_passed.lt
  have l63_r_passed := s_r_passed.len63
  refine calls_of r_impl_IsRepeater ?_
  refine v_seq ?_
  refine v_ops ?_
  refine s_box [.int .i64 r.phase, .int .i64 r.holds, .int .i64 r.again, .int .i64 r.shown, v_r_passed] rfl (fun h2 b1 hbb1 hzb1 eh2 bxb1 => ?_)
  have E3 := (Ext.refl h).trans eh2
  have z4 := eh2.size
  have lbb1 := bxb1.lt
  refine s_pure (.bool false) (fun _ q => q) ?_
  refine s_nil ?_
  refine p_seqN ?_
  refine v_seq ?_
  refine v_ops ?_
  refine s_pure (.pointer (some ⟨b1, 4, none⟩)) (fun _ q => q) ?_
  refine s_load v_r_passed (fun _ q => bxb1.load rfl q) ?_
  refine s_pure (.int .i64 (r.passed.length : Int)) (fun _ q => s_r_passed.lenVC q) ?_
  refine s_pure (.int .i64 ((r.passed.length : Int) - 1)) (fun _ q => ArithVC.mk (by omega) q) ?_
  refine s_pure (.int .i64 ((r.passed.length : Int) - 1)) (fun _ q => q) ?_
  refine s_nil ?_
  refine p_seqN ?_
  refine v_seq ?_
  refine v_seq ?_
  refine v_ops ?_
  refine s_pure (.int .i64 ((r.passed.length : Int) - 1)) (fun _ q => q) ?_
  refine s_pure (.bool (decide (((r.passed.length : Int) - 1) ≥ 80))) (fun _ q => q) ?_
  refine s_nil ?_
  refine p_seqN ?_
  refine v_cond rfl (fun c5 => ?_) (fun c5 => ?_)
  ·
    refine v_seq ?_
    refine v_ops ?_
    refine s_pure (.bool false) (fun _ q => q) ?_
    refine s_nil ?_
    refine p_seqN ?_
    refine v_ret ?_
    refine p_seqR ?_
    refine p_ret [.bool false] (.bool false) (fun _ q => q) rfl ?_
    have ho : decide (RepOk r) = false := by first | exact rep_long (by omega) | (exact rep_bad (by omega) (by assumption) (fun hp => by first | exact absurd hp.1 (by assumption) | (have := hp.2 (by assumption); omega))) | (exact rep_end (by assumption) hk (by omega) hall (by simp only [beq_iff_eq, decide_eq_true_eq, Bool.false_eq_true, true_iff, false_iff]; simp only [RepTail, PassOk] at *; omega)) | ((have hq := getD_some (by assumption : r.passed[r.passed.length - 1]? = some _)); exact rep_end (by assumption) hk (by omega) hall (by simp only [beq_iff_eq, decide_eq_true_eq, Bool.false_eq_true, true_iff, false_iff]; simp only [RepTail, PassOk] at *; omega))
    exact ⟨by first | (rw [ho]; done) | rfl, E3⟩
  ·
    refine v_skip ?_
    refine p_seqN ?_
    refine v_seq ?_
    refine v_seq ?_
    refine v_ops ?_
    refine s_pure (.pointer (some ⟨b1, 4, none⟩)) (fun _ q => q) ?_
    refine s_load v_r_passed (fun _ q => bxb1.load rfl q) ?_
    refine s_pure (.int .i64 (r.passed.length : Int)) (fun _ q => s_r_passed.lenVC q) ?_
    refine s_pure (.int .i64 0) (fun _ q => q) ?_
    refine s_nil ?_
    refine p_seqN ?_
    refine v_block ?_
    refine v_loop1 (α := Nat) (fun k => [(1, .pointer (some ⟨b1, 0, none⟩)), (3, .int .i64 ((r.passed.length : Int) - 1)), (13, v_r_passed), (14, .int .i64 (r.passed.length : Int)), (15, .int .i64 (k : Int))]) (fun k hh => Ext h hh ∧ Bx hh b1 [.int .i64 r.phase, .int .i64 r.holds, .int .i64 r.again, .int .i64 r.shown, v_r_passed] 25 ∧ k ≤ r.passed.length ∧ PassedOk r.phase r.passed k) (fun k => r.passed.length - k) 0 ⟨rfl, rfl, rfl, rfl, rfl⟩ ⟨E3, bxb1, (by exact ⟨by omega, fun i x hi => by omega⟩)⟩ ?_
    rintro k R7 h6 ⟨Eh, bxb1, ⟨hk, hall⟩⟩
    have zEh := Eh.size
    have f9 := s_r_passed.ext Eh
    have lbb1 := bxb1.lt
    refine v_seq ?_
    refine v_ops ?_
    refine s_pure (.bool (decide ((k : Int) < (r.passed.length : Int)))) (fun _ q => q) ?_
    refine s_nil ?_
    refine p_seqN ?_
    refine v_seq ?_
    refine v_cond rfl (fun c10 => ?_) (fun c10 => ?_)
    ·
      refine v_skip ?_
      refine p_seqN ?_
      refine v_seq ?_
      refine v_block ?_
      refine v_seq ?_
      refine v_ops ?_
      refine s_pure (.int .i64 (k : Int)) (fun _ q => q) ?_
      have hk11 : k < r.passed.length := (by first | omega | (simp; omega))
      obtain ⟨x12, hx12⟩ : ∃ x, r.passed[k]? = some x := ⟨_, List.getElem?_eq_getElem hk11⟩
      refine s_pure (.pointer (some ⟨sblk v_r_passed, soff v_r_passed + k * 1, none⟩)) (fun _ q => f9.idx (k := k) rfl hk11 q) ?_
      refine s_load (.int .i64 x12) (fun _ q => f9.load1 hx12 rfl q) ?_
      refine s_pure (.int .i64 (k : Int)) (fun _ q => q) ?_
      refine s_pure (.int .i64 x12) (fun _ q => q) ?_
      refine s_nil ?_
      refine p_seqN ?_
      refine v_seq ?_
      refine v_ops ?_
      refine s_pure (.int .i64 x12) (fun _ q => q) ?_
      refine s_callS [.int .i64 x12] (.bool (decide (PassOk x12))) rfl (isPassed_ok x12 _ ) ?_
      refine s_pure (.bool (!(decide (PassOk x12)))) (fun _ q => q) ?_
      refine s_pure (.bool (!(decide (PassOk x12)))) (fun _ q => q) ?_
      refine s_splitT rfl (fun c13 => ?_) (fun c13 => ?_)
      ·
        refine s_pass rfl ?_
        refine s_pass rfl ?_
        refine s_pass rfl ?_
        refine s_splitU rfl ?_
        refine s_passU rfl ?_
        refine s_passU rfl ?_
        refine s_passU rfl ?_
        refine s_passU rfl ?_
        refine s_splitU rfl ?_
        refine s_passU rfl ?_
        refine s_passU rfl ?_
        refine s_passU rfl ?_
        refine s_passU rfl ?_
        refine s_pass rfl ?_
        refine s_pure (.bool true) (fun _ q => q) ?_
        refine s_nil ?_
        refine p_seqN ?_
        refine v_condY rfl rfl ?_
        refine v_seq ?_
        refine v_ops ?_
        refine s_pure (.bool false) (fun _ q => q) ?_
        refine s_nil ?_
        refine p_seqN ?_
        refine v_ret ?_
        refine p_blkR ?_
        refine p_seqR ?_
        refine p_lpR ?_
        refine p_blkR ?_
        refine p_seqR ?_
        refine p_ret [.bool false] (.bool false) (fun _ q => q) rfl ?_
        have ho : decide (RepOk r) = false := by first | exact rep_long (by omega) | (exact rep_bad (by omega) (by assumption) (fun hp => by first | exact absurd hp.1 (by assumption) | (have := hp.2 (by assumption); omega))) | (exact rep_end (by assumption) hk (by omega) hall (by simp only [beq_iff_eq, decide_eq_true_eq, Bool.false_eq_true, true_iff, false_iff]; simp only [RepTail, PassOk] at *; omega)) | ((have hq := getD_some (by assumption : r.passed[r.passed.length - 1]? = some _)); exact rep_end (by assumption) hk (by omega) hall (by simp only [beq_iff_eq, decide_eq_true_eq, Bool.false_eq_true, true_iff, false_iff]; simp only [RepTail, PassOk] at *; omega))
        exact ⟨by first | (rw [ho]; done) | rfl, Eh⟩
      ·
        have c13 := Classical.not_not.1 c13
        refine s_run rfl ?_
        refine s_pure (.int .i64 x12) (fun _ q => q) ?_
        refine s_run rfl ?_
        refine s_pure (.bool (x12 == 61)) (fun _ q => q) ?_
        refine s_run rfl ?_
        refine s_pure (.bool (x12 == 61)) (fun _ q => q) ?_
        refine s_splitT rfl (fun c14 => ?_) (fun c14 => ?_)
        ·
          refine s_run rfl ?_
          refine s_pure (.int .i64 (k : Int)) (fun _ q => q) ?_
          refine s_run rfl ?_
          refine s_pure (.int .i64 ((r.passed.length : Int) - 1)) (fun _ q => q) ?_
          refine s_run rfl ?_
          refine s_pure (.bool (decide ((k : Int) < ((r.passed.length : Int) - 1)))) (fun _ q => q) ?_
          refine s_run rfl ?_
          refine s_pure (.bool (decide ((k : Int) < ((r.passed.length : Int) - 1)))) (fun _ q => q) ?_
          refine s_splitT rfl (fun c15 => ?_) (fun c15 => ?_)
          ·
            refine s_pass rfl ?_
            refine s_pass rfl ?_
            refine s_pass rfl ?_
            refine s_run rfl ?_
            refine s_pure (.bool true) (fun _ q => q) ?_
            refine s_run rfl ?_
            refine s_pure (.bool true) (fun _ q => q) ?_
            refine s_pure (.bool true) (fun _ q => q) ?_
            refine s_nil ?_
            refine p_seqN ?_
            refine v_condY rfl rfl ?_
            refine v_seq ?_
            refine v_ops ?_
            refine s_pure (.bool false) (fun _ q => q) ?_
            refine s_nil ?_
            refine p_seqN ?_
            refine v_ret ?_
            refine p_blkR ?_
            refine p_seqR ?_
            refine p_lpR ?_
            refine p_blkR ?_
            refine p_seqR ?_
            refine p_ret [.bool false] (.bool false) (fun _ q => q) rfl ?_
            have ho : decide (RepOk r) = false := by first | exact rep_long (by omega) | (exact rep_bad (by omega) (by assumption) (fun hp => by first | exact absurd hp.1 (by assumption) | (have := hp.2 (by assumption); omega))) | (exact rep_end (by assumption) hk (by omega) hall (by simp only [beq_iff_eq, decide_eq_true_eq, Bool.false_eq_true, true_iff, false_iff]; simp only [RepTail, PassOk] at *; omega)) | ((have hq := getD_some (by assumption : r.passed[r.passed.length - 1]? = some _)); exact rep_end (by assumption) hk (by omega) hall (by simp only [beq_iff_eq, decide_eq_true_eq, Bool.false_eq_true, true_iff, false_iff]; simp only [RepTail, PassOk] at *; omega))
            exact ⟨by first | (rw [ho]; done) | rfl, Eh⟩
          ·
            refine s_run rfl ?_
            refine s_pure (.pointer (some ⟨b1, 0, none⟩)) (fun _ q => q) ?_
            refine s_run rfl ?_
            refine s_load (.int .i64 r.phase) (fun _ q => bxb1.load rfl q) ?_
            refine s_run rfl ?_
            refine s_pure (.bool (r.phase != 3)) (fun _ q => q) ?_
            refine s_run rfl ?_
            refine s_pure (.bool (r.phase != 3)) (fun _ q => q) ?_
            refine s_run rfl ?_
            refine s_pure (.bool (r.phase != 3)) (fun _ q => q) ?_
            refine s_pure (.bool (r.phase != 3)) (fun _ q => q) ?_
            refine s_nil ?_
            refine p_seqN ?_
            refine v_cond rfl (fun c16 => ?_) (fun c16 => ?_)
            ·
              refine v_seq ?_
              refine v_ops ?_
              refine s_pure (.bool false) (fun _ q => q) ?_
              refine s_nil ?_
              refine p_seqN ?_
              refine v_ret ?_
              refine p_blkR ?_
              refine p_seqR ?_
              refine p_lpR ?_
              refine p_blkR ?_
              refine p_seqR ?_
              refine p_ret [.bool false] (.bool false) (fun _ q => q) rfl ?_
              have ho : decide (RepOk r) = false := by first | exact rep_long (by omega) | (exact rep_bad (by omega) (by assumption) (fun hp => by first | exact absurd hp.1 (by assumption) | (have := hp.2 (by assumption); omega))) | (exact rep_end (by assumption) hk (by omega) hall (by simp only [beq_iff_eq, decide_eq_true_eq, Bool.false_eq_true, true_iff, false_iff]; simp only [RepTail, PassOk] at *; omega)) | ((have hq := getD_some (by assumption : r.passed[r.passed.length - 1]? = some _)); exact rep_end (by assumption) hk (by omega) hall (by simp only [beq_iff_eq, decide_eq_true_eq, Bool.false_eq_true, true_iff, false_iff]; simp only [RepTail, PassOk] at *; omega))
              exact ⟨by first | (rw [ho]; done) | rfl, Eh⟩
            ·
              have c16 := Classical.not_not.1 c16
              refine v_skip ?_
              refine p_blkN ?_
              refine p_seqN ?_
              refine v_ops ?_
              refine s_pure (.int .i64 ((k : Int) + 1)) (fun _ q => ArithVC.mk (by omega) q) ?_
              refine s_pure (.int .i64 ((k : Int) + 1)) (fun _ q => q) ?_
              refine s_nil ?_
              exact p_lpN ⟨k + 1, ⟨rfl, rfl, rfl, rfl, rfl⟩, ⟨Eh, bxb1, (by refine ⟨by omega, passed_step hall (by assumption) ⟨by assumption, fun hh => ?_⟩⟩; first | exact absurd hh (by assumption) | exact ⟨by assumption, by omega⟩)⟩, by omega⟩
        ·
          refine s_pass rfl ?_
          refine s_pass rfl ?_
          refine s_pass rfl ?_
          refine s_pass rfl ?_
          refine s_splitU rfl ?_
          refine s_passU rfl ?_
          refine s_passU rfl ?_
          refine s_passU rfl ?_
          refine s_pass rfl ?_
          refine s_run rfl ?_
          refine s_pure (.bool false) (fun _ q => q) ?_
          refine s_pure (.bool false) (fun _ q => q) ?_
          refine s_nil ?_
          refine p_seqN ?_
          refine v_condN rfl (by simp) ?_
          refine v_skip ?_
          refine p_blkN ?_
          refine p_seqN ?_
          refine v_ops ?_
          refine s_pure (.int .i64 ((k : Int) + 1)) (fun _ q => ArithVC.mk (by omega) q) ?_
          refine s_pure (.int .i64 ((k : Int) + 1)) (fun _ q => q) ?_
          refine s_nil ?_
          exact p_lpN ⟨k + 1, ⟨rfl, rfl, rfl, rfl, rfl⟩, ⟨Eh, bxb1, (by refine ⟨by omega, passed_step hall (by assumption) ⟨by assumption, fun hh => ?_⟩⟩; first | exact absurd hh (by assumption) | exact ⟨by assumption, by omega⟩)⟩, by omega⟩
    ·
      refine v_exit ?_
      refine p_seqX ?_
      refine p_lpX ?_
      refine p_blkX ?_
      refine p_seqN ?_
      refine v_seq ?_
      refine v_seq ?_
      refine v_ops ?_
      refine s_pure (.pointer (some ⟨b1, 0, none⟩)) (fun _ q => q) ?_
      refine s_load (.int .i64 r.phase) (fun _ q => bxb1.load rfl q) ?_
      refine s_nil ?_
      refine p_seqN ?_
      refine v_block ?_
      refine v_seq ?_
      refine v_ops ?_
      refine s_pure (.bool (r.phase == 0)) (fun _ q => q) ?_
      refine s_pure (.bool (r.phase == 0)) (fun _ q => q) ?_
      refine s_nil ?_
      refine p_seqN ?_
      refine v_cond rfl (fun c17 => ?_) (fun c17 => ?_)
      ·
        refine v_seq ?_
        refine v_ops ?_
        refine s_pure (.pointer (some ⟨b1, 1, none⟩)) (fun _ q => q) ?_
        refine s_load (.int .i64 r.holds) (fun _ q => bxb1.load rfl q) ?_
        refine s_pure (.bool (r.holds == 0)) (fun _ q => q) ?_
        refine s_pure (.bool (r.holds == 0)) (fun _ q => q) ?_
        refine s_splitT rfl (fun c18 => ?_) (fun c18 => ?_)
        ·
          refine s_run rfl ?_
          refine s_pure (.pointer (some ⟨b1, 2, none⟩)) (fun _ q => q) ?_
          refine s_run rfl ?_
          refine s_load (.int .i64 r.again) (fun _ q => bxb1.load rfl q) ?_
          refine s_run rfl ?_
          refine s_pure (.bool (r.again == 0)) (fun _ q => q) ?_
          refine s_pure (.bool (r.again == 0)) (fun _ q => q) ?_
          refine s_pure (.bool (r.again == 0)) (fun _ q => q) ?_
          refine s_splitT rfl (fun c19 => ?_) (fun c19 => ?_)
          ·
            refine s_run rfl ?_
            refine s_pure (.pointer (some ⟨b1, 3, none⟩)) (fun _ q => q) ?_
            refine s_run rfl ?_
            refine s_load (.int .i64 r.shown) (fun _ q => bxb1.load rfl q) ?_
            refine s_run rfl ?_
            refine s_pure (.bool (r.shown == 0)) (fun _ q => q) ?_
            refine s_run rfl ?_
            refine s_pure (.bool (r.shown == 0)) (fun _ q => q) ?_
            refine s_splitT rfl (fun c20 => ?_) (fun c20 => ?_)
            ·
              refine s_pass rfl ?_
              refine s_pass rfl ?_
              refine s_pass rfl ?_
              refine s_run rfl ?_
              refine s_pure (.bool true) (fun _ q => q) ?_
              refine s_pure (.bool true) (fun _ q => q) ?_
              refine s_pure (.bool true) (fun _ q => q) ?_
              refine s_nil ?_
              refine p_seqN ?_
              refine v_ret ?_
              refine p_blkR ?_
              refine p_seqR ?_
              refine p_ret [.bool true] (.bool true) (fun _ q => q) rfl ?_
              have ho : decide (RepOk r) = true := by first | exact rep_long (by omega) | (exact rep_bad (by omega) (by assumption) (fun hp => by first | exact absurd hp.1 (by assumption) | (have := hp.2 (by assumption); omega))) | (exact rep_end (by assumption) hk (by omega) hall (by simp only [beq_iff_eq, decide_eq_true_eq, Bool.false_eq_true, true_iff, false_iff]; simp only [RepTail, PassOk] at *; omega)) | ((have hq := getD_some (by assumption : r.passed[r.passed.length - 1]? = some _)); exact rep_end (by assumption) hk (by omega) hall (by simp only [beq_iff_eq, decide_eq_true_eq, Bool.false_eq_true, true_iff, false_iff]; simp only [RepTail, PassOk] at *; omega))
              exact ⟨by first | (rw [ho]; done) | rfl, Eh⟩
            ·
              refine s_run rfl ?_
              refine s_pure (.pointer (some ⟨b1, 3, none⟩)) (fun _ q => q) ?_
              refine s_run rfl ?_
              refine s_load (.int .i64 r.shown) (fun _ q => bxb1.load rfl q) ?_
              refine s_run rfl ?_
              refine s_pure (.bool (r.shown == 62)) (fun _ q => q) ?_
              refine s_run rfl ?_
              refine s_pure (.bool (r.shown == 62)) (fun _ q => q) ?_
              refine s_pure (.bool (r.shown == 62)) (fun _ q => q) ?_
              refine s_pure (.bool (r.shown == 62)) (fun _ q => q) ?_
              refine s_nil ?_
              refine p_seqN ?_
              refine v_ret ?_
              refine p_blkR ?_
              refine p_seqR ?_
              refine p_ret [.bool (r.shown == 62)] (.bool (r.shown == 62)) (fun _ q => q) rfl ?_
              have ho : decide (RepOk r) = (r.shown == 62) := by first | exact rep_long (by omega) | (exact rep_bad (by omega) (by assumption) (fun hp => by first | exact absurd hp.1 (by assumption) | (have := hp.2 (by assumption); omega))) | (exact rep_end (by assumption) hk (by omega) hall (by simp only [beq_iff_eq, decide_eq_true_eq, Bool.false_eq_true, true_iff, false_iff]; simp only [RepTail, PassOk] at *; omega)) | ((have hq := getD_some (by assumption : r.passed[r.passed.length - 1]? = some _)); exact rep_end (by assumption) hk (by omega) hall (by simp only [beq_iff_eq, decide_eq_true_eq, Bool.false_eq_true, true_iff, false_iff]; simp only [RepTail, PassOk] at *; omega))
              exact ⟨by first | (rw [ho]; done) | rfl, Eh⟩
          ·
            refine s_pass rfl ?_
            refine s_pass rfl ?_
            refine s_pass rfl ?_
            refine s_pass rfl ?_
            refine s_splitU rfl ?_
            refine s_passU rfl ?_
            refine s_passU rfl ?_
            refine s_passU rfl ?_
            refine s_pass rfl ?_
            refine s_pure (.bool false) (fun _ q => q) ?_
            refine s_pure (.bool false) (fun _ q => q) ?_
            refine s_nil ?_
            refine p_seqN ?_
            refine v_ret ?_
            refine p_blkR ?_
            refine p_seqR ?_
            refine p_ret [.bool false] (.bool false) (fun _ q => q) rfl ?_
            have ho : decide (RepOk r) = false := by first | exact rep_long (by omega) | (exact rep_bad (by omega) (by assumption) (fun hp => by first | exact absurd hp.1 (by assumption) | (have := hp.2 (by assumption); omega))) | (exact rep_end (by assumption) hk (by omega) hall (by simp only [beq_iff_eq, decide_eq_true_eq, Bool.false_eq_true, true_iff, false_iff]; simp only [RepTail, PassOk] at *; omega)) | ((have hq := getD_some (by assumption : r.passed[r.passed.length - 1]? = some _)); exact rep_end (by assumption) hk (by omega) hall (by simp only [beq_iff_eq, decide_eq_true_eq, Bool.false_eq_true, true_iff, false_iff]; simp only [RepTail, PassOk] at *; omega))
            exact ⟨by first | (rw [ho]; done) | rfl, Eh⟩
        ·
          refine s_pass rfl ?_
          refine s_pass rfl ?_
          refine s_pass rfl ?_
          refine s_pure (.bool false) (fun _ q => q) ?_
          refine s_pure (.bool false) (fun _ q => q) ?_
          refine s_splitN rfl (by simp) ?_
          refine s_pass rfl ?_
          refine s_pass rfl ?_
          refine s_pass rfl ?_
          refine s_pass rfl ?_
          refine s_splitU rfl ?_
          refine s_passU rfl ?_
          refine s_passU rfl ?_
          refine s_passU rfl ?_
          refine s_pass rfl ?_
          refine s_pure (.bool false) (fun _ q => q) ?_
          refine s_pure (.bool false) (fun _ q => q) ?_
          refine s_nil ?_
          refine p_seqN ?_
          refine v_ret ?_
          refine p_blkR ?_
          refine p_seqR ?_
          refine p_ret [.bool false] (.bool false) (fun _ q => q) rfl ?_
          have ho : decide (RepOk r) = false := by first | exact rep_long (by omega) | (exact rep_bad (by omega) (by assumption) (fun hp => by first | exact absurd hp.1 (by assumption) | (have := hp.2 (by assumption); omega))) | (exact rep_end (by assumption) hk (by omega) hall (by simp only [beq_iff_eq, decide_eq_true_eq, Bool.false_eq_true, true_iff, false_iff]; simp only [RepTail, PassOk] at *; omega)) | ((have hq := getD_some (by assumption : r.passed[r.passed.length - 1]? = some _)); exact rep_end (by assumption) hk (by omega) hall (by simp only [beq_iff_eq, decide_eq_true_eq, Bool.false_eq_true, true_iff, false_iff]; simp only [RepTail, PassOk] at *; omega))
          exact ⟨by first | (rw [ho]; done) | rfl, Eh⟩
      ·
        refine v_seq ?_
        refine v_ops ?_
        refine s_pure (.bool (r.phase == 1)) (fun _ q => q) ?_
        refine s_pure (.bool (r.phase == 1)) (fun _ q => q) ?_
        refine s_nil ?_
        refine p_seqN ?_
        refine v_cond rfl (fun c21 => ?_) (fun c21 => ?_)
        ·
          refine v_seq ?_
          refine v_ops ?_
          refine s_pure (.pointer (some ⟨b1, 1, none⟩)) (fun _ q => q) ?_
          refine s_load (.int .i64 r.holds) (fun _ q => bxb1.load rfl q) ?_
          refine s_callS [.int .i64 r.holds] (.bool (decide (PassOk r.holds))) rfl (isPassed_ok r.holds _ ) ?_
          refine s_pure (.bool (decide (PassOk r.holds))) (fun _ q => q) ?_
          refine s_splitT rfl (fun c22 => ?_) (fun c22 => ?_)
          ·
            refine s_run rfl ?_
            refine s_pure (.pointer (some ⟨b1, 3, none⟩)) (fun _ q => q) ?_
            refine s_run rfl ?_
            refine s_load (.int .i64 r.shown) (fun _ q => bxb1.load rfl q) ?_
            refine s_run rfl ?_
            refine s_pure (.pointer (some ⟨b1, 1, none⟩)) (fun _ q => q) ?_
            refine s_run rfl ?_
            refine s_load (.int .i64 r.holds) (fun _ q => bxb1.load rfl q) ?_
            refine s_run rfl ?_
            refine s_pure (.bool (r.shown == r.holds)) (fun _ q => q) ?_
            refine s_pure (.bool (r.shown == r.holds)) (fun _ q => q) ?_
            refine s_pure (.bool (r.shown == r.holds)) (fun _ q => q) ?_
            refine s_splitT rfl (fun c23 => ?_) (fun c23 => ?_)
            ·
              refine s_run rfl ?_
              refine s_pure (.pointer (some ⟨b1, 2, none⟩)) (fun _ q => q) ?_
              refine s_run rfl ?_
              refine s_load (.int .i64 r.again) (fun _ q => bxb1.load rfl q) ?_
              refine s_run rfl ?_
              refine s_callS [.int .i64 r.again, .int .i64 0, .int .i64 3] (.bool (decide (0 ≤ r.again ∧ r.again ≤ 3))) rfl (within_ok r.again 0 3 _ ) ?_
              refine s_pure (.bool (decide (0 ≤ r.again ∧ r.again ≤ 3))) (fun _ q => q) ?_
              refine s_pure (.bool (decide (0 ≤ r.again ∧ r.again ≤ 3))) (fun _ q => q) ?_
              refine s_nil ?_
              refine p_seqN ?_
              refine v_ret ?_
              refine p_blkR ?_
              refine p_seqR ?_
              refine p_ret [.bool (decide (0 ≤ r.again ∧ r.again ≤ 3))] (.bool (decide (0 ≤ r.again ∧ r.again ≤ 3))) (fun _ q => q) rfl ?_
              have ho : decide (RepOk r) = (decide (0 ≤ r.again ∧ r.again ≤ 3)) := by first | exact rep_long (by omega) | (exact rep_bad (by omega) (by assumption) (fun hp => by first | exact absurd hp.1 (by assumption) | (have := hp.2 (by assumption); omega))) | (exact rep_end (by assumption) hk (by omega) hall (by simp only [beq_iff_eq, decide_eq_true_eq, Bool.false_eq_true, true_iff, false_iff]; simp only [RepTail, PassOk] at *; omega)) | ((have hq := getD_some (by assumption : r.passed[r.passed.length - 1]? = some _)); exact rep_end (by assumption) hk (by omega) hall (by simp only [beq_iff_eq, decide_eq_true_eq, Bool.false_eq_true, true_iff, false_iff]; simp only [RepTail, PassOk] at *; omega))
              exact ⟨by first | (rw [ho]; done) | rfl, Eh⟩
            ·
              refine s_pass rfl ?_
              refine s_pass rfl ?_
              refine s_pass rfl ?_
              refine s_pure (.bool false) (fun _ q => q) ?_
              refine s_pure (.bool false) (fun _ q => q) ?_
              refine s_nil ?_
              refine p_seqN ?_
              refine v_ret ?_
              refine p_blkR ?_
              refine p_seqR ?_
              refine p_ret [.bool false] (.bool false) (fun _ q => q) rfl ?_
              have ho : decide (RepOk r) = false := by first | exact rep_long (by omega) | (exact rep_bad (by omega) (by assumption) (fun hp => by first | exact absurd hp.1 (by assumption) | (have := hp.2 (by assumption); omega))) | (exact rep_end (by assumption) hk (by omega) hall (by simp only [beq_iff_eq, decide_eq_true_eq, Bool.false_eq_true, true_iff, false_iff]; simp only [RepTail, PassOk] at *; omega)) | ((have hq := getD_some (by assumption : r.passed[r.passed.length - 1]? = some _)); exact rep_end (by assumption) hk (by omega) hall (by simp only [beq_iff_eq, decide_eq_true_eq, Bool.false_eq_true, true_iff, false_iff]; simp only [RepTail, PassOk] at *; omega))
              exact ⟨by first | (rw [ho]; done) | rfl, Eh⟩
          ·
            refine s_pass rfl ?_
            refine s_pass rfl ?_
            refine s_pass rfl ?_
            refine s_pass rfl ?_
            refine s_pass rfl ?_
            refine s_pure (.bool false) (fun _ q => q) ?_
            refine s_pure (.bool false) (fun _ q => q) ?_
            refine s_splitN rfl (by simp) ?_
            refine s_pass rfl ?_
            refine s_pass rfl ?_
            refine s_pass rfl ?_
            refine s_pure (.bool false) (fun _ q => q) ?_
            refine s_pure (.bool false) (fun _ q => q) ?_
            refine s_nil ?_
            refine p_seqN ?_
            refine v_ret ?_
            refine p_blkR ?_
            refine p_seqR ?_
            refine p_ret [.bool false] (.bool false) (fun _ q => q) rfl ?_
            have ho : decide (RepOk r) = false := by first | exact rep_long (by omega) | (exact rep_bad (by omega) (by assumption) (fun hp => by first | exact absurd hp.1 (by assumption) | (have := hp.2 (by assumption); omega))) | (exact rep_end (by assumption) hk (by omega) hall (by simp only [beq_iff_eq, decide_eq_true_eq, Bool.false_eq_true, true_iff, false_iff]; simp only [RepTail, PassOk] at *; omega)) | ((have hq := getD_some (by assumption : r.passed[r.passed.length - 1]? = some _)); exact rep_end (by assumption) hk (by omega) hall (by simp only [beq_iff_eq, decide_eq_true_eq, Bool.false_eq_true, true_iff, false_iff]; simp only [RepTail, PassOk] at *; omega))
            exact ⟨by first | (rw [ho]; done) | rfl, Eh⟩
        ·
          refine v_seq ?_
          refine v_ops ?_
          refine s_pure (.bool (r.phase == 2)) (fun _ q => q) ?_
          refine s_pure (.bool (r.phase == 2)) (fun _ q => q) ?_
          refine s_nil ?_
          refine p_seqN ?_
          refine v_cond rfl (fun c24 => ?_) (fun c24 => ?_)
          ·
            refine v_seq ?_
            refine v_ops ?_
            refine s_pure (.pointer (some ⟨b1, 1, none⟩)) (fun _ q => q) ?_
            refine s_load (.int .i64 r.holds) (fun _ q => bxb1.load rfl q) ?_
            refine s_callS [.int .i64 r.holds] (.bool (decide (PassOk r.holds))) rfl (isPassed_ok r.holds _ ) ?_
            refine s_pure (.bool (decide (PassOk r.holds))) (fun _ q => q) ?_
            refine s_splitT rfl (fun c25 => ?_) (fun c25 => ?_)
            ·
              refine s_run rfl ?_
              refine s_pure (.pointer (some ⟨b1, 2, none⟩)) (fun _ q => q) ?_
              refine s_run rfl ?_
              refine s_load (.int .i64 r.again) (fun _ q => bxb1.load rfl q) ?_
              refine s_run rfl ?_
              refine s_pure (.bool (r.again == 3)) (fun _ q => q) ?_
              refine s_pure (.bool (r.again == 3)) (fun _ q => q) ?_
              refine s_pure (.bool (r.again == 3)) (fun _ q => q) ?_
              refine s_splitT rfl (fun c26 => ?_) (fun c26 => ?_)
              ·
                refine s_run rfl ?_
                refine s_pure (.pointer (some ⟨b1, 3, none⟩)) (fun _ q => q) ?_
                refine s_run rfl ?_
                refine s_load (.int .i64 r.shown) (fun _ q => bxb1.load rfl q) ?_
                refine s_run rfl ?_
                refine s_pure (.bool (r.shown == 63)) (fun _ q => q) ?_
                refine s_pure (.bool (r.shown == 63)) (fun _ q => q) ?_
                refine s_pure (.bool (r.shown == 63)) (fun _ q => q) ?_
                refine s_nil ?_
                refine p_seqN ?_
                refine v_ret ?_
                refine p_blkR ?_
                refine p_seqR ?_
                refine p_ret [.bool (r.shown == 63)] (.bool (r.shown == 63)) (fun _ q => q) rfl ?_
                have ho : decide (RepOk r) = (r.shown == 63) := by first | exact rep_long (by omega) | (exact rep_bad (by omega) (by assumption) (fun hp => by first | exact absurd hp.1 (by assumption) | (have := hp.2 (by assumption); omega))) | (exact rep_end (by assumption) hk (by omega) hall (by simp only [beq_iff_eq, decide_eq_true_eq, Bool.false_eq_true, true_iff, false_iff]; simp only [RepTail, PassOk] at *; omega)) | ((have hq := getD_some (by assumption : r.passed[r.passed.length - 1]? = some _)); exact rep_end (by assumption) hk (by omega) hall (by simp only [beq_iff_eq, decide_eq_true_eq, Bool.false_eq_true, true_iff, false_iff]; simp only [RepTail, PassOk] at *; omega))
                exact ⟨by first | (rw [ho]; done) | rfl, Eh⟩
              ·
                refine s_pass rfl ?_
                refine s_pass rfl ?_
                refine s_pass rfl ?_
                refine s_pure (.bool false) (fun _ q => q) ?_
                refine s_pure (.bool false) (fun _ q => q) ?_
                refine s_nil ?_
                refine p_seqN ?_
                refine v_ret ?_
                refine p_blkR ?_
                refine p_seqR ?_
                refine p_ret [.bool false] (.bool false) (fun _ q => q) rfl ?_
                have ho : decide (RepOk r) = false := by first | exact rep_long (by omega) | (exact rep_bad (by omega) (by assumption) (fun hp => by first | exact absurd hp.1 (by assumption) | (have := hp.2 (by assumption); omega))) | (exact rep_end (by assumption) hk (by omega) hall (by simp only [beq_iff_eq, decide_eq_true_eq, Bool.false_eq_true, true_iff, false_iff]; simp only [RepTail, PassOk] at *; omega)) | ((have hq := getD_some (by assumption : r.passed[r.passed.length - 1]? = some _)); exact rep_end (by assumption) hk (by omega) hall (by simp only [beq_iff_eq, decide_eq_true_eq, Bool.false_eq_true, true_iff, false_iff]; simp only [RepTail, PassOk] at *; omega))
                exact ⟨by first | (rw [ho]; done) | rfl, Eh⟩
            ·
              refine s_pass rfl ?_
              refine s_pass rfl ?_
              refine s_pass rfl ?_
              refine s_pure (.bool false) (fun _ q => q) ?_
              refine s_pure (.bool false) (fun _ q => q) ?_
              refine s_splitN rfl (by simp) ?_
              refine s_pass rfl ?_
              refine s_pass rfl ?_
              refine s_pass rfl ?_
              refine s_pure (.bool false) (fun _ q => q) ?_
              refine s_pure (.bool false) (fun _ q => q) ?_
              refine s_nil ?_
              refine p_seqN ?_
              refine v_ret ?_
              refine p_blkR ?_
              refine p_seqR ?_
              refine p_ret [.bool false] (.bool false) (fun _ q => q) rfl ?_
              have ho : decide (RepOk r) = false := by first | exact rep_long (by omega) | (exact rep_bad (by omega) (by assumption) (fun hp => by first | exact absurd hp.1 (by assumption) | (have := hp.2 (by assumption); omega))) | (exact rep_end (by assumption) hk (by omega) hall (by simp only [beq_iff_eq, decide_eq_true_eq, Bool.false_eq_true, true_iff, false_iff]; simp only [RepTail, PassOk] at *; omega)) | ((have hq := getD_some (by assumption : r.passed[r.passed.length - 1]? = some _)); exact rep_end (by assumption) hk (by omega) hall (by simp only [beq_iff_eq, decide_eq_true_eq, Bool.false_eq_true, true_iff, false_iff]; simp only [RepTail, PassOk] at *; omega))
              exact ⟨by first | (rw [ho]; done) | rfl, Eh⟩
          ·
            refine v_seq ?_
            refine v_ops ?_
            refine s_pure (.bool (r.phase == 3)) (fun _ q => q) ?_
            refine s_pure (.bool (r.phase == 3)) (fun _ q => q) ?_
            refine s_nil ?_
            refine p_seqN ?_
            refine v_cond rfl (fun c27 => ?_) (fun c27 => ?_)
            ·
              refine v_seq ?_
              refine v_ops ?_
              refine s_pure (.pointer (some ⟨b1, 1, none⟩)) (fun _ q => q) ?_
              refine s_load (.int .i64 r.holds) (fun _ q => bxb1.load rfl q) ?_
              refine s_pure (.bool (r.holds == 0)) (fun _ q => q) ?_
              refine s_pure (.bool (r.holds == 0)) (fun _ q => q) ?_
              refine s_splitT rfl (fun c28 => ?_) (fun c28 => ?_)
              ·
                refine s_run rfl ?_
                refine s_pure (.pointer (some ⟨b1, 2, none⟩)) (fun _ q => q) ?_
                refine s_run rfl ?_
                refine s_load (.int .i64 r.again) (fun _ q => bxb1.load rfl q) ?_
                refine s_run rfl ?_
                refine s_pure (.bool (r.again == 0)) (fun _ q => q) ?_
                refine s_pure (.bool (r.again == 0)) (fun _ q => q) ?_
                refine s_pure (.bool (r.again == 0)) (fun _ q => q) ?_
                refine s_splitT rfl (fun c29 => ?_) (fun c29 => ?_)
                ·
                  refine s_run rfl ?_
                  refine s_pure (.pointer (some ⟨b1, 3, none⟩)) (fun _ q => q) ?_
                  refine s_run rfl ?_
                  refine s_load (.int .i64 r.shown) (fun _ q => bxb1.load rfl q) ?_
                  refine s_run rfl ?_
                  refine s_pure (.bool (r.shown == 0)) (fun _ q => q) ?_
                  refine s_pure (.bool (r.shown == 0)) (fun _ q => q) ?_
                  refine s_pure (.bool (r.shown == 0)) (fun _ q => q) ?_
                  refine s_splitT rfl (fun c30 => ?_) (fun c30 => ?_)
                  ·
                    refine s_run rfl ?_
                    refine s_pure (.int .i64 ((r.passed.length : Int) - 1)) (fun _ q => q) ?_
                    refine s_run rfl ?_
                    refine s_pure (.bool (decide (((r.passed.length : Int) - 1) ≥ 0))) (fun _ q => q) ?_
                    refine s_pure (.bool (decide (((r.passed.length : Int) - 1) ≥ 0))) (fun _ q => q) ?_
                    refine s_pure (.bool (decide (((r.passed.length : Int) - 1) ≥ 0))) (fun _ q => q) ?_
                    refine s_splitT rfl (fun c31 => ?_) (fun c31 => ?_)
                    ·
                      refine s_run rfl ?_
                      refine s_pure (.pointer (some ⟨b1, 4, none⟩)) (fun _ q => q) ?_
                      refine s_run rfl ?_
                      refine s_load v_r_passed (fun _ q => bxb1.load rfl q) ?_
                      refine s_run rfl ?_
                      refine s_pure (.int .i64 ((r.passed.length : Int) - 1)) (fun _ q => q) ?_
                      refine s_run rfl ?_
                      have hk32 : (r.passed.length - 1) < r.passed.length := (by first | omega | (simp; omega))
                      obtain ⟨x33, hx33⟩ : ∃ x, r.passed[(r.passed.length - 1)]? = some x := ⟨_, List.getElem?_eq_getElem hk32⟩
                      refine s_pure (.pointer (some ⟨sblk v_r_passed, soff v_r_passed + (r.passed.length - 1) * 1, none⟩)) (fun _ q => f9.idx (k := (r.passed.length - 1)) (by omega) hk32 q) ?_
                      refine s_run rfl ?_
                      refine s_load (.int .i64 x33) (fun _ q => f9.load1 hx33 rfl q) ?_
                      refine s_run rfl ?_
                      refine s_pure (.bool (x33 == 61)) (fun _ q => q) ?_
                      refine s_pure (.bool (x33 == 61)) (fun _ q => q) ?_
                      refine s_pure (.bool (x33 == 61)) (fun _ q => q) ?_
                      refine s_nil ?_
                      refine p_seqN ?_
                      refine v_ret ?_
                      refine p_blkR ?_
                      refine p_seqR ?_
                      refine p_ret [.bool (x33 == 61)] (.bool (x33 == 61)) (fun _ q => q) rfl ?_
                      have ho : decide (RepOk r) = (x33 == 61) := by first | exact rep_long (by omega) | (exact rep_bad (by omega) (by assumption) (fun hp => by first | exact absurd hp.1 (by assumption) | (have := hp.2 (by assumption); omega))) | (exact rep_end (by assumption) hk (by omega) hall (by simp only [beq_iff_eq, decide_eq_true_eq, Bool.false_eq_true, true_iff, false_iff]; simp only [RepTail, PassOk] at *; omega)) | ((have hq := getD_some (by assumption : r.passed[r.passed.length - 1]? = some _)); exact rep_end (by assumption) hk (by omega) hall (by simp only [beq_iff_eq, decide_eq_true_eq, Bool.false_eq_true, true_iff, false_iff]; simp only [RepTail, PassOk] at *; omega))
                      exact ⟨by first | (rw [ho]; done) | rfl, Eh⟩
                    ·
                      refine s_pass rfl ?_
                      refine s_pass rfl ?_
                      refine s_pass rfl ?_
                      refine s_pass rfl ?_
                      refine s_pass rfl ?_
                      refine s_pass rfl ?_
                      refine s_pure (.bool false) (fun _ q => q) ?_
                      refine s_pure (.bool false) (fun _ q => q) ?_
                      refine s_nil ?_
                      refine p_seqN ?_
                      refine v_ret ?_
                      refine p_blkR ?_
                      refine p_seqR ?_
                      refine p_ret [.bool false] (.bool false) (fun _ q => q) rfl ?_
                      have ho : decide (RepOk r) = false := by first | exact rep_long (by omega) | (exact rep_bad (by omega) (by assumption) (fun hp => by first | exact absurd hp.1 (by assumption) | (have := hp.2 (by assumption); omega))) | (exact rep_end (by assumption) hk (by omega) hall (by simp only [beq_iff_eq, decide_eq_true_eq, Bool.false_eq_true, true_iff, false_iff]; simp only [RepTail, PassOk] at *; omega)) | ((have hq := getD_some (by assumption : r.passed[r.passed.length - 1]? = some _)); exact rep_end (by assumption) hk (by omega) hall (by simp only [beq_iff_eq, decide_eq_true_eq, Bool.false_eq_true, true_iff, false_iff]; simp only [RepTail, PassOk] at *; omega))
                      exact ⟨by first | (rw [ho]; done) | rfl, Eh⟩
                  ·
                    refine s_pass rfl ?_
                    refine s_pass rfl ?_
                    refine s_pure (.bool false) (fun _ q => q) ?_
                    refine s_pure (.bool false) (fun _ q => q) ?_
                    refine s_splitN rfl (by simp) ?_
                    refine s_pass rfl ?_
                    refine s_pass rfl ?_
                    refine s_pass rfl ?_
                    refine s_pass rfl ?_
                    refine s_pass rfl ?_
                    refine s_pass rfl ?_
                    refine s_pure (.bool false) (fun _ q => q) ?_
                    refine s_pure (.bool false) (fun _ q => q) ?_
                    refine s_nil ?_
                    refine p_seqN ?_
                    refine v_ret ?_
                    refine p_blkR ?_
                    refine p_seqR ?_
                    refine p_ret [.bool false] (.bool false) (fun _ q => q) rfl ?_
                    have ho : decide (RepOk r) = false := by first | exact rep_long (by omega) | (exact rep_bad (by omega) (by assumption) (fun hp => by first | exact absurd hp.1 (by assumption) | (have := hp.2 (by assumption); omega))) | (exact rep_end (by assumption) hk (by omega) hall (by simp only [beq_iff_eq, decide_eq_true_eq, Bool.false_eq_true, true_iff, false_iff]; simp only [RepTail, PassOk] at *; omega)) | ((have hq := getD_some (by assumption : r.passed[r.passed.length - 1]? = some _)); exact rep_end (by assumption) hk (by omega) hall (by simp only [beq_iff_eq, decide_eq_true_eq, Bool.false_eq_true, true_iff, false_iff]; simp only [RepTail, PassOk] at *; omega))
                    exact ⟨by first | (rw [ho]; done) | rfl, Eh⟩
                ·
                  refine s_pass rfl ?_
                  refine s_pass rfl ?_
                  refine s_pass rfl ?_
                  refine s_pure (.bool false) (fun _ q => q) ?_
                  refine s_pure (.bool false) (fun _ q => q) ?_
                  refine s_splitN rfl (by simp) ?_
                  refine s_pass rfl ?_
                  refine s_pass rfl ?_
                  refine s_pure (.bool false) (fun _ q => q) ?_
                  refine s_pure (.bool false) (fun _ q => q) ?_
                  refine s_splitN rfl (by simp) ?_
                  refine s_pass rfl ?_
                  refine s_pass rfl ?_
                  refine s_pass rfl ?_
                  refine s_pass rfl ?_
                  refine s_pass rfl ?_
                  refine s_pass rfl ?_
                  refine s_pure (.bool false) (fun _ q => q) ?_
                  refine s_pure (.bool false) (fun _ q => q) ?_
                  refine s_nil ?_
                  refine p_seqN ?_
                  refine v_ret ?_
                  refine p_blkR ?_
                  refine p_seqR ?_
                  refine p_ret [.bool false] (.bool false) (fun _ q => q) rfl ?_
                  have ho : decide (RepOk r) = false := by first | exact rep_long (by omega) | (exact rep_bad (by omega) (by assumption) (fun hp => by first | exact absurd hp.1 (by assumption) | (have := hp.2 (by assumption); omega))) | (exact rep_end (by assumption) hk (by omega) hall (by simp only [beq_iff_eq, decide_eq_true_eq, Bool.false_eq_true, true_iff, false_iff]; simp only [RepTail, PassOk] at *; omega)) | ((have hq := getD_some (by assumption : r.passed[r.passed.length - 1]? = some _)); exact rep_end (by assumption) hk (by omega) hall (by simp only [beq_iff_eq, decide_eq_true_eq, Bool.false_eq_true, true_iff, false_iff]; simp only [RepTail, PassOk] at *; omega))
                  exact ⟨by first | (rw [ho]; done) | rfl, Eh⟩
              ·
                refine s_pass rfl ?_
                refine s_pass rfl ?_
                refine s_pass rfl ?_
                refine s_pure (.bool false) (fun _ q => q) ?_
                refine s_pure (.bool false) (fun _ q => q) ?_
                refine s_splitN rfl (by simp) ?_
                refine s_pass rfl ?_
                refine s_pass rfl ?_
                refine s_pass rfl ?_
                refine s_pure (.bool false) (fun _ q => q) ?_
                refine s_pure (.bool false) (fun _ q => q) ?_
                refine s_splitN rfl (by simp) ?_
                refine s_pass rfl ?_
                refine s_pass rfl ?_
                refine s_pure (.bool false) (fun _ q => q) ?_
                refine s_pure (.bool false) (fun _ q => q) ?_
                refine s_splitN rfl (by simp) ?_
                refine s_pass rfl ?_
                refine s_pass rfl ?_
                refine s_pass rfl ?_
                refine s_pass rfl ?_
                refine s_pass rfl ?_
                refine s_pass rfl ?_
                refine s_pure (.bool false) (fun _ q => q) ?_
                refine s_pure (.bool false) (fun _ q => q) ?_
                refine s_nil ?_
                refine p_seqN ?_
                refine v_ret ?_
                refine p_blkR ?_
                refine p_seqR ?_
                refine p_ret [.bool false] (.bool false) (fun _ q => q) rfl ?_
                have ho : decide (RepOk r) = false := by first | exact rep_long (by omega) | (exact rep_bad (by omega) (by assumption) (fun hp => by first | exact absurd hp.1 (by assumption) | (have := hp.2 (by assumption); omega))) | (exact rep_end (by assumption) hk (by omega) hall (by simp only [beq_iff_eq, decide_eq_true_eq, Bool.false_eq_true, true_iff, false_iff]; simp only [RepTail, PassOk] at *; omega)) | ((have hq := getD_some (by assumption : r.passed[r.passed.length - 1]? = some _)); exact rep_end (by assumption) hk (by omega) hall (by simp only [beq_iff_eq, decide_eq_true_eq, Bool.false_eq_true, true_iff, false_iff]; simp only [RepTail, PassOk] at *; omega))
                exact ⟨by first | (rw [ho]; done) | rfl, Eh⟩
            ·
              refine v_skip ?_
              refine p_blkN ?_
              refine p_seqN ?_
              refine v_seq ?_
              refine v_ops ?_
              refine s_pure (.bool false) (fun _ q => q) ?_
              refine s_nil ?_
              refine p_seqN ?_
              refine v_ret ?_
              refine p_ret [.bool false] (.bool false) (fun _ q => q) rfl ?_
              have ho : decide (RepOk r) = false := by first | exact rep_long (by omega) | (exact rep_bad (by omega) (by assumption) (fun hp => by first | exact absurd hp.1 (by assumption) | (have := hp.2 (by assumption); omega))) | (exact rep_end (by assumption) hk (by omega) hall (by simp only [beq_iff_eq, decide_eq_true_eq, Bool.false_eq_true, true_iff, false_iff]; simp only [RepTail, PassOk] at *; omega)) | ((have hq := getD_some (by assumption : r.passed[r.passed.length - 1]? = some _)); exact rep_end (by assumption) hk (by omega) hall (by simp only [beq_iff_eq, decide_eq_true_eq, Bool.false_eq_true, true_iff, false_iff]; simp only [RepTail, PassOk] at *; omega))
              exact ⟨by first | (rw [ho]; done) | rfl, Eh⟩

set_option maxRecDepth 10000 in
set_option maxHeartbeats 4000000 in
theorem spec_rpGood_ok (r : RepP) (v_r_passed : Value) (h : Heap) (s_r_passed : Sl h v_r_passed r.passed) : Cn f_spec_rpGood [.agg #[.int .i64 r.phase, .int .i64 r.holds, .int .i64 r.again, .int .i64 r.shown, v_r_passed]] h fun v h' => v = .bool (decide (RepOk r)) ∧ Ext h h' := by
  have lt_r_passed := s_r_passed.lt
  have l63_r_passed := s_r_passed.len63
  refine calls_of r_spec_rpGood ?_
  refine v_seq ?_
  refine v_ops ?_
  refine s_box [.int .i64 r.phase, .int .i64 r.holds, .int .i64 r.again, .int .i64 r.shown, v_r_passed] rfl (fun h2 b1 hbb1 hzb1 eh2 bxb1 => ?_)
  have E3 := (Ext.refl h).trans eh2
  have z4 := eh2.size
  have lbb1 := bxb1.lt
  refine s_pure (.bool false) (fun _ q => q) ?_
  refine s_nil ?_
  refine p_seqN ?_
  refine v_seq ?_
  refine v_seq ?_
  refine v_ops ?_
  refine s_pure (.pointer (some ⟨b1, 4, none⟩)) (fun _ q => q) ?_
  refine s_load v_r_passed (fun _ q => bxb1.load rfl q) ?_
  refine s_pure (.int .i64 (r.passed.length : Int)) (fun _ q => s_r_passed.lenVC q) ?_
  refine s_pure (.int .i64 0) (fun _ q => q) ?_
  refine s_nil ?_
  refine p_seqN ?_
  refine v_block ?_
  refine v_loop1 (α := Nat) (fun k => [(1, .pointer (some ⟨b1, 0, none⟩)), (7, v_r_passed), (8, .int .i64 (r.passed.length : Int)), (9, .int .i64 (k : Int))]) (fun k hh => Ext h hh ∧ Bx hh b1 [.int .i64 r.phase, .int .i64 r.holds, .int .i64 r.again, .int .i64 r.shown, v_r_passed] 25 ∧ k ≤ r.passed.length ∧ PassedOk r.phase r.passed k) (fun k => r.passed.length - k) 0 ⟨rfl, rfl, rfl, rfl⟩ ⟨E3, bxb1, (by exact ⟨by omega, fun i x hi => by omega⟩)⟩ ?_
  rintro k R6 h5 ⟨Eh, bxb1, ⟨hk, hall⟩⟩
  have zEh := Eh.size
  have f8 := s_r_passed.ext Eh
  have lbb1 := bxb1.lt
  refine v_seq ?_
  refine v_ops ?_
  refine s_pure (.bool (decide ((k : Int) < (r.passed.length : Int)))) (fun _ q => q) ?_
  refine s_nil ?_
  refine p_seqN ?_
  refine v_seq ?_
  refine v_cond rfl (fun c9 => ?_) (fun c9 => ?_)
  ·
    refine v_skip ?_
    refine p_seqN ?_
    refine v_seq ?_
    refine v_block ?_
    refine v_seq ?_
    refine v_ops ?_
    refine s_pure (.int .i64 (k : Int)) (fun _ q => q) ?_
    have hk10 : k < r.passed.length := (by first | omega | (simp; omega))
    obtain ⟨x11, hx11⟩ : ∃ x, r.passed[k]? = some x := ⟨_, List.getElem?_eq_getElem hk10⟩
    refine s_pure (.pointer (some ⟨sblk v_r_passed, soff v_r_passed + k * 1, none⟩)) (fun _ q => f8.idx (k := k) rfl hk10 q) ?_
    refine s_load (.int .i64 x11) (fun _ q => f8.load1 hx11 rfl q) ?_
    refine s_pure (.int .i64 (k : Int)) (fun _ q => q) ?_
    refine s_pure (.int .i64 x11) (fun _ q => q) ?_
    refine s_nil ?_
    refine p_seqN ?_
    refine v_seq ?_
    refine v_ops ?_
    refine s_pure (.int .i64 x11) (fun _ q => q) ?_
    refine s_callS [.int .i64 x11] (.bool (decide (PassOk x11))) rfl (rpPass_ok x11 _ ) ?_
    refine s_pure (.bool (!(decide (PassOk x11)))) (fun _ q => q) ?_
    refine s_pure (.bool (!(decide (PassOk x11)))) (fun _ q => q) ?_
    refine s_splitT rfl (fun c12 => ?_) (fun c12 => ?_)
    ·
      refine s_pass rfl ?_
      refine s_pass rfl ?_
      refine s_pass rfl ?_
      refine s_splitU rfl ?_
      refine s_passU rfl ?_
      refine s_passU rfl ?_
      refine s_passU rfl ?_
      refine s_passU rfl ?_
      refine s_splitU rfl ?_
      refine s_passU rfl ?_
      refine s_passU rfl ?_
      refine s_passU rfl ?_
      refine s_passU rfl ?_
      refine s_passU rfl ?_
      refine s_passU rfl ?_
      refine s_passU rfl ?_
      refine s_pass rfl ?_
      refine s_pure (.bool true) (fun _ q => q) ?_
      refine s_nil ?_
      refine p_seqN ?_
      refine v_condY rfl rfl ?_
      refine v_seq ?_
      refine v_ops ?_
      refine s_pure (.bool false) (fun _ q => q) ?_
      refine s_nil ?_
      refine p_seqN ?_
      refine v_ret ?_
      refine p_blkR ?_
      refine p_seqR ?_
      refine p_lpR ?_
      refine p_blkR ?_
      refine p_seqR ?_
      refine p_ret [.bool false] (.bool false) (fun _ q => q) rfl ?_
      have ho : decide (RepOk r) = false := by first | exact rep_long (by omega) | (exact rep_bad (by omega) (by assumption) (fun hp => by first | exact absurd hp.1 (by assumption) | (have := hp.2 (by assumption); omega))) | (exact rep_end (by assumption) hk (by omega) hall (by simp only [beq_iff_eq, decide_eq_true_eq, Bool.false_eq_true, true_iff, false_iff]; simp only [RepTail, PassOk] at *; omega)) | ((have hq := getD_some (by assumption : r.passed[r.passed.length - 1]? = some _)); exact rep_end (by assumption) hk (by omega) hall (by simp only [beq_iff_eq, decide_eq_true_eq, Bool.false_eq_true, true_iff, false_iff]; simp only [RepTail, PassOk] at *; omega))
      exact ⟨by first | (rw [ho]; done) | rfl, Eh⟩
    ·
      have c12 := Classical.not_not.1 c12
      refine s_run rfl ?_
      refine s_pure (.int .i64 x11) (fun _ q => q) ?_
      refine s_run rfl ?_
      refine s_pure (.bool (x11 == 61)) (fun _ q => q) ?_
      refine s_run rfl ?_
      refine s_pure (.bool (x11 == 61)) (fun _ q => q) ?_
      refine s_splitT rfl (fun c13 => ?_) (fun c13 => ?_)
      ·
        refine s_run rfl ?_
        refine s_pure (.pointer (some ⟨b1, 0, none⟩)) (fun _ q => q) ?_
        refine s_run rfl ?_
        refine s_load (.int .i64 r.phase) (fun _ q => bxb1.load rfl q) ?_
        refine s_run rfl ?_
        refine s_pure (.bool (r.phase != 3)) (fun _ q => q) ?_
        refine s_run rfl ?_
        refine s_pure (.bool (r.phase != 3)) (fun _ q => q) ?_
        refine s_splitT rfl (fun c14 => ?_) (fun c14 => ?_)
        ·
          refine s_pass rfl ?_
          refine s_pass rfl ?_
          refine s_pass rfl ?_
          refine s_pass rfl ?_
          refine s_pass rfl ?_
          refine s_pass rfl ?_
          refine s_run rfl ?_
          refine s_pure (.bool true) (fun _ q => q) ?_
          refine s_run rfl ?_
          refine s_pure (.bool true) (fun _ q => q) ?_
          refine s_pure (.bool true) (fun _ q => q) ?_
          refine s_nil ?_
          refine p_seqN ?_
          refine v_condY rfl rfl ?_
          refine v_seq ?_
          refine v_ops ?_
          refine s_pure (.bool false) (fun _ q => q) ?_
          refine s_nil ?_
          refine p_seqN ?_
          refine v_ret ?_
          refine p_blkR ?_
          refine p_seqR ?_
          refine p_lpR ?_
          refine p_blkR ?_
          refine p_seqR ?_
          refine p_ret [.bool false] (.bool false) (fun _ q => q) rfl ?_
          have ho : decide (RepOk r) = false := by first | exact rep_long (by omega) | (exact rep_bad (by omega) (by assumption) (fun hp => by first | exact absurd hp.1 (by assumption) | (have := hp.2 (by assumption); omega))) | (exact rep_end (by assumption) hk (by omega) hall (by simp only [beq_iff_eq, decide_eq_true_eq, Bool.false_eq_true, true_iff, false_iff]; simp only [RepTail, PassOk] at *; omega)) | ((have hq := getD_some (by assumption : r.passed[r.passed.length - 1]? = some _)); exact rep_end (by assumption) hk (by omega) hall (by simp only [beq_iff_eq, decide_eq_true_eq, Bool.false_eq_true, true_iff, false_iff]; simp only [RepTail, PassOk] at *; omega))
          exact ⟨by first | (rw [ho]; done) | rfl, Eh⟩
        ·
          have c14 := Classical.not_not.1 c14
          refine s_run rfl ?_
          refine s_pure (.int .i64 (k : Int)) (fun _ q => q) ?_
          refine s_run rfl ?_
          refine s_pure (.pointer (some ⟨b1, 4, none⟩)) (fun _ q => q) ?_
          refine s_run rfl ?_
          refine s_load v_r_passed (fun _ q => bxb1.load rfl q) ?_
          refine s_run rfl ?_
          refine s_pure (.int .i64 (r.passed.length : Int)) (fun _ q => f8.lenVC q) ?_
          refine s_run rfl ?_
          refine s_pure (.int .i64 ((r.passed.length : Int) - 1)) (fun _ q => ArithVC.mk (by omega) q) ?_
          refine s_run rfl ?_
          refine s_pure (.bool (decide ((k : Int) < ((r.passed.length : Int) - 1)))) (fun _ q => q) ?_
          refine s_run rfl ?_
          refine s_pure (.bool (decide ((k : Int) < ((r.passed.length : Int) - 1)))) (fun _ q => q) ?_
          refine s_run rfl ?_
          refine s_pure (.bool (decide ((k : Int) < ((r.passed.length : Int) - 1)))) (fun _ q => q) ?_
          refine s_pure (.bool (decide ((k : Int) < ((r.passed.length : Int) - 1)))) (fun _ q => q) ?_
          refine s_nil ?_
          refine p_seqN ?_
          refine v_cond rfl (fun c15 => ?_) (fun c15 => ?_)
          ·
            refine v_seq ?_
            refine v_ops ?_
            refine s_pure (.bool false) (fun _ q => q) ?_
            refine s_nil ?_
            refine p_seqN ?_
            refine v_ret ?_
            refine p_blkR ?_
            refine p_seqR ?_
            refine p_lpR ?_
            refine p_blkR ?_
            refine p_seqR ?_
            refine p_ret [.bool false] (.bool false) (fun _ q => q) rfl ?_
            have ho : decide (RepOk r) = false := by first | exact rep_long (by omega) | (exact rep_bad (by omega) (by assumption) (fun hp => by first | exact absurd hp.1 (by assumption) | (have := hp.2 (by assumption); omega))) | (exact rep_end (by assumption) hk (by omega) hall (by simp only [beq_iff_eq, decide_eq_true_eq, Bool.false_eq_true, true_iff, false_iff]; simp only [RepTail, PassOk] at *; omega)) | ((have hq := getD_some (by assumption : r.passed[r.passed.length - 1]? = some _)); exact rep_end (by assumption) hk (by omega) hall (by simp only [beq_iff_eq, decide_eq_true_eq, Bool.false_eq_true, true_iff, false_iff]; simp only [RepTail, PassOk] at *; omega))
            exact ⟨by first | (rw [ho]; done) | rfl, Eh⟩
          ·
            refine v_skip ?_
            refine p_blkN ?_
            refine p_seqN ?_
            refine v_ops ?_
            refine s_pure (.int .i64 ((k : Int) + 1)) (fun _ q => ArithVC.mk (by omega) q) ?_
            refine s_pure (.int .i64 ((k : Int) + 1)) (fun _ q => q) ?_
            refine s_nil ?_
            exact p_lpN ⟨k + 1, ⟨rfl, rfl, rfl, rfl⟩, ⟨Eh, bxb1, (by refine ⟨by omega, passed_step hall (by assumption) ⟨by assumption, fun hh => ?_⟩⟩; first | exact absurd hh (by assumption) | exact ⟨by assumption, by omega⟩)⟩, by omega⟩
      ·
        refine s_pass rfl ?_
        refine s_pass rfl ?_
        refine s_pass rfl ?_
        refine s_pass rfl ?_
        refine s_splitU rfl ?_
        refine s_passU rfl ?_
        refine s_passU rfl ?_
        refine s_passU rfl ?_
        refine s_passU rfl ?_
        refine s_passU rfl ?_
        refine s_passU rfl ?_
        refine s_pass rfl ?_
        refine s_run rfl ?_
        refine s_pure (.bool false) (fun _ q => q) ?_
        refine s_pure (.bool false) (fun _ q => q) ?_
        refine s_nil ?_
        refine p_seqN ?_
        refine v_condN rfl (by simp) ?_
        refine v_skip ?_
        refine p_blkN ?_
        refine p_seqN ?_
        refine v_ops ?_
        refine s_pure (.int .i64 ((k : Int) + 1)) (fun _ q => ArithVC.mk (by omega) q) ?_
        refine s_pure (.int .i64 ((k : Int) + 1)) (fun _ q => q) ?_
        refine s_nil ?_
        exact p_lpN ⟨k + 1, ⟨rfl, rfl, rfl, rfl⟩, ⟨Eh, bxb1, (by refine ⟨by omega, passed_step hall (by assumption) ⟨by assumption, fun hh => ?_⟩⟩; first | exact absurd hh (by assumption) | exact ⟨by assumption, by omega⟩)⟩, by omega⟩
  ·
    refine v_exit ?_
    refine p_seqX ?_
    refine p_lpX ?_
    refine p_blkX ?_
    refine p_seqN ?_
    refine v_seq ?_
    refine v_seq ?_
    refine v_ops ?_
    refine s_pure (.pointer (some ⟨b1, 4, none⟩)) (fun _ q => q) ?_
    refine s_load v_r_passed (fun _ q => bxb1.load rfl q) ?_
    refine s_pure (.int .i64 (r.passed.length : Int)) (fun _ q => f8.lenVC q) ?_
    refine s_pure (.bool (decide ((r.passed.length : Int) > 80))) (fun _ q => q) ?_
    refine s_pure (.bool (decide ((r.passed.length : Int) > 80))) (fun _ q => q) ?_
    refine s_splitT rfl (fun c16 => ?_) (fun c16 => ?_)
    ·
      refine s_pass rfl ?_
      refine s_pass rfl ?_
      refine s_pass rfl ?_
      refine s_pass rfl ?_
      refine s_pure (.bool true) (fun _ q => q) ?_
      refine s_nil ?_
      refine p_seqN ?_
      refine v_condY rfl rfl ?_
      refine v_seq ?_
      refine v_ops ?_
      refine s_pure (.bool false) (fun _ q => q) ?_
      refine s_nil ?_
      refine p_seqN ?_
      refine v_ret ?_
      refine p_seqR ?_
      refine p_ret [.bool false] (.bool false) (fun _ q => q) rfl ?_
      have ho : decide (RepOk r) = false := by first | exact rep_long (by omega) | (exact rep_bad (by omega) (by assumption) (fun hp => by first | exact absurd hp.1 (by assumption) | (have := hp.2 (by assumption); omega))) | (exact rep_end (by assumption) hk (by omega) hall (by simp only [beq_iff_eq, decide_eq_true_eq, Bool.false_eq_true, true_iff, false_iff]; simp only [RepTail, PassOk] at *; omega)) | ((have hq := getD_some (by assumption : r.passed[r.passed.length - 1]? = some _)); exact rep_end (by assumption) hk (by omega) hall (by simp only [beq_iff_eq, decide_eq_true_eq, Bool.false_eq_true, true_iff, false_iff]; simp only [RepTail, PassOk] at *; omega))
      exact ⟨by first | (rw [ho]; done) | rfl, Eh⟩
    ·
      refine s_run rfl ?_
      refine s_pure (.pointer (some ⟨b1, 2, none⟩)) (fun _ q => q) ?_
      refine s_run rfl ?_
      refine s_load (.int .i64 r.again) (fun _ q => bxb1.load rfl q) ?_
      refine s_run rfl ?_
      refine s_callS [.int .i64 r.again, .int .i64 0, .int .i64 3] (.bool (decide (0 ≤ r.again ∧ r.again ≤ 3))) rfl (l1In_ok r.again 0 3 _ ) ?_
      refine s_run rfl ?_
      refine s_pure (.bool (!(decide (0 ≤ r.again ∧ r.again ≤ 3)))) (fun _ q => q) ?_
      refine s_pure (.bool (!(decide (0 ≤ r.again ∧ r.again ≤ 3)))) (fun _ q => q) ?_
      refine s_nil ?_
      refine p_seqN ?_
      refine v_cond rfl (fun c17 => ?_) (fun c17 => ?_)
      ·
        refine v_seq ?_
        refine v_ops ?_
        refine s_pure (.bool false) (fun _ q => q) ?_
        refine s_nil ?_
        refine p_seqN ?_
        refine v_ret ?_
        refine p_seqR ?_
        refine p_ret [.bool false] (.bool false) (fun _ q => q) rfl ?_
        have ho : decide (RepOk r) = false := by first | exact rep_long (by omega) | (exact rep_bad (by omega) (by assumption) (fun hp => by first | exact absurd hp.1 (by assumption) | (have := hp.2 (by assumption); omega))) | (exact rep_end (by assumption) hk (by omega) hall (by simp only [beq_iff_eq, decide_eq_true_eq, Bool.false_eq_true, true_iff, false_iff]; simp only [RepTail, PassOk] at *; omega)) | ((have hq := getD_some (by assumption : r.passed[r.passed.length - 1]? = some _)); exact rep_end (by assumption) hk (by omega) hall (by simp only [beq_iff_eq, decide_eq_true_eq, Bool.false_eq_true, true_iff, false_iff]; simp only [RepTail, PassOk] at *; omega))
        exact ⟨by first | (rw [ho]; done) | rfl, Eh⟩
      ·
        have c17 := Classical.not_not.1 c17
        refine v_skip ?_
        refine p_seqN ?_
        refine v_seq ?_
        refine v_ops ?_
        refine s_pure (.pointer (some ⟨b1, 1, none⟩)) (fun _ q => q) ?_
        refine s_load (.int .i64 r.holds) (fun _ q => bxb1.load rfl q) ?_
        refine s_pure (.bool (r.holds == 0)) (fun _ q => q) ?_
        refine s_pure (.bool (r.holds == 0)) (fun _ q => q) ?_
        refine s_splitT rfl (fun c18 => ?_) (fun c18 => ?_)
        ·
          refine s_run rfl ?_
          refine s_pure (.pointer (some ⟨b1, 2, none⟩)) (fun _ q => q) ?_
          refine s_run rfl ?_
          refine s_load (.int .i64 r.again) (fun _ q => bxb1.load rfl q) ?_
          refine s_run rfl ?_
          refine s_pure (.bool (r.again == 0)) (fun _ q => q) ?_
          refine s_pure (.bool (r.again == 0)) (fun _ q => q) ?_
          refine s_pure (.bool (r.again == 0)) (fun _ q => q) ?_
          refine s_nil ?_
          refine p_seqN ?_
          refine v_seq ?_
          refine v_seq ?_
          refine v_ops ?_
          refine s_pure (.pointer (some ⟨b1, 0, none⟩)) (fun _ q => q) ?_
          refine s_load (.int .i64 r.phase) (fun _ q => bxb1.load rfl q) ?_
          refine s_nil ?_
          refine p_seqN ?_
          refine v_block ?_
          refine v_seq ?_
          refine v_ops ?_
          refine s_pure (.bool (r.phase == 0)) (fun _ q => q) ?_
          refine s_pure (.bool (r.phase == 0)) (fun _ q => q) ?_
          refine s_nil ?_
          refine p_seqN ?_
          refine v_cond rfl (fun c19 => ?_) (fun c19 => ?_)
          ·
            refine v_seq ?_
            refine v_ops ?_
            refine s_pure (.bool (r.again == 0)) (fun _ q => q) ?_
            refine s_pure (.bool (r.again == 0)) (fun _ q => q) ?_
            refine s_splitT rfl (fun c20 => ?_) (fun c20 => ?_)
            ·
              refine s_run rfl ?_
              refine s_pure (.pointer (some ⟨b1, 3, none⟩)) (fun _ q => q) ?_
              refine s_run rfl ?_
              refine s_load (.int .i64 r.shown) (fun _ q => bxb1.load rfl q) ?_
              refine s_run rfl ?_
              refine s_pure (.bool (r.shown == 0)) (fun _ q => q) ?_
              refine s_run rfl ?_
              refine s_pure (.bool (r.shown == 0)) (fun _ q => q) ?_
              refine s_splitT rfl (fun c21 => ?_) (fun c21 => ?_)
              ·
                refine s_pass rfl ?_
                refine s_pass rfl ?_
                refine s_pass rfl ?_
                refine s_run rfl ?_
                refine s_pure (.bool true) (fun _ q => q) ?_
                refine s_pure (.bool true) (fun _ q => q) ?_
                refine s_pure (.bool true) (fun _ q => q) ?_
                refine s_nil ?_
                refine p_seqN ?_
                refine v_ret ?_
                refine p_blkR ?_
                refine p_seqR ?_
                refine p_ret [.bool true] (.bool true) (fun _ q => q) rfl ?_
                have ho : decide (RepOk r) = true := by first | exact rep_long (by omega) | (exact rep_bad (by omega) (by assumption) (fun hp => by first | exact absurd hp.1 (by assumption) | (have := hp.2 (by assumption); omega))) | (exact rep_end (by assumption) hk (by omega) hall (by simp only [beq_iff_eq, decide_eq_true_eq, Bool.false_eq_true, true_iff, false_iff]; simp only [RepTail, PassOk] at *; omega)) | ((have hq := getD_some (by assumption : r.passed[r.passed.length - 1]? = some _)); exact rep_end (by assumption) hk (by omega) hall (by simp only [beq_iff_eq, decide_eq_true_eq, Bool.false_eq_true, true_iff, false_iff]; simp only [RepTail, PassOk] at *; omega))
                exact ⟨by first | (rw [ho]; done) | rfl, Eh⟩
              ·
                refine s_run rfl ?_
                refine s_pure (.pointer (some ⟨b1, 3, none⟩)) (fun _ q => q) ?_
                refine s_run rfl ?_
                refine s_load (.int .i64 r.shown) (fun _ q => bxb1.load rfl q) ?_
                refine s_run rfl ?_
                refine s_pure (.bool (r.shown == 62)) (fun _ q => q) ?_
                refine s_run rfl ?_
                refine s_pure (.bool (r.shown == 62)) (fun _ q => q) ?_
                refine s_pure (.bool (r.shown == 62)) (fun _ q => q) ?_
                refine s_pure (.bool (r.shown == 62)) (fun _ q => q) ?_
                refine s_nil ?_
                refine p_seqN ?_
                refine v_ret ?_
                refine p_blkR ?_
                refine p_seqR ?_
                refine p_ret [.bool (r.shown == 62)] (.bool (r.shown == 62)) (fun _ q => q) rfl ?_
                have ho : decide (RepOk r) = (r.shown == 62) := by first | exact rep_long (by omega) | (exact rep_bad (by omega) (by assumption) (fun hp => by first | exact absurd hp.1 (by assumption) | (have := hp.2 (by assumption); omega))) | (exact rep_end (by assumption) hk (by omega) hall (by simp only [beq_iff_eq, decide_eq_true_eq, Bool.false_eq_true, true_iff, false_iff]; simp only [RepTail, PassOk] at *; omega)) | ((have hq := getD_some (by assumption : r.passed[r.passed.length - 1]? = some _)); exact rep_end (by assumption) hk (by omega) hall (by simp only [beq_iff_eq, decide_eq_true_eq, Bool.false_eq_true, true_iff, false_iff]; simp only [RepTail, PassOk] at *; omega))
                exact ⟨by first | (rw [ho]; done) | rfl, Eh⟩
            ·
              refine s_pass rfl ?_
              refine s_pass rfl ?_
              refine s_pass rfl ?_
              refine s_pass rfl ?_
              refine s_splitU rfl ?_
              refine s_passU rfl ?_
              refine s_passU rfl ?_
              refine s_passU rfl ?_
              refine s_pass rfl ?_
              refine s_pure (.bool false) (fun _ q => q) ?_
              refine s_pure (.bool false) (fun _ q => q) ?_
              refine s_nil ?_
              refine p_seqN ?_
              refine v_ret ?_
              refine p_blkR ?_
              refine p_seqR ?_
              refine p_ret [.bool false] (.bool false) (fun _ q => q) rfl ?_
              have ho : decide (RepOk r) = false := by first | exact rep_long (by omega) | (exact rep_bad (by omega) (by assumption) (fun hp => by first | exact absurd hp.1 (by assumption) | (have := hp.2 (by assumption); omega))) | (exact rep_end (by assumption) hk (by omega) hall (by simp only [beq_iff_eq, decide_eq_true_eq, Bool.false_eq_true, true_iff, false_iff]; simp only [RepTail, PassOk] at *; omega)) | ((have hq := getD_some (by assumption : r.passed[r.passed.length - 1]? = some _)); exact rep_end (by assumption) hk (by omega) hall (by simp only [beq_iff_eq, decide_eq_true_eq, Bool.false_eq_true, true_iff, false_iff]; simp only [RepTail, PassOk] at *; omega))
              exact ⟨by first | (rw [ho]; done) | rfl, Eh⟩
          ·
            refine v_seq ?_
            refine v_ops ?_
            refine s_pure (.bool (r.phase == 1)) (fun _ q => q) ?_
            refine s_pure (.bool (r.phase == 1)) (fun _ q => q) ?_
            refine s_nil ?_
            refine p_seqN ?_
            refine v_cond rfl (fun c22 => ?_) (fun c22 => ?_)
            ·
              refine v_seq ?_
              refine v_ops ?_
              refine s_pure (.pointer (some ⟨b1, 1, none⟩)) (fun _ q => q) ?_
              refine s_load (.int .i64 r.holds) (fun _ q => bxb1.load rfl q) ?_
              refine s_callS [.int .i64 r.holds] (.bool (decide (PassOk r.holds))) rfl (rpPass_ok r.holds _ ) ?_
              refine s_pure (.bool (decide (PassOk r.holds))) (fun _ q => q) ?_
              refine s_splitT rfl (fun c23 => ?_) (fun c23 => ?_)
              ·
                refine s_run rfl ?_
                refine s_pure (.pointer (some ⟨b1, 3, none⟩)) (fun _ q => q) ?_
                refine s_run rfl ?_
                refine s_load (.int .i64 r.shown) (fun _ q => bxb1.load rfl q) ?_
                refine s_run rfl ?_
                refine s_pure (.pointer (some ⟨b1, 1, none⟩)) (fun _ q => q) ?_
                refine s_run rfl ?_
                refine s_load (.int .i64 r.holds) (fun _ q => bxb1.load rfl q) ?_
                refine s_run rfl ?_
                refine s_pure (.bool (r.shown == r.holds)) (fun _ q => q) ?_
                refine s_pure (.bool (r.shown == r.holds)) (fun _ q => q) ?_
                refine s_pure (.bool (r.shown == r.holds)) (fun _ q => q) ?_
                refine s_nil ?_
                refine p_seqN ?_
                refine v_ret ?_
                refine p_blkR ?_
                refine p_seqR ?_
                refine p_ret [.bool (r.shown == r.holds)] (.bool (r.shown == r.holds)) (fun _ q => q) rfl ?_
                have ho : decide (RepOk r) = (r.shown == r.holds) := by first | exact rep_long (by omega) | (exact rep_bad (by omega) (by assumption) (fun hp => by first | exact absurd hp.1 (by assumption) | (have := hp.2 (by assumption); omega))) | (exact rep_end (by assumption) hk (by omega) hall (by simp only [beq_iff_eq, decide_eq_true_eq, Bool.false_eq_true, true_iff, false_iff]; simp only [RepTail, PassOk] at *; omega)) | ((have hq := getD_some (by assumption : r.passed[r.passed.length - 1]? = some _)); exact rep_end (by assumption) hk (by omega) hall (by simp only [beq_iff_eq, decide_eq_true_eq, Bool.false_eq_true, true_iff, false_iff]; simp only [RepTail, PassOk] at *; omega))
                exact ⟨by first | (rw [ho]; done) | rfl, Eh⟩
              ·
                refine s_pass rfl ?_
                refine s_pass rfl ?_
                refine s_pass rfl ?_
                refine s_pass rfl ?_
                refine s_pass rfl ?_
                refine s_pure (.bool false) (fun _ q => q) ?_
                refine s_pure (.bool false) (fun _ q => q) ?_
                refine s_nil ?_
                refine p_seqN ?_
                refine v_ret ?_
                refine p_blkR ?_
                refine p_seqR ?_
                refine p_ret [.bool false] (.bool false) (fun _ q => q) rfl ?_
                have ho : decide (RepOk r) = false := by first | exact rep_long (by omega) | (exact rep_bad (by omega) (by assumption) (fun hp => by first | exact absurd hp.1 (by assumption) | (have := hp.2 (by assumption); omega))) | (exact rep_end (by assumption) hk (by omega) hall (by simp only [beq_iff_eq, decide_eq_true_eq, Bool.false_eq_true, true_iff, false_iff]; simp only [RepTail, PassOk] at *; omega)) | ((have hq := getD_some (by assumption : r.passed[r.passed.length - 1]? = some _)); exact rep_end (by assumption) hk (by omega) hall (by simp only [beq_iff_eq, decide_eq_true_eq, Bool.false_eq_true, true_iff, false_iff]; simp only [RepTail, PassOk] at *; omega))
                exact ⟨by first | (rw [ho]; done) | rfl, Eh⟩
            ·
              refine v_seq ?_
              refine v_ops ?_
              refine s_pure (.bool (r.phase == 2)) (fun _ q => q) ?_
              refine s_pure (.bool (r.phase == 2)) (fun _ q => q) ?_
              refine s_nil ?_
              refine p_seqN ?_
              refine v_cond rfl (fun c24 => ?_) (fun c24 => ?_)
              ·
                refine v_seq ?_
                refine v_ops ?_
                refine s_pure (.pointer (some ⟨b1, 1, none⟩)) (fun _ q => q) ?_
                refine s_load (.int .i64 r.holds) (fun _ q => bxb1.load rfl q) ?_
                refine s_callS [.int .i64 r.holds] (.bool (decide (PassOk r.holds))) rfl (rpPass_ok r.holds _ ) ?_
                refine s_pure (.bool (decide (PassOk r.holds))) (fun _ q => q) ?_
                refine s_splitT rfl (fun c25 => ?_) (fun c25 => ?_)
                ·
                  refine s_run rfl ?_
                  refine s_pure (.pointer (some ⟨b1, 2, none⟩)) (fun _ q => q) ?_
                  refine s_run rfl ?_
                  refine s_load (.int .i64 r.again) (fun _ q => bxb1.load rfl q) ?_
                  refine s_run rfl ?_
                  refine s_pure (.bool (r.again == 3)) (fun _ q => q) ?_
                  refine s_pure (.bool (r.again == 3)) (fun _ q => q) ?_
                  refine s_pure (.bool (r.again == 3)) (fun _ q => q) ?_
                  refine s_splitT rfl (fun c26 => ?_) (fun c26 => ?_)
                  ·
                    refine s_run rfl ?_
                    refine s_pure (.pointer (some ⟨b1, 3, none⟩)) (fun _ q => q) ?_
                    refine s_run rfl ?_
                    refine s_load (.int .i64 r.shown) (fun _ q => bxb1.load rfl q) ?_
                    refine s_run rfl ?_
                    refine s_pure (.bool (r.shown == 63)) (fun _ q => q) ?_
                    refine s_pure (.bool (r.shown == 63)) (fun _ q => q) ?_
                    refine s_pure (.bool (r.shown == 63)) (fun _ q => q) ?_
                    refine s_nil ?_
                    refine p_seqN ?_
                    refine v_ret ?_
                    refine p_blkR ?_
                    refine p_seqR ?_
                    refine p_ret [.bool (r.shown == 63)] (.bool (r.shown == 63)) (fun _ q => q) rfl ?_
                    have ho : decide (RepOk r) = (r.shown == 63) := by first | exact rep_long (by omega) | (exact rep_bad (by omega) (by assumption) (fun hp => by first | exact absurd hp.1 (by assumption) | (have := hp.2 (by assumption); omega))) | (exact rep_end (by assumption) hk (by omega) hall (by simp only [beq_iff_eq, decide_eq_true_eq, Bool.false_eq_true, true_iff, false_iff]; simp only [RepTail, PassOk] at *; omega)) | ((have hq := getD_some (by assumption : r.passed[r.passed.length - 1]? = some _)); exact rep_end (by assumption) hk (by omega) hall (by simp only [beq_iff_eq, decide_eq_true_eq, Bool.false_eq_true, true_iff, false_iff]; simp only [RepTail, PassOk] at *; omega))
                    exact ⟨by first | (rw [ho]; done) | rfl, Eh⟩
                  ·
                    refine s_pass rfl ?_
                    refine s_pass rfl ?_
                    refine s_pass rfl ?_
                    refine s_pure (.bool false) (fun _ q => q) ?_
                    refine s_pure (.bool false) (fun _ q => q) ?_
                    refine s_nil ?_
                    refine p_seqN ?_
                    refine v_ret ?_
                    refine p_blkR ?_
                    refine p_seqR ?_
                    refine p_ret [.bool false] (.bool false) (fun _ q => q) rfl ?_
                    have ho : decide (RepOk r) = false := by first | exact rep_long (by omega) | (exact rep_bad (by omega) (by assumption) (fun hp => by first | exact absurd hp.1 (by assumption) | (have := hp.2 (by assumption); omega))) | (exact rep_end (by assumption) hk (by omega) hall (by simp only [beq_iff_eq, decide_eq_true_eq, Bool.false_eq_true, true_iff, false_iff]; simp only [RepTail, PassOk] at *; omega)) | ((have hq := getD_some (by assumption : r.passed[r.passed.length - 1]? = some _)); exact rep_end (by assumption) hk (by omega) hall (by simp only [beq_iff_eq, decide_eq_true_eq, Bool.false_eq_true, true_iff, false_iff]; simp only [RepTail, PassOk] at *; omega))
                    exact ⟨by first | (rw [ho]; done) | rfl, Eh⟩
                ·
                  refine s_pass rfl ?_
                  refine s_pass rfl ?_
                  refine s_pass rfl ?_
                  refine s_pure (.bool false) (fun _ q => q) ?_
                  refine s_pure (.bool false) (fun _ q => q) ?_
                  refine s_splitN rfl (by simp) ?_
                  refine s_pass rfl ?_
                  refine s_pass rfl ?_
                  refine s_pass rfl ?_
                  refine s_pure (.bool false) (fun _ q => q) ?_
                  refine s_pure (.bool false) (fun _ q => q) ?_
                  refine s_nil ?_
                  refine p_seqN ?_
                  refine v_ret ?_
                  refine p_blkR ?_
                  refine p_seqR ?_
                  refine p_ret [.bool false] (.bool false) (fun _ q => q) rfl ?_
                  have ho : decide (RepOk r) = false := by first | exact rep_long (by omega) | (exact rep_bad (by omega) (by assumption) (fun hp => by first | exact absurd hp.1 (by assumption) | (have := hp.2 (by assumption); omega))) | (exact rep_end (by assumption) hk (by omega) hall (by simp only [beq_iff_eq, decide_eq_true_eq, Bool.false_eq_true, true_iff, false_iff]; simp only [RepTail, PassOk] at *; omega)) | ((have hq := getD_some (by assumption : r.passed[r.passed.length - 1]? = some _)); exact rep_end (by assumption) hk (by omega) hall (by simp only [beq_iff_eq, decide_eq_true_eq, Bool.false_eq_true, true_iff, false_iff]; simp only [RepTail, PassOk] at *; omega))
                  exact ⟨by first | (rw [ho]; done) | rfl, Eh⟩
              ·
                refine v_seq ?_
                refine v_ops ?_
                refine s_pure (.bool (r.phase == 3)) (fun _ q => q) ?_
                refine s_pure (.bool (r.phase == 3)) (fun _ q => q) ?_
                refine s_nil ?_
                refine p_seqN ?_
                refine v_cond rfl (fun c27 => ?_) (fun c27 => ?_)
                ·
                  refine v_seq ?_
                  refine v_ops ?_
                  refine s_pure (.bool (r.again == 0)) (fun _ q => q) ?_
                  refine s_pure (.bool (r.again == 0)) (fun _ q => q) ?_
                  refine s_splitT rfl (fun c28 => ?_) (fun c28 => ?_)
                  ·
                    refine s_run rfl ?_
                    refine s_pure (.pointer (some ⟨b1, 3, none⟩)) (fun _ q => q) ?_
                    refine s_run rfl ?_
                    refine s_load (.int .i64 r.shown) (fun _ q => bxb1.load rfl q) ?_
                    refine s_run rfl ?_
                    refine s_pure (.bool (r.shown == 0)) (fun _ q => q) ?_
                    refine s_pure (.bool (r.shown == 0)) (fun _ q => q) ?_
                    refine s_pure (.bool (r.shown == 0)) (fun _ q => q) ?_
                    refine s_splitT rfl (fun c29 => ?_) (fun c29 => ?_)
                    ·
                      refine s_run rfl ?_
                      refine s_pure (.pointer (some ⟨b1, 4, none⟩)) (fun _ q => q) ?_
                      refine s_run rfl ?_
                      refine s_load v_r_passed (fun _ q => bxb1.load rfl q) ?_
                      refine s_run rfl ?_
                      refine s_pure (.int .i64 (r.passed.length : Int)) (fun _ q => f8.lenVC q) ?_
                      refine s_run rfl ?_
                      refine s_pure (.bool (decide ((r.passed.length : Int) > 0))) (fun _ q => q) ?_
                      refine s_pure (.bool (decide ((r.passed.length : Int) > 0))) (fun _ q => q) ?_
                      refine s_pure (.bool (decide ((r.passed.length : Int) > 0))) (fun _ q => q) ?_
                      refine s_splitT rfl (fun c30 => ?_) (fun c30 => ?_)
                      ·
                        refine s_run rfl ?_
                        refine s_pure (.pointer (some ⟨b1, 4, none⟩)) (fun _ q => q) ?_
                        refine s_run rfl ?_
                        refine s_load v_r_passed (fun _ q => bxb1.load rfl q) ?_
                        refine s_run rfl ?_
                        refine s_pure (.pointer (some ⟨b1, 4, none⟩)) (fun _ q => q) ?_
                        refine s_run rfl ?_
                        refine s_load v_r_passed (fun _ q => bxb1.load rfl q) ?_
                        refine s_run rfl ?_
                        refine s_pure (.int .i64 (r.passed.length : Int)) (fun _ q => f8.lenVC q) ?_
                        refine s_run rfl ?_
                        refine s_pure (.int .i64 ((r.passed.length : Int) - 1)) (fun _ q => ArithVC.mk (by omega) q) ?_
                        refine s_run rfl ?_
                        have hk31 : (r.passed.length - 1) < r.passed.length := (by first | omega | (simp; omega))
                        obtain ⟨x32, hx32⟩ : ∃ x, r.passed[(r.passed.length - 1)]? = some x := ⟨_, List.getElem?_eq_getElem hk31⟩
                        refine s_pure (.pointer (some ⟨sblk v_r_passed, soff v_r_passed + (r.passed.length - 1) * 1, none⟩)) (fun _ q => f8.idx (k := (r.passed.length - 1)) (by omega) hk31 q) ?_
                        refine s_run rfl ?_
                        refine s_load (.int .i64 x32) (fun _ q => f8.load1 hx32 rfl q) ?_
                        refine s_run rfl ?_
                        refine s_pure (.bool (x32 == 61)) (fun _ q => q) ?_
                        refine s_pure (.bool (x32 == 61)) (fun _ q => q) ?_
                        refine s_pure (.bool (x32 == 61)) (fun _ q => q) ?_
                        refine s_nil ?_
                        refine p_seqN ?_
                        refine v_ret ?_
                        refine p_blkR ?_
                        refine p_seqR ?_
                        refine p_ret [.bool (x32 == 61)] (.bool (x32 == 61)) (fun _ q => q) rfl ?_
                        have ho : decide (RepOk r) = (x32 == 61) := by first | exact rep_long (by omega) | (exact rep_bad (by omega) (by assumption) (fun hp => by first | exact absurd hp.1 (by assumption) | (have := hp.2 (by assumption); omega))) | (exact rep_end (by assumption) hk (by omega) hall (by simp only [beq_iff_eq, decide_eq_true_eq, Bool.false_eq_true, true_iff, false_iff]; simp only [RepTail, PassOk] at *; omega)) | ((have hq := getD_some (by assumption : r.passed[r.passed.length - 1]? = some _)); exact rep_end (by assumption) hk (by omega) hall (by simp only [beq_iff_eq, decide_eq_true_eq, Bool.false_eq_true, true_iff, false_iff]; simp only [RepTail, PassOk] at *; omega))
                        exact ⟨by first | (rw [ho]; done) | rfl, Eh⟩
                      ·
                        refine s_pass rfl ?_
                        refine s_pass rfl ?_
                        refine s_pass rfl ?_
                        refine s_pass rfl ?_
                        refine s_pass rfl ?_
                        refine s_pass rfl ?_
                        refine s_pass rfl ?_
                        refine s_pass rfl ?_
                        refine s_pass rfl ?_
                        refine s_pure (.bool false) (fun _ q => q) ?_
                        refine s_pure (.bool false) (fun _ q => q) ?_
                        refine s_nil ?_
                        refine p_seqN ?_
                        refine v_ret ?_
                        refine p_blkR ?_
                        refine p_seqR ?_
                        refine p_ret [.bool false] (.bool false) (fun _ q => q) rfl ?_
                        have ho : decide (RepOk r) = false := by first | exact rep_long (by omega) | (exact rep_bad (by omega) (by assumption) (fun hp => by first | exact absurd hp.1 (by assumption) | (have := hp.2 (by assumption); omega))) | (exact rep_end (by assumption) hk (by omega) hall (by simp only [beq_iff_eq, decide_eq_true_eq, Bool.false_eq_true, true_iff, false_iff]; simp only [RepTail, PassOk] at *; omega)) | ((have hq := getD_some (by assumption : r.passed[r.passed.length - 1]? = some _)); exact rep_end (by assumption) hk (by omega) hall (by simp only [beq_iff_eq, decide_eq_true_eq, Bool.false_eq_true, true_iff, false_iff]; simp only [RepTail, PassOk] at *; omega))
                        exact ⟨by first | (rw [ho]; done) | rfl, Eh⟩
                    ·
                      refine s_pass rfl ?_
                      refine s_pass rfl ?_
                      refine s_pass rfl ?_
                      refine s_pass rfl ?_
                      refine s_pure (.bool false) (fun _ q => q) ?_
                      refine s_pure (.bool false) (fun _ q => q) ?_
                      refine s_splitN rfl (by simp) ?_
                      refine s_pass rfl ?_
                      refine s_pass rfl ?_
                      refine s_pass rfl ?_
                      refine s_pass rfl ?_
                      refine s_pass rfl ?_
                      refine s_pass rfl ?_
                      refine s_pass rfl ?_
                      refine s_pass rfl ?_
                      refine s_pass rfl ?_
                      refine s_pure (.bool false) (fun _ q => q) ?_
                      refine s_pure (.bool false) (fun _ q => q) ?_
                      refine s_nil ?_
                      refine p_seqN ?_
                      refine v_ret ?_
                      refine p_blkR ?_
                      refine p_seqR ?_
                      refine p_ret [.bool false] (.bool false) (fun _ q => q) rfl ?_
                      have ho : decide (RepOk r) = false := by first | exact rep_long (by omega) | (exact rep_bad (by omega) (by assumption) (fun hp => by first | exact absurd hp.1 (by assumption) | (have := hp.2 (by assumption); omega))) | (exact rep_end (by assumption) hk (by omega) hall (by simp only [beq_iff_eq, decide_eq_true_eq, Bool.false_eq_true, true_iff, false_iff]; simp only [RepTail, PassOk] at *; omega)) | ((have hq := getD_some (by assumption : r.passed[r.passed.length - 1]? = some _)); exact rep_end (by assumption) hk (by omega) hall (by simp only [beq_iff_eq, decide_eq_true_eq, Bool.false_eq_true, true_iff, false_iff]; simp only [RepTail, PassOk] at *; omega))
                      exact ⟨by first | (rw [ho]; done) | rfl, Eh⟩
                  ·
                    refine s_pass rfl ?_
                    refine s_pass rfl ?_
                    refine s_pass rfl ?_
                    refine s_pure (.bool false) (fun _ q => q) ?_
                    refine s_pure (.bool false) (fun _ q => q) ?_
                    refine s_splitN rfl (by simp) ?_
                    refine s_pass rfl ?_
                    refine s_pass rfl ?_
                    refine s_pass rfl ?_
                    refine s_pass rfl ?_
                    refine s_pure (.bool false) (fun _ q => q) ?_
                    refine s_pure (.bool false) (fun _ q => q) ?_
                    refine s_splitN rfl (by simp) ?_
                    refine s_pass rfl ?_
                    refine s_pass rfl ?_
                    refine s_pass rfl ?_
                    refine s_pass rfl ?_
                    refine s_pass rfl ?_
                    refine s_pass rfl ?_
                    refine s_pass rfl ?_
                    refine s_pass rfl ?_
                    refine s_pass rfl ?_
                    refine s_pure (.bool false) (fun _ q => q) ?_
                    refine s_pure (.bool false) (fun _ q => q) ?_
                    refine s_nil ?_
                    refine p_seqN ?_
                    refine v_ret ?_
                    refine p_blkR ?_
                    refine p_seqR ?_
                    refine p_ret [.bool false] (.bool false) (fun _ q => q) rfl ?_
                    have ho : decide (RepOk r) = false := by first | exact rep_long (by omega) | (exact rep_bad (by omega) (by assumption) (fun hp => by first | exact absurd hp.1 (by assumption) | (have := hp.2 (by assumption); omega))) | (exact rep_end (by assumption) hk (by omega) hall (by simp only [beq_iff_eq, decide_eq_true_eq, Bool.false_eq_true, true_iff, false_iff]; simp only [RepTail, PassOk] at *; omega)) | ((have hq := getD_some (by assumption : r.passed[r.passed.length - 1]? = some _)); exact rep_end (by assumption) hk (by omega) hall (by simp only [beq_iff_eq, decide_eq_true_eq, Bool.false_eq_true, true_iff, false_iff]; simp only [RepTail, PassOk] at *; omega))
                    exact ⟨by first | (rw [ho]; done) | rfl, Eh⟩
                ·
                  refine v_skip ?_
                  refine p_blkN ?_
                  refine p_seqN ?_
                  refine v_seq ?_
                  refine v_ops ?_
                  refine s_pure (.bool false) (fun _ q => q) ?_
                  refine s_nil ?_
                  refine p_seqN ?_
                  refine v_ret ?_
                  refine p_ret [.bool false] (.bool false) (fun _ q => q) rfl ?_
                  have ho : decide (RepOk r) = false := by first | exact rep_long (by omega) | (exact rep_bad (by omega) (by assumption) (fun hp => by first | exact absurd hp.1 (by assumption) | (have := hp.2 (by assumption); omega))) | (exact rep_end (by assumption) hk (by omega) hall (by simp only [beq_iff_eq, decide_eq_true_eq, Bool.false_eq_true, true_iff, false_iff]; simp only [RepTail, PassOk] at *; omega)) | ((have hq := getD_some (by assumption : r.passed[r.passed.length - 1]? = some _)); exact rep_end (by assumption) hk (by omega) hall (by simp only [beq_iff_eq, decide_eq_true_eq, Bool.false_eq_true, true_iff, false_iff]; simp only [RepTail, PassOk] at *; omega))
                  exact ⟨by first | (rw [ho]; done) | rfl, Eh⟩
        ·
          refine s_pass rfl ?_
          refine s_pass rfl ?_
          refine s_pass rfl ?_
          refine s_pure (.bool false) (fun _ q => q) ?_
          refine s_pure (.bool false) (fun _ q => q) ?_
          refine s_nil ?_
          refine p_seqN ?_
          refine v_seq ?_
          refine v_seq ?_
          refine v_ops ?_
          refine s_pure (.pointer (some ⟨b1, 0, none⟩)) (fun _ q => q) ?_
          refine s_load (.int .i64 r.phase) (fun _ q => bxb1.load rfl q) ?_
          refine s_nil ?_
          refine p_seqN ?_
          refine v_block ?_
          refine v_seq ?_
          refine v_ops ?_
          refine s_pure (.bool (r.phase == 0)) (fun _ q => q) ?_
          refine s_pure (.bool (r.phase == 0)) (fun _ q => q) ?_
          refine s_nil ?_
          refine p_seqN ?_
          refine v_cond rfl (fun c33 => ?_) (fun c33 => ?_)
          ·
            refine v_seq ?_
            refine v_ops ?_
            refine s_pure (.bool false) (fun _ q => q) ?_
            refine s_pure (.bool false) (fun _ q => q) ?_
            refine s_splitN rfl (by simp) ?_
            refine s_pass rfl ?_
            refine s_pass rfl ?_
            refine s_pass rfl ?_
            refine s_pass rfl ?_
            refine s_splitU rfl ?_
            refine s_passU rfl ?_
            refine s_passU rfl ?_
            refine s_passU rfl ?_
            refine s_pass rfl ?_
            refine s_pure (.bool false) (fun _ q => q) ?_
            refine s_pure (.bool false) (fun _ q => q) ?_
            refine s_nil ?_
            refine p_seqN ?_
            refine v_ret ?_
            refine p_blkR ?_
            refine p_seqR ?_
            refine p_ret [.bool false] (.bool false) (fun _ q => q) rfl ?_
            have ho : decide (RepOk r) = false := by first | exact rep_long (by omega) | (exact rep_bad (by omega) (by assumption) (fun hp => by first | exact absurd hp.1 (by assumption) | (have := hp.2 (by assumption); omega))) | (exact rep_end (by assumption) hk (by omega) hall (by simp only [beq_iff_eq, decide_eq_true_eq, Bool.false_eq_true, true_iff, false_iff]; simp only [RepTail, PassOk] at *; omega)) | ((have hq := getD_some (by assumption : r.passed[r.passed.length - 1]? = some _)); exact rep_end (by assumption) hk (by omega) hall (by simp only [beq_iff_eq, decide_eq_true_eq, Bool.false_eq_true, true_iff, false_iff]; simp only [RepTail, PassOk] at *; omega))
            exact ⟨by first | (rw [ho]; done) | rfl, Eh⟩
          ·
            refine v_seq ?_
            refine v_ops ?_
            refine s_pure (.bool (r.phase == 1)) (fun _ q => q) ?_
            refine s_pure (.bool (r.phase == 1)) (fun _ q => q) ?_
            refine s_nil ?_
            refine p_seqN ?_
            refine v_cond rfl (fun c34 => ?_) (fun c34 => ?_)
            ·
              refine v_seq ?_
              refine v_ops ?_
              refine s_pure (.pointer (some ⟨b1, 1, none⟩)) (fun _ q => q) ?_
              refine s_load (.int .i64 r.holds) (fun _ q => bxb1.load rfl q) ?_
              refine s_callS [.int .i64 r.holds] (.bool (decide (PassOk r.holds))) rfl (rpPass_ok r.holds _ ) ?_
              refine s_pure (.bool (decide (PassOk r.holds))) (fun _ q => q) ?_
              refine s_splitT rfl (fun c35 => ?_) (fun c35 => ?_)
              ·
                refine s_run rfl ?_
                refine s_pure (.pointer (some ⟨b1, 3, none⟩)) (fun _ q => q) ?_
                refine s_run rfl ?_
                refine s_load (.int .i64 r.shown) (fun _ q => bxb1.load rfl q) ?_
                refine s_run rfl ?_
                refine s_pure (.pointer (some ⟨b1, 1, none⟩)) (fun _ q => q) ?_
                refine s_run rfl ?_
                refine s_load (.int .i64 r.holds) (fun _ q => bxb1.load rfl q) ?_
                refine s_run rfl ?_
                refine s_pure (.bool (r.shown == r.holds)) (fun _ q => q) ?_
                refine s_pure (.bool (r.shown == r.holds)) (fun _ q => q) ?_
                refine s_pure (.bool (r.shown == r.holds)) (fun _ q => q) ?_
                refine s_nil ?_
                refine p_seqN ?_
                refine v_ret ?_
                refine p_blkR ?_
                refine p_seqR ?_
                refine p_ret [.bool (r.shown == r.holds)] (.bool (r.shown == r.holds)) (fun _ q => q) rfl ?_
                have ho : decide (RepOk r) = (r.shown == r.holds) := by first | exact rep_long (by omega) | (exact rep_bad (by omega) (by assumption) (fun hp => by first | exact absurd hp.1 (by assumption) | (have := hp.2 (by assumption); omega))) | (exact rep_end (by assumption) hk (by omega) hall (by simp only [beq_iff_eq, decide_eq_true_eq, Bool.false_eq_true, true_iff, false_iff]; simp only [RepTail, PassOk] at *; omega)) | ((have hq := getD_some (by assumption : r.passed[r.passed.length - 1]? = some _)); exact rep_end (by assumption) hk (by omega) hall (by simp only [beq_iff_eq, decide_eq_true_eq, Bool.false_eq_true, true_iff, false_iff]; simp only [RepTail, PassOk] at *; omega))
                exact ⟨by first | (rw [ho]; done) | rfl, Eh⟩
              ·
                refine s_pass rfl ?_
                refine s_pass rfl ?_
                refine s_pass rfl ?_
                refine s_pass rfl ?_
                refine s_pass rfl ?_
                refine s_pure (.bool false) (fun _ q => q) ?_
                refine s_pure (.bool false) (fun _ q => q) ?_
                refine s_nil ?_
                refine p_seqN ?_
                refine v_ret ?_
                refine p_blkR ?_
                refine p_seqR ?_
                refine p_ret [.bool false] (.bool false) (fun _ q => q) rfl ?_
                have ho : decide (RepOk r) = false := by first | exact rep_long (by omega) | (exact rep_bad (by omega) (by assumption) (fun hp => by first | exact absurd hp.1 (by assumption) | (have := hp.2 (by assumption); omega))) | (exact rep_end (by assumption) hk (by omega) hall (by simp only [beq_iff_eq, decide_eq_true_eq, Bool.false_eq_true, true_iff, false_iff]; simp only [RepTail, PassOk] at *; omega)) | ((have hq := getD_some (by assumption : r.passed[r.passed.length - 1]? = some _)); exact rep_end (by assumption) hk (by omega) hall (by simp only [beq_iff_eq, decide_eq_true_eq, Bool.false_eq_true, true_iff, false_iff]; simp only [RepTail, PassOk] at *; omega))
                exact ⟨by first | (rw [ho]; done) | rfl, Eh⟩
            ·
              refine v_seq ?_
              refine v_ops ?_
              refine s_pure (.bool (r.phase == 2)) (fun _ q => q) ?_
              refine s_pure (.bool (r.phase == 2)) (fun _ q => q) ?_
              refine s_nil ?_
              refine p_seqN ?_
              refine v_cond rfl (fun c36 => ?_) (fun c36 => ?_)
              ·
                refine v_seq ?_
                refine v_ops ?_
                refine s_pure (.pointer (some ⟨b1, 1, none⟩)) (fun _ q => q) ?_
                refine s_load (.int .i64 r.holds) (fun _ q => bxb1.load rfl q) ?_
                refine s_callS [.int .i64 r.holds] (.bool (decide (PassOk r.holds))) rfl (rpPass_ok r.holds _ ) ?_
                refine s_pure (.bool (decide (PassOk r.holds))) (fun _ q => q) ?_
                refine s_splitT rfl (fun c37 => ?_) (fun c37 => ?_)
                ·
                  refine s_run rfl ?_
                  refine s_pure (.pointer (some ⟨b1, 2, none⟩)) (fun _ q => q) ?_
                  refine s_run rfl ?_
                  refine s_load (.int .i64 r.again) (fun _ q => bxb1.load rfl q) ?_
                  refine s_run rfl ?_
                  refine s_pure (.bool (r.again == 3)) (fun _ q => q) ?_
                  refine s_pure (.bool (r.again == 3)) (fun _ q => q) ?_
                  refine s_pure (.bool (r.again == 3)) (fun _ q => q) ?_
                  refine s_splitT rfl (fun c38 => ?_) (fun c38 => ?_)
                  ·
                    refine s_run rfl ?_
                    refine s_pure (.pointer (some ⟨b1, 3, none⟩)) (fun _ q => q) ?_
                    refine s_run rfl ?_
                    refine s_load (.int .i64 r.shown) (fun _ q => bxb1.load rfl q) ?_
                    refine s_run rfl ?_
                    refine s_pure (.bool (r.shown == 63)) (fun _ q => q) ?_
                    refine s_pure (.bool (r.shown == 63)) (fun _ q => q) ?_
                    refine s_pure (.bool (r.shown == 63)) (fun _ q => q) ?_
                    refine s_nil ?_
                    refine p_seqN ?_
                    refine v_ret ?_
                    refine p_blkR ?_
                    refine p_seqR ?_
                    refine p_ret [.bool (r.shown == 63)] (.bool (r.shown == 63)) (fun _ q => q) rfl ?_
                    have ho : decide (RepOk r) = (r.shown == 63) := by first | exact rep_long (by omega) | (exact rep_bad (by omega) (by assumption) (fun hp => by first | exact absurd hp.1 (by assumption) | (have := hp.2 (by assumption); omega))) | (exact rep_end (by assumption) hk (by omega) hall (by simp only [beq_iff_eq, decide_eq_true_eq, Bool.false_eq_true, true_iff, false_iff]; simp only [RepTail, PassOk] at *; omega)) | ((have hq := getD_some (by assumption : r.passed[r.passed.length - 1]? = some _)); exact rep_end (by assumption) hk (by omega) hall (by simp only [beq_iff_eq, decide_eq_true_eq, Bool.false_eq_true, true_iff, false_iff]; simp only [RepTail, PassOk] at *; omega))
                    exact ⟨by first | (rw [ho]; done) | rfl, Eh⟩
                  ·
                    refine s_pass rfl ?_
                    refine s_pass rfl ?_
                    refine s_pass rfl ?_
                    refine s_pure (.bool false) (fun _ q => q) ?_
                    refine s_pure (.bool false) (fun _ q => q) ?_
                    refine s_nil ?_
                    refine p_seqN ?_
                    refine v_ret ?_
                    refine p_blkR ?_
                    refine p_seqR ?_
                    refine p_ret [.bool false] (.bool false) (fun _ q => q) rfl ?_
                    have ho : decide (RepOk r) = false := by first | exact rep_long (by omega) | (exact rep_bad (by omega) (by assumption) (fun hp => by first | exact absurd hp.1 (by assumption) | (have := hp.2 (by assumption); omega))) | (exact rep_end (by assumption) hk (by omega) hall (by simp only [beq_iff_eq, decide_eq_true_eq, Bool.false_eq_true, true_iff, false_iff]; simp only [RepTail, PassOk] at *; omega)) | ((have hq := getD_some (by assumption : r.passed[r.passed.length - 1]? = some _)); exact rep_end (by assumption) hk (by omega) hall (by simp only [beq_iff_eq, decide_eq_true_eq, Bool.false_eq_true, true_iff, false_iff]; simp only [RepTail, PassOk] at *; omega))
                    exact ⟨by first | (rw [ho]; done) | rfl, Eh⟩
                ·
                  refine s_pass rfl ?_
                  refine s_pass rfl ?_
                  refine s_pass rfl ?_
                  refine s_pure (.bool false) (fun _ q => q) ?_
                  refine s_pure (.bool false) (fun _ q => q) ?_
                  refine s_splitN rfl (by simp) ?_
                  refine s_pass rfl ?_
                  refine s_pass rfl ?_
                  refine s_pass rfl ?_
                  refine s_pure (.bool false) (fun _ q => q) ?_
                  refine s_pure (.bool false) (fun _ q => q) ?_
                  refine s_nil ?_
                  refine p_seqN ?_
                  refine v_ret ?_
                  refine p_blkR ?_
                  refine p_seqR ?_
                  refine p_ret [.bool false] (.bool false) (fun _ q => q) rfl ?_
                  have ho : decide (RepOk r) = false := by first | exact rep_long (by omega) | (exact rep_bad (by omega) (by assumption) (fun hp => by first | exact absurd hp.1 (by assumption) | (have := hp.2 (by assumption); omega))) | (exact rep_end (by assumption) hk (by omega) hall (by simp only [beq_iff_eq, decide_eq_true_eq, Bool.false_eq_true, true_iff, false_iff]; simp only [RepTail, PassOk] at *; omega)) | ((have hq := getD_some (by assumption : r.passed[r.passed.length - 1]? = some _)); exact rep_end (by assumption) hk (by omega) hall (by simp only [beq_iff_eq, decide_eq_true_eq, Bool.false_eq_true, true_iff, false_iff]; simp only [RepTail, PassOk] at *; omega))
                  exact ⟨by first | (rw [ho]; done) | rfl, Eh⟩
              ·
                refine v_seq ?_
                refine v_ops ?_
                refine s_pure (.bool (r.phase == 3)) (fun _ q => q) ?_
                refine s_pure (.bool (r.phase == 3)) (fun _ q => q) ?_
                refine s_nil ?_
                refine p_seqN ?_
                refine v_cond rfl (fun c39 => ?_) (fun c39 => ?_)
                ·
                  refine v_seq ?_
                  refine v_ops ?_
                  refine s_pure (.bool false) (fun _ q => q) ?_
                  refine s_pure (.bool false) (fun _ q => q) ?_
                  refine s_splitN rfl (by simp) ?_
                  refine s_pass rfl ?_
                  refine s_pass rfl ?_
                  refine s_pass rfl ?_
                  refine s_pure (.bool false) (fun _ q => q) ?_
                  refine s_pure (.bool false) (fun _ q => q) ?_
                  refine s_splitN rfl (by simp) ?_
                  refine s_pass rfl ?_
                  refine s_pass rfl ?_
                  refine s_pass rfl ?_
                  refine s_pass rfl ?_
                  refine s_pure (.bool false) (fun _ q => q) ?_
                  refine s_pure (.bool false) (fun _ q => q) ?_
                  refine s_splitN rfl (by simp) ?_
                  refine s_pass rfl ?_
                  refine s_pass rfl ?_
                  refine s_pass rfl ?_
                  refine s_pass rfl ?_
                  refine s_pass rfl ?_
                  refine s_pass rfl ?_
                  refine s_pass rfl ?_
                  refine s_pass rfl ?_
                  refine s_pass rfl ?_
                  refine s_pure (.bool false) (fun _ q => q) ?_
                  refine s_pure (.bool false) (fun _ q => q) ?_
                  refine s_nil ?_
                  refine p_seqN ?_
                  refine v_ret ?_
                  refine p_blkR ?_
                  refine p_seqR ?_
                  refine p_ret [.bool false] (.bool false) (fun _ q => q) rfl ?_
                  have ho : decide (RepOk r) = false := by first | exact rep_long (by omega) | (exact rep_bad (by omega) (by assumption) (fun hp => by first | exact absurd hp.1 (by assumption) | (have := hp.2 (by assumption); omega))) | (exact rep_end (by assumption) hk (by omega) hall (by simp only [beq_iff_eq, decide_eq_true_eq, Bool.false_eq_true, true_iff, false_iff]; simp only [RepTail, PassOk] at *; omega)) | ((have hq := getD_some (by assumption : r.passed[r.passed.length - 1]? = some _)); exact rep_end (by assumption) hk (by omega) hall (by simp only [beq_iff_eq, decide_eq_true_eq, Bool.false_eq_true, true_iff, false_iff]; simp only [RepTail, PassOk] at *; omega))
                  exact ⟨by first | (rw [ho]; done) | rfl, Eh⟩
                ·
                  refine v_skip ?_
                  refine p_blkN ?_
                  refine p_seqN ?_
                  refine v_seq ?_
                  refine v_ops ?_
                  refine s_pure (.bool false) (fun _ q => q) ?_
                  refine s_nil ?_
                  refine p_seqN ?_
                  refine v_ret ?_
                  refine p_ret [.bool false] (.bool false) (fun _ q => q) rfl ?_
                  have ho : decide (RepOk r) = false := by first | exact rep_long (by omega) | (exact rep_bad (by omega) (by assumption) (fun hp => by first | exact absurd hp.1 (by assumption) | (have := hp.2 (by assumption); omega))) | (exact rep_end (by assumption) hk (by omega) hall (by simp only [beq_iff_eq, decide_eq_true_eq, Bool.false_eq_true, true_iff, false_iff]; simp only [RepTail, PassOk] at *; omega)) | ((have hq := getD_some (by assumption : r.passed[r.passed.length - 1]? = some _)); exact rep_end (by assumption) hk (by omega) hall (by simp only [beq_iff_eq, decide_eq_true_eq, Bool.false_eq_true, true_iff, false_iff]; simp only [RepTail, PassOk] at *; omega))
                  exact ⟨by first | (rw [ho]; done) | rfl, Eh⟩

theorem spec_IsRepeater_ok (r : RepP) (v_r_passed : Value) (h : Heap) (s_r_passed : Sl h v_r_passed r.passed) : Cn f_spec_IsRepeater [.agg #[.int .i64 r.phase, .int .i64 r.holds, .int .i64 r.again, .int .i64 r.shown, v_r_passed]] h fun v h' => v = .bool (decide (RepOk r)) ∧ Ext h h' := by
  have lt_r_passed := s_r_passed.lt
  have l63_r_passed := s_r_passed.len63
  refine calls_of r_spec_IsRepeater ?_
  refine v_seq ?_
  refine v_ops ?_
  refine s_box [.int .i64 r.phase, .int .i64 r.holds, .int .i64 r.again, .int .i64 r.shown, v_r_passed] rfl (fun h2 b1 hbb1 hzb1 eh2 bxb1 => ?_)
  have E3 := (Ext.refl h).trans eh2
  have z4 := eh2.size
  have lbb1 := bxb1.lt
  refine s_pure (.bool false) (fun _ q => q) ?_
  refine s_nil ?_
  refine p_seqN ?_
  refine v_seq ?_
  refine v_ops ?_
  refine s_load (.agg #[.int .i64 r.phase, .int .i64 r.holds, .int .i64 r.again, .int .i64 r.shown, v_r_passed]) (fun _ q => bxb1.loadA rfl q) ?_
  have f5 := (s_r_passed.ext eh2)
  refine s_call [.agg #[.int .i64 r.phase, .int .i64 r.holds, .int .i64 r.again, .int .i64 r.shown, v_r_passed]] rfl (spec_rpGood_ok r v_r_passed _ f5) ?_
  rintro _ h6 ⟨rfl, eh6⟩
  have E7 := E3.trans eh6
  have z8 := eh6.size
  refine s_pure (.bool (decide (RepOk r))) (fun _ q => q) ?_
  refine s_nil ?_
  refine p_seqN ?_
  refine v_ret ?_
  refine p_ret [.bool (decide (RepOk r))] (.bool (decide (RepOk r))) (fun _ q => q) rfl ?_
  have ho : decide (RepOk r) = decide (RepOk r) := by rfl
  exact ⟨by first | (rw [ho]; done) | rfl, E7⟩

end Go.Proofs.Ytpbjcaadnbeplaa


