/- Thirty-nine rounds are enough. Condition: none. Printed in part by a program. -/
import Derived.Test.YtibhbphikijecaaAk3
namespace Go.Proofs.Ytibhbphikijecaa
open Go.Vc
set_option linter.all false

theorem inStep_sub {lost K A p : Nat} {s d : Int} {now : Nat} {q : Nat} (h : now.testBit q = true) : (inStep lost K A p s d now).2.2.testBit q = true := by
  unfold inStep
  split
  · exact h
  · split
    · exact h
    · simp only [Nat.testBit_or, h, Bool.true_or]
theorem inRun_sub {w : Int} {lost K A : Nat} (f : Nat) {p : Nat} {s d : Int} {now q : Nat} (h : now.testBit q = true) : (inRun w lost K A f p s d now).2.2.testBit q = true := by
  induction f generalizing p s d now with
  | zero => exact h
  | succ f ih =>
    rw [inRun]; split
    · exact ih (inStep_sub h)
    · exact h
theorem inRun_get {w : Int} {K A : Nat} (f : Nat) {p : Nat} {s d : Int} {now : Nat} (hs : s < w) (he : ∃ p', p ≤ p' ∧ p' < p + f ∧ ¬ K.testBit p' = true) : ∃ p', p ≤ p' ∧ p' < p + f ∧ ¬ K.testBit p' = true ∧ (inRun w 0 K A f p s d now).2.2.testBit p' = true := by
  induction f generalizing p s d now with
  | zero => obtain ⟨p', h1, h2, _⟩ := he; omega
  | succ f ih =>
    rw [inRun, if_pos hs]
    by_cases hk : K.testBit p = true
    · rw [in_known hk]
      obtain ⟨p', h1, h2, h3⟩ := he
      have hne : p' ≠ p := fun e => h3 (e ▸ hk)
      obtain ⟨q, g1, g2, g3, g4⟩ := ih (p := p + 1) (d := d) (now := now) hs ⟨p', by omega, by omega, h3⟩
      exact ⟨q, by omega, by omega, g3, g4⟩
    · refine ⟨p, by omega, by omega, hk, inRun_sub f ?_⟩
      have hb : (now ||| 2 ^ p).testBit p = true := by simp [Nat.testBit_or, Nat.testBit_two_pow]
      by_cases ha : A.testBit p = true
      · rw [in_new hk (by simp) ha]; exact hb
      · rw [in_first hk (by simp) ha]; exact hb
theorem inRun_lt2 {w : Int} {lost K A n : Nat} (f : Nat) {p : Nat} {s d : Int} {now : Nat} (hn : now < 2 ^ n) (hp : p + f ≤ n) : (inRun w lost K A f p s d now).2.2 < 2 ^ n := by
  induction f generalizing p s d now with
  | zero => exact hn
  | succ f ih =>
    rw [inRun]
    split
    · refine ih ?_ (by omega)
      unfold inStep
      split
      · exact hn
      · split
        · exact hn
        · exact Nat.or_lt_two_pow hn (Nat.pow_lt_pow_right (by omega) (by omega))
    · exact hn
def unk (n kn : Nat) : Nat := (List.range n).countP fun p => !kn.testBit p
theorem countP_less {l : List Nat} {f g : Nat → Bool} (h : ∀ p ∈ l, g p = true → f p = true) (he : ∃ p ∈ l, f p = true ∧ ¬ g p = true) : l.countP g < l.countP f := by
  induction l with
  | nil => obtain ⟨p, hp, _⟩ := he; simp at hp
  | cons x l ih =>
    have hm : l.countP g ≤ l.countP f := List.countP_mono_left fun p hp hg => h p (List.mem_cons_of_mem _ hp) hg
    simp only [List.countP_cons]
    by_cases hx : f x = true ∧ ¬ g x = true
    · rw [if_pos hx.1, if_neg hx.2]; omega
    · obtain ⟨p, hp, h1, h2⟩ := he
      rcases List.mem_cons.1 hp with rfl | hp
      · exact absurd ⟨h1, h2⟩ hx
      · have := ih (fun p hp => h p (List.mem_cons_of_mem _ hp)) ⟨p, hp, h1, h2⟩
        by_cases hg : g x = true
        · rw [if_pos hg, if_pos (h x (List.mem_cons_self ..) hg)]; omega
        · rw [if_neg hg]; split <;> omega
theorem some_unk {n kn : Nat} (h : kn < 2 ^ n) (hne : kn ≠ 2 ^ n - 1) : ∃ p, p < n ∧ ¬ kn.testBit p = true := by
  refine Classical.byContradiction fun hc => hne ?_
  apply Nat.eq_of_testBit_eq
  intro i
  rw [Nat.testBit_two_pow_sub_one]
  by_cases hi : i < n
  · simp only [hi, decide_true]
    exact Classical.byContradiction fun hb => hc ⟨i, hi, hb⟩
  · simp only [hi, decide_false]
    exact Nat.testBit_lt_two_pow (Nat.lt_of_lt_of_le h (Nat.pow_le_pow_right (by omega) (by omega)))
structure AInv (n : Nat) (x : AckS) : Prop where
  a : x.arr < 2 ^ n
  k : x.kn < 2 ^ n
  sub : ∀ q, x.kn.testBit q = true → x.arr.testBit q = true
  r : 0 ≤ x.rounds
theorem AInv.step {n w : Int} {sc : List Int} {x : AckS} (h : AInv n.toNat x) : AInv n.toNat (ackStep n w sc x) := by
  have h1 : (inRun w (lostAt sc x.rounds) x.kn x.arr n.toNat 0 0 x.dbl x.arr).2.2 < 2 ^ n.toNat := inRun_lt2 _ h.a (by omega)
  have h2 : ∀ q, x.kn.testBit q = true → (inRun w (lostAt sc x.rounds) x.kn x.arr n.toNat 0 0 x.dbl x.arr).2.2.testBit q = true := fun q hq => inRun_sub _ (h.sub q hq)
  have hr := h.r
  unfold ackStep
  simp only
  split
  · exact ⟨h1, h1, fun q hq => hq, by simp only; omega⟩
  · exact ⟨h1, h.k, h2, by simp only; omega⟩
theorem late_step {n w : Int} {sc : List Int} {x : AckS} (hw : 1 ≤ w) (hs : sc.length ≤ 30) (h : AInv n.toNat x) (h30 : 30 ≤ x.rounds) (hk : x.kn ≠ 2 ^ n.toNat - 1) : unk n.toNat (ackStep n w sc x).kn < unk n.toNat x.kn := by
  have hl : lostAt sc x.rounds = 0 := by unfold lostAt; rw [List.getD_eq_getElem?_getD, List.getElem?_eq_none (by omega)]; rfl
  obtain ⟨p, hp, hpk⟩ := some_unk h.k hk
  obtain ⟨q, _, hq2, hq3, hq4⟩ := inRun_get (w := w) (K := x.kn) (A := x.arr) n.toNat (p := 0) (s := 0) (d := x.dbl) (now := x.arr) (by omega) ⟨p, by omega, by omega, hpk⟩
  unfold ackStep
  simp only [hl]
  rw [if_pos (by omega)]
  refine countP_less (fun i _ hi => ?_) ⟨q, by simp; omega, by simpa using hq3, by simpa using hq4⟩
  simp only [Bool.not_eq_true', Bool.not_eq_true] at hi ⊢
  cases hb : x.kn.testBit i
  · rfl
  · rw [inRun_sub n.toNat (h.sub i hb)] at hi; cases hi
theorem unk_zero {n kn : Nat} (h : kn < 2 ^ n) (hu : unk n kn = 0) : kn = 2 ^ n - 1 := by
  refine Classical.byContradiction fun hne => ?_
  obtain ⟨p, hp, hpk⟩ := some_unk h hne
  unfold unk at hu
  rw [List.countP_eq_zero] at hu
  exact hu p (by simpa using hp) (by simpa using hpk)
theorem ack_late {n w : Int} {sc : List Int} (hw : 1 ≤ w) (hs : sc.length ≤ 30) (m : Nat) : ∀ (x : AckS), AInv n.toNat x → 30 ≤ x.rounds → unk n.toNat x.kn ≤ m → ∀ f, m ≤ f → ackRun n w sc f x = ackRun n w sc m x := by
  induction m with
  | zero =>
    intro x h h30 hu f _
    have := unk_zero h.k (by omega)
    rw [ackRun_stop (.inr this), ackRun_stop (.inr this)]
  | succ m ih =>
    intro x h h30 hu f hf
    by_cases hk : x.kn = 2 ^ n.toNat - 1
    · rw [ackRun_stop (.inr hk), ackRun_stop (.inr hk)]
    · rw [ackRun_go (by omega) hk, ackRun_go (f := m + 1) (by omega) hk]
      have := late_step hw hs h h30 hk
      exact ih _ h.step (by simp only [ackStep]; omega) (by omega) (f - 1) (by omega)
theorem ack_early {n w : Int} {sc : List Int} (hw : 1 ≤ w) (hs : sc.length ≤ 30) (hn : n ≤ 9) (j : Nat) : ∀ (x : AckS), AInv n.toNat x → 30 ≤ x.rounds + j → ∀ f, j + 9 ≤ f → ackRun n w sc f x = ackRun n w sc (j + 9) x := by
  induction j with
  | zero =>
    intro x h h30 f hf
    refine ack_late hw hs (0 + 9) x h (by omega) ?_ f hf
    have : unk n.toNat x.kn ≤ n.toNat := by unfold unk; exact Nat.le_trans List.countP_le_length (by simp)
    omega
  | succ j ih =>
    intro x h h30 f hf
    by_cases hk : x.kn = 2 ^ n.toNat - 1
    · rw [ackRun_stop (.inr hk), ackRun_stop (.inr hk)]
    · rw [ackRun_go (by omega) hk, ackRun_go (f := j + 1 + 9) (by omega) hk]
      have := ih (ackStep n w sc x) h.step (by simp only [ackStep]; omega) (f - 1) (by omega)
      rw [this]; congr 1
theorem ack_same {n w : Int} {sc : List Int} (hw : 1 ≤ w) (hs : sc.length ≤ 30) (hn : n ≤ 9) : ackRun n w sc 1000 ackZ = ackRun n w sc 39 ackZ :=
  ack_early hw hs hn 30 ackZ ⟨Nat.two_pow_pos _, Nat.two_pow_pos _, fun q hq => hq, by decide⟩ (by decide) 1000 (by omega)
def AskOk (n w : Int) (sc : List Int) : Prop := (1 ≤ n ∧ n ≤ 9) ∧ (1 ≤ w ∧ w ≤ 9) ∧ AckOk sc
noncomputable instance (n w : Int) (sc : List Int) : Decidable (AskOk n w sc) := Classical.propDecidable _
noncomputable def akOut (f : AckS → Int) (n w : Int) (sc : List Int) : Int × Bool := if AskOk n w sc then (f (ackRun n w sc 39 ackZ), true) else (0, false)
theorem ak_no {f : AckS → Int} {n w : Int} {sc : List Int} (h : ¬ AskOk n w sc) : akOut f n w sc = (0, false) := by rw [akOut, if_neg h]

theorem impl_roundsAsked_ok (n : Int) (w : Int) (v_l : Value) (l : List Int) (k : Int) (h : Heap) (s_l : Sl h v_l l) : Cn f_impl_roundsAsked [.int .i64 n, .int .i64 w, v_l, .int .i64 k] h fun v h' => v = .bool (decide (AskOk n w l ∧ (0 ≤ k ∧ k ≤ 60))) ∧ Ext h h' := by
  have lt_l := s_l.lt
  have l63_l := s_l.len63
  refine calls_of r_impl_roundsAsked ?_
  refine v_seq ?_
  refine v_ops ?_
  refine s_pure (.bool false) (fun _ q => q) ?_
  refine s_nil ?_
  refine p_seqN ?_
  refine v_seq ?_
  refine v_ops ?_
  refine s_pure (.int .i64 n) (fun _ q => q) ?_
  refine s_callS [.int .i64 n, .int .i64 1, .int .i64 9] (.bool (decide (1 ≤ n ∧ n ≤ 9))) rfl (within_ok n 1 9 _ ) ?_
  refine s_pure (.bool (decide (1 ≤ n ∧ n ≤ 9))) (fun _ q => q) ?_
  refine s_splitT rfl (fun c1 => ?_) (fun c1 => ?_)
  ·
    refine s_run rfl ?_
    refine s_pure (.int .i64 w) (fun _ q => q) ?_
    refine s_run rfl ?_
    refine s_callS [.int .i64 w, .int .i64 1, .int .i64 9] (.bool (decide (1 ≤ w ∧ w ≤ 9))) rfl (within_ok w 1 9 _ ) ?_
    refine s_pure (.bool (decide (1 ≤ w ∧ w ≤ 9))) (fun _ q => q) ?_
    refine s_pure (.bool (decide (1 ≤ w ∧ w ≤ 9))) (fun _ q => q) ?_
    refine s_splitT rfl (fun c2 => ?_) (fun c2 => ?_)
    ·
      refine s_run rfl ?_
      refine s_pure v_l (fun _ q => q) ?_
      refine s_run rfl ?_
      refine s_call [v_l] rfl (implIsAckScript_ok v_l l _ s_l) ?_
      rintro _ h3 ⟨rfl, eh3⟩
      have E4 := (Ext.refl h).trans eh3
      have z5 := eh3.size
      refine s_pure (.bool (decide (AckOk l))) (fun _ q => q) ?_
      refine s_pure (.bool (decide (AckOk l))) (fun _ q => q) ?_
      refine s_splitT rfl (fun c6 => ?_) (fun c6 => ?_)
      ·
        refine s_run rfl ?_
        refine s_pure (.int .i64 k) (fun _ q => q) ?_
        refine s_run rfl ?_
        refine s_callS [.int .i64 k, .int .i64 0, .int .i64 60] (.bool (decide (0 ≤ k ∧ k ≤ 60))) rfl (within_ok k 0 60 _ ) ?_
        refine s_pure (.bool (decide (0 ≤ k ∧ k ≤ 60))) (fun _ q => q) ?_
        refine s_pure (.bool (decide (0 ≤ k ∧ k ≤ 60))) (fun _ q => q) ?_
        refine s_nil ?_
        refine p_seqN ?_
        refine v_ret ?_
        refine p_ret [.bool (decide (0 ≤ k ∧ k ≤ 60))] (.bool (decide (0 ≤ k ∧ k ≤ 60))) (fun _ q => q) rfl ?_
        have ho : (decide (AskOk n w l ∧ (0 ≤ k ∧ k ≤ 60))) = (decide (0 ≤ k ∧ k ≤ 60)) := by first | (simp only [AskOk]; simp [*]; done) | (rw [Bool.eq_iff_iff]; simp only [decide_eq_true_eq]; exact ⟨fun hq => hq.2, fun hq => ⟨⟨by assumption, by assumption, by assumption⟩, hq⟩⟩)
        exact ⟨by first | (rw [ho]; done) | rfl, E4⟩
      ·
        refine s_pass rfl ?_
        refine s_pass rfl ?_
        refine s_pure (.bool false) (fun _ q => q) ?_
        refine s_pure (.bool false) (fun _ q => q) ?_
        refine s_nil ?_
        refine p_seqN ?_
        refine v_ret ?_
        refine p_ret [.bool false] (.bool false) (fun _ q => q) rfl ?_
        have ho : (decide (AskOk n w l ∧ (0 ≤ k ∧ k ≤ 60))) = false := by first | (simp only [AskOk]; simp [*]; done) | (rw [Bool.eq_iff_iff]; simp only [decide_eq_true_eq]; exact ⟨fun hq => hq.2, fun hq => ⟨⟨by assumption, by assumption, by assumption⟩, hq⟩⟩)
        exact ⟨by first | (rw [ho]; done) | rfl, E4⟩
    ·
      refine s_pass rfl ?_
      refine s_pass rfl ?_
      refine s_pure (.bool false) (fun _ q => q) ?_
      refine s_pure (.bool false) (fun _ q => q) ?_
      refine s_splitN rfl (by simp) ?_
      refine s_pass rfl ?_
      refine s_pass rfl ?_
      refine s_pure (.bool false) (fun _ q => q) ?_
      refine s_pure (.bool false) (fun _ q => q) ?_
      refine s_nil ?_
      refine p_seqN ?_
      refine v_ret ?_
      refine p_ret [.bool false] (.bool false) (fun _ q => q) rfl ?_
      have ho : (decide (AskOk n w l ∧ (0 ≤ k ∧ k ≤ 60))) = false := by first | (simp only [AskOk]; simp [*]; done) | (rw [Bool.eq_iff_iff]; simp only [decide_eq_true_eq]; exact ⟨fun hq => hq.2, fun hq => ⟨⟨by assumption, by assumption, by assumption⟩, hq⟩⟩)
      exact ⟨by first | (rw [ho]; done) | rfl, (Ext.refl h)⟩
  ·
    refine s_pass rfl ?_
    refine s_pass rfl ?_
    refine s_pure (.bool false) (fun _ q => q) ?_
    refine s_pure (.bool false) (fun _ q => q) ?_
    refine s_splitN rfl (by simp) ?_
    refine s_pass rfl ?_
    refine s_pass rfl ?_
    refine s_pure (.bool false) (fun _ q => q) ?_
    refine s_pure (.bool false) (fun _ q => q) ?_
    refine s_splitN rfl (by simp) ?_
    refine s_pass rfl ?_
    refine s_pass rfl ?_
    refine s_pure (.bool false) (fun _ q => q) ?_
    refine s_pure (.bool false) (fun _ q => q) ?_
    refine s_nil ?_
    refine p_seqN ?_
    refine v_ret ?_
    refine p_ret [.bool false] (.bool false) (fun _ q => q) rfl ?_
    have ho : (decide (AskOk n w l ∧ (0 ≤ k ∧ k ≤ 60))) = false := by first | (simp only [AskOk]; simp [*]; done) | (rw [Bool.eq_iff_iff]; simp only [decide_eq_true_eq]; exact ⟨fun hq => hq.2, fun hq => ⟨⟨by assumption, by assumption, by assumption⟩, hq⟩⟩)
    exact ⟨by first | (rw [ho]; done) | rfl, (Ext.refl h)⟩

theorem spec_akGood_ok (n : Int) (w : Int) (v_l : Value) (l : List Int) (h : Heap) (s_l : Sl h v_l l) : Cn f_spec_akGood [.int .i64 n, .int .i64 w, v_l] h fun v h' => v = .bool (decide (AskOk n w l)) ∧ Ext h h' := by
  have lt_l := s_l.lt
  have l63_l := s_l.len63
  refine calls_of r_spec_akGood ?_
  refine v_seq ?_
  refine v_ops ?_
  refine s_pure (.bool false) (fun _ q => q) ?_
  refine s_nil ?_
  refine p_seqN ?_
  refine v_seq ?_
  refine v_ops ?_
  refine s_pure (.int .i64 n) (fun _ q => q) ?_
  refine s_callS [.int .i64 n, .int .i64 1, .int .i64 9] (.bool (decide (1 ≤ n ∧ n ≤ 9))) rfl (l1In_ok n 1 9 _ ) ?_
  refine s_pure (.bool (decide (1 ≤ n ∧ n ≤ 9))) (fun _ q => q) ?_
  refine s_splitT rfl (fun c1 => ?_) (fun c1 => ?_)
  ·
    refine s_run rfl ?_
    refine s_pure (.int .i64 w) (fun _ q => q) ?_
    refine s_run rfl ?_
    refine s_callS [.int .i64 w, .int .i64 1, .int .i64 9] (.bool (decide (1 ≤ w ∧ w ≤ 9))) rfl (l1In_ok w 1 9 _ ) ?_
    refine s_pure (.bool (decide (1 ≤ w ∧ w ≤ 9))) (fun _ q => q) ?_
    refine s_pure (.bool (decide (1 ≤ w ∧ w ≤ 9))) (fun _ q => q) ?_
    refine s_splitT rfl (fun c2 => ?_) (fun c2 => ?_)
    ·
      refine s_run rfl ?_
      refine s_pure v_l (fun _ q => q) ?_
      refine s_run rfl ?_
      refine s_callS [v_l] (.bool (decide (AckOk l))) rfl (akScript_ok v_l l _ s_l) ?_
      refine s_pure (.bool (decide (AckOk l))) (fun _ q => q) ?_
      refine s_pure (.bool (decide (AckOk l))) (fun _ q => q) ?_
      refine s_nil ?_
      refine p_seqN ?_
      refine v_ret ?_
      refine p_ret [.bool (decide (AckOk l))] (.bool (decide (AckOk l))) (fun _ q => q) rfl ?_
      have ho : (decide (AskOk n w l)) = (decide (AckOk l)) := by simp only [AskOk]; simp [*]
      exact ⟨by first | (rw [ho]; done) | rfl, (Ext.refl h)⟩
    ·
      refine s_pass rfl ?_
      refine s_pass rfl ?_
      refine s_pure (.bool false) (fun _ q => q) ?_
      refine s_pure (.bool false) (fun _ q => q) ?_
      refine s_nil ?_
      refine p_seqN ?_
      refine v_ret ?_
      refine p_ret [.bool false] (.bool false) (fun _ q => q) rfl ?_
      have ho : (decide (AskOk n w l)) = false := by simp only [AskOk]; simp [*]
      exact ⟨by first | (rw [ho]; done) | rfl, (Ext.refl h)⟩
  ·
    refine s_pass rfl ?_
    refine s_pass rfl ?_
    refine s_pure (.bool false) (fun _ q => q) ?_
    refine s_pure (.bool false) (fun _ q => q) ?_
    refine s_splitN rfl (by simp) ?_
    refine s_pass rfl ?_
    refine s_pass rfl ?_
    refine s_pure (.bool false) (fun _ q => q) ?_
    refine s_pure (.bool false) (fun _ q => q) ?_
    refine s_nil ?_
    refine p_seqN ?_
    refine v_ret ?_
    refine p_ret [.bool false] (.bool false) (fun _ q => q) rfl ?_
    have ho : (decide (AskOk n w l)) = false := by simp only [AskOk]; simp [*]
    exact ⟨by first | (rw [ho]; done) | rfl, (Ext.refl h)⟩

theorem impl_RoundsNeeded_ok (n : Int) (w : Int) (v_l : Value) (l : List Int) (h : Heap) (s_l : Sl h v_l l) : Cn f_impl_RoundsNeeded [.int .i64 n, .int .i64 w, v_l] h fun v h' => v = .tuple #[.int .i64 ((akOut AckS.rounds n w l).1), .bool ((akOut AckS.rounds n w l).2)] ∧ Ext h h' := by
  have lt_l := s_l.lt
  have l63_l := s_l.len63
  refine calls_of r_impl_RoundsNeeded ?_
  refine v_seq ?_
  refine v_ops ?_
  refine s_pure (.int .i64 0) (fun _ q => q) ?_
  refine s_pure (.bool false) (fun _ q => q) ?_
  refine s_nil ?_
  refine p_seqN ?_
  refine v_seq ?_
  refine v_seq ?_
  refine v_ops ?_
  refine s_pure (.int .i64 n) (fun _ q => q) ?_
  refine s_pure (.int .i64 w) (fun _ q => q) ?_
  refine s_pure v_l (fun _ q => q) ?_
  refine s_call [.int .i64 n, .int .i64 w, v_l, .int .i64 0] rfl (impl_roundsAsked_ok n w v_l l 0 _ s_l) ?_
  rintro _ h1 ⟨rfl, eh1⟩
  have E2 := (Ext.refl h).trans eh1
  have z3 := eh1.size
  refine s_pure (.bool (!(decide (AskOk n w l ∧ (0 ≤ 0 ∧ 0 ≤ 60))))) (fun _ q => q) ?_
  refine s_nil ?_
  refine p_seqN ?_
  refine v_cond rfl (fun c4 => ?_) (fun c4 => ?_)
  ·
    refine v_seq ?_
    refine v_ops ?_
    refine s_pure (.int .i64 0) (fun _ q => q) ?_
    refine s_pure (.bool false) (fun _ q => q) ?_
    refine s_nil ?_
    refine p_seqN ?_
    refine v_ret ?_
    refine p_seqR ?_
    refine p_ret [.int .i64 0, .bool false] (.tuple #[.int .i64 0, .bool false]) (fun _ q => q) rfl ?_
    have ho : akOut AckS.rounds n w l = (0, false) := by first | exact ak_no (by assumption) | exact ak_no (fun hc => (by assumption : ¬ (AskOk n w l ∧ _)) ⟨hc, by omega⟩) | exact if_pos ask | exact (if_pos ask).trans (congrArg (fun q : AckS => (q.rounds, true)) (ack_same ask.2.1.1 ask.2.2.1 ask.1.2).symm)
    exact ⟨by first | (rw [ho]; done) | rfl, E2⟩
  ·
    have c4 := Classical.not_not.1 c4
    refine v_skip ?_
    refine p_seqN ?_
    refine v_seq ?_
    refine v_ops ?_
    refine s_pure (.int .i64 n) (fun _ q => q) ?_
    refine s_pure (.int .i64 w) (fun _ q => q) ?_
    refine s_pure v_l (fun _ q => q) ?_
    have ask : AskOk n w l := by first | assumption | exact (by assumption : AskOk _ _ _ ∧ _).1
    have f6 := (s_l.ext eh1)
    refine s_call [.int .i64 n, .int .i64 w, v_l, .int .i64 1000] rfl (impl_runRounds_ok n w v_l l 1000 _ f6 ask.1 ask.2.1 ask.2.2 (by omega)) ?_
    rintro _ h5 ⟨rfl, eh5⟩
    have E7 := E2.trans eh5
    have z8 := eh5.size
    refine s_pure (.int .i64 ((ackRun n w l (Int.toNat 1000) ackZ).rounds)) (fun _ q => q) ?_
    refine s_pure (.int .i64 ((ackRun n w l (Int.toNat 1000) ackZ).rounds)) (fun _ q => q) ?_
    refine s_pure (.bool true) (fun _ q => q) ?_
    refine s_nil ?_
    refine p_seqN ?_
    refine v_ret ?_
    refine p_ret [.int .i64 ((ackRun n w l (Int.toNat 1000) ackZ).rounds), .bool true] (.tuple #[.int .i64 ((ackRun n w l (Int.toNat 1000) ackZ).rounds), .bool true]) (fun _ q => q) rfl ?_
    have ho : akOut AckS.rounds n w l = ((ackRun n w l (Int.toNat 1000) ackZ).rounds, true) := by first | exact ak_no (by assumption) | exact ak_no (fun hc => (by assumption : ¬ (AskOk n w l ∧ _)) ⟨hc, by omega⟩) | exact if_pos ask | exact (if_pos ask).trans (congrArg (fun q : AckS => (q.rounds, true)) (ack_same ask.2.1.1 ask.2.2.1 ask.1.2).symm)
    exact ⟨by first | (rw [ho]; done) | rfl, E7⟩

theorem spec_RoundsNeeded_ok (n : Int) (w : Int) (v_l : Value) (l : List Int) (h : Heap) (s_l : Sl h v_l l) : Cn f_spec_RoundsNeeded [.int .i64 n, .int .i64 w, v_l] h fun v h' => v = .tuple #[.int .i64 ((akOut AckS.rounds n w l).1), .bool ((akOut AckS.rounds n w l).2)] ∧ Ext h h' := by
  have lt_l := s_l.lt
  have l63_l := s_l.len63
  refine calls_of r_spec_RoundsNeeded ?_
  refine v_seq ?_
  refine v_ops ?_
  refine s_pure (.int .i64 0) (fun _ q => q) ?_
  refine s_pure (.bool false) (fun _ q => q) ?_
  refine s_nil ?_
  refine p_seqN ?_
  refine v_seq ?_
  refine v_seq ?_
  refine v_ops ?_
  refine s_pure (.int .i64 n) (fun _ q => q) ?_
  refine s_pure (.int .i64 w) (fun _ q => q) ?_
  refine s_pure v_l (fun _ q => q) ?_
  refine s_call [.int .i64 n, .int .i64 w, v_l] rfl (spec_akGood_ok n w v_l l _ s_l) ?_
  rintro _ h1 ⟨rfl, eh1⟩
  have E2 := (Ext.refl h).trans eh1
  have z3 := eh1.size
  refine s_pure (.bool (!(decide (AskOk n w l)))) (fun _ q => q) ?_
  refine s_nil ?_
  refine p_seqN ?_
  refine v_cond rfl (fun c4 => ?_) (fun c4 => ?_)
  ·
    refine v_seq ?_
    refine v_ops ?_
    refine s_pure (.int .i64 0) (fun _ q => q) ?_
    refine s_pure (.bool false) (fun _ q => q) ?_
    refine s_nil ?_
    refine p_seqN ?_
    refine v_ret ?_
    refine p_seqR ?_
    refine p_ret [.int .i64 0, .bool false] (.tuple #[.int .i64 0, .bool false]) (fun _ q => q) rfl ?_
    have ho : akOut AckS.rounds n w l = (0, false) := by first | exact ak_no (by assumption) | exact ak_no (fun hc => (by assumption : ¬ (AskOk n w l ∧ _)) ⟨hc, by omega⟩) | exact if_pos ask | exact (if_pos ask).trans (congrArg (fun q : AckS => (q.rounds, true)) (ack_same ask.2.1.1 ask.2.2.1 ask.1.2).symm)
    exact ⟨by first | (rw [ho]; done) | rfl, E2⟩
  ·
    have c4 := Classical.not_not.1 c4
    refine v_skip ?_
    refine p_seqN ?_
    refine v_seq ?_
    refine v_ops ?_
    refine s_pure (.int .i64 n) (fun _ q => q) ?_
    refine s_pure (.int .i64 w) (fun _ q => q) ?_
    refine s_pure v_l (fun _ q => q) ?_
    refine s_inl r_spec_akAll [.int .i64 n, .int .i64 w, v_l] rfl ?_ rfl
    refine v_seq ?_
    refine v_ops ?_
    refine s_pure (.pointer none) (fun _ q => q) ?_
    refine s_nil ?_
    refine p_seqN ?_
    refine v_seq ?_
    refine v_ops ?_
    refine s_pure (.int .i64 n) (fun _ q => q) ?_
    refine s_pure (.int .i64 w) (fun _ q => q) ?_
    refine s_pure v_l (fun _ q => q) ?_
    have ask : AskOk n w l := by first | assumption | exact (by assumption : AskOk _ _ _ ∧ _).1
    have f7 := (s_l.ext eh1)
    refine s_call [.int .i64 n, .int .i64 w, v_l, .int .i64 39] rfl (spec_akRun_ok n w v_l l 39 _ f7 ask.1 ask.2.1 ask.2.2 (by omega)) ?_
    rintro _ h5 ⟨b6, vab6, vkb6, Tb6, rfl, bxb6, eh5⟩
    have E8 := E2.trans eh5
    have z9 := eh5.size
    refine s_pure (.pointer (some ⟨b6, 0, none⟩)) (fun _ q => q) ?_
    refine s_nil ?_
    refine p_seqN ?_
    refine v_ret ?_
    refine p_ret [.pointer (some ⟨b6, 0, none⟩)] (.pointer (some ⟨b6, 0, none⟩)) (fun _ q => q) rfl ?_
    refine s_pure (.pointer (some ⟨b6, 0, none⟩)) (fun _ q => q) ?_
    refine s_pure (.pointer (some ⟨b6, 2, none⟩)) (fun _ q => q) ?_
    refine s_load (.int .i64 ((ackRun n w l (Int.toNat 39) ackZ).rounds)) (fun _ q => bxb6.load rfl q) ?_
    refine s_pure (.int .i64 ((ackRun n w l (Int.toNat 39) ackZ).rounds)) (fun _ q => q) ?_
    refine s_pure (.bool true) (fun _ q => q) ?_
    refine s_nil ?_
    refine p_seqN ?_
    refine v_ret ?_
    refine p_ret [.int .i64 ((ackRun n w l (Int.toNat 39) ackZ).rounds), .bool true] (.tuple #[.int .i64 ((ackRun n w l (Int.toNat 39) ackZ).rounds), .bool true]) (fun _ q => q) rfl ?_
    have ho : akOut AckS.rounds n w l = ((ackRun n w l (Int.toNat 39) ackZ).rounds, true) := by first | exact ak_no (by assumption) | exact ak_no (fun hc => (by assumption : ¬ (AskOk n w l ∧ _)) ⟨hc, by omega⟩) | exact if_pos ask | exact (if_pos ask).trans (congrArg (fun q : AckS => (q.rounds, true)) (ack_same ask.2.1.1 ask.2.2.1 ask.1.2).symm)
    exact ⟨by first | (rw [ho]; done) | rfl, E8⟩

theorem impl_PacketsSent_ok (n : Int) (w : Int) (v_l : Value) (l : List Int) (h : Heap) (s_l : Sl h v_l l) : Cn f_impl_PacketsSent [.int .i64 n, .int .i64 w, v_l] h fun v h' => v = .tuple #[.int .i64 ((akOut AckS.sent n w l).1), .bool ((akOut AckS.sent n w l).2)] ∧ Ext h h' := by
  have lt_l := s_l.lt
  have l63_l := s_l.len63
  refine calls_of r_impl_PacketsSent ?_
  refine v_seq ?_
  refine v_ops ?_
  refine s_pure (.int .i64 0) (fun _ q => q) ?_
  refine s_pure (.bool false) (fun _ q => q) ?_
  refine s_nil ?_
  refine p_seqN ?_
  refine v_seq ?_
  refine v_seq ?_
  refine v_ops ?_
  refine s_pure (.int .i64 n) (fun _ q => q) ?_
  refine s_pure (.int .i64 w) (fun _ q => q) ?_
  refine s_pure v_l (fun _ q => q) ?_
  refine s_call [.int .i64 n, .int .i64 w, v_l, .int .i64 0] rfl (impl_roundsAsked_ok n w v_l l 0 _ s_l) ?_
  rintro _ h1 ⟨rfl, eh1⟩
  have E2 := (Ext.refl h).trans eh1
  have z3 := eh1.size
  refine s_pure (.bool (!(decide (AskOk n w l ∧ (0 ≤ 0 ∧ 0 ≤ 60))))) (fun _ q => q) ?_
  refine s_nil ?_
  refine p_seqN ?_
  refine v_cond rfl (fun c4 => ?_) (fun c4 => ?_)
  ·
    refine v_seq ?_
    refine v_ops ?_
    refine s_pure (.int .i64 0) (fun _ q => q) ?_
    refine s_pure (.bool false) (fun _ q => q) ?_
    refine s_nil ?_
    refine p_seqN ?_
    refine v_ret ?_
    refine p_seqR ?_
    refine p_ret [.int .i64 0, .bool false] (.tuple #[.int .i64 0, .bool false]) (fun _ q => q) rfl ?_
    have ho : akOut AckS.sent n w l = (0, false) := by first | exact ak_no (by assumption) | exact ak_no (fun hc => (by assumption : ¬ (AskOk n w l ∧ _)) ⟨hc, by omega⟩) | exact if_pos ask | exact (if_pos ask).trans (congrArg (fun q : AckS => (q.sent, true)) (ack_same ask.2.1.1 ask.2.2.1 ask.1.2).symm)
    exact ⟨by first | (rw [ho]; done) | rfl, E2⟩
  ·
    have c4 := Classical.not_not.1 c4
    refine v_skip ?_
    refine p_seqN ?_
    refine v_seq ?_
    refine v_ops ?_
    refine s_pure (.int .i64 n) (fun _ q => q) ?_
    refine s_pure (.int .i64 w) (fun _ q => q) ?_
    refine s_pure v_l (fun _ q => q) ?_
    have ask : AskOk n w l := by first | assumption | exact (by assumption : AskOk _ _ _ ∧ _).1
    have f6 := (s_l.ext eh1)
    refine s_call [.int .i64 n, .int .i64 w, v_l, .int .i64 1000] rfl (impl_runRounds_ok n w v_l l 1000 _ f6 ask.1 ask.2.1 ask.2.2 (by omega)) ?_
    rintro _ h5 ⟨rfl, eh5⟩
    have E7 := E2.trans eh5
    have z8 := eh5.size
    refine s_pure (.int .i64 ((ackRun n w l (Int.toNat 1000) ackZ).sent)) (fun _ q => q) ?_
    refine s_pure (.int .i64 ((ackRun n w l (Int.toNat 1000) ackZ).sent)) (fun _ q => q) ?_
    refine s_pure (.bool true) (fun _ q => q) ?_
    refine s_nil ?_
    refine p_seqN ?_
    refine v_ret ?_
    refine p_ret [.int .i64 ((ackRun n w l (Int.toNat 1000) ackZ).sent), .bool true] (.tuple #[.int .i64 ((ackRun n w l (Int.toNat 1000) ackZ).sent), .bool true]) (fun _ q => q) rfl ?_
    have ho : akOut AckS.sent n w l = ((ackRun n w l (Int.toNat 1000) ackZ).sent, true) := by first | exact ak_no (by assumption) | exact ak_no (fun hc => (by assumption : ¬ (AskOk n w l ∧ _)) ⟨hc, by omega⟩) | exact if_pos ask | exact (if_pos ask).trans (congrArg (fun q : AckS => (q.sent, true)) (ack_same ask.2.1.1 ask.2.2.1 ask.1.2).symm)
    exact ⟨by first | (rw [ho]; done) | rfl, E7⟩

theorem spec_PacketsSent_ok (n : Int) (w : Int) (v_l : Value) (l : List Int) (h : Heap) (s_l : Sl h v_l l) : Cn f_spec_PacketsSent [.int .i64 n, .int .i64 w, v_l] h fun v h' => v = .tuple #[.int .i64 ((akOut AckS.sent n w l).1), .bool ((akOut AckS.sent n w l).2)] ∧ Ext h h' := by
  have lt_l := s_l.lt
  have l63_l := s_l.len63
  refine calls_of r_spec_PacketsSent ?_
  refine v_seq ?_
  refine v_ops ?_
  refine s_pure (.int .i64 0) (fun _ q => q) ?_
  refine s_pure (.bool false) (fun _ q => q) ?_
  refine s_nil ?_
  refine p_seqN ?_
  refine v_seq ?_
  refine v_seq ?_
  refine v_ops ?_
  refine s_pure (.int .i64 n) (fun _ q => q) ?_
  refine s_pure (.int .i64 w) (fun _ q => q) ?_
  refine s_pure v_l (fun _ q => q) ?_
  refine s_call [.int .i64 n, .int .i64 w, v_l] rfl (spec_akGood_ok n w v_l l _ s_l) ?_
  rintro _ h1 ⟨rfl, eh1⟩
  have E2 := (Ext.refl h).trans eh1
  have z3 := eh1.size
  refine s_pure (.bool (!(decide (AskOk n w l)))) (fun _ q => q) ?_
  refine s_nil ?_
  refine p_seqN ?_
  refine v_cond rfl (fun c4 => ?_) (fun c4 => ?_)
  ·
    refine v_seq ?_
    refine v_ops ?_
    refine s_pure (.int .i64 0) (fun _ q => q) ?_
    refine s_pure (.bool false) (fun _ q => q) ?_
    refine s_nil ?_
    refine p_seqN ?_
    refine v_ret ?_
    refine p_seqR ?_
    refine p_ret [.int .i64 0, .bool false] (.tuple #[.int .i64 0, .bool false]) (fun _ q => q) rfl ?_
    have ho : akOut AckS.sent n w l = (0, false) := by first | exact ak_no (by assumption) | exact ak_no (fun hc => (by assumption : ¬ (AskOk n w l ∧ _)) ⟨hc, by omega⟩) | exact if_pos ask | exact (if_pos ask).trans (congrArg (fun q : AckS => (q.sent, true)) (ack_same ask.2.1.1 ask.2.2.1 ask.1.2).symm)
    exact ⟨by first | (rw [ho]; done) | rfl, E2⟩
  ·
    have c4 := Classical.not_not.1 c4
    refine v_skip ?_
    refine p_seqN ?_
    refine v_seq ?_
    refine v_ops ?_
    refine s_pure (.int .i64 n) (fun _ q => q) ?_
    refine s_pure (.int .i64 w) (fun _ q => q) ?_
    refine s_pure v_l (fun _ q => q) ?_
    refine s_inl r_spec_akAll [.int .i64 n, .int .i64 w, v_l] rfl ?_ rfl
    refine v_seq ?_
    refine v_ops ?_
    refine s_pure (.pointer none) (fun _ q => q) ?_
    refine s_nil ?_
    refine p_seqN ?_
    refine v_seq ?_
    refine v_ops ?_
    refine s_pure (.int .i64 n) (fun _ q => q) ?_
    refine s_pure (.int .i64 w) (fun _ q => q) ?_
    refine s_pure v_l (fun _ q => q) ?_
    have ask : AskOk n w l := by first | assumption | exact (by assumption : AskOk _ _ _ ∧ _).1
    have f7 := (s_l.ext eh1)
    refine s_call [.int .i64 n, .int .i64 w, v_l, .int .i64 39] rfl (spec_akRun_ok n w v_l l 39 _ f7 ask.1 ask.2.1 ask.2.2 (by omega)) ?_
    rintro _ h5 ⟨b6, vab6, vkb6, Tb6, rfl, bxb6, eh5⟩
    have E8 := E2.trans eh5
    have z9 := eh5.size
    refine s_pure (.pointer (some ⟨b6, 0, none⟩)) (fun _ q => q) ?_
    refine s_nil ?_
    refine p_seqN ?_
    refine v_ret ?_
    refine p_ret [.pointer (some ⟨b6, 0, none⟩)] (.pointer (some ⟨b6, 0, none⟩)) (fun _ q => q) rfl ?_
    refine s_pure (.pointer (some ⟨b6, 0, none⟩)) (fun _ q => q) ?_
    refine s_pure (.pointer (some ⟨b6, 3, none⟩)) (fun _ q => q) ?_
    refine s_load (.int .i64 ((ackRun n w l (Int.toNat 39) ackZ).sent)) (fun _ q => bxb6.load rfl q) ?_
    refine s_pure (.int .i64 ((ackRun n w l (Int.toNat 39) ackZ).sent)) (fun _ q => q) ?_
    refine s_pure (.bool true) (fun _ q => q) ?_
    refine s_nil ?_
    refine p_seqN ?_
    refine v_ret ?_
    refine p_ret [.int .i64 ((ackRun n w l (Int.toNat 39) ackZ).sent), .bool true] (.tuple #[.int .i64 ((ackRun n w l (Int.toNat 39) ackZ).sent), .bool true]) (fun _ q => q) rfl ?_
    have ho : akOut AckS.sent n w l = ((ackRun n w l (Int.toNat 39) ackZ).sent, true) := by first | exact ak_no (by assumption) | exact ak_no (fun hc => (by assumption : ¬ (AskOk n w l ∧ _)) ⟨hc, by omega⟩) | exact if_pos ask | exact (if_pos ask).trans (congrArg (fun q : AckS => (q.sent, true)) (ack_same ask.2.1.1 ask.2.2.1 ask.1.2).symm)
    exact ⟨by first | (rw [ho]; done) | rfl, E8⟩

theorem impl_DoubleArrivals_ok (n : Int) (w : Int) (v_l : Value) (l : List Int) (h : Heap) (s_l : Sl h v_l l) : Cn f_impl_DoubleArrivals [.int .i64 n, .int .i64 w, v_l] h fun v h' => v = .tuple #[.int .i64 ((akOut AckS.dbl n w l).1), .bool ((akOut AckS.dbl n w l).2)] ∧ Ext h h' := by
  have lt_l := s_l.lt
  have l63_l := s_l.len63
  refine calls_of r_impl_DoubleArrivals ?_
  refine v_seq ?_
  refine v_ops ?_
  refine s_pure (.int .i64 0) (fun _ q => q) ?_
  refine s_pure (.bool false) (fun _ q => q) ?_
  refine s_nil ?_
  refine p_seqN ?_
  refine v_seq ?_
  refine v_seq ?_
  refine v_ops ?_
  refine s_pure (.int .i64 n) (fun _ q => q) ?_
  refine s_pure (.int .i64 w) (fun _ q => q) ?_
  refine s_pure v_l (fun _ q => q) ?_
  refine s_call [.int .i64 n, .int .i64 w, v_l, .int .i64 0] rfl (impl_roundsAsked_ok n w v_l l 0 _ s_l) ?_
  rintro _ h1 ⟨rfl, eh1⟩
  have E2 := (Ext.refl h).trans eh1
  have z3 := eh1.size
  refine s_pure (.bool (!(decide (AskOk n w l ∧ (0 ≤ 0 ∧ 0 ≤ 60))))) (fun _ q => q) ?_
  refine s_nil ?_
  refine p_seqN ?_
  refine v_cond rfl (fun c4 => ?_) (fun c4 => ?_)
  ·
    refine v_seq ?_
    refine v_ops ?_
    refine s_pure (.int .i64 0) (fun _ q => q) ?_
    refine s_pure (.bool false) (fun _ q => q) ?_
    refine s_nil ?_
    refine p_seqN ?_
    refine v_ret ?_
    refine p_seqR ?_
    refine p_ret [.int .i64 0, .bool false] (.tuple #[.int .i64 0, .bool false]) (fun _ q => q) rfl ?_
    have ho : akOut AckS.dbl n w l = (0, false) := by first | exact ak_no (by assumption) | exact ak_no (fun hc => (by assumption : ¬ (AskOk n w l ∧ _)) ⟨hc, by omega⟩) | exact if_pos ask | exact (if_pos ask).trans (congrArg (fun q : AckS => (q.dbl, true)) (ack_same ask.2.1.1 ask.2.2.1 ask.1.2).symm)
    exact ⟨by first | (rw [ho]; done) | rfl, E2⟩
  ·
    have c4 := Classical.not_not.1 c4
    refine v_skip ?_
    refine p_seqN ?_
    refine v_seq ?_
    refine v_ops ?_
    refine s_pure (.int .i64 n) (fun _ q => q) ?_
    refine s_pure (.int .i64 w) (fun _ q => q) ?_
    refine s_pure v_l (fun _ q => q) ?_
    have ask : AskOk n w l := by first | assumption | exact (by assumption : AskOk _ _ _ ∧ _).1
    have f6 := (s_l.ext eh1)
    refine s_call [.int .i64 n, .int .i64 w, v_l, .int .i64 1000] rfl (impl_runRounds_ok n w v_l l 1000 _ f6 ask.1 ask.2.1 ask.2.2 (by omega)) ?_
    rintro _ h5 ⟨rfl, eh5⟩
    have E7 := E2.trans eh5
    have z8 := eh5.size
    refine s_pure (.int .i64 ((ackRun n w l (Int.toNat 1000) ackZ).dbl)) (fun _ q => q) ?_
    refine s_pure (.int .i64 ((ackRun n w l (Int.toNat 1000) ackZ).dbl)) (fun _ q => q) ?_
    refine s_pure (.bool true) (fun _ q => q) ?_
    refine s_nil ?_
    refine p_seqN ?_
    refine v_ret ?_
    refine p_ret [.int .i64 ((ackRun n w l (Int.toNat 1000) ackZ).dbl), .bool true] (.tuple #[.int .i64 ((ackRun n w l (Int.toNat 1000) ackZ).dbl), .bool true]) (fun _ q => q) rfl ?_
    have ho : akOut AckS.dbl n w l = ((ackRun n w l (Int.toNat 1000) ackZ).dbl, true) := by first | exact ak_no (by assumption) | exact ak_no (fun hc => (by assumption : ¬ (AskOk n w l ∧ _)) ⟨hc, by omega⟩) | exact if_pos ask | exact (if_pos ask).trans (congrArg (fun q : AckS => (q.dbl, true)) (ack_same ask.2.1.1 ask.2.2.1 ask.1.2).symm)
    exact ⟨by first | (rw [ho]; done) | rfl, E7⟩

theorem spec_DoubleArrivals_ok (n : Int) (w : Int) (v_l : Value) (l : List Int) (h : Heap) (s_l : Sl h v_l l) : Cn f_spec_DoubleArrivals [.int .i64 n, .int .i64 w, v_l] h fun v h' => v = .tuple #[.int .i64 ((akOut AckS.dbl n w l).1), .bool ((akOut AckS.dbl n w l).2)] ∧ Ext h h' := by
  have lt_l := s_l.lt
  have l63_l := s_l.len63
  refine calls_of r_spec_DoubleArrivals ?_
  refine v_seq ?_
  refine v_ops ?_
  refine s_pure (.int .i64 0) (fun _ q => q) ?_
  refine s_pure (.bool false) (fun _ q => q) ?_
  refine s_nil ?_
  refine p_seqN ?_
  refine v_seq ?_
  refine v_seq ?_
  refine v_ops ?_
  refine s_pure (.int .i64 n) (fun _ q => q) ?_
  refine s_pure (.int .i64 w) (fun _ q => q) ?_
  refine s_pure v_l (fun _ q => q) ?_
  refine s_call [.int .i64 n, .int .i64 w, v_l] rfl (spec_akGood_ok n w v_l l _ s_l) ?_
  rintro _ h1 ⟨rfl, eh1⟩
  have E2 := (Ext.refl h).trans eh1
  have z3 := eh1.size
  refine s_pure (.bool (!(decide (AskOk n w l)))) (fun _ q => q) ?_
  refine s_nil ?_
  refine p_seqN ?_
  refine v_cond rfl (fun c4 => ?_) (fun c4 => ?_)
  ·
    refine v_seq ?_
    refine v_ops ?_
    refine s_pure (.int .i64 0) (fun _ q => q) ?_
    refine s_pure (.bool false) (fun _ q => q) ?_
    refine s_nil ?_
    refine p_seqN ?_
    refine v_ret ?_
    refine p_seqR ?_
    refine p_ret [.int .i64 0, .bool false] (.tuple #[.int .i64 0, .bool false]) (fun _ q => q) rfl ?_
    have ho : akOut AckS.dbl n w l = (0, false) := by first | exact ak_no (by assumption) | exact ak_no (fun hc => (by assumption : ¬ (AskOk n w l ∧ _)) ⟨hc, by omega⟩) | exact if_pos ask | exact (if_pos ask).trans (congrArg (fun q : AckS => (q.dbl, true)) (ack_same ask.2.1.1 ask.2.2.1 ask.1.2).symm)
    exact ⟨by first | (rw [ho]; done) | rfl, E2⟩
  ·
    have c4 := Classical.not_not.1 c4
    refine v_skip ?_
    refine p_seqN ?_
    refine v_seq ?_
    refine v_ops ?_
    refine s_pure (.int .i64 n) (fun _ q => q) ?_
    refine s_pure (.int .i64 w) (fun _ q => q) ?_
    refine s_pure v_l (fun _ q => q) ?_
    refine s_inl r_spec_akAll [.int .i64 n, .int .i64 w, v_l] rfl ?_ rfl
    refine v_seq ?_
    refine v_ops ?_
    refine s_pure (.pointer none) (fun _ q => q) ?_
    refine s_nil ?_
    refine p_seqN ?_
    refine v_seq ?_
    refine v_ops ?_
    refine s_pure (.int .i64 n) (fun _ q => q) ?_
    refine s_pure (.int .i64 w) (fun _ q => q) ?_
    refine s_pure v_l (fun _ q => q) ?_
    have ask : AskOk n w l := by first | assumption | exact (by assumption : AskOk _ _ _ ∧ _).1
    have f7 := (s_l.ext eh1)
    refine s_call [.int .i64 n, .int .i64 w, v_l, .int .i64 39] rfl (spec_akRun_ok n w v_l l 39 _ f7 ask.1 ask.2.1 ask.2.2 (by omega)) ?_
    rintro _ h5 ⟨b6, vab6, vkb6, Tb6, rfl, bxb6, eh5⟩
    have E8 := E2.trans eh5
    have z9 := eh5.size
    refine s_pure (.pointer (some ⟨b6, 0, none⟩)) (fun _ q => q) ?_
    refine s_nil ?_
    refine p_seqN ?_
    refine v_ret ?_
    refine p_ret [.pointer (some ⟨b6, 0, none⟩)] (.pointer (some ⟨b6, 0, none⟩)) (fun _ q => q) rfl ?_
    refine s_pure (.pointer (some ⟨b6, 0, none⟩)) (fun _ q => q) ?_
    refine s_pure (.pointer (some ⟨b6, 4, none⟩)) (fun _ q => q) ?_
    refine s_load (.int .i64 ((ackRun n w l (Int.toNat 39) ackZ).dbl)) (fun _ q => bxb6.load rfl q) ?_
    refine s_pure (.int .i64 ((ackRun n w l (Int.toNat 39) ackZ).dbl)) (fun _ q => q) ?_
    refine s_pure (.bool true) (fun _ q => q) ?_
    refine s_nil ?_
    refine p_seqN ?_
    refine v_ret ?_
    refine p_ret [.int .i64 ((ackRun n w l (Int.toNat 39) ackZ).dbl), .bool true] (.tuple #[.int .i64 ((ackRun n w l (Int.toNat 39) ackZ).dbl), .bool true]) (fun _ q => q) rfl ?_
    have ho : akOut AckS.dbl n w l = ((ackRun n w l (Int.toNat 39) ackZ).dbl, true) := by first | exact ak_no (by assumption) | exact ak_no (fun hc => (by assumption : ¬ (AskOk n w l ∧ _)) ⟨hc, by omega⟩) | exact if_pos ask | exact (if_pos ask).trans (congrArg (fun q : AckS => (q.dbl, true)) (ack_same ask.2.1.1 ask.2.2.1 ask.1.2).symm)
    exact ⟨by first | (rw [ho]; done) | rfl, E8⟩

end Go.Proofs.Ytibhbphikijecaa
