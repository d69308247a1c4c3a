/- What a repeater does at a glance. Condition: none. Printed in part by a program. -/
import Derived.Test.YtpbjcaadnbeplaaRp2
namespace Go.Proofs.Ytpbjcaadnbeplaa
open Go.Vc
set_option linter.all false

/-- a repeater after a glance, and whether it was wrong -/
def gl (r : RepP) (g : GlanceD) : RepP × Bool :=
  if r.phase = 0 ∧ g.next = false ∧ PassOk g.signal then (⟨1, g.signal, 0, g.signal, r.passed⟩, false)
  else if r.phase = 0 ∧ g.next = false ∧ g.signal = 0 then (⟨r.phase, r.holds, r.again, 0, r.passed⟩, false)
  else if r.phase = 0 ∧ g.next = false then (⟨r.phase, r.holds, r.again, 62, r.passed⟩, false)
  else if r.phase = 1 ∧ g.next = false ∧ g.signal = 63 then (⟨0, 0, 0, 0, r.passed⟩, false)
  else if r.phase = 1 ∧ g.next = true ∧ g.signal = r.holds then (⟨if r.holds = 61 then 3 else 0, 0, 0, 0, r.passed ++ [r.holds]⟩, false)
  else if r.phase = 1 ∧ g.next = true ∧ g.signal ≠ 0 then (if r.again = 3 then (⟨2, r.holds, r.again, 63, r.passed⟩, true) else (⟨r.phase, r.holds, r.again + 1, r.shown, r.passed⟩, true))
  else (r, false)
/-- what holds of every repeater that comes up -/
structure RInv (r : RepP) : Prop where
  z : r.phase = 0 → r.again = 0
  s : r.phase = 1 → PassOk r.holds
  a : 0 ≤ r.again ∧ r.again ≤ 3
theorem RInv.ofOk {r : RepP} (h : RepOk r) : RInv r := by
  have h := h.2.2
  simp only [RepTail] at h
  refine ⟨fun hp => ?_, fun hp => ?_, ?_⟩
  · rcases h with h | h | h | h <;> omega
  · rcases h with h | h | h | h
    · omega
    · exact h.2.1
    · omega
    · omega
  · rcases h with h | h | h | h <;> omega
theorem RInv.gl {r : RepP} (h : RInv r) (g : GlanceD) : RInv (gl r g).1 := by
  obtain ⟨h1, h2, h3⟩ := h
  unfold Proofs.Ytpbjcaadnbeplaa.gl
  split
  · rename_i c; exact ⟨fun e => (by cases e), fun _ => c.2.2, (by decide : (0:Int) ≤ 0 ∧ (0:Int) ≤ 3)⟩
  split
  · exact ⟨h1, h2, h3⟩
  split
  · exact ⟨h1, h2, h3⟩
  split
  · exact ⟨fun _ => rfl, fun e => (by cases e), (by decide : (0:Int) ≤ 0 ∧ (0:Int) ≤ 3)⟩
  split
  · refine ⟨fun _ => rfl, fun e => ?_, (by decide : (0:Int) ≤ 0 ∧ (0:Int) ≤ 3)⟩
    exfalso
    simp only at e
    split at e <;> cases e
  split
  · split
    · exact ⟨fun e => (by cases e), fun e => (by cases e), h3⟩
    · rename_i c _; exact ⟨fun e => (by simp only at e; omega), h2, (by simp only; omega)⟩
  · exact ⟨h1, h2, h3⟩
theorem gl_len (r : RepP) (g : GlanceD) : r.passed.length ≤ (gl r g).1.passed.length ∧ (gl r g).1.passed.length ≤ r.passed.length + 1 := by
  unfold gl
  repeat' split
  all_goals simp

set_option maxRecDepth 10000 in
set_option maxHeartbeats 4000000 in
theorem impl_glance_ok (r : RepP) (v_r_passed : Value) (g : GlanceD) (h : Heap) (s_r_passed : SlO h v_r_passed r.passed) (ba : r.phase = 1 → 0 ≤ r.again ∧ r.again ≤ 3) (bl : r.passed.length ≤ 1000) : Cn f_impl_glance [.agg #[.int .i64 r.phase, .int .i64 r.holds, .int .i64 r.again, .int .i64 r.shown, v_r_passed], .agg #[.bool g.next, .int .i64 g.signal]] h fun v h' => ∃ r0 : Value, v = .tuple #[.agg #[.int .i64 (((gl r g).1).phase), .int .i64 (((gl r g).1).holds), .int .i64 (((gl r g).1).again), .int .i64 (((gl r g).1).shown), r0], .bool ((gl r g).2)] ∧ SlO h' r0 (((gl r g).1).passed) ∧ Mod (blks v_r_passed) h h' ∧ ∀ b ∈ blks r0, b ∈ (blks v_r_passed) ∨ h.size ≤ b := by
  have lt_r_passed := s_r_passed.lt
  have l63_r_passed := s_r_passed.len63
  refine calls_of r_impl_glance ?_
  refine v_seq ?_
  refine v_ops ?_
  refine s_box [.int .i64 r.phase, .int .i64 r.holds, .int .i64 r.again, .int .i64 r.shown, v_r_passed] rfl (fun h2 b1 hbb1 hzb1 eh2 bxb1 => ?_)
  have E3 := (Mod.refl (blks v_r_passed) h).trans (Mod.of_ext eh2 _)
  have z4 := eh2.size
  have lbb1 := bxb1.lt
  refine s_box [.bool g.next, .int .i64 g.signal] rfl (fun h6 b5 hbb5 hzb5 eh6 bxb5 => ?_)
  have E7 := E3.trans (Mod.of_ext eh6 _)
  have z8 := eh6.size
  have lbb5 := bxb5.lt
  refine s_new (fun h10 b9 hbb9 hzb9 eh10 bxb9 => ?_)
  have E11 := E7.trans (Mod.of_ext eh10 _)
  have z12 := eh10.size
  have lbb9 := bxb9.lt
  refine s_pure (.bool false) (fun _ q => q) ?_
  refine s_nil ?_
  refine p_seqN ?_
  refine v_seq ?_
  refine v_block ?_
  refine v_seq ?_
  refine v_ops ?_
  refine s_pure (.pointer (some ⟨b1, 0, none⟩)) (fun _ q => q) ?_
  have f13 := ((bxb1.ext eh6).ext eh10)
  refine s_load (.int .i64 r.phase) (fun _ q => f13.load rfl q) ?_
  refine s_pure (.bool (r.phase == 0)) (fun _ q => q) ?_
  refine s_pure (.bool (r.phase == 0)) (fun _ q => q) ?_
  refine s_splitT rfl (fun c14 => ?_) (fun c14 => ?_)
  ·
    refine s_run rfl ?_
    refine s_pure (.pointer (some ⟨b5, 0, none⟩)) (fun _ q => q) ?_
    refine s_run rfl ?_
    have f15 := (bxb5.ext eh10)
    refine s_load (.bool g.next) (fun _ q => f15.load rfl q) ?_
    refine s_run rfl ?_
    refine s_pure (.bool (!g.next)) (fun _ q => q) ?_
    refine s_pure (.bool (!g.next)) (fun _ q => q) ?_
    refine s_pure (.bool (!g.next)) (fun _ q => q) ?_
    refine s_splitT rfl (fun c16 => ?_) (fun c16 => ?_)
    ·
      refine s_run rfl ?_
      refine s_pure (.pointer (some ⟨b5, 1, none⟩)) (fun _ q => q) ?_
      refine s_run rfl ?_
      refine s_load (.int .i64 g.signal) (fun _ q => f15.load rfl q) ?_
      refine s_run rfl ?_
      refine s_callS [.int .i64 g.signal] (.bool (decide (PassOk g.signal))) rfl (isPassed_ok g.signal _ ) ?_
      refine s_pure (.bool (decide (PassOk g.signal))) (fun _ q => q) ?_
      refine s_pure (.bool (decide (PassOk g.signal))) (fun _ q => q) ?_
      refine s_nil ?_
      refine p_seqN ?_
      refine v_cond rfl (fun c17 => ?_) (fun c17 => ?_)
      ·
        refine v_seq ?_
        refine v_ops ?_
        refine s_pure (.pointer (some ⟨b5, 1, none⟩)) (fun _ q => q) ?_
        refine s_load (.int .i64 g.signal) (fun _ q => f15.load rfl q) ?_
        refine s_pure (.pointer (some ⟨b5, 1, none⟩)) (fun _ q => q) ?_
        refine s_load (.int .i64 g.signal) (fun _ q => f15.load rfl q) ?_
        refine s_pure (.pointer (some ⟨b1, 4, none⟩)) (fun _ q => q) ?_
        refine s_load v_r_passed (fun _ q => f13.load rfl q) ?_
        refine s_pure (.agg #[.int .i64 1, .int .i64 g.signal, .int .i64 0, .int .i64 g.signal, v_r_passed]) (fun _ q => w_build (seg_i rfl (seg_i rfl (seg_i rfl (seg_i rfl (seg_sl s_r_passed rfl (seg_nil q))))))) ?_
        refine s_stBx (.agg #[.int .i64 1, .int .i64 g.signal, .int .i64 0, .int .i64 g.signal, v_r_passed]) [.int .i64 1, .int .i64 g.signal, .int .i64 0, .int .i64 g.signal, v_r_passed] [.int .i64 1, .int .i64 g.signal, .int .i64 0, .int .i64 g.signal, v_r_passed] bxb9 rfl rfl rfl rfl (by simp) (all_cons rfl (all_cons rfl (all_cons rfl (all_cons rfl (all_cons s_r_passed.one1 all_nil))))) rfl (fun h18 mh18 sh18 bxx19 => ?_)
        have E20 := E11.new mh18 (fun b hb => .inr (by simp at hb; omega))
        refine s_pure (.bool false) (fun _ q => q) ?_
        refine s_nil ?_
        refine p_seqN ?_
        refine v_ret ?_
        refine p_blkR ?_
        refine p_seqR ?_
        refine p_ret [.agg #[.int .i64 1, .int .i64 g.signal, .int .i64 0, .int .i64 g.signal, v_r_passed], .bool false] (.tuple #[.agg #[.int .i64 1, .int .i64 g.signal, .int .i64 0, .int .i64 g.signal, v_r_passed], .bool false]) (fun _ q => (bxx19.loadA rfl q)) rfl ?_
        have ho : gl r g = (⟨1, g.signal, 0, g.signal, r.passed⟩, false) := by first | (exfalso; omega) | (simp [gl, *]; done) | (simp_all [gl]; done) | (obtain ⟨ph, ho, ag, sh, ps⟩ := r; simp_all [gl]; done)
        have f21 := ((((s_r_passed.ext eh2).ext eh6).ext eh10).mod mh18 (fun b hb hc => by simp at hc; have := lt_r_passed b hb; omega))
        exact ⟨v_r_passed, by first | (rw [ho]; done) | rfl, sl_eq f21 (congrArg (fun o => o.1.passed) ho).symm, E20, (fun b hb => Or.inl hb)⟩
      ·
        refine v_seq ?_
        refine v_ops ?_
        refine s_pure (.pointer (some ⟨b1, 0, none⟩)) (fun _ q => q) ?_
        refine s_load (.int .i64 r.phase) (fun _ q => f13.load rfl q) ?_
        refine s_pure (.bool (r.phase == 0)) (fun _ q => q) ?_
        refine s_pure (.bool (r.phase == 0)) (fun _ q => q) ?_
        refine s_splitY rfl (by first | assumption | omega | (simp; done) | (simp; omega) | simp_all) ?_
        refine s_run rfl ?_
        refine s_pure (.pointer (some ⟨b5, 0, none⟩)) (fun _ q => q) ?_
        refine s_run rfl ?_
        refine s_load (.bool g.next) (fun _ q => f15.load rfl q) ?_
        refine s_run rfl ?_
        refine s_pure (.bool (!g.next)) (fun _ q => q) ?_
        refine s_pure (.bool (!g.next)) (fun _ q => q) ?_
        refine s_pure (.bool (!g.next)) (fun _ q => q) ?_
        refine s_splitY rfl (by first | assumption | omega | (simp; done) | (simp; omega) | simp_all) ?_
        refine s_run rfl ?_
        refine s_pure (.pointer (some ⟨b5, 1, none⟩)) (fun _ q => q) ?_
        refine s_run rfl ?_
        refine s_load (.int .i64 g.signal) (fun _ q => f15.load rfl q) ?_
        refine s_run rfl ?_
        refine s_pure (.bool (g.signal == 0)) (fun _ q => q) ?_
        refine s_pure (.bool (g.signal == 0)) (fun _ q => q) ?_
        refine s_pure (.bool (g.signal == 0)) (fun _ q => q) ?_
        refine s_nil ?_
        refine p_seqN ?_
        refine v_cond rfl (fun c22 => ?_) (fun c22 => ?_)
        ·
          refine v_ops ?_
          refine s_pure (.pointer (some ⟨b1, 3, none⟩)) (fun _ q => q) ?_
          refine s_stBx (.int .i64 0) [.int .i64 0] [.int .i64 r.phase, .int .i64 r.holds, .int .i64 r.again, .int .i64 0, v_r_passed] f13 rfl rfl rfl rfl (by simp) (all_cons rfl all_nil) rfl (fun h23 mh23 sh23 bxx24 => ?_)
          have E25 := E11.new mh23 (fun b hb => .inr (by simp at hb; omega))
          refine s_nil ?_
          refine p_blkN ?_
          refine p_seqN ?_
          refine v_seq ?_
          refine v_ops ?_
          refine s_load (.agg #[.int .i64 r.phase, .int .i64 r.holds, .int .i64 r.again, .int .i64 0, v_r_passed]) (fun _ q => bxx24.loadA rfl q) ?_
          have f26 := (bxb9.mod mh23 (by simp; omega))
          refine s_stBx (.agg #[.int .i64 r.phase, .int .i64 r.holds, .int .i64 r.again, .int .i64 0, v_r_passed]) [.int .i64 r.phase, .int .i64 r.holds, .int .i64 r.again, .int .i64 0, v_r_passed] [.int .i64 r.phase, .int .i64 r.holds, .int .i64 r.again, .int .i64 0, v_r_passed] f26 rfl rfl rfl rfl (by simp) (all_cons rfl (all_cons rfl (all_cons rfl (all_cons rfl (all_cons s_r_passed.one1 all_nil))))) rfl (fun h27 mh27 sh27 bxx28 => ?_)
          have E29 := E25.new mh27 (fun b hb => .inr (by simp at hb; omega))
          refine s_pure (.bool false) (fun _ q => q) ?_
          refine s_nil ?_
          refine p_seqN ?_
          refine v_ret ?_
          refine p_ret [.agg #[.int .i64 r.phase, .int .i64 r.holds, .int .i64 r.again, .int .i64 0, v_r_passed], .bool false] (.tuple #[.agg #[.int .i64 r.phase, .int .i64 r.holds, .int .i64 r.again, .int .i64 0, v_r_passed], .bool false]) (fun _ q => (bxx28.loadA rfl q)) rfl ?_
          have ho : gl r g = (⟨r.phase, r.holds, r.again, 0, r.passed⟩, false) := by first | (exfalso; omega) | (simp [gl, *]; done) | (simp_all [gl]; done) | (obtain ⟨ph, ho, ag, sh, ps⟩ := r; simp_all [gl]; done)
          have f30 := (((((s_r_passed.ext eh2).ext eh6).ext eh10).mod mh23 (fun b hb hc => by simp at hc; have := lt_r_passed b hb; omega)).mod mh27 (fun b hb hc => by simp at hc; have := lt_r_passed b hb; omega))
          exact ⟨v_r_passed, by first | (rw [ho]; done) | rfl, sl_eq f30 (congrArg (fun o => o.1.passed) ho).symm, E29, (fun b hb => Or.inl hb)⟩
        ·
          refine v_seq ?_
          refine v_ops ?_
          refine s_pure (.pointer (some ⟨b1, 0, none⟩)) (fun _ q => q) ?_
          refine s_load (.int .i64 r.phase) (fun _ q => f13.load rfl q) ?_
          refine s_pure (.bool (r.phase == 0)) (fun _ q => q) ?_
          refine s_pure (.bool (r.phase == 0)) (fun _ q => q) ?_
          refine s_splitY rfl (by first | assumption | omega | (simp; done) | (simp; omega) | simp_all) ?_
          refine s_run rfl ?_
          refine s_pure (.pointer (some ⟨b5, 0, none⟩)) (fun _ q => q) ?_
          refine s_run rfl ?_
          refine s_load (.bool g.next) (fun _ q => f15.load rfl q) ?_
          refine s_run rfl ?_
          refine s_pure (.bool (!g.next)) (fun _ q => q) ?_
          refine s_pure (.bool (!g.next)) (fun _ q => q) ?_
          refine s_pure (.bool (!g.next)) (fun _ q => q) ?_
          refine s_nil ?_
          refine p_seqN ?_
          refine v_condY rfl (by first | assumption | omega | (simp; done) | (simp; omega) | simp_all) ?_
          refine v_ops ?_
          refine s_pure (.pointer (some ⟨b1, 3, none⟩)) (fun _ q => q) ?_
          refine s_stBx (.int .i64 62) [.int .i64 62] [.int .i64 r.phase, .int .i64 r.holds, .int .i64 r.again, .int .i64 62, v_r_passed] f13 rfl rfl rfl rfl (by simp) (all_cons rfl all_nil) rfl (fun h31 mh31 sh31 bxx32 => ?_)
          have E33 := E11.new mh31 (fun b hb => .inr (by simp at hb; omega))
          refine s_nil ?_
          refine p_blkN ?_
          refine p_seqN ?_
          refine v_seq ?_
          refine v_ops ?_
          refine s_load (.agg #[.int .i64 r.phase, .int .i64 r.holds, .int .i64 r.again, .int .i64 62, v_r_passed]) (fun _ q => bxx32.loadA rfl q) ?_
          have f34 := (bxb9.mod mh31 (by simp; omega))
          refine s_stBx (.agg #[.int .i64 r.phase, .int .i64 r.holds, .int .i64 r.again, .int .i64 62, v_r_passed]) [.int .i64 r.phase, .int .i64 r.holds, .int .i64 r.again, .int .i64 62, v_r_passed] [.int .i64 r.phase, .int .i64 r.holds, .int .i64 r.again, .int .i64 62, v_r_passed] f34 rfl rfl rfl rfl (by simp) (all_cons rfl (all_cons rfl (all_cons rfl (all_cons rfl (all_cons s_r_passed.one1 all_nil))))) rfl (fun h35 mh35 sh35 bxx36 => ?_)
          have E37 := E33.new mh35 (fun b hb => .inr (by simp at hb; omega))
          refine s_pure (.bool false) (fun _ q => q) ?_
          refine s_nil ?_
          refine p_seqN ?_
          refine v_ret ?_
          refine p_ret [.agg #[.int .i64 r.phase, .int .i64 r.holds, .int .i64 r.again, .int .i64 62, v_r_passed], .bool false] (.tuple #[.agg #[.int .i64 r.phase, .int .i64 r.holds, .int .i64 r.again, .int .i64 62, v_r_passed], .bool false]) (fun _ q => (bxx36.loadA rfl q)) rfl ?_
          have ho : gl r g = (⟨r.phase, r.holds, r.again, 62, r.passed⟩, false) := by first | (exfalso; omega) | (simp [gl, *]; done) | (simp_all [gl]; done) | (obtain ⟨ph, ho, ag, sh, ps⟩ := r; simp_all [gl]; done)
          have f38 := (((((s_r_passed.ext eh2).ext eh6).ext eh10).mod mh31 (fun b hb hc => by simp at hc; have := lt_r_passed b hb; omega)).mod mh35 (fun b hb hc => by simp at hc; have := lt_r_passed b hb; omega))
          exact ⟨v_r_passed, by first | (rw [ho]; done) | rfl, sl_eq f38 (congrArg (fun o => o.1.passed) ho).symm, E37, (fun b hb => Or.inl hb)⟩
    ·
      have c16 := Classical.not_not.1 c16
      refine s_pass rfl ?_
      refine s_pass rfl ?_
      refine s_pass rfl ?_
      refine s_pure (.bool false) (fun _ q => q) ?_
      refine s_pure (.bool false) (fun _ q => q) ?_
      refine s_nil ?_
      refine p_seqN ?_
      refine v_condN rfl (by simp) ?_
      refine v_seq ?_
      refine v_ops ?_
      refine s_pure (.pointer (some ⟨b1, 0, none⟩)) (fun _ q => q) ?_
      refine s_load (.int .i64 r.phase) (fun _ q => f13.load rfl q) ?_
      refine s_pure (.bool (r.phase == 0)) (fun _ q => q) ?_
      refine s_pure (.bool (r.phase == 0)) (fun _ q => q) ?_
      refine s_splitY rfl (by first | assumption | omega | (simp; done) | (simp; omega) | simp_all) ?_
      refine s_run rfl ?_
      refine s_pure (.pointer (some ⟨b5, 0, none⟩)) (fun _ q => q) ?_
      refine s_run rfl ?_
      refine s_load (.bool g.next) (fun _ q => f15.load rfl q) ?_
      refine s_run rfl ?_
      refine s_pure (.bool (!g.next)) (fun _ q => q) ?_
      refine s_pure (.bool (!g.next)) (fun _ q => q) ?_
      refine s_pure (.bool (!g.next)) (fun _ q => q) ?_
      refine s_splitN rfl (by first | assumption | omega | (simp; done) | (simp; omega) | simp_all) ?_
      refine s_pass rfl ?_
      refine s_pass rfl ?_
      refine s_pass rfl ?_
      refine s_pure (.bool false) (fun _ q => q) ?_
      refine s_pure (.bool false) (fun _ q => q) ?_
      refine s_nil ?_
      refine p_seqN ?_
      refine v_condN rfl (by simp) ?_
      refine v_seq ?_
      refine v_ops ?_
      refine s_pure (.pointer (some ⟨b1, 0, none⟩)) (fun _ q => q) ?_
      refine s_load (.int .i64 r.phase) (fun _ q => f13.load rfl q) ?_
      refine s_pure (.bool (r.phase == 0)) (fun _ q => q) ?_
      refine s_pure (.bool (r.phase == 0)) (fun _ q => q) ?_
      refine s_splitY rfl (by first | assumption | omega | (simp; done) | (simp; omega) | simp_all) ?_
      refine s_run rfl ?_
      refine s_pure (.pointer (some ⟨b5, 0, none⟩)) (fun _ q => q) ?_
      refine s_run rfl ?_
      refine s_load (.bool g.next) (fun _ q => f15.load rfl q) ?_
      refine s_run rfl ?_
      refine s_pure (.bool (!g.next)) (fun _ q => q) ?_
      refine s_pure (.bool (!g.next)) (fun _ q => q) ?_
      refine s_pure (.bool (!g.next)) (fun _ q => q) ?_
      refine s_nil ?_
      refine p_seqN ?_
      refine v_condN rfl (by first | assumption | omega | (simp; done) | (simp; omega) | simp_all) ?_
      refine v_seq ?_
      refine v_ops ?_
      refine s_pure (.pointer (some ⟨b1, 0, none⟩)) (fun _ q => q) ?_
      refine s_load (.int .i64 r.phase) (fun _ q => f13.load rfl q) ?_
      refine s_pure (.bool (r.phase == 1)) (fun _ q => q) ?_
      refine s_pure (.bool (r.phase == 1)) (fun _ q => q) ?_
      refine s_splitN rfl (by first | assumption | omega | (simp; done) | (simp; omega) | simp_all) ?_
      refine s_pass rfl ?_
      refine s_pass rfl ?_
      refine s_pass rfl ?_
      refine s_pure (.bool false) (fun _ q => q) ?_
      refine s_pure (.bool false) (fun _ q => q) ?_
      refine s_splitN rfl (by simp) ?_
      refine s_pass rfl ?_
      refine s_pass rfl ?_
      refine s_pass rfl ?_
      refine s_pure (.bool false) (fun _ q => q) ?_
      refine s_pure (.bool false) (fun _ q => q) ?_
      refine s_nil ?_
      refine p_seqN ?_
      refine v_condN rfl (by simp) ?_
      refine v_seq ?_
      refine v_ops ?_
      refine s_pure (.pointer (some ⟨b1, 0, none⟩)) (fun _ q => q) ?_
      refine s_load (.int .i64 r.phase) (fun _ q => f13.load rfl q) ?_
      refine s_pure (.bool (r.phase == 1)) (fun _ q => q) ?_
      refine s_pure (.bool (r.phase == 1)) (fun _ q => q) ?_
      refine s_splitN rfl (by first | assumption | omega | (simp; done) | (simp; omega) | simp_all) ?_
      refine s_pass rfl ?_
      refine s_pass rfl ?_
      refine s_pure (.bool false) (fun _ q => q) ?_
      refine s_pure (.bool false) (fun _ q => q) ?_
      refine s_splitN rfl (by simp) ?_
      refine s_pass rfl ?_
      refine s_pass rfl ?_
      refine s_pass rfl ?_
      refine s_pass rfl ?_
      refine s_pass rfl ?_
      refine s_pure (.bool false) (fun _ q => q) ?_
      refine s_pure (.bool false) (fun _ q => q) ?_
      refine s_nil ?_
      refine p_seqN ?_
      refine v_condN rfl (by simp) ?_
      refine v_seq ?_
      refine v_ops ?_
      refine s_pure (.pointer (some ⟨b1, 0, none⟩)) (fun _ q => q) ?_
      refine s_load (.int .i64 r.phase) (fun _ q => f13.load rfl q) ?_
      refine s_pure (.bool (r.phase == 1)) (fun _ q => q) ?_
      refine s_pure (.bool (r.phase == 1)) (fun _ q => q) ?_
      refine s_splitN rfl (by first | assumption | omega | (simp; done) | (simp; omega) | simp_all) ?_
      refine s_pass rfl ?_
      refine s_pass rfl ?_
      refine s_pure (.bool false) (fun _ q => q) ?_
      refine s_pure (.bool false) (fun _ q => q) ?_
      refine s_splitN rfl (by simp) ?_
      refine s_pass rfl ?_
      refine s_pass rfl ?_
      refine s_pass rfl ?_
      refine s_pure (.bool false) (fun _ q => q) ?_
      refine s_pure (.bool false) (fun _ q => q) ?_
      refine s_nil ?_
      refine p_seqN ?_
      refine v_condN rfl (by simp) ?_
      refine v_skip ?_
      refine p_blkN ?_
      refine p_seqN ?_
      refine v_seq ?_
      refine v_ops ?_
      refine s_load (.agg #[.int .i64 r.phase, .int .i64 r.holds, .int .i64 r.again, .int .i64 r.shown, v_r_passed]) (fun _ q => f13.loadA rfl q) ?_
      refine s_stBx (.agg #[.int .i64 r.phase, .int .i64 r.holds, .int .i64 r.again, .int .i64 r.shown, v_r_passed]) [.int .i64 r.phase, .int .i64 r.holds, .int .i64 r.again, .int .i64 r.shown, v_r_passed] [.int .i64 r.phase, .int .i64 r.holds, .int .i64 r.again, .int .i64 r.shown, v_r_passed] bxb9 rfl rfl rfl rfl (by simp) (all_cons rfl (all_cons rfl (all_cons rfl (all_cons rfl (all_cons s_r_passed.one1 all_nil))))) rfl (fun h39 mh39 sh39 bxx40 => ?_)
      have E41 := E11.new mh39 (fun b hb => .inr (by simp at hb; omega))
      refine s_pure (.bool false) (fun _ q => q) ?_
      refine s_nil ?_
      refine p_seqN ?_
      refine v_ret ?_
      refine p_ret [.agg #[.int .i64 r.phase, .int .i64 r.holds, .int .i64 r.again, .int .i64 r.shown, v_r_passed], .bool false] (.tuple #[.agg #[.int .i64 r.phase, .int .i64 r.holds, .int .i64 r.again, .int .i64 r.shown, v_r_passed], .bool false]) (fun _ q => (bxx40.loadA rfl q)) rfl ?_
      have ho : gl r g = (⟨r.phase, r.holds, r.again, r.shown, r.passed⟩, false) := by first | (exfalso; omega) | (simp [gl, *]; done) | (simp_all [gl]; done) | (obtain ⟨ph, ho, ag, sh, ps⟩ := r; simp_all [gl]; done)
      have f42 := ((((s_r_passed.ext eh2).ext eh6).ext eh10).mod mh39 (fun b hb hc => by simp at hc; have := lt_r_passed b hb; omega))
      exact ⟨v_r_passed, by first | (rw [ho]; done) | rfl, sl_eq f42 (congrArg (fun o => o.1.passed) ho).symm, E41, (fun b hb => Or.inl hb)⟩
  ·
    refine s_pass rfl ?_
    refine s_pass rfl ?_
    refine s_pass rfl ?_
    refine s_pure (.bool false) (fun _ q => q) ?_
    refine s_pure (.bool false) (fun _ q => q) ?_
    refine s_splitN rfl (by simp) ?_
    refine s_pass rfl ?_
    refine s_pass rfl ?_
    refine s_pass rfl ?_
    refine s_pure (.bool false) (fun _ q => q) ?_
    refine s_pure (.bool false) (fun _ q => q) ?_
    refine s_nil ?_
    refine p_seqN ?_
    refine v_condN rfl (by simp) ?_
    refine v_seq ?_
    refine v_ops ?_
    refine s_pure (.pointer (some ⟨b1, 0, none⟩)) (fun _ q => q) ?_
    refine s_load (.int .i64 r.phase) (fun _ q => f13.load rfl q) ?_
    refine s_pure (.bool (r.phase == 0)) (fun _ q => q) ?_
    refine s_pure (.bool (r.phase == 0)) (fun _ q => q) ?_
    refine s_splitN rfl (by first | assumption | omega | (simp; done) | (simp; omega) | simp_all) ?_
    refine s_pass rfl ?_
    refine s_pass rfl ?_
    refine s_pass rfl ?_
    refine s_pure (.bool false) (fun _ q => q) ?_
    refine s_pure (.bool false) (fun _ q => q) ?_
    refine s_splitN rfl (by simp) ?_
    refine s_pass rfl ?_
    refine s_pass rfl ?_
    refine s_pass rfl ?_
    refine s_pure (.bool false) (fun _ q => q) ?_
    refine s_pure (.bool false) (fun _ q => q) ?_
    refine s_nil ?_
    refine p_seqN ?_
    refine v_condN rfl (by simp) ?_
    refine v_seq ?_
    refine v_ops ?_
    refine s_pure (.pointer (some ⟨b1, 0, none⟩)) (fun _ q => q) ?_
    refine s_load (.int .i64 r.phase) (fun _ q => f13.load rfl q) ?_
    refine s_pure (.bool (r.phase == 0)) (fun _ q => q) ?_
    refine s_pure (.bool (r.phase == 0)) (fun _ q => q) ?_
    refine s_splitN rfl (by first | assumption | omega | (simp; done) | (simp; omega) | simp_all) ?_
    refine s_pass rfl ?_
    refine s_pass rfl ?_
    refine s_pass rfl ?_
    refine s_pure (.bool false) (fun _ q => q) ?_
    refine s_pure (.bool false) (fun _ q => q) ?_
    refine s_nil ?_
    refine p_seqN ?_
    refine v_condN rfl (by simp) ?_
    refine v_seq ?_
    refine v_ops ?_
    refine s_pure (.pointer (some ⟨b1, 0, none⟩)) (fun _ q => q) ?_
    refine s_load (.int .i64 r.phase) (fun _ q => f13.load rfl q) ?_
    refine s_pure (.bool (r.phase == 1)) (fun _ q => q) ?_
    refine s_pure (.bool (r.phase == 1)) (fun _ q => q) ?_
    refine s_splitT rfl (fun c43 => ?_) (fun c43 => ?_)
    ·
      refine s_run rfl ?_
      refine s_pure (.pointer (some ⟨b5, 0, none⟩)) (fun _ q => q) ?_
      refine s_run rfl ?_
      have f44 := (bxb5.ext eh10)
      refine s_load (.bool g.next) (fun _ q => f44.load rfl q) ?_
      refine s_run rfl ?_
      refine s_pure (.bool (!g.next)) (fun _ q => q) ?_
      refine s_pure (.bool (!g.next)) (fun _ q => q) ?_
      refine s_pure (.bool (!g.next)) (fun _ q => q) ?_
      refine s_splitT rfl (fun c45 => ?_) (fun c45 => ?_)
      ·
        refine s_run rfl ?_
        refine s_pure (.pointer (some ⟨b5, 1, none⟩)) (fun _ q => q) ?_
        refine s_run rfl ?_
        refine s_load (.int .i64 g.signal) (fun _ q => f44.load rfl q) ?_
        refine s_run rfl ?_
        refine s_pure (.bool (g.signal == 63)) (fun _ q => q) ?_
        refine s_pure (.bool (g.signal == 63)) (fun _ q => q) ?_
        refine s_pure (.bool (g.signal == 63)) (fun _ q => q) ?_
        refine s_nil ?_
        refine p_seqN ?_
        refine v_cond rfl (fun c46 => ?_) (fun c46 => ?_)
        ·
          refine v_seq ?_
          refine v_ops ?_
          refine s_pure (.pointer (some ⟨b1, 4, none⟩)) (fun _ q => q) ?_
          refine s_load v_r_passed (fun _ q => f13.load rfl q) ?_
          refine s_pure (.agg #[.int .i64 0, .int .i64 0, .int .i64 0, .int .i64 0, v_r_passed]) (fun _ q => w_build (seg_i rfl (seg_sl s_r_passed rfl (seg_nil q)))) ?_
          refine s_stBx (.agg #[.int .i64 0, .int .i64 0, .int .i64 0, .int .i64 0, v_r_passed]) [.int .i64 0, .int .i64 0, .int .i64 0, .int .i64 0, v_r_passed] [.int .i64 0, .int .i64 0, .int .i64 0, .int .i64 0, v_r_passed] bxb9 rfl rfl rfl rfl (by simp) (all_cons rfl (all_cons rfl (all_cons rfl (all_cons rfl (all_cons s_r_passed.one1 all_nil))))) rfl (fun h47 mh47 sh47 bxx48 => ?_)
          have E49 := E11.new mh47 (fun b hb => .inr (by simp at hb; omega))
          refine s_pure (.bool false) (fun _ q => q) ?_
          refine s_nil ?_
          refine p_seqN ?_
          refine v_ret ?_
          refine p_blkR ?_
          refine p_seqR ?_
          refine p_ret [.agg #[.int .i64 0, .int .i64 0, .int .i64 0, .int .i64 0, v_r_passed], .bool false] (.tuple #[.agg #[.int .i64 0, .int .i64 0, .int .i64 0, .int .i64 0, v_r_passed], .bool false]) (fun _ q => (bxx48.loadA rfl q)) rfl ?_
          have ho : gl r g = (⟨0, 0, 0, 0, r.passed⟩, false) := by first | (exfalso; omega) | (simp [gl, *]; done) | (simp_all [gl]; done) | (obtain ⟨ph, ho, ag, sh, ps⟩ := r; simp_all [gl]; done)
          have f50 := ((((s_r_passed.ext eh2).ext eh6).ext eh10).mod mh47 (fun b hb hc => by simp at hc; have := lt_r_passed b hb; omega))
          exact ⟨v_r_passed, by first | (rw [ho]; done) | rfl, sl_eq f50 (congrArg (fun o => o.1.passed) ho).symm, E49, (fun b hb => Or.inl hb)⟩
        ·
          refine v_seq ?_
          refine v_ops ?_
          refine s_pure (.pointer (some ⟨b1, 0, none⟩)) (fun _ q => q) ?_
          refine s_load (.int .i64 r.phase) (fun _ q => f13.load rfl q) ?_
          refine s_pure (.bool (r.phase == 1)) (fun _ q => q) ?_
          refine s_pure (.bool (r.phase == 1)) (fun _ q => q) ?_
          refine s_splitY rfl (by first | assumption | omega | (simp; done) | (simp; omega) | simp_all) ?_
          refine s_run rfl ?_
          refine s_pure (.pointer (some ⟨b5, 0, none⟩)) (fun _ q => q) ?_
          refine s_run rfl ?_
          refine s_load (.bool g.next) (fun _ q => f44.load rfl q) ?_
          refine s_pure (.bool g.next) (fun _ q => q) ?_
          refine s_pure (.bool g.next) (fun _ q => q) ?_
          refine s_splitN rfl (by first | assumption | omega | (simp; done) | (simp; omega) | simp_all) ?_
          refine s_pass rfl ?_
          refine s_pass rfl ?_
          refine s_pass rfl ?_
          refine s_pass rfl ?_
          refine s_pass rfl ?_
          refine s_pure (.bool false) (fun _ q => q) ?_
          refine s_pure (.bool false) (fun _ q => q) ?_
          refine s_nil ?_
          refine p_seqN ?_
          refine v_condN rfl (by simp) ?_
          refine v_seq ?_
          refine v_ops ?_
          refine s_pure (.pointer (some ⟨b1, 0, none⟩)) (fun _ q => q) ?_
          refine s_load (.int .i64 r.phase) (fun _ q => f13.load rfl q) ?_
          refine s_pure (.bool (r.phase == 1)) (fun _ q => q) ?_
          refine s_pure (.bool (r.phase == 1)) (fun _ q => q) ?_
          refine s_splitY rfl (by first | assumption | omega | (simp; done) | (simp; omega) | simp_all) ?_
          refine s_run rfl ?_
          refine s_pure (.pointer (some ⟨b5, 0, none⟩)) (fun _ q => q) ?_
          refine s_run rfl ?_
          refine s_load (.bool g.next) (fun _ q => f44.load rfl q) ?_
          refine s_pure (.bool g.next) (fun _ q => q) ?_
          refine s_pure (.bool g.next) (fun _ q => q) ?_
          refine s_splitN rfl (by first | assumption | omega | (simp; done) | (simp; omega) | simp_all) ?_
          refine s_pass rfl ?_
          refine s_pass rfl ?_
          refine s_pass rfl ?_
          refine s_pure (.bool false) (fun _ q => q) ?_
          refine s_pure (.bool false) (fun _ q => q) ?_
          refine s_nil ?_
          refine p_seqN ?_
          refine v_condN rfl (by simp) ?_
          refine v_skip ?_
          refine p_blkN ?_
          refine p_seqN ?_
          refine v_seq ?_
          refine v_ops ?_
          refine s_load (.agg #[.int .i64 r.phase, .int .i64 r.holds, .int .i64 r.again, .int .i64 r.shown, v_r_passed]) (fun _ q => f13.loadA rfl q) ?_
          refine s_stBx (.agg #[.int .i64 r.phase, .int .i64 r.holds, .int .i64 r.again, .int .i64 r.shown, v_r_passed]) [.int .i64 r.phase, .int .i64 r.holds, .int .i64 r.again, .int .i64 r.shown, v_r_passed] [.int .i64 r.phase, .int .i64 r.holds, .int .i64 r.again, .int .i64 r.shown, v_r_passed] bxb9 rfl rfl rfl rfl (by simp) (all_cons rfl (all_cons rfl (all_cons rfl (all_cons rfl (all_cons s_r_passed.one1 all_nil))))) rfl (fun h51 mh51 sh51 bxx52 => ?_)
          have E53 := E11.new mh51 (fun b hb => .inr (by simp at hb; omega))
          refine s_pure (.bool false) (fun _ q => q) ?_
          refine s_nil ?_
          refine p_seqN ?_
          refine v_ret ?_
          refine p_ret [.agg #[.int .i64 r.phase, .int .i64 r.holds, .int .i64 r.again, .int .i64 r.shown, v_r_passed], .bool false] (.tuple #[.agg #[.int .i64 r.phase, .int .i64 r.holds, .int .i64 r.again, .int .i64 r.shown, v_r_passed], .bool false]) (fun _ q => (bxx52.loadA rfl q)) rfl ?_
          have ho : gl r g = (⟨r.phase, r.holds, r.again, r.shown, r.passed⟩, false) := by first | (exfalso; omega) | (simp [gl, *]; done) | (simp_all [gl]; done) | (obtain ⟨ph, ho, ag, sh, ps⟩ := r; simp_all [gl]; done)
          have f54 := ((((s_r_passed.ext eh2).ext eh6).ext eh10).mod mh51 (fun b hb hc => by simp at hc; have := lt_r_passed b hb; omega))
          exact ⟨v_r_passed, by first | (rw [ho]; done) | rfl, sl_eq f54 (congrArg (fun o => o.1.passed) ho).symm, E53, (fun b hb => Or.inl hb)⟩
      ·
        have c45 := Classical.not_not.1 c45
        refine s_pass rfl ?_
        refine s_pass rfl ?_
        refine s_pass rfl ?_
        refine s_pure (.bool false) (fun _ q => q) ?_
        refine s_pure (.bool false) (fun _ q => q) ?_
        refine s_nil ?_
        refine p_seqN ?_
        refine v_condN rfl (by simp) ?_
        refine v_seq ?_
        refine v_ops ?_
        refine s_pure (.pointer (some ⟨b1, 0, none⟩)) (fun _ q => q) ?_
        refine s_load (.int .i64 r.phase) (fun _ q => f13.load rfl q) ?_
        refine s_pure (.bool (r.phase == 1)) (fun _ q => q) ?_
        refine s_pure (.bool (r.phase == 1)) (fun _ q => q) ?_
        refine s_splitY rfl (by first | assumption | omega | (simp; done) | (simp; omega) | simp_all) ?_
        refine s_run rfl ?_
        refine s_pure (.pointer (some ⟨b5, 0, none⟩)) (fun _ q => q) ?_
        refine s_run rfl ?_
        refine s_load (.bool g.next) (fun _ q => f44.load rfl q) ?_
        refine s_pure (.bool g.next) (fun _ q => q) ?_
        refine s_pure (.bool g.next) (fun _ q => q) ?_
        refine s_splitY rfl (by first | assumption | omega | (simp; done) | (simp; omega) | simp_all) ?_
        refine s_run rfl ?_
        refine s_pure (.pointer (some ⟨b5, 1, none⟩)) (fun _ q => q) ?_
        refine s_run rfl ?_
        refine s_load (.int .i64 g.signal) (fun _ q => f44.load rfl q) ?_
        refine s_run rfl ?_
        refine s_pure (.pointer (some ⟨b1, 1, none⟩)) (fun _ q => q) ?_
        refine s_run rfl ?_
        refine s_load (.int .i64 r.holds) (fun _ q => f13.load rfl q) ?_
        refine s_run rfl ?_
        refine s_pure (.bool (g.signal == r.holds)) (fun _ q => q) ?_
        refine s_pure (.bool (g.signal == r.holds)) (fun _ q => q) ?_
        refine s_pure (.bool (g.signal == r.holds)) (fun _ q => q) ?_
        refine s_nil ?_
        refine p_seqN ?_
        refine v_cond rfl (fun c55 => ?_) (fun c55 => ?_)
        ·
          refine v_seq ?_
          refine v_ops ?_
          refine s_pure (.pointer (some ⟨b1, 4, none⟩)) (fun _ q => q) ?_
          refine s_load v_r_passed (fun _ q => f13.load rfl q) ?_
          refine s_pure (.pointer (some ⟨b1, 1, none⟩)) (fun _ q => q) ?_
          refine s_load (.int .i64 r.holds) (fun _ q => f13.load rfl q) ?_
          refine s_row (α := Int) [r.holds] (fun _ q => seg_i rfl (seg_nil q)) rfl (by simp [maxLen]) (fun r56 h57 eh57 zh57 s_r56 fr_r56 => ?_)
          have E58 := E11.trans (Mod.of_ext eh57 _)
          have z59 := eh57.size
          have lt_r56 := s_r56.lt
          have f60 := ((((s_r_passed.ext eh2).ext eh6).ext eh10).ext eh57)
          refine s_app f60 s_r56 rfl rfl rfl (by simp [maxLen]; omega) (by simp; omega) (fun r61 h62 mh62 zh62 s_r61 ab_r61 => ?_)
          have E63 := E58.new mh62 (fun b hb => Or.inl hb)
          have ba_r61 : ∀ b ∈ blks r61, b ∈ (blks v_r_passed) ∨ h.size ≤ b := fun b hb => (ab_r61 b hb).elim ((fun b hb => Or.inl hb) b) (fun hc => Or.inr (by omega))
          have np64 : b1 ∉ blks r61 := fun hc => (ab_r61 _ hc).elim (fun hc => by have := lt_r_passed _ hc; omega) (fun hc => by omega)
          have np65 : b5 ∉ blks r61 := fun hc => (ab_r61 _ hc).elim (fun hc => by have := lt_r_passed _ hc; omega) (fun hc => by omega)
          have np66 : b9 ∉ blks r61 := fun hc => (ab_r61 _ hc).elim (fun hc => by have := lt_r_passed _ hc; omega) (fun hc => by omega)
          have np67 : ∀ b ∈ blks r56, b ∉ blks r61 := fun b hb hc => (ab_r61 _ hc).elim (((fun b hb hc => by have := fr_r56 b hb; have := lt_r_passed b hc; omega) : ∀ b ∈ blks r56, b ∉ blks v_r_passed) b hb) (fun hc => by have := lt_r56 b hb; omega)
          have lt_r61 := s_r61.lt
          refine s_pure (.agg #[.int .i64 0, .int .i64 0, .int .i64 0, .int .i64 0, r61]) (fun _ q => w_build (seg_i rfl (seg_sl s_r61 rfl (seg_nil q)))) ?_
          refine s_new (fun h69 b68 hbb68 hzb68 eh69 bxb68 => ?_)
          have E70 := E63.trans (Mod.of_ext eh69 _)
          have z71 := eh69.size
          have lbb68 := bxb68.lt
          refine s_stBx (.agg #[.int .i64 0, .int .i64 0, .int .i64 0, .int .i64 0, r61]) [.int .i64 0, .int .i64 0, .int .i64 0, .int .i64 0, r61] [.int .i64 0, .int .i64 0, .int .i64 0, .int .i64 0, r61] bxb68 rfl rfl rfl rfl (by simp) (all_cons rfl (all_cons rfl (all_cons rfl (all_cons rfl (all_cons s_r61.one1 all_nil))))) rfl (fun h72 mh72 sh72 bxx73 => ?_)
          have E74 := E70.new mh72 (fun b hb => .inr (by simp at hb; omega))
          refine s_nil ?_
          refine p_seqN ?_
          refine v_seq ?_
          refine v_seq ?_
          refine v_ops ?_
          refine s_pure (.pointer (some ⟨b1, 1, none⟩)) (fun _ q => q) ?_
          have f75 := ((((f13.ext eh57).mod mh62 (fun hc => by have := lt_r_passed _ hc; omega)).ext eh69).mod mh72 (by simp; omega))
          refine s_load (.int .i64 r.holds) (fun _ q => f75.load rfl q) ?_
          refine s_pure (.bool (r.holds == 61)) (fun _ q => q) ?_
          refine s_nil ?_
          refine p_seqN ?_
          refine v_cond rfl (fun c76 => ?_) (fun c76 => ?_)
          ·
            refine v_ops ?_
            refine s_pure (.pointer (some ⟨b68, 0, none⟩)) (fun _ q => q) ?_
            refine s_stBx (.int .i64 3) [.int .i64 3] [.int .i64 3, .int .i64 0, .int .i64 0, .int .i64 0, r61] bxx73 rfl rfl rfl rfl (by simp) (all_cons rfl all_nil) rfl (fun h77 mh77 sh77 bxx78 => ?_)
            have E79 := E74.new mh77 (fun b hb => .inr (by simp at hb; omega))
            refine s_nil ?_
            refine p_seqN ?_
            refine v_seq ?_
            refine v_ops ?_
            refine s_load (.agg #[.int .i64 3, .int .i64 0, .int .i64 0, .int .i64 0, r61]) (fun _ q => bxx78.loadA rfl q) ?_
            have f80 := (((((bxb9.ext eh57).mod mh62 (fun hc => by have := lt_r_passed _ hc; omega)).ext eh69).mod mh72 (by simp; omega)).mod mh77 (by simp; omega))
            refine s_stBx (.agg #[.int .i64 3, .int .i64 0, .int .i64 0, .int .i64 0, r61]) [.int .i64 3, .int .i64 0, .int .i64 0, .int .i64 0, r61] [.int .i64 3, .int .i64 0, .int .i64 0, .int .i64 0, r61] f80 rfl rfl rfl rfl (by simp) (all_cons rfl (all_cons rfl (all_cons rfl (all_cons rfl (all_cons s_r61.one1 all_nil))))) rfl (fun h81 mh81 sh81 bxx82 => ?_)
            have E83 := E79.new mh81 (fun b hb => .inr (by simp at hb; omega))
            refine s_pure (.bool false) (fun _ q => q) ?_
            refine s_nil ?_
            refine p_seqN ?_
            refine v_ret ?_
            refine p_blkR ?_
            refine p_seqR ?_
            refine p_ret [.agg #[.int .i64 3, .int .i64 0, .int .i64 0, .int .i64 0, r61], .bool false] (.tuple #[.agg #[.int .i64 3, .int .i64 0, .int .i64 0, .int .i64 0, r61], .bool false]) (fun _ q => (bxx82.loadA rfl q)) rfl ?_
            have ho : gl r g = (⟨3, 0, 0, 0, (r.passed ++ [r.holds])⟩, false) := by first | (exfalso; omega) | (simp [gl, *]; done) | (simp_all [gl]; done) | (obtain ⟨ph, ho, ag, sh, ps⟩ := r; simp_all [gl]; done)
            have f84 := ((((s_r61.ext eh69).mod mh72 (fun b hb hc => by simp at hc; have := lt_r61 b hb; omega)).mod mh77 (fun b hb hc => by simp at hc; have := lt_r61 b hb; omega)).mod mh81 (fun b hb hc => np66 (by simp at hc; rw [← hc]; exact hb)))
            exact ⟨r61, by first | (rw [ho]; done) | rfl, sl_eq f84 (congrArg (fun o => o.1.passed) ho).symm, E83, ba_r61⟩
          ·
            refine v_skip ?_
            refine p_seqN ?_
            refine v_seq ?_
            refine v_ops ?_
            refine s_load (.agg #[.int .i64 0, .int .i64 0, .int .i64 0, .int .i64 0, r61]) (fun _ q => bxx73.loadA rfl q) ?_
            have f85 := ((((bxb9.ext eh57).mod mh62 (fun hc => by have := lt_r_passed _ hc; omega)).ext eh69).mod mh72 (by simp; omega))
            refine s_stBx (.agg #[.int .i64 0, .int .i64 0, .int .i64 0, .int .i64 0, r61]) [.int .i64 0, .int .i64 0, .int .i64 0, .int .i64 0, r61] [.int .i64 0, .int .i64 0, .int .i64 0, .int .i64 0, r61] f85 rfl rfl rfl rfl (by simp) (all_cons rfl (all_cons rfl (all_cons rfl (all_cons rfl (all_cons s_r61.one1 all_nil))))) rfl (fun h86 mh86 sh86 bxx87 => ?_)
            have E88 := E74.new mh86 (fun b hb => .inr (by simp at hb; omega))
            refine s_pure (.bool false) (fun _ q => q) ?_
            refine s_nil ?_
            refine p_seqN ?_
            refine v_ret ?_
            refine p_blkR ?_
            refine p_seqR ?_
            refine p_ret [.agg #[.int .i64 0, .int .i64 0, .int .i64 0, .int .i64 0, r61], .bool false] (.tuple #[.agg #[.int .i64 0, .int .i64 0, .int .i64 0, .int .i64 0, r61], .bool false]) (fun _ q => (bxx87.loadA rfl q)) rfl ?_
            have ho : gl r g = (⟨0, 0, 0, 0, (r.passed ++ [r.holds])⟩, false) := by first | (exfalso; omega) | (simp [gl, *]; done) | (simp_all [gl]; done) | (obtain ⟨ph, ho, ag, sh, ps⟩ := r; simp_all [gl]; done)
            have f89 := (((s_r61.ext eh69).mod mh72 (fun b hb hc => by simp at hc; have := lt_r61 b hb; omega)).mod mh86 (fun b hb hc => np66 (by simp at hc; rw [← hc]; exact hb)))
            exact ⟨r61, by first | (rw [ho]; done) | rfl, sl_eq f89 (congrArg (fun o => o.1.passed) ho).symm, E88, ba_r61⟩
        ·
          refine v_seq ?_
          refine v_ops ?_
          refine s_pure (.pointer (some ⟨b1, 0, none⟩)) (fun _ q => q) ?_
          refine s_load (.int .i64 r.phase) (fun _ q => f13.load rfl q) ?_
          refine s_pure (.bool (r.phase == 1)) (fun _ q => q) ?_
          refine s_pure (.bool (r.phase == 1)) (fun _ q => q) ?_
          refine s_splitY rfl (by first | assumption | omega | (simp; done) | (simp; omega) | simp_all) ?_
          refine s_run rfl ?_
          refine s_pure (.pointer (some ⟨b5, 0, none⟩)) (fun _ q => q) ?_
          refine s_run rfl ?_
          refine s_load (.bool g.next) (fun _ q => f44.load rfl q) ?_
          refine s_pure (.bool g.next) (fun _ q => q) ?_
          refine s_pure (.bool g.next) (fun _ q => q) ?_
          refine s_splitY rfl (by first | assumption | omega | (simp; done) | (simp; omega) | simp_all) ?_
          refine s_run rfl ?_
          refine s_pure (.pointer (some ⟨b5, 1, none⟩)) (fun _ q => q) ?_
          refine s_run rfl ?_
          refine s_load (.int .i64 g.signal) (fun _ q => f44.load rfl q) ?_
          refine s_run rfl ?_
          refine s_pure (.bool (g.signal != 0)) (fun _ q => q) ?_
          refine s_pure (.bool (g.signal != 0)) (fun _ q => q) ?_
          refine s_pure (.bool (g.signal != 0)) (fun _ q => q) ?_
          refine s_nil ?_
          refine p_seqN ?_
          refine v_cond rfl (fun c90 => ?_) (fun c90 => ?_)
          ·
            refine v_seq ?_
            refine v_seq ?_
            refine v_ops ?_
            refine s_pure (.pointer (some ⟨b1, 2, none⟩)) (fun _ q => q) ?_
            refine s_load (.int .i64 r.again) (fun _ q => f13.load rfl q) ?_
            refine s_pure (.bool (r.again == 3)) (fun _ q => q) ?_
            refine s_nil ?_
            refine p_seqN ?_
            refine v_cond rfl (fun c91 => ?_) (fun c91 => ?_)
            ·
              refine v_ops ?_
              refine s_pure (.pointer (some ⟨b1, 0, none⟩)) (fun _ q => q) ?_
              refine s_stBx (.int .i64 2) [.int .i64 2] [.int .i64 2, .int .i64 r.holds, .int .i64 r.again, .int .i64 r.shown, v_r_passed] f13 rfl rfl rfl rfl (by simp) (all_cons rfl all_nil) rfl (fun h92 mh92 sh92 bxx93 => ?_)
              have E94 := E11.new mh92 (fun b hb => .inr (by simp at hb; omega))
              refine s_pure (.pointer (some ⟨b1, 3, none⟩)) (fun _ q => q) ?_
              refine s_stBx (.int .i64 63) [.int .i64 63] [.int .i64 2, .int .i64 r.holds, .int .i64 r.again, .int .i64 63, v_r_passed] bxx93 rfl rfl rfl rfl (by simp) (all_cons rfl all_nil) rfl (fun h95 mh95 sh95 bxx96 => ?_)
              have E97 := E94.new mh95 (fun b hb => .inr (by simp at hb; omega))
              refine s_nil ?_
              refine p_seqN ?_
              refine v_seq ?_
              refine v_ops ?_
              refine s_load (.agg #[.int .i64 2, .int .i64 r.holds, .int .i64 r.again, .int .i64 63, v_r_passed]) (fun _ q => bxx96.loadA rfl q) ?_
              have f98 := ((bxb9.mod mh92 (by simp; omega)).mod mh95 (by simp; omega))
              refine s_stBx (.agg #[.int .i64 2, .int .i64 r.holds, .int .i64 r.again, .int .i64 63, v_r_passed]) [.int .i64 2, .int .i64 r.holds, .int .i64 r.again, .int .i64 63, v_r_passed] [.int .i64 2, .int .i64 r.holds, .int .i64 r.again, .int .i64 63, v_r_passed] f98 rfl rfl rfl rfl (by simp) (all_cons rfl (all_cons rfl (all_cons rfl (all_cons rfl (all_cons s_r_passed.one1 all_nil))))) rfl (fun h99 mh99 sh99 bxx100 => ?_)
              have E101 := E97.new mh99 (fun b hb => .inr (by simp at hb; omega))
              refine s_pure (.bool true) (fun _ q => q) ?_
              refine s_nil ?_
              refine p_seqN ?_
              refine v_ret ?_
              refine p_blkR ?_
              refine p_seqR ?_
              refine p_ret [.agg #[.int .i64 2, .int .i64 r.holds, .int .i64 r.again, .int .i64 63, v_r_passed], .bool true] (.tuple #[.agg #[.int .i64 2, .int .i64 r.holds, .int .i64 r.again, .int .i64 63, v_r_passed], .bool true]) (fun _ q => (bxx100.loadA rfl q)) rfl ?_
              have ho : gl r g = (⟨2, r.holds, r.again, 63, r.passed⟩, true) := by first | (exfalso; omega) | (simp [gl, *]; done) | (simp_all [gl]; done) | (obtain ⟨ph, ho, ag, sh, ps⟩ := r; simp_all [gl]; done)
              have f102 := ((((((s_r_passed.ext eh2).ext eh6).ext eh10).mod mh92 (fun b hb hc => by simp at hc; have := lt_r_passed b hb; omega)).mod mh95 (fun b hb hc => by simp at hc; have := lt_r_passed b hb; omega)).mod mh99 (fun b hb hc => by simp at hc; have := lt_r_passed b hb; omega))
              exact ⟨v_r_passed, by first | (rw [ho]; done) | rfl, sl_eq f102 (congrArg (fun o => o.1.passed) ho).symm, E101, (fun b hb => Or.inl hb)⟩
            ·
              refine v_ops ?_
              refine s_pure (.pointer (some ⟨b1, 2, none⟩)) (fun _ q => q) ?_
              refine s_load (.int .i64 r.again) (fun _ q => f13.load rfl q) ?_
              refine s_pure (.int .i64 (r.again + 1)) (fun _ q => ArithVC.mk (by omega) q) ?_
              refine s_pure (.pointer (some ⟨b1, 2, none⟩)) (fun _ q => q) ?_
              refine s_stBx (.int .i64 (r.again + 1)) [.int .i64 (r.again + 1)] [.int .i64 r.phase, .int .i64 r.holds, .int .i64 (r.again + 1), .int .i64 r.shown, v_r_passed] f13 rfl rfl rfl rfl (by simp) (all_cons rfl all_nil) rfl (fun h103 mh103 sh103 bxx104 => ?_)
              have E105 := E11.new mh103 (fun b hb => .inr (by simp at hb; omega))
              refine s_nil ?_
              refine p_seqN ?_
              refine v_seq ?_
              refine v_ops ?_
              refine s_load (.agg #[.int .i64 r.phase, .int .i64 r.holds, .int .i64 (r.again + 1), .int .i64 r.shown, v_r_passed]) (fun _ q => bxx104.loadA rfl q) ?_
              have f106 := (bxb9.mod mh103 (by simp; omega))
              refine s_stBx (.agg #[.int .i64 r.phase, .int .i64 r.holds, .int .i64 (r.again + 1), .int .i64 r.shown, v_r_passed]) [.int .i64 r.phase, .int .i64 r.holds, .int .i64 (r.again + 1), .int .i64 r.shown, v_r_passed] [.int .i64 r.phase, .int .i64 r.holds, .int .i64 (r.again + 1), .int .i64 r.shown, v_r_passed] f106 rfl rfl rfl rfl (by simp) (all_cons rfl (all_cons rfl (all_cons rfl (all_cons rfl (all_cons s_r_passed.one1 all_nil))))) rfl (fun h107 mh107 sh107 bxx108 => ?_)
              have E109 := E105.new mh107 (fun b hb => .inr (by simp at hb; omega))
              refine s_pure (.bool true) (fun _ q => q) ?_
              refine s_nil ?_
              refine p_seqN ?_
              refine v_ret ?_
              refine p_blkR ?_
              refine p_seqR ?_
              refine p_ret [.agg #[.int .i64 r.phase, .int .i64 r.holds, .int .i64 (r.again + 1), .int .i64 r.shown, v_r_passed], .bool true] (.tuple #[.agg #[.int .i64 r.phase, .int .i64 r.holds, .int .i64 (r.again + 1), .int .i64 r.shown, v_r_passed], .bool true]) (fun _ q => (bxx108.loadA rfl q)) rfl ?_
              have ho : gl r g = (⟨r.phase, r.holds, (r.again + 1), r.shown, r.passed⟩, true) := by first | (exfalso; omega) | (simp [gl, *]; done) | (simp_all [gl]; done) | (obtain ⟨ph, ho, ag, sh, ps⟩ := r; simp_all [gl]; done)
              have f110 := (((((s_r_passed.ext eh2).ext eh6).ext eh10).mod mh103 (fun b hb hc => by simp at hc; have := lt_r_passed b hb; omega)).mod mh107 (fun b hb hc => by simp at hc; have := lt_r_passed b hb; omega))
              exact ⟨v_r_passed, by first | (rw [ho]; done) | rfl, sl_eq f110 (congrArg (fun o => o.1.passed) ho).symm, E109, (fun b hb => Or.inl hb)⟩
          ·
            have c90 := Classical.not_not.1 c90
            refine v_skip ?_
            refine p_blkN ?_
            refine p_seqN ?_
            refine v_seq ?_
            refine v_ops ?_
            refine s_load (.agg #[.int .i64 r.phase, .int .i64 r.holds, .int .i64 r.again, .int .i64 r.shown, v_r_passed]) (fun _ q => f13.loadA rfl q) ?_
            refine s_stBx (.agg #[.int .i64 r.phase, .int .i64 r.holds, .int .i64 r.again, .int .i64 r.shown, v_r_passed]) [.int .i64 r.phase, .int .i64 r.holds, .int .i64 r.again, .int .i64 r.shown, v_r_passed] [.int .i64 r.phase, .int .i64 r.holds, .int .i64 r.again, .int .i64 r.shown, v_r_passed] bxb9 rfl rfl rfl rfl (by simp) (all_cons rfl (all_cons rfl (all_cons rfl (all_cons rfl (all_cons s_r_passed.one1 all_nil))))) rfl (fun h111 mh111 sh111 bxx112 => ?_)
            have E113 := E11.new mh111 (fun b hb => .inr (by simp at hb; omega))
            refine s_pure (.bool false) (fun _ q => q) ?_
            refine s_nil ?_
            refine p_seqN ?_
            refine v_ret ?_
            refine p_ret [.agg #[.int .i64 r.phase, .int .i64 r.holds, .int .i64 r.again, .int .i64 r.shown, v_r_passed], .bool false] (.tuple #[.agg #[.int .i64 r.phase, .int .i64 r.holds, .int .i64 r.again, .int .i64 r.shown, v_r_passed], .bool false]) (fun _ q => (bxx112.loadA rfl q)) rfl ?_
            have ho : gl r g = (⟨r.phase, r.holds, r.again, r.shown, r.passed⟩, false) := by first | (exfalso; omega) | (simp [gl, *]; done) | (simp_all [gl]; done) | (obtain ⟨ph, ho, ag, sh, ps⟩ := r; simp_all [gl]; done)
            have f114 := ((((s_r_passed.ext eh2).ext eh6).ext eh10).mod mh111 (fun b hb hc => by simp at hc; have := lt_r_passed b hb; omega))
            exact ⟨v_r_passed, by first | (rw [ho]; done) | rfl, sl_eq f114 (congrArg (fun o => o.1.passed) ho).symm, E113, (fun b hb => Or.inl hb)⟩
    ·
      refine s_pass rfl ?_
      refine s_pass rfl ?_
      refine s_pass rfl ?_
      refine s_pure (.bool false) (fun _ q => q) ?_
      refine s_pure (.bool false) (fun _ q => q) ?_
      refine s_splitN rfl (by simp) ?_
      refine s_pass rfl ?_
      refine s_pass rfl ?_
      refine s_pass rfl ?_
      refine s_pure (.bool false) (fun _ q => q) ?_
      refine s_pure (.bool false) (fun _ q => q) ?_
      refine s_nil ?_
      refine p_seqN ?_
      refine v_condN rfl (by simp) ?_
      refine v_seq ?_
      refine v_ops ?_
      refine s_pure (.pointer (some ⟨b1, 0, none⟩)) (fun _ q => q) ?_
      refine s_load (.int .i64 r.phase) (fun _ q => f13.load rfl q) ?_
      refine s_pure (.bool (r.phase == 1)) (fun _ q => q) ?_
      refine s_pure (.bool (r.phase == 1)) (fun _ q => q) ?_
      refine s_splitN rfl (by first | assumption | omega | (simp; done) | (simp; omega) | simp_all) ?_
      refine s_pass rfl ?_
      refine s_pass rfl ?_
      refine s_pure (.bool false) (fun _ q => q) ?_
      refine s_pure (.bool false) (fun _ q => q) ?_
      refine s_splitN rfl (by simp) ?_
      refine s_pass rfl ?_
      refine s_pass rfl ?_
      refine s_pass rfl ?_
      refine s_pass rfl ?_
      refine s_pass rfl ?_
      refine s_pure (.bool false) (fun _ q => q) ?_
      refine s_pure (.bool false) (fun _ q => q) ?_
      refine s_nil ?_
      refine p_seqN ?_
      refine v_condN rfl (by simp) ?_
      refine v_seq ?_
      refine v_ops ?_
      refine s_pure (.pointer (some ⟨b1, 0, none⟩)) (fun _ q => q) ?_
      refine s_load (.int .i64 r.phase) (fun _ q => f13.load rfl q) ?_
      refine s_pure (.bool (r.phase == 1)) (fun _ q => q) ?_
      refine s_pure (.bool (r.phase == 1)) (fun _ q => q) ?_
      refine s_splitN rfl (by first | assumption | omega | (simp; done) | (simp; omega) | simp_all) ?_
      refine s_pass rfl ?_
      refine s_pass rfl ?_
      refine s_pure (.bool false) (fun _ q => q) ?_
      refine s_pure (.bool false) (fun _ q => q) ?_
      refine s_splitN rfl (by simp) ?_
      refine s_pass rfl ?_
      refine s_pass rfl ?_
      refine s_pass rfl ?_
      refine s_pure (.bool false) (fun _ q => q) ?_
      refine s_pure (.bool false) (fun _ q => q) ?_
      refine s_nil ?_
      refine p_seqN ?_
      refine v_condN rfl (by simp) ?_
      refine v_skip ?_
      refine p_blkN ?_
      refine p_seqN ?_
      refine v_seq ?_
      refine v_ops ?_
      refine s_load (.agg #[.int .i64 r.phase, .int .i64 r.holds, .int .i64 r.again, .int .i64 r.shown, v_r_passed]) (fun _ q => f13.loadA rfl q) ?_
      refine s_stBx (.agg #[.int .i64 r.phase, .int .i64 r.holds, .int .i64 r.again, .int .i64 r.shown, v_r_passed]) [.int .i64 r.phase, .int .i64 r.holds, .int .i64 r.again, .int .i64 r.shown, v_r_passed] [.int .i64 r.phase, .int .i64 r.holds, .int .i64 r.again, .int .i64 r.shown, v_r_passed] bxb9 rfl rfl rfl rfl (by simp) (all_cons rfl (all_cons rfl (all_cons rfl (all_cons rfl (all_cons s_r_passed.one1 all_nil))))) rfl (fun h115 mh115 sh115 bxx116 => ?_)
      have E117 := E11.new mh115 (fun b hb => .inr (by simp at hb; omega))
      refine s_pure (.bool false) (fun _ q => q) ?_
      refine s_nil ?_
      refine p_seqN ?_
      refine v_ret ?_
      refine p_ret [.agg #[.int .i64 r.phase, .int .i64 r.holds, .int .i64 r.again, .int .i64 r.shown, v_r_passed], .bool false] (.tuple #[.agg #[.int .i64 r.phase, .int .i64 r.holds, .int .i64 r.again, .int .i64 r.shown, v_r_passed], .bool false]) (fun _ q => (bxx116.loadA rfl q)) rfl ?_
      have ho : gl r g = (⟨r.phase, r.holds, r.again, r.shown, r.passed⟩, false) := by first | (exfalso; omega) | (simp [gl, *]; done) | (simp_all [gl]; done) | (obtain ⟨ph, ho, ag, sh, ps⟩ := r; simp_all [gl]; done)
      have f118 := ((((s_r_passed.ext eh2).ext eh6).ext eh10).mod mh115 (fun b hb hc => by simp at hc; have := lt_r_passed b hb; omega))
      exact ⟨v_r_passed, by first | (rw [ho]; done) | rfl, sl_eq f118 (congrArg (fun o => o.1.passed) ho).symm, E117, (fun b hb => Or.inl hb)⟩

theorem spec_l1Own_ok (v_l : Value) (l : List Int) (h : Heap) (s_l : Sl h v_l l) (bl : l.length ≤ 2000000) : Cn f_spec_l1Own [v_l] h fun v h' => ∃ r0 : Value, v = r0 ∧ SlO h' r0 l ∧ Fr h.size r0 ∧ Ext h h' := by
  have lt_l := s_l.lt
  have l63_l := s_l.len63
  refine calls_of r_spec_l1Own ?_
  refine v_seq ?_
  refine v_ops ?_
  refine s_pure (.slice none 0 0) (fun _ q => q) ?_
  refine s_nil ?_
  refine p_seqN ?_
  refine v_seq ?_
  refine v_ops ?_
  refine s_row (α := Int) [] (fun _ q => seg_nil q) rfl (by simp [maxLen]) (fun r1 h2 eh2 zh2 s_r1 fr_r1 => ?_)
  have E3 := (Ext.refl h).trans eh2
  have z4 := eh2.size
  have lt_r1 := s_r1.lt
  refine s_pure v_l (fun _ q => q) ?_
  have f5 := (s_l.ext eh2)
  refine s_app s_r1 f5 rfl rfl rfl (by simpa using s_l.len_le) (by have := s_l.len_le; simp [maxLen] at *; omega) (fun r6 h7 mh7 zh7 s_r6 ab_r6 => ?_)
  have E8 := E3.mod mh7 (fun b hb => by have := fr_r1 b hb; omega)
  have fr_r6 := fr_r1.app ab_r6 (by omega)
  have lt_r6 := s_r6.lt
  refine s_pure r6 (fun _ q => q) ?_
  refine s_nil ?_
  refine p_seqN ?_
  refine v_ret ?_
  refine p_ret [r6] r6 (fun _ q => q) rfl ?_
  have ho : l = ([] ++ l) := by simp
  exact ⟨r6, by first | (rw [ho]; done) | rfl, sl_eq s_r6 (congrArg (fun o => o) ho).symm, fr_r6.mono (by omega), E8⟩

theorem spec_rpWaits_ok (v_l : Value) (l : List Int) (h : Heap) (s_l : Sl h v_l l) (bl : l.length ≤ 2000000) : Cn f_spec_rpWaits [v_l] h fun v h' => ∃ r0 : Value, v = .agg #[.int .i64 ((⟨0, 0, 0, 0, l⟩ : RepP).phase), .int .i64 ((⟨0, 0, 0, 0, l⟩ : RepP).holds), .int .i64 ((⟨0, 0, 0, 0, l⟩ : RepP).again), .int .i64 ((⟨0, 0, 0, 0, l⟩ : RepP).shown), r0] ∧ SlO h' r0 ((⟨0, 0, 0, 0, l⟩ : RepP).passed) ∧ Fr h.size r0 ∧ Ext h h' := by
  have lt_l := s_l.lt
  have l63_l := s_l.len63
  refine calls_of r_spec_rpWaits ?_
  refine v_seq ?_
  refine v_ops ?_
  refine s_new (fun h2 b1 hbb1 hzb1 eh2 bxb1 => ?_)
  have E3 := (Ext.refl h).trans eh2
  have z4 := eh2.size
  have lbb1 := bxb1.lt
  refine s_nil ?_
  refine p_seqN ?_
  refine v_seq ?_
  refine v_ops ?_
  refine s_pure v_l (fun _ q => q) ?_
  have f5 := (s_l.ext eh2)
  refine s_call [v_l] rfl (spec_l1Own_ok v_l l _ f5 (by first | omega | assumption | (simp; omega))) ?_
  rintro r6 h7 ⟨_, rfl, s_r6, fr_r6, eh7⟩
  have E8 := E3.trans eh7
  have z9 := eh7.size
  have lt_r6 := s_r6.lt
  refine s_pure (.agg #[.int .i64 0, .int .i64 0, .int .i64 0, .int .i64 0, r6]) (fun _ q => w_build (seg_sl s_r6 rfl (seg_nil q))) ?_
  have f10 := (bxb1.ext eh7)
  refine s_stBx (.agg #[.int .i64 0, .int .i64 0, .int .i64 0, .int .i64 0, r6]) [.int .i64 0, .int .i64 0, .int .i64 0, .int .i64 0, r6] [.int .i64 0, .int .i64 0, .int .i64 0, .int .i64 0, r6] f10 rfl rfl rfl rfl (by simp) (all_cons rfl (all_cons rfl (all_cons rfl (all_cons rfl (all_cons s_r6.one1 all_nil))))) rfl (fun h11 mh11 sh11 bxx12 => ?_)
  have E13 := E8.mod mh11 (fun b hb => by simp at hb; omega)
  refine s_nil ?_
  refine p_seqN ?_
  refine v_ret ?_
  refine p_ret [.agg #[.int .i64 0, .int .i64 0, .int .i64 0, .int .i64 0, r6]] (.agg #[.int .i64 0, .int .i64 0, .int .i64 0, .int .i64 0, r6]) (fun _ q => (bxx12.loadA rfl q)) rfl ?_
  have ho : (⟨0, 0, 0, 0, l⟩ : RepP) = ⟨0, 0, 0, 0, l⟩ := by rfl
  have f14 := (s_r6.mod mh11 (fun b hb hc => by simp at hc; have := fr_r6 b hb; omega))
  exact ⟨r6, by first | (rw [ho]; done) | rfl, sl_eq f14 (congrArg (fun o => o.passed) ho).symm, fr_r6.mono (by omega), E13⟩


theorem gl_before (r : RepP) (g : GlanceD) (hi : RInv r) (hn : g.next = false) : (gl r g).1 =
    if r.phase = 1 ∧ g.signal = 63 then ⟨0, 0, 0, 0, r.passed⟩ else if r.phase ≠ 0 then r else if PassOk g.signal then ⟨1, g.signal, r.again, g.signal, r.passed⟩ else
    if g.signal = 0 then ⟨r.phase, r.holds, r.again, 0, r.passed⟩ else ⟨r.phase, r.holds, r.again, 62, r.passed⟩ := by
  have := hi.z
  obtain ⟨ph, ho, ag, sh, ps⟩ := r
  simp only at this
  unfold gl
  simp only [hn]
  by_cases c0 : ph = 0
  · subst c0; simp at this; subst this; simp; split <;> simp_all; split <;> simp_all
  · simp [c0]; split <;> simp_all
theorem gl_next (r : RepP) (g : GlanceD) (hi : RInv r) (hn : g.next = true) : (gl r g).1 =
    if r.phase ≠ 1 ∨ g.signal = 0 then r else if g.signal = r.holds then ⟨if g.signal = 61 then 3 else 0, 0, 0, 0, r.passed ++ [g.signal]⟩ else
    if r.again = 3 then ⟨2, r.holds, r.again, 63, r.passed⟩ else ⟨r.phase, r.holds, r.again + 1, r.shown, r.passed⟩ := by
  have := hi.s
  obtain ⟨ph, ho, ag, sh, ps⟩ := r
  simp only at this
  unfold gl
  simp only [hn]
  by_cases c0 : ph = 1
  · subst c0
    simp at this
    by_cases c1 : g.signal = 0
    · have : ¬ 0 = ho := by rcases this with h | h <;> omega
      simp [c1, this]
    · by_cases c2 : g.signal = ho
      · simp [c2]; intro h; omega
      · simp [c1, c2]; split <;> simp
  · simp [c0]


theorem gd_t (g : GlanceD) (h : g.next = true) : g = ⟨true, g.signal⟩ := by cases g; simp at h; simp [h]
theorem gd_f (g : GlanceD) (h : ¬ g.next = true) : g = ⟨false, g.signal⟩ := by cases g; simp at h; simp [h]

set_option maxRecDepth 10000 in
set_option maxHeartbeats 4000000 in
theorem spec_rpBefore_ok (r : RepP) (v_r_passed : Value) (n : Int) (h : Heap) (s_r_passed : SlO h v_r_passed r.passed) (hi : RInv r) (bl : r.passed.length ≤ 1000) : Cn f_spec_rpBefore [.agg #[.int .i64 r.phase, .int .i64 r.holds, .int .i64 r.again, .int .i64 r.shown, v_r_passed], .int .i64 n] h fun v h' => ∃ r0 : Value, v = .agg #[.int .i64 (((gl r ⟨false, n⟩).1).phase), .int .i64 (((gl r ⟨false, n⟩).1).holds), .int .i64 (((gl r ⟨false, n⟩).1).again), .int .i64 (((gl r ⟨false, n⟩).1).shown), r0] ∧ SlO h' r0 (((gl r ⟨false, n⟩).1).passed) ∧ Mod (blks v_r_passed) h h' ∧ ∀ b ∈ blks r0, b ∈ (blks v_r_passed) ∨ h.size ≤ b := by
  have lt_r_passed := s_r_passed.lt
  have l63_r_passed := s_r_passed.len63
  refine calls_of r_spec_rpBefore ?_
  refine v_seq ?_
  refine v_ops ?_
  refine s_box [.int .i64 r.phase, .int .i64 r.holds, .int .i64 r.again, .int .i64 r.shown, v_r_passed] rfl (fun h2 b1 hbb1 hzb1 eh2 bxb1 => ?_)
  have E3 := (Mod.refl (blks v_r_passed) h).trans (Mod.of_ext eh2 _)
  have z4 := eh2.size
  have lbb1 := bxb1.lt
  refine s_new (fun h6 b5 hbb5 hzb5 eh6 bxb5 => ?_)
  have E7 := E3.trans (Mod.of_ext eh6 _)
  have z8 := eh6.size
  have lbb5 := bxb5.lt
  refine s_nil ?_
  refine p_seqN ?_
  refine v_seq ?_
  refine v_block ?_
  refine v_seq ?_
  refine v_ops ?_
  refine s_pure (.pointer (some ⟨b1, 0, none⟩)) (fun _ q => q) ?_
  have f9 := (bxb1.ext eh6)
  refine s_load (.int .i64 r.phase) (fun _ q => f9.load rfl q) ?_
  refine s_pure (.bool (r.phase == 1)) (fun _ q => q) ?_
  refine s_pure (.bool (r.phase == 1)) (fun _ q => q) ?_
  refine s_splitT rfl (fun c10 => ?_) (fun c10 => ?_)
  ·
    refine s_run rfl ?_
    refine s_pure (.int .i64 n) (fun _ q => q) ?_
    refine s_run rfl ?_
    refine s_pure (.bool (n == 63)) (fun _ q => q) ?_
    refine s_pure (.bool (n == 63)) (fun _ q => q) ?_
    refine s_pure (.bool (n == 63)) (fun _ q => q) ?_
    refine s_nil ?_
    refine p_seqN ?_
    refine v_cond rfl (fun c11 => ?_) (fun c11 => ?_)
    ·
      refine v_seq ?_
      refine v_ops ?_
      refine s_pure (.pointer (some ⟨b1, 4, none⟩)) (fun _ q => q) ?_
      refine s_load v_r_passed (fun _ q => f9.load rfl q) ?_
      have f12 := ((s_r_passed.ext eh2).ext eh6)
      refine s_call [v_r_passed] rfl (spec_rpWaits_ok v_r_passed r.passed _ f12.toSl (by first | omega | assumption | (simp; omega))) ?_
      rintro _ h14 ⟨r13, rfl, s_r13, fr_r13, eh14⟩
      have E15 := E7.trans (Mod.of_ext eh14 _)
      have z16 := eh14.size
      have lt_r13 := s_r13.lt
      have f17 := (bxb5.ext eh14)
      refine s_stBx (.agg #[.int .i64 ((⟨0, 0, 0, 0, r.passed⟩ : RepP).phase), .int .i64 ((⟨0, 0, 0, 0, r.passed⟩ : RepP).holds), .int .i64 ((⟨0, 0, 0, 0, r.passed⟩ : RepP).again), .int .i64 ((⟨0, 0, 0, 0, r.passed⟩ : RepP).shown), r13]) [.int .i64 ((⟨0, 0, 0, 0, r.passed⟩ : RepP).phase), .int .i64 ((⟨0, 0, 0, 0, r.passed⟩ : RepP).holds), .int .i64 ((⟨0, 0, 0, 0, r.passed⟩ : RepP).again), .int .i64 ((⟨0, 0, 0, 0, r.passed⟩ : RepP).shown), r13] [.int .i64 ((⟨0, 0, 0, 0, r.passed⟩ : RepP).phase), .int .i64 ((⟨0, 0, 0, 0, r.passed⟩ : RepP).holds), .int .i64 ((⟨0, 0, 0, 0, r.passed⟩ : RepP).again), .int .i64 ((⟨0, 0, 0, 0, r.passed⟩ : RepP).shown), r13] f17 rfl rfl rfl rfl (by simp) (all_cons rfl (all_cons rfl (all_cons rfl (all_cons rfl (all_cons s_r13.one1 all_nil))))) rfl (fun h18 mh18 sh18 bxx19 => ?_)
      have E20 := E15.new mh18 (fun b hb => .inr (by simp at hb; omega))
      refine s_nil ?_
      refine p_seqN ?_
      refine v_ret ?_
      refine p_blkR ?_
      refine p_seqR ?_
      refine p_ret [.agg #[.int .i64 ((⟨0, 0, 0, 0, r.passed⟩ : RepP).phase), .int .i64 ((⟨0, 0, 0, 0, r.passed⟩ : RepP).holds), .int .i64 ((⟨0, 0, 0, 0, r.passed⟩ : RepP).again), .int .i64 ((⟨0, 0, 0, 0, r.passed⟩ : RepP).shown), r13]] (.agg #[.int .i64 ((⟨0, 0, 0, 0, r.passed⟩ : RepP).phase), .int .i64 ((⟨0, 0, 0, 0, r.passed⟩ : RepP).holds), .int .i64 ((⟨0, 0, 0, 0, r.passed⟩ : RepP).again), .int .i64 ((⟨0, 0, 0, 0, r.passed⟩ : RepP).shown), r13]) (fun _ q => (bxx19.loadA rfl q)) rfl ?_
      have ho : (gl r ⟨false, n⟩).1 = ⟨(⟨0, 0, 0, 0, r.passed⟩ : RepP).phase, (⟨0, 0, 0, 0, r.passed⟩ : RepP).holds, (⟨0, 0, 0, 0, r.passed⟩ : RepP).again, (⟨0, 0, 0, 0, r.passed⟩ : RepP).shown, (⟨0, 0, 0, 0, r.passed⟩ : RepP).passed⟩ := by rw [gl_before r ⟨false, n⟩ hi rfl]; first | (exfalso; omega) | (simp [*]; done) | (obtain ⟨ph, ho, ag, sh, ps⟩ := r; simp_all; done)
      have f21 := (s_r13.mod mh18 (fun b hb hc => by simp at hc; have := fr_r13 b hb; omega))
      exact ⟨r13, by first | (rw [ho]; done) | rfl, sl_eq f21 (congrArg (fun o => o.passed) ho).symm, E20, (fun b hb => Or.inr (fr_r13.mono (by omega) b hb))⟩
    ·
      refine v_seq ?_
      refine v_ops ?_
      refine s_pure (.pointer (some ⟨b1, 0, none⟩)) (fun _ q => q) ?_
      refine s_load (.int .i64 r.phase) (fun _ q => f9.load rfl q) ?_
      refine s_pure (.bool (r.phase != 0)) (fun _ q => q) ?_
      refine s_pure (.bool (r.phase != 0)) (fun _ q => q) ?_
      refine s_nil ?_
      refine p_seqN ?_
      refine v_condY rfl (by first | assumption | omega | (simp; done) | (simp; omega) | simp_all) ?_
      refine v_seq ?_
      refine v_ops ?_
      refine s_load (.agg #[.int .i64 r.phase, .int .i64 r.holds, .int .i64 r.again, .int .i64 r.shown, v_r_passed]) (fun _ q => f9.loadA rfl q) ?_
      refine s_stBx (.agg #[.int .i64 r.phase, .int .i64 r.holds, .int .i64 r.again, .int .i64 r.shown, v_r_passed]) [.int .i64 r.phase, .int .i64 r.holds, .int .i64 r.again, .int .i64 r.shown, v_r_passed] [.int .i64 r.phase, .int .i64 r.holds, .int .i64 r.again, .int .i64 r.shown, v_r_passed] bxb5 rfl rfl rfl rfl (by simp) (all_cons rfl (all_cons rfl (all_cons rfl (all_cons rfl (all_cons s_r_passed.one1 all_nil))))) rfl (fun h22 mh22 sh22 bxx23 => ?_)
      have E24 := E7.new mh22 (fun b hb => .inr (by simp at hb; omega))
      refine s_nil ?_
      refine p_seqN ?_
      refine v_ret ?_
      refine p_blkR ?_
      refine p_seqR ?_
      refine p_ret [.agg #[.int .i64 r.phase, .int .i64 r.holds, .int .i64 r.again, .int .i64 r.shown, v_r_passed]] (.agg #[.int .i64 r.phase, .int .i64 r.holds, .int .i64 r.again, .int .i64 r.shown, v_r_passed]) (fun _ q => (bxx23.loadA rfl q)) rfl ?_
      have ho : (gl r ⟨false, n⟩).1 = ⟨r.phase, r.holds, r.again, r.shown, r.passed⟩ := by rw [gl_before r ⟨false, n⟩ hi rfl]; first | (exfalso; omega) | (simp [*]; done) | (obtain ⟨ph, ho, ag, sh, ps⟩ := r; simp_all; done)
      have f25 := (((s_r_passed.ext eh2).ext eh6).mod mh22 (fun b hb hc => by simp at hc; have := lt_r_passed b hb; omega))
      exact ⟨v_r_passed, by first | (rw [ho]; done) | rfl, sl_eq f25 (congrArg (fun o => o.passed) ho).symm, E24, (fun b hb => Or.inl hb)⟩
  ·
    refine s_pass rfl ?_
    refine s_pass rfl ?_
    refine s_pure (.bool false) (fun _ q => q) ?_
    refine s_pure (.bool false) (fun _ q => q) ?_
    refine s_nil ?_
    refine p_seqN ?_
    refine v_condN rfl (by simp) ?_
    refine v_seq ?_
    refine v_ops ?_
    refine s_pure (.pointer (some ⟨b1, 0, none⟩)) (fun _ q => q) ?_
    refine s_load (.int .i64 r.phase) (fun _ q => f9.load rfl q) ?_
    refine s_pure (.bool (r.phase != 0)) (fun _ q => q) ?_
    refine s_pure (.bool (r.phase != 0)) (fun _ q => q) ?_
    refine s_nil ?_
    refine p_seqN ?_
    refine v_cond rfl (fun c26 => ?_) (fun c26 => ?_)
    ·
      refine v_seq ?_
      refine v_ops ?_
      refine s_load (.agg #[.int .i64 r.phase, .int .i64 r.holds, .int .i64 r.again, .int .i64 r.shown, v_r_passed]) (fun _ q => f9.loadA rfl q) ?_
      refine s_stBx (.agg #[.int .i64 r.phase, .int .i64 r.holds, .int .i64 r.again, .int .i64 r.shown, v_r_passed]) [.int .i64 r.phase, .int .i64 r.holds, .int .i64 r.again, .int .i64 r.shown, v_r_passed] [.int .i64 r.phase, .int .i64 r.holds, .int .i64 r.again, .int .i64 r.shown, v_r_passed] bxb5 rfl rfl rfl rfl (by simp) (all_cons rfl (all_cons rfl (all_cons rfl (all_cons rfl (all_cons s_r_passed.one1 all_nil))))) rfl (fun h27 mh27 sh27 bxx28 => ?_)
      have E29 := E7.new mh27 (fun b hb => .inr (by simp at hb; omega))
      refine s_nil ?_
      refine p_seqN ?_
      refine v_ret ?_
      refine p_blkR ?_
      refine p_seqR ?_
      refine p_ret [.agg #[.int .i64 r.phase, .int .i64 r.holds, .int .i64 r.again, .int .i64 r.shown, v_r_passed]] (.agg #[.int .i64 r.phase, .int .i64 r.holds, .int .i64 r.again, .int .i64 r.shown, v_r_passed]) (fun _ q => (bxx28.loadA rfl q)) rfl ?_
      have ho : (gl r ⟨false, n⟩).1 = ⟨r.phase, r.holds, r.again, r.shown, r.passed⟩ := by rw [gl_before r ⟨false, n⟩ hi rfl]; first | (exfalso; omega) | (simp [*]; done) | (obtain ⟨ph, ho, ag, sh, ps⟩ := r; simp_all; done)
      have f30 := (((s_r_passed.ext eh2).ext eh6).mod mh27 (fun b hb hc => by simp at hc; have := lt_r_passed b hb; omega))
      exact ⟨v_r_passed, by first | (rw [ho]; done) | rfl, sl_eq f30 (congrArg (fun o => o.passed) ho).symm, E29, (fun b hb => Or.inl hb)⟩
    ·
      have c26 := Classical.not_not.1 c26
      refine v_seq ?_
      refine v_ops ?_
      refine s_pure (.int .i64 n) (fun _ q => q) ?_
      refine s_callS [.int .i64 n] (.bool (decide (PassOk n))) rfl (rpPass_ok n _ ) ?_
      refine s_pure (.bool (decide (PassOk n))) (fun _ q => q) ?_
      refine s_nil ?_
      refine p_seqN ?_
      refine v_cond rfl (fun c31 => ?_) (fun c31 => ?_)
      ·
        refine v_seq ?_
        refine v_ops ?_
        refine s_pure (.pointer (some ⟨b1, 0, none⟩)) (fun _ q => q) ?_
        refine s_stBx (.int .i64 1) [.int .i64 1] [.int .i64 1, .int .i64 r.holds, .int .i64 r.again, .int .i64 r.shown, v_r_passed] f9 rfl rfl rfl rfl (by simp) (all_cons rfl all_nil) rfl (fun h32 mh32 sh32 bxx33 => ?_)
        have E34 := E7.new mh32 (fun b hb => .inr (by simp at hb; omega))
        refine s_nil ?_
        refine p_seqN ?_
        refine v_seq ?_
        refine v_ops ?_
        refine s_pure (.int .i64 n) (fun _ q => q) ?_
        refine s_pure (.pointer (some ⟨b1, 1, none⟩)) (fun _ q => q) ?_
        refine s_stBx (.int .i64 n) [.int .i64 n] [.int .i64 1, .int .i64 n, .int .i64 r.again, .int .i64 r.shown, v_r_passed] bxx33 rfl rfl rfl rfl (by simp) (all_cons rfl all_nil) rfl (fun h35 mh35 sh35 bxx36 => ?_)
        have E37 := E34.new mh35 (fun b hb => .inr (by simp at hb; omega))
        refine s_nil ?_
        refine p_seqN ?_
        refine v_ops ?_
        refine s_pure (.int .i64 n) (fun _ q => q) ?_
        refine s_pure (.pointer (some ⟨b1, 3, none⟩)) (fun _ q => q) ?_
        refine s_stBx (.int .i64 n) [.int .i64 n] [.int .i64 1, .int .i64 n, .int .i64 r.again, .int .i64 n, v_r_passed] bxx36 rfl rfl rfl rfl (by simp) (all_cons rfl all_nil) rfl (fun h38 mh38 sh38 bxx39 => ?_)
        have E40 := E37.new mh38 (fun b hb => .inr (by simp at hb; omega))
        refine s_nil ?_
        refine p_blkN ?_
        refine p_seqN ?_
        refine v_seq ?_
        refine v_ops ?_
        refine s_load (.agg #[.int .i64 1, .int .i64 n, .int .i64 r.again, .int .i64 n, v_r_passed]) (fun _ q => bxx39.loadA rfl q) ?_
        have f41 := (((bxb5.mod mh32 (by simp; omega)).mod mh35 (by simp; omega)).mod mh38 (by simp; omega))
        refine s_stBx (.agg #[.int .i64 1, .int .i64 n, .int .i64 r.again, .int .i64 n, v_r_passed]) [.int .i64 1, .int .i64 n, .int .i64 r.again, .int .i64 n, v_r_passed] [.int .i64 1, .int .i64 n, .int .i64 r.again, .int .i64 n, v_r_passed] f41 rfl rfl rfl rfl (by simp) (all_cons rfl (all_cons rfl (all_cons rfl (all_cons rfl (all_cons s_r_passed.one1 all_nil))))) rfl (fun h42 mh42 sh42 bxx43 => ?_)
        have E44 := E40.new mh42 (fun b hb => .inr (by simp at hb; omega))
        refine s_nil ?_
        refine p_seqN ?_
        refine v_ret ?_
        refine p_ret [.agg #[.int .i64 1, .int .i64 n, .int .i64 r.again, .int .i64 n, v_r_passed]] (.agg #[.int .i64 1, .int .i64 n, .int .i64 r.again, .int .i64 n, v_r_passed]) (fun _ q => (bxx43.loadA rfl q)) rfl ?_
        have ho : (gl r ⟨false, n⟩).1 = ⟨1, n, r.again, n, r.passed⟩ := by rw [gl_before r ⟨false, n⟩ hi rfl]; first | (exfalso; omega) | (simp [*]; done) | (obtain ⟨ph, ho, ag, sh, ps⟩ := r; simp_all; done)
        have f45 := ((((((s_r_passed.ext eh2).ext eh6).mod mh32 (fun b hb hc => by simp at hc; have := lt_r_passed b hb; omega)).mod mh35 (fun b hb hc => by simp at hc; have := lt_r_passed b hb; omega)).mod mh38 (fun b hb hc => by simp at hc; have := lt_r_passed b hb; omega)).mod mh42 (fun b hb hc => by simp at hc; have := lt_r_passed b hb; omega))
        exact ⟨v_r_passed, by first | (rw [ho]; done) | rfl, sl_eq f45 (congrArg (fun o => o.passed) ho).symm, E44, (fun b hb => Or.inl hb)⟩
      ·
        refine v_seq ?_
        refine v_ops ?_
        refine s_pure (.int .i64 n) (fun _ q => q) ?_
        refine s_pure (.bool (n == 0)) (fun _ q => q) ?_
        refine s_pure (.bool (n == 0)) (fun _ q => q) ?_
        refine s_nil ?_
        refine p_seqN ?_
        refine v_cond rfl (fun c46 => ?_) (fun c46 => ?_)
        ·
          refine v_ops ?_
          refine s_pure (.pointer (some ⟨b1, 3, none⟩)) (fun _ q => q) ?_
          refine s_stBx (.int .i64 0) [.int .i64 0] [.int .i64 r.phase, .int .i64 r.holds, .int .i64 r.again, .int .i64 0, v_r_passed] f9 rfl rfl rfl rfl (by simp) (all_cons rfl all_nil) rfl (fun h47 mh47 sh47 bxx48 => ?_)
          have E49 := E7.new mh47 (fun b hb => .inr (by simp at hb; omega))
          refine s_nil ?_
          refine p_blkN ?_
          refine p_seqN ?_
          refine v_seq ?_
          refine v_ops ?_
          refine s_load (.agg #[.int .i64 r.phase, .int .i64 r.holds, .int .i64 r.again, .int .i64 0, v_r_passed]) (fun _ q => bxx48.loadA rfl q) ?_
          have f50 := (bxb5.mod mh47 (by simp; omega))
          refine s_stBx (.agg #[.int .i64 r.phase, .int .i64 r.holds, .int .i64 r.again, .int .i64 0, v_r_passed]) [.int .i64 r.phase, .int .i64 r.holds, .int .i64 r.again, .int .i64 0, v_r_passed] [.int .i64 r.phase, .int .i64 r.holds, .int .i64 r.again, .int .i64 0, v_r_passed] f50 rfl rfl rfl rfl (by simp) (all_cons rfl (all_cons rfl (all_cons rfl (all_cons rfl (all_cons s_r_passed.one1 all_nil))))) rfl (fun h51 mh51 sh51 bxx52 => ?_)
          have E53 := E49.new mh51 (fun b hb => .inr (by simp at hb; omega))
          refine s_nil ?_
          refine p_seqN ?_
          refine v_ret ?_
          refine p_ret [.agg #[.int .i64 r.phase, .int .i64 r.holds, .int .i64 r.again, .int .i64 0, v_r_passed]] (.agg #[.int .i64 r.phase, .int .i64 r.holds, .int .i64 r.again, .int .i64 0, v_r_passed]) (fun _ q => (bxx52.loadA rfl q)) rfl ?_
          have ho : (gl r ⟨false, n⟩).1 = ⟨r.phase, r.holds, r.again, 0, r.passed⟩ := by rw [gl_before r ⟨false, n⟩ hi rfl]; first | (exfalso; omega) | (simp [*]; done) | (obtain ⟨ph, ho, ag, sh, ps⟩ := r; simp_all; done)
          have f54 := ((((s_r_passed.ext eh2).ext eh6).mod mh47 (fun b hb hc => by simp at hc; have := lt_r_passed b hb; omega)).mod mh51 (fun b hb hc => by simp at hc; have := lt_r_passed b hb; omega))
          exact ⟨v_r_passed, by first | (rw [ho]; done) | rfl, sl_eq f54 (congrArg (fun o => o.passed) ho).symm, E53, (fun b hb => Or.inl hb)⟩
        ·
          refine v_ops ?_
          refine s_pure (.pointer (some ⟨b1, 3, none⟩)) (fun _ q => q) ?_
          refine s_stBx (.int .i64 62) [.int .i64 62] [.int .i64 r.phase, .int .i64 r.holds, .int .i64 r.again, .int .i64 62, v_r_passed] f9 rfl rfl rfl rfl (by simp) (all_cons rfl all_nil) rfl (fun h55 mh55 sh55 bxx56 => ?_)
          have E57 := E7.new mh55 (fun b hb => .inr (by simp at hb; omega))
          refine s_nil ?_
          refine p_blkN ?_
          refine p_seqN ?_
          refine v_seq ?_
          refine v_ops ?_
          refine s_load (.agg #[.int .i64 r.phase, .int .i64 r.holds, .int .i64 r.again, .int .i64 62, v_r_passed]) (fun _ q => bxx56.loadA rfl q) ?_
          have f58 := (bxb5.mod mh55 (by simp; omega))
          refine s_stBx (.agg #[.int .i64 r.phase, .int .i64 r.holds, .int .i64 r.again, .int .i64 62, v_r_passed]) [.int .i64 r.phase, .int .i64 r.holds, .int .i64 r.again, .int .i64 62, v_r_passed] [.int .i64 r.phase, .int .i64 r.holds, .int .i64 r.again, .int .i64 62, v_r_passed] f58 rfl rfl rfl rfl (by simp) (all_cons rfl (all_cons rfl (all_cons rfl (all_cons rfl (all_cons s_r_passed.one1 all_nil))))) rfl (fun h59 mh59 sh59 bxx60 => ?_)
          have E61 := E57.new mh59 (fun b hb => .inr (by simp at hb; omega))
          refine s_nil ?_
          refine p_seqN ?_
          refine v_ret ?_
          refine p_ret [.agg #[.int .i64 r.phase, .int .i64 r.holds, .int .i64 r.again, .int .i64 62, v_r_passed]] (.agg #[.int .i64 r.phase, .int .i64 r.holds, .int .i64 r.again, .int .i64 62, v_r_passed]) (fun _ q => (bxx60.loadA rfl q)) rfl ?_
          have ho : (gl r ⟨false, n⟩).1 = ⟨r.phase, r.holds, r.again, 62, r.passed⟩ := by rw [gl_before r ⟨false, n⟩ hi rfl]; first | (exfalso; omega) | (simp [*]; done) | (obtain ⟨ph, ho, ag, sh, ps⟩ := r; simp_all; done)
          have f62 := ((((s_r_passed.ext eh2).ext eh6).mod mh55 (fun b hb hc => by simp at hc; have := lt_r_passed b hb; omega)).mod mh59 (fun b hb hc => by simp at hc; have := lt_r_passed b hb; omega))
          exact ⟨v_r_passed, by first | (rw [ho]; done) | rfl, sl_eq f62 (congrArg (fun o => o.passed) ho).symm, E61, (fun b hb => Or.inl hb)⟩

set_option maxRecDepth 10000 in
set_option maxHeartbeats 4000000 in
theorem spec_rpNext_ok (r : RepP) (v_r_passed : Value) (n : Int) (h : Heap) (s_r_passed : SlO h v_r_passed r.passed) (hi : RInv r) (bl : r.passed.length ≤ 1000) : Cn f_spec_rpNext [.agg #[.int .i64 r.phase, .int .i64 r.holds, .int .i64 r.again, .int .i64 r.shown, v_r_passed], .int .i64 n] h fun v h' => ∃ r0 : Value, v = .agg #[.int .i64 (((gl r ⟨true, n⟩).1).phase), .int .i64 (((gl r ⟨true, n⟩).1).holds), .int .i64 (((gl r ⟨true, n⟩).1).again), .int .i64 (((gl r ⟨true, n⟩).1).shown), r0] ∧ SlO h' r0 (((gl r ⟨true, n⟩).1).passed) ∧ Mod (blks v_r_passed) h h' ∧ ∀ b ∈ blks r0, b ∈ (blks v_r_passed) ∨ h.size ≤ b := by
  have lt_r_passed := s_r_passed.lt
  have l63_r_passed := s_r_passed.len63
  have := hi.a
  refine calls_of r_spec_rpNext ?_
  refine v_seq ?_
  refine v_ops ?_
  refine s_box [.int .i64 r.phase, .int .i64 r.holds, .int .i64 r.again, .int .i64 r.shown, v_r_passed] rfl (fun h2 b1 hbb1 hzb1 eh2 bxb1 => ?_)
  have E3 := (Mod.refl (blks v_r_passed) h).trans (Mod.of_ext eh2 _)
  have z4 := eh2.size
  have lbb1 := bxb1.lt
  refine s_new (fun h6 b5 hbb5 hzb5 eh6 bxb5 => ?_)
  have E7 := E3.trans (Mod.of_ext eh6 _)
  have z8 := eh6.size
  have lbb5 := bxb5.lt
  refine s_nil ?_
  refine p_seqN ?_
  refine v_seq ?_
  refine v_block ?_
  refine v_seq ?_
  refine v_ops ?_
  refine s_pure (.pointer (some ⟨b1, 0, none⟩)) (fun _ q => q) ?_
  have f9 := (bxb1.ext eh6)
  refine s_load (.int .i64 r.phase) (fun _ q => f9.load rfl q) ?_
  refine s_pure (.bool (r.phase != 1)) (fun _ q => q) ?_
  refine s_pure (.bool (r.phase != 1)) (fun _ q => q) ?_
  refine s_splitT rfl (fun c10 => ?_) (fun c10 => ?_)
  ·
    refine s_pass rfl ?_
    refine s_pass rfl ?_
    refine s_pure (.bool true) (fun _ q => q) ?_
    refine s_pure (.bool true) (fun _ q => q) ?_
    refine s_nil ?_
    refine p_seqN ?_
    refine v_condY rfl rfl ?_
    refine v_seq ?_
    refine v_ops ?_
    refine s_load (.agg #[.int .i64 r.phase, .int .i64 r.holds, .int .i64 r.again, .int .i64 r.shown, v_r_passed]) (fun _ q => f9.loadA rfl q) ?_
    refine s_stBx (.agg #[.int .i64 r.phase, .int .i64 r.holds, .int .i64 r.again, .int .i64 r.shown, v_r_passed]) [.int .i64 r.phase, .int .i64 r.holds, .int .i64 r.again, .int .i64 r.shown, v_r_passed] [.int .i64 r.phase, .int .i64 r.holds, .int .i64 r.again, .int .i64 r.shown, v_r_passed] bxb5 rfl rfl rfl rfl (by simp) (all_cons rfl (all_cons rfl (all_cons rfl (all_cons rfl (all_cons s_r_passed.one1 all_nil))))) rfl (fun h11 mh11 sh11 bxx12 => ?_)
    have E13 := E7.new mh11 (fun b hb => .inr (by simp at hb; omega))
    refine s_nil ?_
    refine p_seqN ?_
    refine v_ret ?_
    refine p_blkR ?_
    refine p_seqR ?_
    refine p_ret [.agg #[.int .i64 r.phase, .int .i64 r.holds, .int .i64 r.again, .int .i64 r.shown, v_r_passed]] (.agg #[.int .i64 r.phase, .int .i64 r.holds, .int .i64 r.again, .int .i64 r.shown, v_r_passed]) (fun _ q => (bxx12.loadA rfl q)) rfl ?_
    have ho : (gl r ⟨true, n⟩).1 = ⟨r.phase, r.holds, r.again, r.shown, r.passed⟩ := by rw [gl_next r ⟨true, n⟩ hi rfl]; first | (exfalso; omega) | (simp [*]; done) | (obtain ⟨ph, ho, ag, sh, ps⟩ := r; simp_all; done)
    have f14 := (((s_r_passed.ext eh2).ext eh6).mod mh11 (fun b hb hc => by simp at hc; have := lt_r_passed b hb; omega))
    exact ⟨v_r_passed, by first | (rw [ho]; done) | rfl, sl_eq f14 (congrArg (fun o => o.passed) ho).symm, E13, (fun b hb => Or.inl hb)⟩
  ·
    have c10 := Classical.not_not.1 c10
    refine s_run rfl ?_
    refine s_pure (.int .i64 n) (fun _ q => q) ?_
    refine s_run rfl ?_
    refine s_pure (.bool (n == 0)) (fun _ q => q) ?_
    refine s_pure (.bool (n == 0)) (fun _ q => q) ?_
    refine s_pure (.bool (n == 0)) (fun _ q => q) ?_
    refine s_nil ?_
    refine p_seqN ?_
    refine v_cond rfl (fun c15 => ?_) (fun c15 => ?_)
    ·
      refine v_seq ?_
      refine v_ops ?_
      refine s_load (.agg #[.int .i64 r.phase, .int .i64 r.holds, .int .i64 r.again, .int .i64 r.shown, v_r_passed]) (fun _ q => f9.loadA rfl q) ?_
      refine s_stBx (.agg #[.int .i64 r.phase, .int .i64 r.holds, .int .i64 r.again, .int .i64 r.shown, v_r_passed]) [.int .i64 r.phase, .int .i64 r.holds, .int .i64 r.again, .int .i64 r.shown, v_r_passed] [.int .i64 r.phase, .int .i64 r.holds, .int .i64 r.again, .int .i64 r.shown, v_r_passed] bxb5 rfl rfl rfl rfl (by simp) (all_cons rfl (all_cons rfl (all_cons rfl (all_cons rfl (all_cons s_r_passed.one1 all_nil))))) rfl (fun h16 mh16 sh16 bxx17 => ?_)
      have E18 := E7.new mh16 (fun b hb => .inr (by simp at hb; omega))
      refine s_nil ?_
      refine p_seqN ?_
      refine v_ret ?_
      refine p_blkR ?_
      refine p_seqR ?_
      refine p_ret [.agg #[.int .i64 r.phase, .int .i64 r.holds, .int .i64 r.again, .int .i64 r.shown, v_r_passed]] (.agg #[.int .i64 r.phase, .int .i64 r.holds, .int .i64 r.again, .int .i64 r.shown, v_r_passed]) (fun _ q => (bxx17.loadA rfl q)) rfl ?_
      have ho : (gl r ⟨true, n⟩).1 = ⟨r.phase, r.holds, r.again, r.shown, r.passed⟩ := by rw [gl_next r ⟨true, n⟩ hi rfl]; first | (exfalso; omega) | (simp [*]; done) | (obtain ⟨ph, ho, ag, sh, ps⟩ := r; simp_all; done)
      have f19 := (((s_r_passed.ext eh2).ext eh6).mod mh16 (fun b hb hc => by simp at hc; have := lt_r_passed b hb; omega))
      exact ⟨v_r_passed, by first | (rw [ho]; done) | rfl, sl_eq f19 (congrArg (fun o => o.passed) ho).symm, E18, (fun b hb => Or.inl hb)⟩
    ·
      refine v_seq ?_
      refine v_ops ?_
      refine s_pure (.int .i64 n) (fun _ q => q) ?_
      refine s_pure (.pointer (some ⟨b1, 1, none⟩)) (fun _ q => q) ?_
      refine s_load (.int .i64 r.holds) (fun _ q => f9.load rfl q) ?_
      refine s_pure (.bool (n == r.holds)) (fun _ q => q) ?_
      refine s_pure (.bool (n == r.holds)) (fun _ q => q) ?_
      refine s_nil ?_
      refine p_seqN ?_
      refine v_cond rfl (fun c20 => ?_) (fun c20 => ?_)
      ·
        refine v_seq ?_
        refine v_ops ?_
        refine s_pure (.pointer (some ⟨b1, 4, none⟩)) (fun _ q => q) ?_
        refine s_load v_r_passed (fun _ q => f9.load rfl q) ?_
        have f21 := ((s_r_passed.ext eh2).ext eh6)
        refine s_call [v_r_passed] rfl (spec_l1Own_ok v_r_passed r.passed _ f21.toSl (by first | omega | assumption | (simp; omega))) ?_
        rintro r22 h23 ⟨_, rfl, s_r22, fr_r22, eh23⟩
        have E24 := E7.trans (Mod.of_ext eh23 _)
        have z25 := eh23.size
        have lt_r22 := s_r22.lt
        refine s_pure (.int .i64 n) (fun _ q => q) ?_
        refine s_row (α := Int) [n] (fun _ q => seg_i rfl (seg_nil q)) rfl (by simp [maxLen]) (fun r26 h27 eh27 zh27 s_r26 fr_r26 => ?_)
        have E28 := E24.trans (Mod.of_ext eh27 _)
        have z29 := eh27.size
        have lt_r26 := s_r26.lt
        have f30 := (s_r22.ext eh27)
        refine s_app f30 s_r26 rfl rfl rfl (by simp [maxLen]; omega) (by simp; omega) (fun r31 h32 mh32 zh32 s_r31 ab_r31 => ?_)
        have E33 := E28.new mh32 (fun b hb => .inr (by have := fr_r22 b hb; omega))
        have fr_r31 := fr_r22.app ab_r31 (by omega)
        have np34 : ∀ b ∈ blks r26, b ∉ blks r31 := fun b hb hc => (ab_r31 _ hc).elim (((fun b hb hc => by have := fr_r26 b hb; have := lt_r22 b hc; omega) : ∀ b ∈ blks r26, b ∉ blks r22) b hb) (fun hc => by have := lt_r26 b hb; omega)
        have lt_r31 := s_r31.lt
        refine s_call [r31] rfl (spec_rpWaits_ok r31 (r.passed ++ [n]) _ s_r31.toSl (by first | omega | assumption | (simp; omega))) ?_
        rintro _ h36 ⟨r35, rfl, s_r35, fr_r35, eh36⟩
        have E37 := E33.trans (Mod.of_ext eh36 _)
        have z38 := eh36.size
        have lt_r35 := s_r35.lt
        refine s_new (fun h40 b39 hbb39 hzb39 eh40 bxb39 => ?_)
        have E41 := E37.trans (Mod.of_ext eh40 _)
        have z42 := eh40.size
        have lbb39 := bxb39.lt
        refine s_stBx (.agg #[.int .i64 ((⟨0, 0, 0, 0, (r.passed ++ [n])⟩ : RepP).phase), .int .i64 ((⟨0, 0, 0, 0, (r.passed ++ [n])⟩ : RepP).holds), .int .i64 ((⟨0, 0, 0, 0, (r.passed ++ [n])⟩ : RepP).again), .int .i64 ((⟨0, 0, 0, 0, (r.passed ++ [n])⟩ : RepP).shown), r35]) [.int .i64 ((⟨0, 0, 0, 0, (r.passed ++ [n])⟩ : RepP).phase), .int .i64 ((⟨0, 0, 0, 0, (r.passed ++ [n])⟩ : RepP).holds), .int .i64 ((⟨0, 0, 0, 0, (r.passed ++ [n])⟩ : RepP).again), .int .i64 ((⟨0, 0, 0, 0, (r.passed ++ [n])⟩ : RepP).shown), r35] [.int .i64 ((⟨0, 0, 0, 0, (r.passed ++ [n])⟩ : RepP).phase), .int .i64 ((⟨0, 0, 0, 0, (r.passed ++ [n])⟩ : RepP).holds), .int .i64 ((⟨0, 0, 0, 0, (r.passed ++ [n])⟩ : RepP).again), .int .i64 ((⟨0, 0, 0, 0, (r.passed ++ [n])⟩ : RepP).shown), r35] bxb39 rfl rfl rfl rfl (by simp) (all_cons rfl (all_cons rfl (all_cons rfl (all_cons rfl (all_cons s_r35.one1 all_nil))))) rfl (fun h43 mh43 sh43 bxx44 => ?_)
        have E45 := E41.new mh43 (fun b hb => .inr (by simp at hb; omega))
        refine s_nil ?_
        refine p_seqN ?_
        refine v_seq ?_
        refine v_seq ?_
        refine v_ops ?_
        refine s_pure (.int .i64 n) (fun _ q => q) ?_
        refine s_pure (.bool (n == 61)) (fun _ q => q) ?_
        refine s_nil ?_
        refine p_seqN ?_
        refine v_cond rfl (fun c46 => ?_) (fun c46 => ?_)
        ·
          refine v_ops ?_
          refine s_pure (.pointer (some ⟨b39, 0, none⟩)) (fun _ q => q) ?_
          refine s_stBx (.int .i64 3) [.int .i64 3] [.int .i64 3, .int .i64 ((⟨0, 0, 0, 0, (r.passed ++ [n])⟩ : RepP).holds), .int .i64 ((⟨0, 0, 0, 0, (r.passed ++ [n])⟩ : RepP).again), .int .i64 ((⟨0, 0, 0, 0, (r.passed ++ [n])⟩ : RepP).shown), r35] bxx44 rfl rfl rfl rfl (by simp) (all_cons rfl all_nil) rfl (fun h47 mh47 sh47 bxx48 => ?_)
          have E49 := E45.new mh47 (fun b hb => .inr (by simp at hb; omega))
          refine s_nil ?_
          refine p_seqN ?_
          refine v_seq ?_
          refine v_ops ?_
          refine s_load (.agg #[.int .i64 3, .int .i64 ((⟨0, 0, 0, 0, (r.passed ++ [n])⟩ : RepP).holds), .int .i64 ((⟨0, 0, 0, 0, (r.passed ++ [n])⟩ : RepP).again), .int .i64 ((⟨0, 0, 0, 0, (r.passed ++ [n])⟩ : RepP).shown), r35]) (fun _ q => bxx48.loadA rfl q) ?_
          have f50 := (((((((bxb5.ext eh23).ext eh27).mod mh32 (fun hc => by have := fr_r22 _ hc; omega)).ext eh36).ext eh40).mod mh43 (by simp; omega)).mod mh47 (by simp; omega))
          refine s_stBx (.agg #[.int .i64 3, .int .i64 ((⟨0, 0, 0, 0, (r.passed ++ [n])⟩ : RepP).holds), .int .i64 ((⟨0, 0, 0, 0, (r.passed ++ [n])⟩ : RepP).again), .int .i64 ((⟨0, 0, 0, 0, (r.passed ++ [n])⟩ : RepP).shown), r35]) [.int .i64 3, .int .i64 ((⟨0, 0, 0, 0, (r.passed ++ [n])⟩ : RepP).holds), .int .i64 ((⟨0, 0, 0, 0, (r.passed ++ [n])⟩ : RepP).again), .int .i64 ((⟨0, 0, 0, 0, (r.passed ++ [n])⟩ : RepP).shown), r35] [.int .i64 3, .int .i64 ((⟨0, 0, 0, 0, (r.passed ++ [n])⟩ : RepP).holds), .int .i64 ((⟨0, 0, 0, 0, (r.passed ++ [n])⟩ : RepP).again), .int .i64 ((⟨0, 0, 0, 0, (r.passed ++ [n])⟩ : RepP).shown), r35] f50 rfl rfl rfl rfl (by simp) (all_cons rfl (all_cons rfl (all_cons rfl (all_cons rfl (all_cons s_r35.one1 all_nil))))) rfl (fun h51 mh51 sh51 bxx52 => ?_)
          have E53 := E49.new mh51 (fun b hb => .inr (by simp at hb; omega))
          refine s_nil ?_
          refine p_seqN ?_
          refine v_ret ?_
          refine p_blkR ?_
          refine p_seqR ?_
          refine p_ret [.agg #[.int .i64 3, .int .i64 ((⟨0, 0, 0, 0, (r.passed ++ [n])⟩ : RepP).holds), .int .i64 ((⟨0, 0, 0, 0, (r.passed ++ [n])⟩ : RepP).again), .int .i64 ((⟨0, 0, 0, 0, (r.passed ++ [n])⟩ : RepP).shown), r35]] (.agg #[.int .i64 3, .int .i64 ((⟨0, 0, 0, 0, (r.passed ++ [n])⟩ : RepP).holds), .int .i64 ((⟨0, 0, 0, 0, (r.passed ++ [n])⟩ : RepP).again), .int .i64 ((⟨0, 0, 0, 0, (r.passed ++ [n])⟩ : RepP).shown), r35]) (fun _ q => (bxx52.loadA rfl q)) rfl ?_
          have ho : (gl r ⟨true, n⟩).1 = ⟨3, (⟨0, 0, 0, 0, (r.passed ++ [n])⟩ : RepP).holds, (⟨0, 0, 0, 0, (r.passed ++ [n])⟩ : RepP).again, (⟨0, 0, 0, 0, (r.passed ++ [n])⟩ : RepP).shown, (⟨0, 0, 0, 0, (r.passed ++ [n])⟩ : RepP).passed⟩ := by rw [gl_next r ⟨true, n⟩ hi rfl]; first | (exfalso; omega) | (simp [*]; done) | (obtain ⟨ph, ho, ag, sh, ps⟩ := r; simp_all; done)
          have f54 := ((((s_r35.ext eh40).mod mh43 (fun b hb hc => by simp at hc; have := lt_r35 b hb; omega)).mod mh47 (fun b hb hc => by simp at hc; have := lt_r35 b hb; omega)).mod mh51 (fun b hb hc => by simp at hc; have := fr_r35 b hb; omega))
          exact ⟨r35, by first | (rw [ho]; done) | rfl, sl_eq f54 (congrArg (fun o => o.passed) ho).symm, E53, (fun b hb => Or.inr (fr_r35.mono (by omega) b hb))⟩
        ·
          refine v_skip ?_
          refine p_seqN ?_
          refine v_seq ?_
          refine v_ops ?_
          refine s_load (.agg #[.int .i64 ((⟨0, 0, 0, 0, (r.passed ++ [n])⟩ : RepP).phase), .int .i64 ((⟨0, 0, 0, 0, (r.passed ++ [n])⟩ : RepP).holds), .int .i64 ((⟨0, 0, 0, 0, (r.passed ++ [n])⟩ : RepP).again), .int .i64 ((⟨0, 0, 0, 0, (r.passed ++ [n])⟩ : RepP).shown), r35]) (fun _ q => bxx44.loadA rfl q) ?_
          have f55 := ((((((bxb5.ext eh23).ext eh27).mod mh32 (fun hc => by have := fr_r22 _ hc; omega)).ext eh36).ext eh40).mod mh43 (by simp; omega))
          refine s_stBx (.agg #[.int .i64 ((⟨0, 0, 0, 0, (r.passed ++ [n])⟩ : RepP).phase), .int .i64 ((⟨0, 0, 0, 0, (r.passed ++ [n])⟩ : RepP).holds), .int .i64 ((⟨0, 0, 0, 0, (r.passed ++ [n])⟩ : RepP).again), .int .i64 ((⟨0, 0, 0, 0, (r.passed ++ [n])⟩ : RepP).shown), r35]) [.int .i64 ((⟨0, 0, 0, 0, (r.passed ++ [n])⟩ : RepP).phase), .int .i64 ((⟨0, 0, 0, 0, (r.passed ++ [n])⟩ : RepP).holds), .int .i64 ((⟨0, 0, 0, 0, (r.passed ++ [n])⟩ : RepP).again), .int .i64 ((⟨0, 0, 0, 0, (r.passed ++ [n])⟩ : RepP).shown), r35] [.int .i64 ((⟨0, 0, 0, 0, (r.passed ++ [n])⟩ : RepP).phase), .int .i64 ((⟨0, 0, 0, 0, (r.passed ++ [n])⟩ : RepP).holds), .int .i64 ((⟨0, 0, 0, 0, (r.passed ++ [n])⟩ : RepP).again), .int .i64 ((⟨0, 0, 0, 0, (r.passed ++ [n])⟩ : RepP).shown), r35] f55 rfl rfl rfl rfl (by simp) (all_cons rfl (all_cons rfl (all_cons rfl (all_cons rfl (all_cons s_r35.one1 all_nil))))) rfl (fun h56 mh56 sh56 bxx57 => ?_)
          have E58 := E45.new mh56 (fun b hb => .inr (by simp at hb; omega))
          refine s_nil ?_
          refine p_seqN ?_
          refine v_ret ?_
          refine p_blkR ?_
          refine p_seqR ?_
          refine p_ret [.agg #[.int .i64 ((⟨0, 0, 0, 0, (r.passed ++ [n])⟩ : RepP).phase), .int .i64 ((⟨0, 0, 0, 0, (r.passed ++ [n])⟩ : RepP).holds), .int .i64 ((⟨0, 0, 0, 0, (r.passed ++ [n])⟩ : RepP).again), .int .i64 ((⟨0, 0, 0, 0, (r.passed ++ [n])⟩ : RepP).shown), r35]] (.agg #[.int .i64 ((⟨0, 0, 0, 0, (r.passed ++ [n])⟩ : RepP).phase), .int .i64 ((⟨0, 0, 0, 0, (r.passed ++ [n])⟩ : RepP).holds), .int .i64 ((⟨0, 0, 0, 0, (r.passed ++ [n])⟩ : RepP).again), .int .i64 ((⟨0, 0, 0, 0, (r.passed ++ [n])⟩ : RepP).shown), r35]) (fun _ q => (bxx57.loadA rfl q)) rfl ?_
          have ho : (gl r ⟨true, n⟩).1 = ⟨(⟨0, 0, 0, 0, (r.passed ++ [n])⟩ : RepP).phase, (⟨0, 0, 0, 0, (r.passed ++ [n])⟩ : RepP).holds, (⟨0, 0, 0, 0, (r.passed ++ [n])⟩ : RepP).again, (⟨0, 0, 0, 0, (r.passed ++ [n])⟩ : RepP).shown, (⟨0, 0, 0, 0, (r.passed ++ [n])⟩ : RepP).passed⟩ := by rw [gl_next r ⟨true, n⟩ hi rfl]; first | (exfalso; omega) | (simp [*]; done) | (obtain ⟨ph, ho, ag, sh, ps⟩ := r; simp_all; done)
          have f59 := (((s_r35.ext eh40).mod mh43 (fun b hb hc => by simp at hc; have := lt_r35 b hb; omega)).mod mh56 (fun b hb hc => by simp at hc; have := fr_r35 b hb; omega))
          exact ⟨r35, by first | (rw [ho]; done) | rfl, sl_eq f59 (congrArg (fun o => o.passed) ho).symm, E58, (fun b hb => Or.inr (fr_r35.mono (by omega) b hb))⟩
      ·
        refine v_seq ?_
        refine v_ops ?_
        refine s_pure (.pointer (some ⟨b1, 2, none⟩)) (fun _ q => q) ?_
        refine s_load (.int .i64 r.again) (fun _ q => f9.load rfl q) ?_
        refine s_pure (.bool (r.again == 3)) (fun _ q => q) ?_
        refine s_pure (.bool (r.again == 3)) (fun _ q => q) ?_
        refine s_nil ?_
        refine p_seqN ?_
        refine v_cond rfl (fun c60 => ?_) (fun c60 => ?_)
        ·
          refine v_seq ?_
          refine v_ops ?_
          refine s_pure (.pointer (some ⟨b1, 0, none⟩)) (fun _ q => q) ?_
          refine s_stBx (.int .i64 2) [.int .i64 2] [.int .i64 2, .int .i64 r.holds, .int .i64 r.again, .int .i64 r.shown, v_r_passed] f9 rfl rfl rfl rfl (by simp) (all_cons rfl all_nil) rfl (fun h61 mh61 sh61 bxx62 => ?_)
          have E63 := E7.new mh61 (fun b hb => .inr (by simp at hb; omega))
          refine s_nil ?_
          refine p_seqN ?_
          refine v_ops ?_
          refine s_pure (.pointer (some ⟨b1, 3, none⟩)) (fun _ q => q) ?_
          refine s_stBx (.int .i64 63) [.int .i64 63] [.int .i64 2, .int .i64 r.holds, .int .i64 r.again, .int .i64 63, v_r_passed] bxx62 rfl rfl rfl rfl (by simp) (all_cons rfl all_nil) rfl (fun h64 mh64 sh64 bxx65 => ?_)
          have E66 := E63.new mh64 (fun b hb => .inr (by simp at hb; omega))
          refine s_nil ?_
          refine p_blkN ?_
          refine p_seqN ?_
          refine v_seq ?_
          refine v_ops ?_
          refine s_load (.agg #[.int .i64 2, .int .i64 r.holds, .int .i64 r.again, .int .i64 63, v_r_passed]) (fun _ q => bxx65.loadA rfl q) ?_
          have f67 := ((bxb5.mod mh61 (by simp; omega)).mod mh64 (by simp; omega))
          refine s_stBx (.agg #[.int .i64 2, .int .i64 r.holds, .int .i64 r.again, .int .i64 63, v_r_passed]) [.int .i64 2, .int .i64 r.holds, .int .i64 r.again, .int .i64 63, v_r_passed] [.int .i64 2, .int .i64 r.holds, .int .i64 r.again, .int .i64 63, v_r_passed] f67 rfl rfl rfl rfl (by simp) (all_cons rfl (all_cons rfl (all_cons rfl (all_cons rfl (all_cons s_r_passed.one1 all_nil))))) rfl (fun h68 mh68 sh68 bxx69 => ?_)
          have E70 := E66.new mh68 (fun b hb => .inr (by simp at hb; omega))
          refine s_nil ?_
          refine p_seqN ?_
          refine v_ret ?_
          refine p_ret [.agg #[.int .i64 2, .int .i64 r.holds, .int .i64 r.again, .int .i64 63, v_r_passed]] (.agg #[.int .i64 2, .int .i64 r.holds, .int .i64 r.again, .int .i64 63, v_r_passed]) (fun _ q => (bxx69.loadA rfl q)) rfl ?_
          have ho : (gl r ⟨true, n⟩).1 = ⟨2, r.holds, r.again, 63, r.passed⟩ := by rw [gl_next r ⟨true, n⟩ hi rfl]; first | (exfalso; omega) | (simp [*]; done) | (obtain ⟨ph, ho, ag, sh, ps⟩ := r; simp_all; done)
          have f71 := (((((s_r_passed.ext eh2).ext eh6).mod mh61 (fun b hb hc => by simp at hc; have := lt_r_passed b hb; omega)).mod mh64 (fun b hb hc => by simp at hc; have := lt_r_passed b hb; omega)).mod mh68 (fun b hb hc => by simp at hc; have := lt_r_passed b hb; omega))
          exact ⟨v_r_passed, by first | (rw [ho]; done) | rfl, sl_eq f71 (congrArg (fun o => o.passed) ho).symm, E70, (fun b hb => Or.inl hb)⟩
        ·
          refine v_ops ?_
          refine s_pure (.pointer (some ⟨b1, 2, none⟩)) (fun _ q => q) ?_
          refine s_load (.int .i64 r.again) (fun _ q => f9.load rfl q) ?_
          refine s_pure (.int .i64 (r.again + 1)) (fun _ q => ArithVC.mk (by omega) q) ?_
          refine s_pure (.pointer (some ⟨b1, 2, none⟩)) (fun _ q => q) ?_
          refine s_stBx (.int .i64 (r.again + 1)) [.int .i64 (r.again + 1)] [.int .i64 r.phase, .int .i64 r.holds, .int .i64 (r.again + 1), .int .i64 r.shown, v_r_passed] f9 rfl rfl rfl rfl (by simp) (all_cons rfl all_nil) rfl (fun h72 mh72 sh72 bxx73 => ?_)
          have E74 := E7.new mh72 (fun b hb => .inr (by simp at hb; omega))
          refine s_nil ?_
          refine p_blkN ?_
          refine p_seqN ?_
          refine v_seq ?_
          refine v_ops ?_
          refine s_load (.agg #[.int .i64 r.phase, .int .i64 r.holds, .int .i64 (r.again + 1), .int .i64 r.shown, v_r_passed]) (fun _ q => bxx73.loadA rfl q) ?_
          have f75 := (bxb5.mod mh72 (by simp; omega))
          refine s_stBx (.agg #[.int .i64 r.phase, .int .i64 r.holds, .int .i64 (r.again + 1), .int .i64 r.shown, v_r_passed]) [.int .i64 r.phase, .int .i64 r.holds, .int .i64 (r.again + 1), .int .i64 r.shown, v_r_passed] [.int .i64 r.phase, .int .i64 r.holds, .int .i64 (r.again + 1), .int .i64 r.shown, v_r_passed] f75 rfl rfl rfl rfl (by simp) (all_cons rfl (all_cons rfl (all_cons rfl (all_cons rfl (all_cons s_r_passed.one1 all_nil))))) rfl (fun h76 mh76 sh76 bxx77 => ?_)
          have E78 := E74.new mh76 (fun b hb => .inr (by simp at hb; omega))
          refine s_nil ?_
          refine p_seqN ?_
          refine v_ret ?_
          refine p_ret [.agg #[.int .i64 r.phase, .int .i64 r.holds, .int .i64 (r.again + 1), .int .i64 r.shown, v_r_passed]] (.agg #[.int .i64 r.phase, .int .i64 r.holds, .int .i64 (r.again + 1), .int .i64 r.shown, v_r_passed]) (fun _ q => (bxx77.loadA rfl q)) rfl ?_
          have ho : (gl r ⟨true, n⟩).1 = ⟨r.phase, r.holds, (r.again + 1), r.shown, r.passed⟩ := by rw [gl_next r ⟨true, n⟩ hi rfl]; first | (exfalso; omega) | (simp [*]; done) | (obtain ⟨ph, ho, ag, sh, ps⟩ := r; simp_all; done)
          have f79 := ((((s_r_passed.ext eh2).ext eh6).mod mh72 (fun b hb hc => by simp at hc; have := lt_r_passed b hb; omega)).mod mh76 (fun b hb hc => by simp at hc; have := lt_r_passed b hb; omega))
          exact ⟨v_r_passed, by first | (rw [ho]; done) | rfl, sl_eq f79 (congrArg (fun o => o.passed) ho).symm, E78, (fun b hb => Or.inl hb)⟩

theorem spec_rpStep_ok (r : RepP) (v_r_passed : Value) (g : GlanceD) (h : Heap) (s_r_passed : Sl h v_r_passed r.passed) (hi : RInv r) (bl : r.passed.length ≤ 1000) : Cn f_spec_rpStep [.agg #[.int .i64 r.phase, .int .i64 r.holds, .int .i64 r.again, .int .i64 r.shown, v_r_passed], .agg #[.bool g.next, .int .i64 g.signal]] h fun v h' => ∃ r0 : Value, v = .agg #[.int .i64 (((gl r g).1).phase), .int .i64 (((gl r g).1).holds), .int .i64 (((gl r g).1).again), .int .i64 (((gl r g).1).shown), r0] ∧ SlO h' r0 (((gl r g).1).passed) ∧ Fr h.size r0 ∧ Ext h h' := by
  have lt_r_passed := s_r_passed.lt
  have l63_r_passed := s_r_passed.len63
  refine calls_of r_spec_rpStep ?_
  refine v_seq ?_
  refine v_ops ?_
  refine s_box [.int .i64 r.phase, .int .i64 r.holds, .int .i64 r.again, .int .i64 r.shown, v_r_passed] rfl (fun h2 b1 hbb1 hzb1 eh2 bxb1 => ?_)
  have E3 := (Ext.refl h).trans eh2
  have z4 := eh2.size
  have lbb1 := bxb1.lt
  refine s_box [.bool g.next, .int .i64 g.signal] rfl (fun h6 b5 hbb5 hzb5 eh6 bxb5 => ?_)
  have E7 := E3.trans eh6
  have z8 := eh6.size
  have lbb5 := bxb5.lt
  refine s_new (fun h10 b9 hbb9 hzb9 eh10 bxb9 => ?_)
  have E11 := E7.trans eh10
  have z12 := eh10.size
  have lbb9 := bxb9.lt
  refine s_nil ?_
  refine p_seqN ?_
  refine v_seq ?_
  refine v_ops ?_
  refine s_pure (.pointer (some ⟨b1, 4, none⟩)) (fun _ q => q) ?_
  have f13 := ((bxb1.ext eh6).ext eh10)
  refine s_load v_r_passed (fun _ q => f13.load rfl q) ?_
  have f14 := (((s_r_passed.ext eh2).ext eh6).ext eh10)
  refine s_call [v_r_passed] rfl (spec_l1Own_ok v_r_passed r.passed _ f14 (by first | omega | assumption | (simp; omega))) ?_
  rintro r15 h16 ⟨_, rfl, s_r15, fr_r15, eh16⟩
  have E17 := E11.trans eh16
  have z18 := eh16.size
  have lt_r15 := s_r15.lt
  refine s_pure (.pointer (some ⟨b1, 4, none⟩)) (fun _ q => q) ?_
  have f19 := (f13.ext eh16)
  refine s_stBx r15 [r15] [.int .i64 r.phase, .int .i64 r.holds, .int .i64 r.again, .int .i64 r.shown, r15] f19 rfl rfl s_r15.cellsv rfl (by simp) (all_cons s_r15.one1 all_nil) rfl (fun h20 mh20 sh20 bxx21 => ?_)
  have E22 := E17.mod mh20 (fun b hb => by simp at hb; omega)
  refine s_nil ?_
  refine p_seqN ?_
  refine v_seq ?_
  refine v_seq ?_
  refine v_ops ?_
  refine s_pure (.pointer (some ⟨b5, 0, none⟩)) (fun _ q => q) ?_
  have f23 := (((bxb5.ext eh10).ext eh16).mod mh20 (by simp; omega))
  refine s_load (.bool g.next) (fun _ q => f23.load rfl q) ?_
  refine s_nil ?_
  refine p_seqN ?_
  refine v_cond rfl (fun c24 => ?_) (fun c24 => ?_)
  ·
    refine v_seq ?_
    refine v_ops ?_
    refine s_load (.agg #[.int .i64 r.phase, .int .i64 r.holds, .int .i64 r.again, .int .i64 r.shown, r15]) (fun _ q => bxx21.loadA rfl q) ?_
    refine s_pure (.pointer (some ⟨b5, 1, none⟩)) (fun _ q => q) ?_
    refine s_load (.int .i64 g.signal) (fun _ q => f23.load rfl q) ?_
    have f25 := (s_r15.mod mh20 (fun b hb hc => by simp at hc; have := fr_r15 b hb; omega))
    refine s_call [.agg #[.int .i64 r.phase, .int .i64 r.holds, .int .i64 r.again, .int .i64 r.shown, r15], .int .i64 g.signal] rfl (spec_rpNext_ok r r15 g.signal _ f25 (by first | omega | assumption | (simp; omega)) (by first | omega | assumption | (simp; omega))) ?_
    rintro _ h27 ⟨r26, rfl, s_r26, mh27, ab_r26⟩
    have zh27 := mh27.size
    have E28 := E22.mod mh27 (fun b hb => by have := fr_r15 b hb; omega)
    have fr_r26 := fr_r15.app ab_r26 (by omega)
    have lt_r26 := s_r26.lt
    have f29 := (((bxb9.ext eh16).mod mh20 (by simp; omega)).mod mh27 (fun hc => by have := fr_r15 _ hc; omega))
    refine s_stBx (.agg #[.int .i64 (((gl r ⟨true, g.signal⟩).1).phase), .int .i64 (((gl r ⟨true, g.signal⟩).1).holds), .int .i64 (((gl r ⟨true, g.signal⟩).1).again), .int .i64 (((gl r ⟨true, g.signal⟩).1).shown), r26]) [.int .i64 (((gl r ⟨true, g.signal⟩).1).phase), .int .i64 (((gl r ⟨true, g.signal⟩).1).holds), .int .i64 (((gl r ⟨true, g.signal⟩).1).again), .int .i64 (((gl r ⟨true, g.signal⟩).1).shown), r26] [.int .i64 (((gl r ⟨true, g.signal⟩).1).phase), .int .i64 (((gl r ⟨true, g.signal⟩).1).holds), .int .i64 (((gl r ⟨true, g.signal⟩).1).again), .int .i64 (((gl r ⟨true, g.signal⟩).1).shown), r26] f29 rfl rfl rfl rfl (by simp) (all_cons rfl (all_cons rfl (all_cons rfl (all_cons rfl (all_cons s_r26.one1 all_nil))))) rfl (fun h30 mh30 sh30 bxx31 => ?_)
    have E32 := E28.mod mh30 (fun b hb => by simp at hb; omega)
    refine s_nil ?_
    refine p_seqN ?_
    refine v_ret ?_
    refine p_seqR ?_
    refine p_ret [.agg #[.int .i64 (((gl r ⟨true, g.signal⟩).1).phase), .int .i64 (((gl r ⟨true, g.signal⟩).1).holds), .int .i64 (((gl r ⟨true, g.signal⟩).1).again), .int .i64 (((gl r ⟨true, g.signal⟩).1).shown), r26]] (.agg #[.int .i64 (((gl r ⟨true, g.signal⟩).1).phase), .int .i64 (((gl r ⟨true, g.signal⟩).1).holds), .int .i64 (((gl r ⟨true, g.signal⟩).1).again), .int .i64 (((gl r ⟨true, g.signal⟩).1).shown), r26]) (fun _ q => (bxx31.loadA rfl q)) rfl ?_
    have ho : (gl r g).1 = ⟨((gl r ⟨true, g.signal⟩).1).phase, ((gl r ⟨true, g.signal⟩).1).holds, ((gl r ⟨true, g.signal⟩).1).again, ((gl r ⟨true, g.signal⟩).1).shown, ((gl r ⟨true, g.signal⟩).1).passed⟩ := by first | (rw [gd_t g (by assumption)]; done) | (rw [gd_f g (by assumption)]; done)
    have f33 := (s_r26.mod mh30 (fun b hb hc => by simp at hc; have := fr_r26 b hb; omega))
    exact ⟨r26, by first | (rw [ho]; done) | rfl, sl_eq f33 (congrArg (fun o => o.passed) ho).symm, fr_r26.mono (by omega), E32⟩
  ·
    refine v_skip ?_
    refine p_seqN ?_
    refine v_seq ?_
    refine v_ops ?_
    refine s_load (.agg #[.int .i64 r.phase, .int .i64 r.holds, .int .i64 r.again, .int .i64 r.shown, r15]) (fun _ q => bxx21.loadA rfl q) ?_
    refine s_pure (.pointer (some ⟨b5, 1, none⟩)) (fun _ q => q) ?_
    refine s_load (.int .i64 g.signal) (fun _ q => f23.load rfl q) ?_
    have f34 := (s_r15.mod mh20 (fun b hb hc => by simp at hc; have := fr_r15 b hb; omega))
    refine s_call [.agg #[.int .i64 r.phase, .int .i64 r.holds, .int .i64 r.again, .int .i64 r.shown, r15], .int .i64 g.signal] rfl (spec_rpBefore_ok r r15 g.signal _ f34 (by first | omega | assumption | (simp; omega)) (by first | omega | assumption | (simp; omega))) ?_
    rintro _ h36 ⟨r35, rfl, s_r35, mh36, ab_r35⟩
    have zh36 := mh36.size
    have E37 := E22.mod mh36 (fun b hb => by have := fr_r15 b hb; omega)
    have fr_r35 := fr_r15.app ab_r35 (by omega)
    have lt_r35 := s_r35.lt
    have f38 := (((bxb9.ext eh16).mod mh20 (by simp; omega)).mod mh36 (fun hc => by have := fr_r15 _ hc; omega))
    refine s_stBx (.agg #[.int .i64 (((gl r ⟨false, g.signal⟩).1).phase), .int .i64 (((gl r ⟨false, g.signal⟩).1).holds), .int .i64 (((gl r ⟨false, g.signal⟩).1).again), .int .i64 (((gl r ⟨false, g.signal⟩).1).shown), r35]) [.int .i64 (((gl r ⟨false, g.signal⟩).1).phase), .int .i64 (((gl r ⟨false, g.signal⟩).1).holds), .int .i64 (((gl r ⟨false, g.signal⟩).1).again), .int .i64 (((gl r ⟨false, g.signal⟩).1).shown), r35] [.int .i64 (((gl r ⟨false, g.signal⟩).1).phase), .int .i64 (((gl r ⟨false, g.signal⟩).1).holds), .int .i64 (((gl r ⟨false, g.signal⟩).1).again), .int .i64 (((gl r ⟨false, g.signal⟩).1).shown), r35] f38 rfl rfl rfl rfl (by simp) (all_cons rfl (all_cons rfl (all_cons rfl (all_cons rfl (all_cons s_r35.one1 all_nil))))) rfl (fun h39 mh39 sh39 bxx40 => ?_)
    have E41 := E37.mod mh39 (fun b hb => by simp at hb; omega)
    refine s_nil ?_
    refine p_seqN ?_
    refine v_ret ?_
    refine p_ret [.agg #[.int .i64 (((gl r ⟨false, g.signal⟩).1).phase), .int .i64 (((gl r ⟨false, g.signal⟩).1).holds), .int .i64 (((gl r ⟨false, g.signal⟩).1).again), .int .i64 (((gl r ⟨false, g.signal⟩).1).shown), r35]] (.agg #[.int .i64 (((gl r ⟨false, g.signal⟩).1).phase), .int .i64 (((gl r ⟨false, g.signal⟩).1).holds), .int .i64 (((gl r ⟨false, g.signal⟩).1).again), .int .i64 (((gl r ⟨false, g.signal⟩).1).shown), r35]) (fun _ q => (bxx40.loadA rfl q)) rfl ?_
    have ho : (gl r g).1 = ⟨((gl r ⟨false, g.signal⟩).1).phase, ((gl r ⟨false, g.signal⟩).1).holds, ((gl r ⟨false, g.signal⟩).1).again, ((gl r ⟨false, g.signal⟩).1).shown, ((gl r ⟨false, g.signal⟩).1).passed⟩ := by first | (rw [gd_t g (by assumption)]; done) | (rw [gd_f g (by assumption)]; done)
    have f42 := (s_r35.mod mh39 (fun b hb hc => by simp at hc; have := fr_r35 b hb; omega))
    exact ⟨r35, by first | (rw [ho]; done) | rfl, sl_eq f42 (congrArg (fun o => o.passed) ho).symm, fr_r35.mono (by omega), E41⟩

end Go.Proofs.Ytpbjcaadnbeplaa


