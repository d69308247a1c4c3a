/- Repeaters along glances. Condition: none. Printed in part by a program. -/
import Derived.Test.YtpbjcaadnbeplaaRp5
namespace Go.Proofs.Ytpbjcaadnbeplaa
open Go.Vc
set_option linter.all false

theorem run_mono (r : RepP) (l : List GlanceD) (k : Nat) : (run r (l.take k)).passed.length ≤ (run r l).passed.length := by
  have e : run r l = run (run r (l.take k)) (l.drop k) := by
    unfold run; rw [← List.foldl_append, List.take_append_drop]
  rw [e]
  generalize run r (l.take k) = q
  generalize l.drop k = m
  induction m generalizing q with
  | nil => simp [run]
  | cons g m ih => exact Nat.le_trans (gl_len q g).1 (ih _)
noncomputable def rgOut (r : RepP) (l : List GlanceD) : RepP × Bool := if RepOk r ∧ GlOk l ∧ (run r l).passed.length ≤ 80 then (run r l, true) else (rz, false)
theorem rg_no {r : RepP} {l : List GlanceD} (h : ¬ RepOk r ∨ ¬ GlOk l) : rgOut r l = (rz, false) := by rw [rgOut, if_neg (fun hh => h.elim (fun q => q hh.1) (fun q => q hh.2.1))]
theorem rg_far {r q : RepP} {l : List GlanceD} {k : Nat} {x : GlanceD} (hx : l[k]? = some x) (hq : q = run r (l.take k)) (hl : 80 < (gl q x).1.passed.length) : rgOut r l = (rz, false) := by
  rw [run_step hx hq] at hl
  have := run_mono r l (k + 1)
  rw [rgOut, if_neg (fun hh => by omega)]
theorem rg_yes {r q : RepP} {l : List GlanceD} {k : Nat} (ho : RepOk r) (hg : GlOk l) (hq : q = run r (l.take k)) (hk : ¬ (k : Int) < (l.length : Int)) (hl : q.passed.length ≤ 80) : rgOut r l = (q, true) := by
  rw [take_all hk] at hq
  rw [rgOut, if_pos ⟨ho, hg, by rw [← hq]; exact hl⟩, hq]
theorem glok_one {g : GlanceD} : GlOk [g] ↔ 0 ≤ g.signal ∧ g.signal ≤ 63 := by simp [GlOk]
theorem rg_one {r : RepP} {g : GlanceD} (ho : RepOk r) (hg : 0 ≤ g.signal ∧ g.signal ≤ 63) (hl : (gl r g).1.passed.length ≤ 80) : rgOut r [g] = ((gl r g).1, true) := by
  rw [rgOut, if_pos ⟨ho, glok_one.2 hg, hl⟩]; rfl
theorem rg_one_no {r : RepP} {g : GlanceD} (hl : ¬ (gl r g).1.passed.length ≤ 80) : rgOut r [g] = (rz, false) := by
  rw [rgOut, if_neg (fun hh => hl hh.2.2)]
noncomputable def pbOut (l : List GlanceD) : List Int × Int × Bool := ((rgOut rz l).1.passed, (rgOut rz l).1.phase, (rgOut rz l).2)

theorem slices_Clone_Lint_int_ok (v_l : Value) (l : List Int) (h : Heap) (s_l : Sl h v_l l) (bl : l.length ≤ 2000000) : Cn f_slices_Clone_Lint_int [v_l] h fun v h' => ∃ r0 : Value, v = r0 ∧ SlO h' r0 l ∧ Fr h.size r0 ∧ Ext h h' := by
  have lt_l := s_l.lt
  have l63_l := s_l.len63
  refine calls_of r_slices_Clone_Lint_int ?_
  refine v_seq ?_
  refine v_ops ?_
  refine s_pure (.slice none 0 0) (fun _ q => q) ?_
  refine s_nil ?_
  refine p_seqN ?_
  refine v_seq ?_
  refine v_seq ?_
  refine v_ops ?_
  refine s_pure v_l (fun _ q => q) ?_
  obtain ⟨nb1, nqnb1, hnnb1⟩ := s_l.isNil
  refine s_pure (.bool nb1) (fun K q => nqnb1 false K q) ?_
  refine s_nil ?_
  refine p_seqN ?_
  refine v_cond rfl (fun c2 => ?_) (fun c2 => ?_)
  ·
    refine v_seq ?_
    refine v_ops ?_
    refine s_pure (.slice none 0 0) (fun _ q => q) ?_
    refine s_nil ?_
    refine p_seqN ?_
    refine v_ret ?_
    refine p_seqR ?_
    refine p_ret [.slice none 0 0] (.slice none 0 0) (fun _ q => q) rfl ?_
    have ho : l = [] := by first | exact hnnb1 (by assumption) | simp
    exact ⟨(.slice none 0 0), by first | (rw [ho]; done) | rfl, sl_eq (SlX.nil (α := Int) true _) (congrArg (fun o => o) ho).symm, Fr.nil _, (Ext.refl h)⟩
  ·
    refine v_skip ?_
    refine p_seqN ?_
    refine v_seq ?_
    refine v_ops ?_
    refine s_row (α := Int) [] (fun _ q => seg_nil q) rfl (by simp [maxLen]) (fun r3 h4 eh4 zh4 s_r3 fr_r3 => ?_)
    have E5 := (Ext.refl h).trans eh4
    have z6 := eh4.size
    have lt_r3 := s_r3.lt
    refine s_pure v_l (fun _ q => q) ?_
    have f7 := (s_l.ext eh4)
    refine s_app s_r3 f7 rfl rfl rfl (by simpa using s_l.len_le) (by have := s_l.len_le; simp [maxLen] at *; omega) (fun r8 h9 mh9 zh9 s_r8 ab_r8 => ?_)
    have E10 := E5.mod mh9 (fun b hb => by have := fr_r3 b hb; omega)
    have fr_r8 := fr_r3.app ab_r8 (by omega)
    have lt_r8 := s_r8.lt
    refine s_pure r8 (fun _ q => q) ?_
    refine s_nil ?_
    refine p_seqN ?_
    refine v_ret ?_
    refine p_ret [r8] r8 (fun _ q => q) rfl ?_
    have ho : l = ([] ++ l) := by first | exact hnnb1 (by assumption) | simp
    exact ⟨r8, by first | (rw [ho]; done) | rfl, sl_eq s_r8 (congrArg (fun o => o) ho).symm, fr_r8.mono (by omega), E10⟩

theorem impl_cloneRepeater_ok (r : RepP) (v_r_passed : Value) (h : Heap) (s_r_passed : Sl h v_r_passed r.passed) (bl : r.passed.length ≤ 2000000) : Cn f_impl_cloneRepeater [.agg #[.int .i64 r.phase, .int .i64 r.holds, .int .i64 r.again, .int .i64 r.shown, v_r_passed]] h fun v h' => ∃ r0 : Value, v = .agg #[.int .i64 r.phase, .int .i64 r.holds, .int .i64 r.again, .int .i64 r.shown, r0] ∧ SlO h' r0 r.passed ∧ Fr h.size r0 ∧ Ext h h' := by
  have lt_r_passed := s_r_passed.lt
  have l63_r_passed := s_r_passed.len63
  refine calls_of r_impl_cloneRepeater ?_
  refine v_seq ?_
  refine v_ops ?_
  refine s_box [.int .i64 r.phase, .int .i64 r.holds, .int .i64 r.again, .int .i64 r.shown, v_r_passed] rfl (fun h2 b1 hbb1 hzb1 eh2 bxb1 => ?_)
  have E3 := (Ext.refl h).trans eh2
  have z4 := eh2.size
  have lbb1 := bxb1.lt
  refine s_new (fun h6 b5 hbb5 hzb5 eh6 bxb5 => ?_)
  have E7 := E3.trans eh6
  have z8 := eh6.size
  have lbb5 := bxb5.lt
  refine s_nil ?_
  refine p_seqN ?_
  refine v_seq ?_
  refine v_ops ?_
  refine s_pure (.pointer (some ⟨b1, 4, none⟩)) (fun _ q => q) ?_
  have f9 := (bxb1.ext eh6)
  refine s_load v_r_passed (fun _ q => f9.load rfl q) ?_
  have f10 := ((s_r_passed.ext eh2).ext eh6)
  refine s_call [v_r_passed] rfl (slices_Clone_Lint_int_ok v_r_passed r.passed _ f10 (by first | omega | assumption | (simp; omega))) ?_
  rintro r11 h12 ⟨_, rfl, s_r11, fr_r11, eh12⟩
  have E13 := E7.trans eh12
  have z14 := eh12.size
  have lt_r11 := s_r11.lt
  refine s_pure (.pointer (some ⟨b1, 4, none⟩)) (fun _ q => q) ?_
  have f15 := (f9.ext eh12)
  refine s_stBx r11 [r11] [.int .i64 r.phase, .int .i64 r.holds, .int .i64 r.again, .int .i64 r.shown, r11] f15 rfl rfl s_r11.cellsv rfl (by simp) (all_cons s_r11.one1 all_nil) rfl (fun h16 mh16 sh16 bxx17 => ?_)
  have E18 := E13.mod mh16 (fun b hb => by simp at hb; omega)
  refine s_nil ?_
  refine p_seqN ?_
  refine v_seq ?_
  refine v_ops ?_
  refine s_load (.agg #[.int .i64 r.phase, .int .i64 r.holds, .int .i64 r.again, .int .i64 r.shown, r11]) (fun _ q => bxx17.loadA rfl q) ?_
  have f19 := ((bxb5.ext eh12).mod mh16 (by simp; omega))
  refine s_stBx (.agg #[.int .i64 r.phase, .int .i64 r.holds, .int .i64 r.again, .int .i64 r.shown, r11]) [.int .i64 r.phase, .int .i64 r.holds, .int .i64 r.again, .int .i64 r.shown, r11] [.int .i64 r.phase, .int .i64 r.holds, .int .i64 r.again, .int .i64 r.shown, r11] f19 rfl rfl rfl rfl (by simp) (all_cons rfl (all_cons rfl (all_cons rfl (all_cons rfl (all_cons s_r11.one1 all_nil))))) rfl (fun h20 mh20 sh20 bxx21 => ?_)
  have E22 := E18.mod mh20 (fun b hb => by simp at hb; omega)
  refine s_nil ?_
  refine p_seqN ?_
  refine v_ret ?_
  refine p_ret [.agg #[.int .i64 r.phase, .int .i64 r.holds, .int .i64 r.again, .int .i64 r.shown, r11]] (.agg #[.int .i64 r.phase, .int .i64 r.holds, .int .i64 r.again, .int .i64 r.shown, r11]) (fun _ q => (bxx21.loadA rfl q)) rfl ?_
  have ho : r = ⟨r.phase, r.holds, r.again, r.shown, r.passed⟩ := by rfl
  have f23 := ((s_r11.mod mh16 (fun b hb hc => by simp at hc; have := fr_r11 b hb; omega)).mod mh20 (fun b hb hc => by simp at hc; have := fr_r11 b hb; omega))
  exact ⟨r11, by first | (rw [ho]; done) | rfl, sl_eq f23 (congrArg (fun o => o.passed) ho).symm, fr_r11.mono (by omega), E22⟩

set_option maxRecDepth 10000 in
set_option maxHeartbeats 4000000 in
theorem impl_RunGlances_ok (r : RepP) (v_r_passed : Value) (v_l : Value) (l : List GlanceD) (h : Heap) (s_r_passed : Sl h v_r_passed r.passed) (s_l : Sl h v_l l) : Cn f_impl_RunGlances [.agg #[.int .i64 r.phase, .int .i64 r.holds, .int .i64 r.again, .int .i64 r.shown, v_r_passed], v_l] h fun v h' => ∃ r0 : Value, v = .tuple #[.agg #[.int .i64 (((rgOut r l).1).phase), .int .i64 (((rgOut r l).1).holds), .int .i64 (((rgOut r l).1).again), .int .i64 (((rgOut r l).1).shown), r0], .bool ((rgOut r l).2)] ∧ SlO h' r0 (((rgOut r l).1).passed) ∧ Fr h.size r0 ∧ Ext h h' := by
  have lt_r_passed := s_r_passed.lt
  have l63_r_passed := s_r_passed.len63
  have lt_l := s_l.lt
  have l63_l := s_l.len63
  refine calls_of r_impl_RunGlances ?_
  refine v_seq ?_
  refine v_ops ?_
  refine s_box [.int .i64 r.phase, .int .i64 r.holds, .int .i64 r.again, .int .i64 r.shown, v_r_passed] rfl (fun h2 b1 hbb1 hzb1 eh2 bxb1 => ?_)
  have E3 := (Ext.refl h).trans eh2
  have z4 := eh2.size
  have lbb1 := bxb1.lt
  refine s_new (fun h6 b5 hbb5 hzb5 eh6 bxb5 => ?_)
  have E7 := E3.trans eh6
  have z8 := eh6.size
  have lbb5 := bxb5.lt
  refine s_pure (.bool false) (fun _ q => q) ?_
  refine s_nil ?_
  refine p_seqN ?_
  refine v_seq ?_
  refine v_seq ?_
  refine v_ops ?_
  have f9 := (bxb1.ext eh6)
  refine s_load (.agg #[.int .i64 r.phase, .int .i64 r.holds, .int .i64 r.again, .int .i64 r.shown, v_r_passed]) (fun _ q => f9.loadA rfl q) ?_
  have f10 := ((s_r_passed.ext eh2).ext eh6)
  refine s_call [.agg #[.int .i64 r.phase, .int .i64 r.holds, .int .i64 r.again, .int .i64 r.shown, v_r_passed]] rfl (impl_IsRepeater_ok r v_r_passed _ f10) ?_
  rintro _ h11 ⟨rfl, eh11⟩
  have E12 := E7.trans eh11
  have z13 := eh11.size
  refine s_pure (.bool (!decide (RepOk r))) (fun _ q => q) ?_
  refine s_pure (.bool (!decide (RepOk r))) (fun _ q => q) ?_
  refine s_splitT rfl (fun c14 => ?_) (fun c14 => ?_)
  ·
    refine s_pass rfl ?_
    refine s_pass rfl ?_
    refine s_pass rfl ?_
    refine s_pure (.bool true) (fun _ q => q) ?_
    refine s_nil ?_
    refine p_seqN ?_
    refine v_condY rfl rfl ?_
    refine v_seq ?_
    refine v_ops ?_
    refine s_pure (.agg #[.int .i64 0, .int .i64 0, .int .i64 0, .int .i64 0, .slice none 0 0]) (fun _ q => w_build (seg_nil q)) ?_
    have f15 := (bxb5.ext eh11)
    refine s_stBx (.agg #[.int .i64 0, .int .i64 0, .int .i64 0, .int .i64 0, .slice none 0 0]) [.int .i64 0, .int .i64 0, .int .i64 0, .int .i64 0, .slice none 0 0] [.int .i64 0, .int .i64 0, .int .i64 0, .int .i64 0, .slice none 0 0] f15 rfl rfl rfl rfl (by simp) (all_cons rfl (all_cons rfl (all_cons rfl (all_cons rfl (all_cons rfl all_nil))))) rfl (fun h16 mh16 sh16 bxx17 => ?_)
    have E18 := E12.mod mh16 (fun b hb => by simp at hb; omega)
    refine s_pure (.bool false) (fun _ q => q) ?_
    refine s_nil ?_
    refine p_seqN ?_
    refine v_ret ?_
    refine p_seqR ?_
    refine p_ret [.agg #[.int .i64 0, .int .i64 0, .int .i64 0, .int .i64 0, .slice none 0 0], .bool false] (.tuple #[.agg #[.int .i64 0, .int .i64 0, .int .i64 0, .int .i64 0, .slice none 0 0], .bool false]) (fun _ q => (bxx17.loadA rfl q)) rfl ?_
    have ho : rgOut r l = (⟨0, 0, 0, 0, []⟩, false) := by first | exact rg_no (.inl (by assumption)) | exact rg_no (.inr (by assumption)) | exact rg_far (by assumption) hq (by omega) | exact rg_yes (by assumption) (by assumption) hq (by assumption) hl
    exact ⟨(.slice none 0 0), by first | (rw [ho]; done) | rfl, sl_eq (SlX.nil (α := Int) true _) (congrArg (fun o => o.1.passed) ho).symm, Fr.nil _, E18⟩
  ·
    have c14 := Classical.not_not.1 c14
    refine s_run rfl ?_
    refine s_pure v_l (fun _ q => q) ?_
    refine s_run rfl ?_
    have f19 := (((s_l.ext eh2).ext eh6).ext eh11)
    refine s_call [v_l] rfl (areGlances_ok v_l l _ f19) ?_
    rintro _ h20 ⟨rfl, eh20⟩
    have E21 := E12.trans eh20
    have z22 := eh20.size
    refine s_run rfl ?_
    refine s_pure (.bool (!(decide (GlOk l)))) (fun _ q => q) ?_
    refine s_pure (.bool (!(decide (GlOk l)))) (fun _ q => q) ?_
    refine s_nil ?_
    refine p_seqN ?_
    refine v_cond rfl (fun c23 => ?_) (fun c23 => ?_)
    ·
      refine v_seq ?_
      refine v_ops ?_
      refine s_pure (.agg #[.int .i64 0, .int .i64 0, .int .i64 0, .int .i64 0, .slice none 0 0]) (fun _ q => w_build (seg_nil q)) ?_
      have f24 := ((bxb5.ext eh11).ext eh20)
      refine s_stBx (.agg #[.int .i64 0, .int .i64 0, .int .i64 0, .int .i64 0, .slice none 0 0]) [.int .i64 0, .int .i64 0, .int .i64 0, .int .i64 0, .slice none 0 0] [.int .i64 0, .int .i64 0, .int .i64 0, .int .i64 0, .slice none 0 0] f24 rfl rfl rfl rfl (by simp) (all_cons rfl (all_cons rfl (all_cons rfl (all_cons rfl (all_cons rfl all_nil))))) rfl (fun h25 mh25 sh25 bxx26 => ?_)
      have E27 := E21.mod mh25 (fun b hb => by simp at hb; omega)
      refine s_pure (.bool false) (fun _ q => q) ?_
      refine s_nil ?_
      refine p_seqN ?_
      refine v_ret ?_
      refine p_seqR ?_
      refine p_ret [.agg #[.int .i64 0, .int .i64 0, .int .i64 0, .int .i64 0, .slice none 0 0], .bool false] (.tuple #[.agg #[.int .i64 0, .int .i64 0, .int .i64 0, .int .i64 0, .slice none 0 0], .bool false]) (fun _ q => (bxx26.loadA rfl q)) rfl ?_
      have ho : rgOut r l = (⟨0, 0, 0, 0, []⟩, false) := by first | exact rg_no (.inl (by assumption)) | exact rg_no (.inr (by assumption)) | exact rg_far (by assumption) hq (by omega) | exact rg_yes (by assumption) (by assumption) hq (by assumption) hl
      exact ⟨(.slice none 0 0), by first | (rw [ho]; done) | rfl, sl_eq (SlX.nil (α := Int) true _) (congrArg (fun o => o.1.passed) ho).symm, Fr.nil _, E27⟩
    ·
      have c23 := Classical.not_not.1 c23
      refine v_skip ?_
      refine p_seqN ?_
      refine v_seq ?_
      refine v_ops ?_
      have f28 := ((f9.ext eh11).ext eh20)
      refine s_load (.agg #[.int .i64 r.phase, .int .i64 r.holds, .int .i64 r.again, .int .i64 r.shown, v_r_passed]) (fun _ q => f28.loadA rfl q) ?_
      have f29 := ((f10.ext eh11).ext eh20)
      refine s_call [.agg #[.int .i64 r.phase, .int .i64 r.holds, .int .i64 r.again, .int .i64 r.shown, v_r_passed]] rfl (impl_cloneRepeater_ok r v_r_passed _ f29 (by have := (by assumption : RepOk r).1; omega)) ?_
      rintro _ h31 ⟨r30, rfl, s_r30, fr_r30, eh31⟩
      have E32 := E21.trans eh31
      have z33 := eh31.size
      have lt_r30 := s_r30.lt
      have f34 := (f28.ext eh31)
      refine s_stBx (.agg #[.int .i64 r.phase, .int .i64 r.holds, .int .i64 r.again, .int .i64 r.shown, r30]) [.int .i64 r.phase, .int .i64 r.holds, .int .i64 r.again, .int .i64 r.shown, r30] [.int .i64 r.phase, .int .i64 r.holds, .int .i64 r.again, .int .i64 r.shown, r30] f34 rfl rfl rfl rfl (by simp) (all_cons rfl (all_cons rfl (all_cons rfl (all_cons rfl (all_cons s_r30.one1 all_nil))))) rfl (fun h35 mh35 sh35 bxx36 => ?_)
      have E37 := E32.mod mh35 (fun b hb => by simp at hb; omega)
      refine s_nil ?_
      refine p_seqN ?_
      refine v_seq ?_
      refine v_seq ?_
      refine v_ops ?_
      refine s_pure v_l (fun _ q => q) ?_
      refine s_pure (.int .i64 (l.length : Int)) (fun _ q => f19.lenVC q) ?_
      refine s_pure (.int .i64 0) (fun _ q => q) ?_
      refine s_nil ?_
      refine p_seqN ?_
      refine v_block ?_
      have hok : RepOk r := by assumption
      have f39 := ((((bxb5.ext eh11).ext eh20).ext eh31).mod mh35 (by simp; omega))
      have f40 := (s_r30.mod mh35 (fun b hb hc => by simp at hc; have := fr_r30 b hb; omega))
      refine v_loop3 (α := Nat) (β := RepP) (γ := Value) (fun k q v => [(2, .pointer (some ⟨b1, 0, none⟩)), (4, .pointer (some ⟨b5, 0, none⟩)), (19, v_l), (20, .int .i64 (l.length : Int)), (21, .int .i64 (k : Int))]) (fun k q v hh => Ext h hh ∧ Bx hh b1 [.int .i64 q.phase, .int .i64 q.holds, .int .i64 q.again, .int .i64 q.shown, v] 25 ∧ Bx hh b5 [.int .i64 0, .int .i64 0, .int .i64 0, .int .i64 0, .slice none 0 0] 25 ∧ SlO hh v q.passed ∧ Fr h.size v ∧ b1 ∉ blks v ∧ b5 ∉ blks v ∧ k ≤ l.length ∧ q = run r (l.take k) ∧ q.passed.length ≤ 80) (fun k q v => l.length - k) 0 r r30 ⟨rfl, rfl, rfl, rfl, rfl⟩ ⟨E37, bxx36, f39, (sl_eq f40 (by simp)), (fr_r30.mono (by omega)), (fun hc => by have := fr_r30 _ hc; omega), (fun hc => by have := fr_r30 _ hc; omega), (by exact ⟨by omega, rfl, hok.1⟩)⟩ ?_
      rintro k q v R41 h38 ⟨Eh, bxb1, bxb5, s_v, fr_v, np_b1_v, np_b5_v, ⟨hk, hq, hl⟩⟩
      have zEh := Eh.size
      have f43 := s_r_passed.ext Eh
      have f44 := s_l.ext Eh
      have lbb1 := bxb1.lt
      have lbb5 := bxb5.lt
      have lt_v := s_v.lt
      have hi : RInv q := by rw [hq]; exact run_inv (RInv.ofOk hok) _
      have ha := hi.a
      have gok : l.length ≤ 80 := (by assumption : GlOk l).1
      refine v_seq ?_
      refine v_ops ?_
      refine s_pure (.bool (decide ((k : Int) < (l.length : Int)))) (fun _ q => q) ?_
      refine s_nil ?_
      refine p_seqN ?_
      refine v_seq ?_
      refine v_cond rfl (fun c45 => ?_) (fun c45 => ?_)
      ·
        refine v_skip ?_
        refine p_seqN ?_
        refine v_seq ?_
        refine v_block ?_
        refine v_seq ?_
        refine v_ops ?_
        have hk46 : k < l.length := (by first | omega | (simp; omega))
        obtain ⟨x47, hx47⟩ : ∃ x, l[k]? = some x := ⟨_, List.getElem?_eq_getElem hk46⟩
        refine s_pure (.pointer (some ⟨sblk v_l, soff v_l + k * 2, none⟩)) (fun _ q => f44.idx (k := k) rfl hk46 q) ?_
        refine s_load (.agg #[.bool x47.next, .int .i64 x47.signal]) (fun _ q => f44.loadN hx47 rfl q) ?_
        refine s_new (fun h49 b48 hbb48 hzb48 eh49 bxb48 => ?_)
        have E50 := Eh.trans eh49
        have z51 := eh49.size
        have lbb48 := bxb48.lt
        refine s_stBx (.agg #[.bool x47.next, .int .i64 x47.signal]) [.bool x47.next, .int .i64 x47.signal] [.bool x47.next, .int .i64 x47.signal] bxb48 rfl rfl rfl rfl (by simp) (all_cons rfl (all_cons rfl all_nil)) rfl (fun h52 mh52 sh52 bxx53 => ?_)
        have E54 := E50.mod mh52 (fun b hb => by simp at hb; omega)
        refine s_nil ?_
        refine p_seqN ?_
        refine v_seq ?_
        refine v_ops ?_
        have f55 := ((bxb1.ext eh49).mod mh52 (by simp; omega))
        refine s_load (.agg #[.int .i64 q.phase, .int .i64 q.holds, .int .i64 q.again, .int .i64 q.shown, v]) (fun _ q => f55.loadA rfl q) ?_
        refine s_load (.agg #[.bool x47.next, .int .i64 x47.signal]) (fun _ q => bxx53.loadA rfl q) ?_
        have f56 := ((s_v.ext eh49).mod mh52 (fun b hb hc => by simp at hc; have := lt_v b hb; omega))
        refine s_call [.agg #[.int .i64 q.phase, .int .i64 q.holds, .int .i64 q.again, .int .i64 q.shown, v], .agg #[.bool x47.next, .int .i64 x47.signal]] rfl (impl_glance_ok q v x47 _ f56 (by first | omega | assumption | (simp; omega)) (by first | omega | assumption | (simp; omega))) ?_
        rintro _ h58 ⟨r57, rfl, s_r57, mh58, ab_r57⟩
        have zh58 := mh58.size
        have E59 := E54.mod mh58 (fun b hb => by have := fr_v b hb; omega)
        have fr_r57 := fr_v.app ab_r57 (by omega)
        have np60 : b1 ∉ blks r57 := fun hc => (ab_r57 _ hc).elim np_b1_v (fun hc => by omega)
        have np61 : b5 ∉ blks r57 := fun hc => (ab_r57 _ hc).elim np_b5_v (fun hc => by omega)
        have np62 : b48 ∉ blks r57 := fun hc => (ab_r57 _ hc).elim (fun hc => by have := lt_v _ hc; omega) (fun hc => by omega)
        have lt_r57 := s_r57.lt
        refine s_pure (.tuple #[.agg #[.int .i64 (((gl q x47).1).phase), .int .i64 (((gl q x47).1).holds), .int .i64 (((gl q x47).1).again), .int .i64 (((gl q x47).1).shown), r57], .bool ((gl q x47).2)]) (fun _ q => q) ?_
        refine s_pure (.agg #[.int .i64 (((gl q x47).1).phase), .int .i64 (((gl q x47).1).holds), .int .i64 (((gl q x47).1).again), .int .i64 (((gl q x47).1).shown), r57]) (fun _ q => q) ?_
        refine s_pure (.bool ((gl q x47).2)) (fun _ q => q) ?_
        have f63 := (f55.mod mh58 np_b1_v)
        refine s_stBx (.agg #[.int .i64 (((gl q x47).1).phase), .int .i64 (((gl q x47).1).holds), .int .i64 (((gl q x47).1).again), .int .i64 (((gl q x47).1).shown), r57]) [.int .i64 (((gl q x47).1).phase), .int .i64 (((gl q x47).1).holds), .int .i64 (((gl q x47).1).again), .int .i64 (((gl q x47).1).shown), r57] [.int .i64 (((gl q x47).1).phase), .int .i64 (((gl q x47).1).holds), .int .i64 (((gl q x47).1).again), .int .i64 (((gl q x47).1).shown), r57] f63 rfl rfl rfl rfl (by simp) (all_cons rfl (all_cons rfl (all_cons rfl (all_cons rfl (all_cons s_r57.one1 all_nil))))) rfl (fun h64 mh64 sh64 bxx65 => ?_)
        have E66 := E59.mod mh64 (fun b hb => by simp at hb; omega)
        refine s_nil ?_
        refine p_seqN ?_
        refine v_seq ?_
        refine v_ops ?_
        refine s_pure (.pointer (some ⟨b1, 4, none⟩)) (fun _ q => q) ?_
        refine s_load r57 (fun _ q => bxx65.load rfl q) ?_
        refine s_pure (.int .i64 ((((gl q x47).1).passed).length : Int)) (fun _ q => s_r57.lenVC q) ?_
        refine s_pure (.bool (decide (((((gl q x47).1).passed).length : Int) > 80))) (fun _ q => q) ?_
        refine s_nil ?_
        refine p_seqN ?_
        refine v_cond rfl (fun c67 => ?_) (fun c67 => ?_)
        ·
          refine v_seq ?_
          refine v_ops ?_
          refine s_pure (.agg #[.int .i64 0, .int .i64 0, .int .i64 0, .int .i64 0, .slice none 0 0]) (fun _ q => w_build (seg_nil q)) ?_
          have f68 := ((((bxb5.ext eh49).mod mh52 (by simp; omega)).mod mh58 np_b5_v).mod mh64 (by simp; omega))
          refine s_stBx (.agg #[.int .i64 0, .int .i64 0, .int .i64 0, .int .i64 0, .slice none 0 0]) [.int .i64 0, .int .i64 0, .int .i64 0, .int .i64 0, .slice none 0 0] [.int .i64 0, .int .i64 0, .int .i64 0, .int .i64 0, .slice none 0 0] f68 rfl rfl rfl rfl (by simp) (all_cons rfl (all_cons rfl (all_cons rfl (all_cons rfl (all_cons rfl all_nil))))) rfl (fun h69 mh69 sh69 bxx70 => ?_)
          have E71 := E66.mod mh69 (fun b hb => by simp at hb; omega)
          refine s_pure (.bool false) (fun _ q => q) ?_
          refine s_nil ?_
          refine p_seqN ?_
          refine v_ret ?_
          refine p_blkR ?_
          refine p_seqR ?_
          refine p_lpR ?_
          refine p_blkR ?_
          refine p_seqR ?_
          refine p_ret [.agg #[.int .i64 0, .int .i64 0, .int .i64 0, .int .i64 0, .slice none 0 0], .bool false] (.tuple #[.agg #[.int .i64 0, .int .i64 0, .int .i64 0, .int .i64 0, .slice none 0 0], .bool false]) (fun _ q => (bxx70.loadA rfl q)) rfl ?_
          have ho : rgOut r l = (⟨0, 0, 0, 0, []⟩, false) := by first | exact rg_no (.inl (by assumption)) | exact rg_no (.inr (by assumption)) | exact rg_far (by assumption) hq (by omega) | exact rg_yes (by assumption) (by assumption) hq (by assumption) hl
          exact ⟨(.slice none 0 0), by first | (rw [ho]; done) | rfl, sl_eq (SlX.nil (α := Int) true _) (congrArg (fun o => o.1.passed) ho).symm, Fr.nil _, E71⟩
        ·
          refine v_skip ?_
          refine p_blkN ?_
          refine p_seqN ?_
          refine v_ops ?_
          refine s_pure (.int .i64 ((k : Int) + 1)) (fun _ q => ArithVC.mk (by omega) q) ?_
          refine s_pure (.int .i64 ((k : Int) + 1)) (fun _ q => q) ?_
          refine s_nil ?_
          have f72 := ((((bxb5.ext eh49).mod mh52 (by simp; omega)).mod mh58 np_b5_v).mod mh64 (by simp; omega))
          have f73 := (s_r57.mod mh64 (fun b hb hc => np60 (by simp at hc; rw [← hc]; exact hb)))
          exact p_lpN ⟨k + 1, ((gl q x47).1), r57, ⟨rfl, rfl, rfl, rfl, rfl⟩, ⟨E66, bxx65, f72, (sl_eq f73 (by simp)), (fr_r57.mono (by omega)), np60, np61, (by exact ⟨by omega, run_step (by assumption) hq, by omega⟩)⟩, by omega⟩
      ·
        refine v_exit ?_
        refine p_seqX ?_
        refine p_lpX ?_
        refine p_blkX ?_
        refine p_seqN ?_
        refine v_seq ?_
        refine v_ops ?_
        refine s_load (.agg #[.int .i64 q.phase, .int .i64 q.holds, .int .i64 q.again, .int .i64 q.shown, v]) (fun _ q => bxb1.loadA rfl q) ?_
        refine s_stBx (.agg #[.int .i64 q.phase, .int .i64 q.holds, .int .i64 q.again, .int .i64 q.shown, v]) [.int .i64 q.phase, .int .i64 q.holds, .int .i64 q.again, .int .i64 q.shown, v] [.int .i64 q.phase, .int .i64 q.holds, .int .i64 q.again, .int .i64 q.shown, v] bxb5 rfl rfl rfl rfl (by simp) (all_cons rfl (all_cons rfl (all_cons rfl (all_cons rfl (all_cons s_v.one1 all_nil))))) rfl (fun h74 mh74 sh74 bxx75 => ?_)
        have E76 := Eh.mod mh74 (fun b hb => by simp at hb; omega)
        refine s_pure (.bool true) (fun _ q => q) ?_
        refine s_nil ?_
        refine p_seqN ?_
        refine v_ret ?_
        refine p_ret [.agg #[.int .i64 q.phase, .int .i64 q.holds, .int .i64 q.again, .int .i64 q.shown, v], .bool true] (.tuple #[.agg #[.int .i64 q.phase, .int .i64 q.holds, .int .i64 q.again, .int .i64 q.shown, v], .bool true]) (fun _ q => (bxx75.loadA rfl q)) rfl ?_
        have ho : rgOut r l = (⟨q.phase, q.holds, q.again, q.shown, q.passed⟩, true) := by first | exact rg_no (.inl (by assumption)) | exact rg_no (.inr (by assumption)) | exact rg_far (by assumption) hq (by omega) | exact rg_yes (by assumption) (by assumption) hq (by assumption) hl
        have f77 := (s_v.mod mh74 (fun b hb hc => np_b5_v (by simp at hc; rw [← hc]; exact hb)))
        exact ⟨v, by first | (rw [ho]; done) | rfl, sl_eq f77 (congrArg (fun o => o.1.passed) ho).symm, fr_v.mono (by omega), E76⟩

set_option maxRecDepth 10000 in
set_option maxHeartbeats 4000000 in
theorem spec_RunGlances_ok (r : RepP) (v_r_passed : Value) (v_l : Value) (l : List GlanceD) (h : Heap) (s_r_passed : Sl h v_r_passed r.passed) (s_l : Sl h v_l l) : Cn f_spec_RunGlances [.agg #[.int .i64 r.phase, .int .i64 r.holds, .int .i64 r.again, .int .i64 r.shown, v_r_passed], v_l] h fun v h' => ∃ r0 : Value, v = .tuple #[.agg #[.int .i64 (((rgOut r l).1).phase), .int .i64 (((rgOut r l).1).holds), .int .i64 (((rgOut r l).1).again), .int .i64 (((rgOut r l).1).shown), r0], .bool ((rgOut r l).2)] ∧ SlO h' r0 (((rgOut r l).1).passed) ∧ Fr h.size r0 ∧ Ext h h' := by
  have lt_r_passed := s_r_passed.lt
  have l63_r_passed := s_r_passed.len63
  have lt_l := s_l.lt
  have l63_l := s_l.len63
  refine calls_of r_spec_RunGlances ?_
  refine v_seq ?_
  refine v_ops ?_
  refine s_box [.int .i64 r.phase, .int .i64 r.holds, .int .i64 r.again, .int .i64 r.shown, v_r_passed] rfl (fun h2 b1 hbb1 hzb1 eh2 bxb1 => ?_)
  have E3 := (Ext.refl h).trans eh2
  have z4 := eh2.size
  have lbb1 := bxb1.lt
  refine s_new (fun h6 b5 hbb5 hzb5 eh6 bxb5 => ?_)
  have E7 := E3.trans eh6
  have z8 := eh6.size
  have lbb5 := bxb5.lt
  refine s_pure (.bool false) (fun _ q => q) ?_
  refine s_nil ?_
  refine p_seqN ?_
  refine v_seq ?_
  refine v_seq ?_
  refine v_ops ?_
  have f9 := (bxb1.ext eh6)
  refine s_load (.agg #[.int .i64 r.phase, .int .i64 r.holds, .int .i64 r.again, .int .i64 r.shown, v_r_passed]) (fun _ q => f9.loadA rfl q) ?_
  have f10 := ((s_r_passed.ext eh2).ext eh6)
  refine s_call [.agg #[.int .i64 r.phase, .int .i64 r.holds, .int .i64 r.again, .int .i64 r.shown, v_r_passed]] rfl (spec_rpGood_ok r v_r_passed _ f10) ?_
  rintro _ h11 ⟨rfl, eh11⟩
  have E12 := E7.trans eh11
  have z13 := eh11.size
  refine s_pure (.bool (!decide (RepOk r))) (fun _ q => q) ?_
  refine s_pure (.bool (!decide (RepOk r))) (fun _ q => q) ?_
  refine s_splitT rfl (fun c14 => ?_) (fun c14 => ?_)
  ·
    refine s_pass rfl ?_
    refine s_pass rfl ?_
    refine s_pass rfl ?_
    refine s_pure (.bool true) (fun _ q => q) ?_
    refine s_nil ?_
    refine p_seqN ?_
    refine v_condY rfl rfl ?_
    refine v_seq ?_
    refine v_ops ?_
    refine s_pure (.agg #[.int .i64 0, .int .i64 0, .int .i64 0, .int .i64 0, .slice none 0 0]) (fun _ q => w_build (seg_nil q)) ?_
    have f15 := (bxb5.ext eh11)
    refine s_stBx (.agg #[.int .i64 0, .int .i64 0, .int .i64 0, .int .i64 0, .slice none 0 0]) [.int .i64 0, .int .i64 0, .int .i64 0, .int .i64 0, .slice none 0 0] [.int .i64 0, .int .i64 0, .int .i64 0, .int .i64 0, .slice none 0 0] f15 rfl rfl rfl rfl (by simp) (all_cons rfl (all_cons rfl (all_cons rfl (all_cons rfl (all_cons rfl all_nil))))) rfl (fun h16 mh16 sh16 bxx17 => ?_)
    have E18 := E12.mod mh16 (fun b hb => by simp at hb; omega)
    refine s_pure (.bool false) (fun _ q => q) ?_
    refine s_nil ?_
    refine p_seqN ?_
    refine v_ret ?_
    refine p_seqR ?_
    refine p_ret [.agg #[.int .i64 0, .int .i64 0, .int .i64 0, .int .i64 0, .slice none 0 0], .bool false] (.tuple #[.agg #[.int .i64 0, .int .i64 0, .int .i64 0, .int .i64 0, .slice none 0 0], .bool false]) (fun _ q => (bxx17.loadA rfl q)) rfl ?_
    have ho : rgOut r l = (⟨0, 0, 0, 0, []⟩, false) := by first | exact rg_no (.inl (by assumption)) | exact rg_no (.inr (by assumption)) | exact rg_far (by assumption) hq (by omega) | exact rg_yes (by assumption) (by assumption) hq (by assumption) hl
    exact ⟨(.slice none 0 0), by first | (rw [ho]; done) | rfl, sl_eq (SlX.nil (α := Int) true _) (congrArg (fun o => o.1.passed) ho).symm, Fr.nil _, E18⟩
  ·
    have c14 := Classical.not_not.1 c14
    refine s_run rfl ?_
    refine s_pure v_l (fun _ q => q) ?_
    refine s_run rfl ?_
    have f19 := (((s_l.ext eh2).ext eh6).ext eh11)
    refine s_call [v_l] rfl (rpGlances_ok v_l l _ f19) ?_
    rintro _ h20 ⟨rfl, eh20⟩
    have E21 := E12.trans eh20
    have z22 := eh20.size
    refine s_run rfl ?_
    refine s_pure (.bool (!(decide (GlOk l)))) (fun _ q => q) ?_
    refine s_pure (.bool (!(decide (GlOk l)))) (fun _ q => q) ?_
    refine s_nil ?_
    refine p_seqN ?_
    refine v_cond rfl (fun c23 => ?_) (fun c23 => ?_)
    ·
      refine v_seq ?_
      refine v_ops ?_
      refine s_pure (.agg #[.int .i64 0, .int .i64 0, .int .i64 0, .int .i64 0, .slice none 0 0]) (fun _ q => w_build (seg_nil q)) ?_
      have f24 := ((bxb5.ext eh11).ext eh20)
      refine s_stBx (.agg #[.int .i64 0, .int .i64 0, .int .i64 0, .int .i64 0, .slice none 0 0]) [.int .i64 0, .int .i64 0, .int .i64 0, .int .i64 0, .slice none 0 0] [.int .i64 0, .int .i64 0, .int .i64 0, .int .i64 0, .slice none 0 0] f24 rfl rfl rfl rfl (by simp) (all_cons rfl (all_cons rfl (all_cons rfl (all_cons rfl (all_cons rfl all_nil))))) rfl (fun h25 mh25 sh25 bxx26 => ?_)
      have E27 := E21.mod mh25 (fun b hb => by simp at hb; omega)
      refine s_pure (.bool false) (fun _ q => q) ?_
      refine s_nil ?_
      refine p_seqN ?_
      refine v_ret ?_
      refine p_seqR ?_
      refine p_ret [.agg #[.int .i64 0, .int .i64 0, .int .i64 0, .int .i64 0, .slice none 0 0], .bool false] (.tuple #[.agg #[.int .i64 0, .int .i64 0, .int .i64 0, .int .i64 0, .slice none 0 0], .bool false]) (fun _ q => (bxx26.loadA rfl q)) rfl ?_
      have ho : rgOut r l = (⟨0, 0, 0, 0, []⟩, false) := by first | exact rg_no (.inl (by assumption)) | exact rg_no (.inr (by assumption)) | exact rg_far (by assumption) hq (by omega) | exact rg_yes (by assumption) (by assumption) hq (by assumption) hl
      exact ⟨(.slice none 0 0), by first | (rw [ho]; done) | rfl, sl_eq (SlX.nil (α := Int) true _) (congrArg (fun o => o.1.passed) ho).symm, Fr.nil _, E27⟩
    ·
      have c23 := Classical.not_not.1 c23
      refine v_skip ?_
      refine p_seqN ?_
      refine v_seq ?_
      refine v_ops ?_
      have f28 := ((f9.ext eh11).ext eh20)
      refine s_load (.agg #[.int .i64 r.phase, .int .i64 r.holds, .int .i64 r.again, .int .i64 r.shown, v_r_passed]) (fun _ q => f28.loadA rfl q) ?_
      refine s_new (fun h30 b29 hbb29 hzb29 eh30 bxb29 => ?_)
      have E31 := E21.trans eh30
      have z32 := eh30.size
      have lbb29 := bxb29.lt
      refine s_stBx (.agg #[.int .i64 r.phase, .int .i64 r.holds, .int .i64 r.again, .int .i64 r.shown, v_r_passed]) [.int .i64 r.phase, .int .i64 r.holds, .int .i64 r.again, .int .i64 r.shown, v_r_passed] [.int .i64 r.phase, .int .i64 r.holds, .int .i64 r.again, .int .i64 r.shown, v_r_passed] bxb29 rfl rfl rfl rfl (by simp) (all_cons rfl (all_cons rfl (all_cons rfl (all_cons rfl (all_cons f10.one1 all_nil))))) rfl (fun h33 mh33 sh33 bxx34 => ?_)
      have E35 := E31.mod mh33 (fun b hb => by simp at hb; omega)
      refine s_nil ?_
      refine p_seqN ?_
      refine v_seq ?_
      refine v_ops ?_
      refine s_pure (.pointer (some ⟨b1, 4, none⟩)) (fun _ q => q) ?_
      have f36 := ((f28.ext eh30).mod mh33 (by simp; omega))
      refine s_load v_r_passed (fun _ q => f36.load rfl q) ?_
      have f37 := ((((f10.ext eh11).ext eh20).ext eh30).mod mh33 (fun b hb hc => by simp at hc; have := lt_r_passed b hb; omega))
      refine s_call [v_r_passed] rfl (spec_l1Own_ok v_r_passed r.passed _ f37 (by have := (by assumption : RepOk r).1; omega)) ?_
      rintro r38 h39 ⟨_, rfl, s_r38, fr_r38, eh39⟩
      have E40 := E35.trans eh39
      have z41 := eh39.size
      have lt_r38 := s_r38.lt
      refine s_pure (.pointer (some ⟨b29, 4, none⟩)) (fun _ q => q) ?_
      have f42 := (bxx34.ext eh39)
      refine s_stBx r38 [r38] [.int .i64 r.phase, .int .i64 r.holds, .int .i64 r.again, .int .i64 r.shown, r38] f42 rfl rfl s_r38.cellsv rfl (by simp) (all_cons s_r38.one1 all_nil) rfl (fun h43 mh43 sh43 bxx44 => ?_)
      have E45 := E40.mod mh43 (fun b hb => by simp at hb; omega)
      refine s_nil ?_
      refine p_seqN ?_
      refine v_seq ?_
      refine v_seq ?_
      refine v_ops ?_
      refine s_pure v_l (fun _ q => q) ?_
      refine s_pure (.int .i64 (l.length : Int)) (fun _ q => f19.lenVC q) ?_
      refine s_pure (.int .i64 0) (fun _ q => q) ?_
      refine s_nil ?_
      refine p_seqN ?_
      refine v_block ?_
      have hok : RepOk r := by assumption
      have f47 := ((((((bxb5.ext eh11).ext eh20).ext eh30).mod mh33 (by simp; omega)).ext eh39).mod mh43 (by simp; omega))
      have f48 := (s_r38.mod mh43 (fun b hb hc => by simp at hc; have := fr_r38 b hb; omega))
      refine v_loop3 (α := Nat) (β := RepP) (γ := Value) (fun k q v => [(4, .pointer (some ⟨b5, 0, none⟩)), (6, .pointer (some ⟨b29, 0, none⟩)), (23, v_l), (24, .int .i64 (l.length : Int)), (25, .int .i64 (k : Int))]) (fun k q v hh => Ext h hh ∧ Bx hh b5 [.int .i64 0, .int .i64 0, .int .i64 0, .int .i64 0, .slice none 0 0] 25 ∧ Bx hh b29 [.int .i64 q.phase, .int .i64 q.holds, .int .i64 q.again, .int .i64 q.shown, v] 25 ∧ SlO hh v q.passed ∧ Fr h.size v ∧ b5 ∉ blks v ∧ b29 ∉ blks v ∧ k ≤ l.length ∧ q = run r (l.take k) ∧ q.passed.length ≤ 80) (fun k q v => l.length - k) 0 r r38 ⟨rfl, rfl, rfl, rfl, rfl⟩ ⟨E45, f47, bxx44, (sl_eq f48 (by simp)), (fr_r38.mono (by omega)), (fun hc => by have := fr_r38 _ hc; omega), (fun hc => by have := fr_r38 _ hc; omega), (by exact ⟨by omega, rfl, hok.1⟩)⟩ ?_
      rintro k q v R49 h46 ⟨Eh, bxb5, bxb29, s_v, fr_v, np_b5_v, np_b29_v, ⟨hk, hq, hl⟩⟩
      have zEh := Eh.size
      have f51 := s_r_passed.ext Eh
      have f52 := s_l.ext Eh
      have lbb5 := bxb5.lt
      have lbb29 := bxb29.lt
      have lt_v := s_v.lt
      have hi : RInv q := by rw [hq]; exact run_inv (RInv.ofOk hok) _
      have ha := hi.a
      have gok : l.length ≤ 80 := (by assumption : GlOk l).1
      refine v_seq ?_
      refine v_ops ?_
      refine s_pure (.bool (decide ((k : Int) < (l.length : Int)))) (fun _ q => q) ?_
      refine s_nil ?_
      refine p_seqN ?_
      refine v_seq ?_
      refine v_cond rfl (fun c53 => ?_) (fun c53 => ?_)
      ·
        refine v_skip ?_
        refine p_seqN ?_
        refine v_seq ?_
        refine v_block ?_
        refine v_seq ?_
        refine v_ops ?_
        have hk54 : k < l.length := (by first | omega | (simp; omega))
        obtain ⟨x55, hx55⟩ : ∃ x, l[k]? = some x := ⟨_, List.getElem?_eq_getElem hk54⟩
        refine s_pure (.pointer (some ⟨sblk v_l, soff v_l + k * 2, none⟩)) (fun _ q => f52.idx (k := k) rfl hk54 q) ?_
        refine s_load (.agg #[.bool x55.next, .int .i64 x55.signal]) (fun _ q => f52.loadN hx55 rfl q) ?_
        refine s_new (fun h57 b56 hbb56 hzb56 eh57 bxb56 => ?_)
        have E58 := Eh.trans eh57
        have z59 := eh57.size
        have lbb56 := bxb56.lt
        refine s_stBx (.agg #[.bool x55.next, .int .i64 x55.signal]) [.bool x55.next, .int .i64 x55.signal] [.bool x55.next, .int .i64 x55.signal] bxb56 rfl rfl rfl rfl (by simp) (all_cons rfl (all_cons rfl all_nil)) rfl (fun h60 mh60 sh60 bxx61 => ?_)
        have E62 := E58.mod mh60 (fun b hb => by simp at hb; omega)
        refine s_nil ?_
        refine p_seqN ?_
        refine v_seq ?_
        refine v_ops ?_
        have f63 := ((bxb29.ext eh57).mod mh60 (by simp; omega))
        refine s_load (.agg #[.int .i64 q.phase, .int .i64 q.holds, .int .i64 q.again, .int .i64 q.shown, v]) (fun _ q => f63.loadA rfl q) ?_
        refine s_load (.agg #[.bool x55.next, .int .i64 x55.signal]) (fun _ q => bxx61.loadA rfl q) ?_
        have f64 := ((s_v.ext eh57).mod mh60 (fun b hb hc => by simp at hc; have := lt_v b hb; omega))
        refine s_call [.agg #[.int .i64 q.phase, .int .i64 q.holds, .int .i64 q.again, .int .i64 q.shown, v], .agg #[.bool x55.next, .int .i64 x55.signal]] rfl (spec_rpStep_ok q v x55 _ f64.toSl (by first | omega | assumption | (simp; omega)) (by first | omega | assumption | (simp; omega))) ?_
        rintro _ h66 ⟨r65, rfl, s_r65, fr_r65, eh66⟩
        have E67 := E62.trans eh66
        have z68 := eh66.size
        have lt_r65 := s_r65.lt
        have f69 := (f63.ext eh66)
        refine s_stBx (.agg #[.int .i64 (((gl q x55).1).phase), .int .i64 (((gl q x55).1).holds), .int .i64 (((gl q x55).1).again), .int .i64 (((gl q x55).1).shown), r65]) [.int .i64 (((gl q x55).1).phase), .int .i64 (((gl q x55).1).holds), .int .i64 (((gl q x55).1).again), .int .i64 (((gl q x55).1).shown), r65] [.int .i64 (((gl q x55).1).phase), .int .i64 (((gl q x55).1).holds), .int .i64 (((gl q x55).1).again), .int .i64 (((gl q x55).1).shown), r65] f69 rfl rfl rfl rfl (by simp) (all_cons rfl (all_cons rfl (all_cons rfl (all_cons rfl (all_cons s_r65.one1 all_nil))))) rfl (fun h70 mh70 sh70 bxx71 => ?_)
        have E72 := E67.mod mh70 (fun b hb => by simp at hb; omega)
        refine s_nil ?_
        refine p_seqN ?_
        refine v_seq ?_
        refine v_ops ?_
        refine s_pure (.pointer (some ⟨b29, 4, none⟩)) (fun _ q => q) ?_
        refine s_load r65 (fun _ q => bxx71.load rfl q) ?_
        refine s_pure (.int .i64 ((((gl q x55).1).passed).length : Int)) (fun _ q => s_r65.lenVC q) ?_
        refine s_pure (.bool (decide (((((gl q x55).1).passed).length : Int) > 80))) (fun _ q => q) ?_
        refine s_nil ?_
        refine p_seqN ?_
        refine v_cond rfl (fun c73 => ?_) (fun c73 => ?_)
        ·
          refine v_seq ?_
          refine v_ops ?_
          refine s_pure (.agg #[.int .i64 0, .int .i64 0, .int .i64 0, .int .i64 0, .slice none 0 0]) (fun _ q => w_build (seg_nil q)) ?_
          have f74 := ((((bxb5.ext eh57).mod mh60 (by simp; omega)).ext eh66).mod mh70 (by simp; omega))
          refine s_stBx (.agg #[.int .i64 0, .int .i64 0, .int .i64 0, .int .i64 0, .slice none 0 0]) [.int .i64 0, .int .i64 0, .int .i64 0, .int .i64 0, .slice none 0 0] [.int .i64 0, .int .i64 0, .int .i64 0, .int .i64 0, .slice none 0 0] f74 rfl rfl rfl rfl (by simp) (all_cons rfl (all_cons rfl (all_cons rfl (all_cons rfl (all_cons rfl all_nil))))) rfl (fun h75 mh75 sh75 bxx76 => ?_)
          have E77 := E72.mod mh75 (fun b hb => by simp at hb; omega)
          refine s_pure (.bool false) (fun _ q => q) ?_
          refine s_nil ?_
          refine p_seqN ?_
          refine v_ret ?_
          refine p_blkR ?_
          refine p_seqR ?_
          refine p_lpR ?_
          refine p_blkR ?_
          refine p_seqR ?_
          refine p_ret [.agg #[.int .i64 0, .int .i64 0, .int .i64 0, .int .i64 0, .slice none 0 0], .bool false] (.tuple #[.agg #[.int .i64 0, .int .i64 0, .int .i64 0, .int .i64 0, .slice none 0 0], .bool false]) (fun _ q => (bxx76.loadA rfl q)) rfl ?_
          have ho : rgOut r l = (⟨0, 0, 0, 0, []⟩, false) := by first | exact rg_no (.inl (by assumption)) | exact rg_no (.inr (by assumption)) | exact rg_far (by assumption) hq (by omega) | exact rg_yes (by assumption) (by assumption) hq (by assumption) hl
          exact ⟨(.slice none 0 0), by first | (rw [ho]; done) | rfl, sl_eq (SlX.nil (α := Int) true _) (congrArg (fun o => o.1.passed) ho).symm, Fr.nil _, E77⟩
        ·
          refine v_skip ?_
          refine p_blkN ?_
          refine p_seqN ?_
          refine v_ops ?_
          refine s_pure (.int .i64 ((k : Int) + 1)) (fun _ q => ArithVC.mk (by omega) q) ?_
          refine s_pure (.int .i64 ((k : Int) + 1)) (fun _ q => q) ?_
          refine s_nil ?_
          have f78 := ((((bxb5.ext eh57).mod mh60 (by simp; omega)).ext eh66).mod mh70 (by simp; omega))
          have f79 := (s_r65.mod mh70 (fun b hb hc => by simp at hc; have := fr_r65 b hb; omega))
          exact p_lpN ⟨k + 1, ((gl q x55).1), r65, ⟨rfl, rfl, rfl, rfl, rfl⟩, ⟨E72, f78, bxx71, (sl_eq f79 (by simp)), (fr_r65.mono (by omega)), (fun hc => by have := fr_r65 _ hc; omega), (fun hc => by have := fr_r65 _ hc; omega), (by exact ⟨by omega, run_step (by assumption) hq, by omega⟩)⟩, by omega⟩
      ·
        refine v_exit ?_
        refine p_seqX ?_
        refine p_lpX ?_
        refine p_blkX ?_
        refine p_seqN ?_
        refine v_seq ?_
        refine v_ops ?_
        refine s_load (.agg #[.int .i64 q.phase, .int .i64 q.holds, .int .i64 q.again, .int .i64 q.shown, v]) (fun _ q => bxb29.loadA rfl q) ?_
        refine s_stBx (.agg #[.int .i64 q.phase, .int .i64 q.holds, .int .i64 q.again, .int .i64 q.shown, v]) [.int .i64 q.phase, .int .i64 q.holds, .int .i64 q.again, .int .i64 q.shown, v] [.int .i64 q.phase, .int .i64 q.holds, .int .i64 q.again, .int .i64 q.shown, v] bxb5 rfl rfl rfl rfl (by simp) (all_cons rfl (all_cons rfl (all_cons rfl (all_cons rfl (all_cons s_v.one1 all_nil))))) rfl (fun h80 mh80 sh80 bxx81 => ?_)
        have E82 := Eh.mod mh80 (fun b hb => by simp at hb; omega)
        refine s_pure (.bool true) (fun _ q => q) ?_
        refine s_nil ?_
        refine p_seqN ?_
        refine v_ret ?_
        refine p_ret [.agg #[.int .i64 q.phase, .int .i64 q.holds, .int .i64 q.again, .int .i64 q.shown, v], .bool true] (.tuple #[.agg #[.int .i64 q.phase, .int .i64 q.holds, .int .i64 q.again, .int .i64 q.shown, v], .bool true]) (fun _ q => (bxx81.loadA rfl q)) rfl ?_
        have ho : rgOut r l = (⟨q.phase, q.holds, q.again, q.shown, q.passed⟩, true) := by first | exact rg_no (.inl (by assumption)) | exact rg_no (.inr (by assumption)) | exact rg_far (by assumption) hq (by omega) | exact rg_yes (by assumption) (by assumption) hq (by assumption) hl
        have f83 := (s_v.mod mh80 (fun b hb hc => np_b5_v (by simp at hc; rw [← hc]; exact hb)))
        exact ⟨v, by first | (rw [ho]; done) | rfl, sl_eq f83 (congrArg (fun o => o.1.passed) ho).symm, fr_v.mono (by omega), E82⟩

set_option maxRecDepth 10000 in
set_option maxHeartbeats 4000000 in
theorem impl_GlanceAt_ok (r : RepP) (v_r_passed : Value) (g : GlanceD) (h : Heap) (s_r_passed : Sl h v_r_passed r.passed) : Cn f_impl_GlanceAt [.agg #[.int .i64 r.phase, .int .i64 r.holds, .int .i64 r.again, .int .i64 r.shown, v_r_passed], .agg #[.bool g.next, .int .i64 g.signal]] h fun v h' => ∃ r0 : Value, v = .tuple #[.agg #[.int .i64 (((rgOut r [g]).1).phase), .int .i64 (((rgOut r [g]).1).holds), .int .i64 (((rgOut r [g]).1).again), .int .i64 (((rgOut r [g]).1).shown), r0], .bool ((rgOut r [g]).2)] ∧ SlO h' r0 (((rgOut r [g]).1).passed) ∧ Fr h.size r0 ∧ Ext h h' := by
  have lt_r_passed := s_r_passed.lt
  have l63_r_passed := s_r_passed.len63
  refine calls_of r_impl_GlanceAt ?_
  refine v_seq ?_
  refine v_ops ?_
  refine s_box [.int .i64 r.phase, .int .i64 r.holds, .int .i64 r.again, .int .i64 r.shown, v_r_passed] rfl (fun h2 b1 hbb1 hzb1 eh2 bxb1 => ?_)
  have E3 := (Ext.refl h).trans eh2
  have z4 := eh2.size
  have lbb1 := bxb1.lt
  refine s_box [.bool g.next, .int .i64 g.signal] rfl (fun h6 b5 hbb5 hzb5 eh6 bxb5 => ?_)
  have E7 := E3.trans eh6
  have z8 := eh6.size
  have lbb5 := bxb5.lt
  refine s_new (fun h10 b9 hbb9 hzb9 eh10 bxb9 => ?_)
  have E11 := E7.trans eh10
  have z12 := eh10.size
  have lbb9 := bxb9.lt
  refine s_pure (.bool false) (fun _ q => q) ?_
  refine s_nil ?_
  refine p_seqN ?_
  refine v_seq ?_
  refine v_seq ?_
  refine v_ops ?_
  have f13 := ((bxb1.ext eh6).ext eh10)
  refine s_load (.agg #[.int .i64 r.phase, .int .i64 r.holds, .int .i64 r.again, .int .i64 r.shown, v_r_passed]) (fun _ q => f13.loadA rfl q) ?_
  have f14 := (((s_r_passed.ext eh2).ext eh6).ext eh10)
  refine s_call [.agg #[.int .i64 r.phase, .int .i64 r.holds, .int .i64 r.again, .int .i64 r.shown, v_r_passed]] rfl (impl_IsRepeater_ok r v_r_passed _ f14) ?_
  rintro _ h15 ⟨rfl, eh15⟩
  have E16 := E11.trans eh15
  have z17 := eh15.size
  refine s_pure (.bool (!decide (RepOk r))) (fun _ q => q) ?_
  refine s_pure (.bool (!decide (RepOk r))) (fun _ q => q) ?_
  refine s_splitT rfl (fun c18 => ?_) (fun c18 => ?_)
  ·
    refine s_pass rfl ?_
    refine s_pass rfl ?_
    refine s_pass rfl ?_
    refine s_pass rfl ?_
    refine s_pure (.bool true) (fun _ q => q) ?_
    refine s_nil ?_
    refine p_seqN ?_
    refine v_condY rfl rfl ?_
    refine v_seq ?_
    refine v_ops ?_
    refine s_pure (.agg #[.int .i64 0, .int .i64 0, .int .i64 0, .int .i64 0, .slice none 0 0]) (fun _ q => w_build (seg_nil q)) ?_
    have f19 := (bxb9.ext eh15)
    refine s_stBx (.agg #[.int .i64 0, .int .i64 0, .int .i64 0, .int .i64 0, .slice none 0 0]) [.int .i64 0, .int .i64 0, .int .i64 0, .int .i64 0, .slice none 0 0] [.int .i64 0, .int .i64 0, .int .i64 0, .int .i64 0, .slice none 0 0] f19 rfl rfl rfl rfl (by simp) (all_cons rfl (all_cons rfl (all_cons rfl (all_cons rfl (all_cons rfl all_nil))))) rfl (fun h20 mh20 sh20 bxx21 => ?_)
    have E22 := E16.mod mh20 (fun b hb => by simp at hb; omega)
    refine s_pure (.bool false) (fun _ q => q) ?_
    refine s_nil ?_
    refine p_seqN ?_
    refine v_ret ?_
    refine p_seqR ?_
    refine p_ret [.agg #[.int .i64 0, .int .i64 0, .int .i64 0, .int .i64 0, .slice none 0 0], .bool false] (.tuple #[.agg #[.int .i64 0, .int .i64 0, .int .i64 0, .int .i64 0, .slice none 0 0], .bool false]) (fun _ q => (bxx21.loadA rfl q)) rfl ?_
    have ho : rgOut r [g] = (⟨0, 0, 0, 0, []⟩, false) := by first | exact rg_no (.inl (by assumption)) | exact rg_no (.inr (fun hg => absurd (glok_one.1 hg) (by assumption))) | exact rg_one (by assumption) (by assumption) (by omega) | exact rg_one_no (by omega)
    exact ⟨(.slice none 0 0), by first | (rw [ho]; done) | rfl, sl_eq (SlX.nil (α := Int) true _) (congrArg (fun o => o.1.passed) ho).symm, Fr.nil _, E22⟩
  ·
    have c18 := Classical.not_not.1 c18
    refine s_run rfl ?_
    refine s_pure (.pointer (some ⟨b5, 1, none⟩)) (fun _ q => q) ?_
    refine s_run rfl ?_
    have f23 := ((bxb5.ext eh10).ext eh15)
    refine s_load (.int .i64 g.signal) (fun _ q => f23.load rfl q) ?_
    refine s_run rfl ?_
    refine s_callS [.int .i64 g.signal] (.bool (decide (0 ≤ g.signal ∧ g.signal ≤ 63))) rfl (isSignal_ok g.signal _ ) ?_
    refine s_run rfl ?_
    refine s_pure (.bool (!(decide (0 ≤ g.signal ∧ g.signal ≤ 63)))) (fun _ q => q) ?_
    refine s_pure (.bool (!(decide (0 ≤ g.signal ∧ g.signal ≤ 63)))) (fun _ q => q) ?_
    refine s_nil ?_
    refine p_seqN ?_
    refine v_cond rfl (fun c24 => ?_) (fun c24 => ?_)
    ·
      refine v_seq ?_
      refine v_ops ?_
      refine s_pure (.agg #[.int .i64 0, .int .i64 0, .int .i64 0, .int .i64 0, .slice none 0 0]) (fun _ q => w_build (seg_nil q)) ?_
      have f25 := (bxb9.ext eh15)
      refine s_stBx (.agg #[.int .i64 0, .int .i64 0, .int .i64 0, .int .i64 0, .slice none 0 0]) [.int .i64 0, .int .i64 0, .int .i64 0, .int .i64 0, .slice none 0 0] [.int .i64 0, .int .i64 0, .int .i64 0, .int .i64 0, .slice none 0 0] f25 rfl rfl rfl rfl (by simp) (all_cons rfl (all_cons rfl (all_cons rfl (all_cons rfl (all_cons rfl all_nil))))) rfl (fun h26 mh26 sh26 bxx27 => ?_)
      have E28 := E16.mod mh26 (fun b hb => by simp at hb; omega)
      refine s_pure (.bool false) (fun _ q => q) ?_
      refine s_nil ?_
      refine p_seqN ?_
      refine v_ret ?_
      refine p_seqR ?_
      refine p_ret [.agg #[.int .i64 0, .int .i64 0, .int .i64 0, .int .i64 0, .slice none 0 0], .bool false] (.tuple #[.agg #[.int .i64 0, .int .i64 0, .int .i64 0, .int .i64 0, .slice none 0 0], .bool false]) (fun _ q => (bxx27.loadA rfl q)) rfl ?_
      have ho : rgOut r [g] = (⟨0, 0, 0, 0, []⟩, false) := by first | exact rg_no (.inl (by assumption)) | exact rg_no (.inr (fun hg => absurd (glok_one.1 hg) (by assumption))) | exact rg_one (by assumption) (by assumption) (by omega) | exact rg_one_no (by omega)
      exact ⟨(.slice none 0 0), by first | (rw [ho]; done) | rfl, sl_eq (SlX.nil (α := Int) true _) (congrArg (fun o => o.1.passed) ho).symm, Fr.nil _, E28⟩
    ·
      have c24 := Classical.not_not.1 c24
      refine v_skip ?_
      refine p_seqN ?_
      refine v_seq ?_
      have f29 := (f13.ext eh15)
      refine v_draw (DrawVC.cut (α := Value × Nat) ([b1] ++ [b5]) (fun zz => [(4, .pointer (some ⟨b9, 0, none⟩)), (6, .pointer (some ⟨zz.2, 0, none⟩))]) (fun zz h' => SlO h' zz.1 (((gl r g).1).passed) ∧ Fr h15.size zz.1 ∧ Bx h' zz.2 [.int .i64 (((gl r g).1).phase), .int .i64 (((gl r g).1).holds), .int .i64 (((gl r g).1).again), .int .i64 (((gl r g).1).shown), zz.1] 25 ∧ h15.size ≤ zz.2 ∧ zz.2 ∉ blks zz.1 ∧ Ext h15 h') ?_ ?_)
      ·
        refine d_loadT (.agg #[.int .i64 r.phase, .int .i64 r.holds, .int .i64 r.again, .int .i64 r.shown, v_r_passed]) (fun _ q => f29.takeA (by simp) rfl q) ?_
        refine d_loadT (.agg #[.bool g.next, .int .i64 g.signal]) (fun _ q => f23.takeA (by simp) rfl q) ?_
        refine d_fork ?_ ?_
        ·
          refine d_eff ?_
          have f30 := (f14.ext eh15)
          refine s_call [.agg #[.int .i64 r.phase, .int .i64 r.holds, .int .i64 r.again, .int .i64 r.shown, v_r_passed]] rfl (impl_cloneRepeater_ok r v_r_passed _ f30 (by have := (by assumption : RepOk r).1; omega)) ?_
          rintro _ h32 ⟨r31, rfl, s_r31, fr_r31, eh32⟩
          have E33 := E16.trans eh32
          have z34 := eh32.size
          have G35 := eh32
          have lt_r31 := s_r31.lt
          refine s_nil ⟨fun _ x hx => G35.blk x (by simp at hx; omega), ?_⟩
          refine d_fork ?_ ?_
          ·
            refine d_eff ?_
            refine s_call [.agg #[.int .i64 r.phase, .int .i64 r.holds, .int .i64 r.again, .int .i64 r.shown, r31], .agg #[.bool g.next, .int .i64 g.signal]] rfl (impl_glance_ok r r31 g _ s_r31 (fun _ => (RInv.ofOk (by assumption)).a) (by have := (by assumption : RepOk r).1; omega)) ?_
            rintro _ h37 ⟨r36, rfl, s_r36, mh37, ab_r36⟩
            have zh37 := mh37.size
            have E38 := E33.mod mh37 (fun b hb => by have := fr_r31 b hb; omega)
            have G39 := G35.mod mh37 (fun b hb => by have := fr_r31 b hb; omega)
            have fr_r36 := fr_r31.app ab_r36 (by omega)
            have lt_r36 := s_r36.lt
            refine s_nil ⟨fun _ x hx => G39.blk x (by simp at hx; omega), ?_⟩
            refine d_pureT (.tuple #[.agg #[.int .i64 (((gl r g).1).phase), .int .i64 (((gl r g).1).holds), .int .i64 (((gl r g).1).again), .int .i64 (((gl r g).1).shown), r36], .bool ((gl r g).2)]) (fun _ q => q) ?_
            refine d_pureT (.agg #[.int .i64 (((gl r g).1).phase), .int .i64 (((gl r g).1).holds), .int .i64 (((gl r g).1).again), .int .i64 (((gl r g).1).shown), r36]) (fun _ q => q) ?_
            refine d_pureT (.bool ((gl r g).2)) (fun _ q => q) ?_
            refine d_eff ?_
            refine s_new (fun h41 b40 hbb40 hzb40 eh41 bxb40 => ?_)
            have E42 := E38.trans eh41
            have z43 := eh41.size
            have G44 := G39.trans eh41
            have lbb40 := bxb40.lt
            refine s_nil ⟨fun _ x hx => G44.blk x (by simp at hx; omega), ?_⟩
            refine d_eff ?_
            refine s_stBx (.agg #[.int .i64 (((gl r g).1).phase), .int .i64 (((gl r g).1).holds), .int .i64 (((gl r g).1).again), .int .i64 (((gl r g).1).shown), r36]) [.int .i64 (((gl r g).1).phase), .int .i64 (((gl r g).1).holds), .int .i64 (((gl r g).1).again), .int .i64 (((gl r g).1).shown), r36] [.int .i64 (((gl r g).1).phase), .int .i64 (((gl r g).1).holds), .int .i64 (((gl r g).1).again), .int .i64 (((gl r g).1).shown), r36] bxb40 rfl rfl rfl rfl (by simp) (all_cons rfl (all_cons rfl (all_cons rfl (all_cons rfl (all_cons s_r36.one1 all_nil))))) rfl (fun h45 mh45 sh45 bxx46 => ?_)
            have E47 := E42.mod mh45 (fun b hb => by simp at hb; omega)
            have G48 := G44.mod mh45 (fun b hb => by simp at hb; omega)
            refine s_nil ⟨fun _ x hx => G48.blk x (by simp at hx; omega), ?_⟩
            refine d_pureT (.bool ((gl r g).2)) (fun _ q => q) ?_
            have f49 := ((s_r36.ext eh41).mod mh45 (fun b hb hc => by simp at hc; have := lt_r36 b hb; omega))
            refine d_done ⟨(r36, b40), ⟨rfl, rfl⟩, f49, fr_r36.mono (by omega), bxx46, by omega, (fun hc => by have := lt_r36 _ hc; omega), G48⟩
          ·
            refine d_eff ?_
            refine s_new (fun h51 b50 hbb50 hzb50 eh51 bxb50 => ?_)
            have E52 := E33.trans eh51
            have z53 := eh51.size
            have G54 := G35.trans eh51
            have lbb50 := bxb50.lt
            refine s_nil ⟨fun _ x hx => G54.blk x (by simp at hx; omega), ?_⟩
            refine d_eff ?_
            have f55 := (s_r31.ext eh51)
            refine s_call [.agg #[.int .i64 r.phase, .int .i64 r.holds, .int .i64 r.again, .int .i64 r.shown, r31], .agg #[.bool g.next, .int .i64 g.signal]] rfl (impl_glance_ok r r31 g _ f55 (fun _ => (RInv.ofOk (by assumption)).a) (by have := (by assumption : RepOk r).1; omega)) ?_
            rintro _ h57 ⟨r56, rfl, s_r56, mh57, ab_r56⟩
            have zh57 := mh57.size
            have E58 := E52.mod mh57 (fun b hb => by have := fr_r31 b hb; omega)
            have G59 := G54.mod mh57 (fun b hb => by have := fr_r31 b hb; omega)
            have fr_r56 := fr_r31.app ab_r56 (by omega)
            have np60 : b50 ∉ blks r56 := fun hc => (ab_r56 _ hc).elim (fun hc => by have := lt_r31 _ hc; omega) (fun hc => by omega)
            have lt_r56 := s_r56.lt
            refine s_nil ⟨fun _ x hx => G59.blk x (by simp at hx; omega), ?_⟩
            refine d_pureT (.tuple #[.agg #[.int .i64 (((gl r g).1).phase), .int .i64 (((gl r g).1).holds), .int .i64 (((gl r g).1).again), .int .i64 (((gl r g).1).shown), r56], .bool ((gl r g).2)]) (fun _ q => q) ?_
            refine d_pureT (.agg #[.int .i64 (((gl r g).1).phase), .int .i64 (((gl r g).1).holds), .int .i64 (((gl r g).1).again), .int .i64 (((gl r g).1).shown), r56]) (fun _ q => q) ?_
            refine d_pureT (.bool ((gl r g).2)) (fun _ q => q) ?_
            refine d_eff ?_
            have f61 := (bxb50.mod mh57 (fun hc => by have := lt_r31 _ hc; omega))
            refine s_stBx (.agg #[.int .i64 (((gl r g).1).phase), .int .i64 (((gl r g).1).holds), .int .i64 (((gl r g).1).again), .int .i64 (((gl r g).1).shown), r56]) [.int .i64 (((gl r g).1).phase), .int .i64 (((gl r g).1).holds), .int .i64 (((gl r g).1).again), .int .i64 (((gl r g).1).shown), r56] [.int .i64 (((gl r g).1).phase), .int .i64 (((gl r g).1).holds), .int .i64 (((gl r g).1).again), .int .i64 (((gl r g).1).shown), r56] f61 rfl rfl rfl rfl (by simp) (all_cons rfl (all_cons rfl (all_cons rfl (all_cons rfl (all_cons s_r56.one1 all_nil))))) rfl (fun h62 mh62 sh62 bxx63 => ?_)
            have E64 := E58.mod mh62 (fun b hb => by simp at hb; omega)
            have G65 := G59.mod mh62 (fun b hb => by simp at hb; omega)
            refine s_nil ⟨fun _ x hx => G65.blk x (by simp at hx; omega), ?_⟩
            refine d_pureT (.bool ((gl r g).2)) (fun _ q => q) ?_
            have f66 := (s_r56.mod mh62 (fun b hb hc => np60 (by simp at hc; rw [← hc]; exact hb)))
            refine d_done ⟨(r56, b50), ⟨rfl, rfl⟩, f66, fr_r56.mono (by omega), bxx63, by omega, np60, G65⟩
        ·
          refine d_eff ?_
          refine s_new (fun h68 b67 hbb67 hzb67 eh68 bxb67 => ?_)
          have E69 := E16.trans eh68
          have z70 := eh68.size
          have G71 := eh68
          have lbb67 := bxb67.lt
          refine s_nil ⟨fun _ x hx => G71.blk x (by simp at hx; omega), ?_⟩
          refine d_eff ?_
          have f72 := ((f14.ext eh15).ext eh68)
          refine s_call [.agg #[.int .i64 r.phase, .int .i64 r.holds, .int .i64 r.again, .int .i64 r.shown, v_r_passed]] rfl (impl_cloneRepeater_ok r v_r_passed _ f72 (by have := (by assumption : RepOk r).1; omega)) ?_
          rintro _ h74 ⟨r73, rfl, s_r73, fr_r73, eh74⟩
          have E75 := E69.trans eh74
          have z76 := eh74.size
          have G77 := G71.trans eh74
          have lt_r73 := s_r73.lt
          refine s_nil ⟨fun _ x hx => G77.blk x (by simp at hx; omega), ?_⟩
          refine d_eff ?_
          refine s_call [.agg #[.int .i64 r.phase, .int .i64 r.holds, .int .i64 r.again, .int .i64 r.shown, r73], .agg #[.bool g.next, .int .i64 g.signal]] rfl (impl_glance_ok r r73 g _ s_r73 (fun _ => (RInv.ofOk (by assumption)).a) (by have := (by assumption : RepOk r).1; omega)) ?_
          rintro _ h79 ⟨r78, rfl, s_r78, mh79, ab_r78⟩
          have zh79 := mh79.size
          have E80 := E75.mod mh79 (fun b hb => by have := fr_r73 b hb; omega)
          have G81 := G77.mod mh79 (fun b hb => by have := fr_r73 b hb; omega)
          have fr_r78 := fr_r73.app ab_r78 (by omega)
          have lt_r78 := s_r78.lt
          refine s_nil ⟨fun _ x hx => G81.blk x (by simp at hx; omega), ?_⟩
          refine d_pureT (.tuple #[.agg #[.int .i64 (((gl r g).1).phase), .int .i64 (((gl r g).1).holds), .int .i64 (((gl r g).1).again), .int .i64 (((gl r g).1).shown), r78], .bool ((gl r g).2)]) (fun _ q => q) ?_
          refine d_pureT (.agg #[.int .i64 (((gl r g).1).phase), .int .i64 (((gl r g).1).holds), .int .i64 (((gl r g).1).again), .int .i64 (((gl r g).1).shown), r78]) (fun _ q => q) ?_
          refine d_pureT (.bool ((gl r g).2)) (fun _ q => q) ?_
          refine d_eff ?_
          have f82 := ((bxb67.ext eh74).mod mh79 (fun hc => by have := fr_r73 _ hc; omega))
          refine s_stBx (.agg #[.int .i64 (((gl r g).1).phase), .int .i64 (((gl r g).1).holds), .int .i64 (((gl r g).1).again), .int .i64 (((gl r g).1).shown), r78]) [.int .i64 (((gl r g).1).phase), .int .i64 (((gl r g).1).holds), .int .i64 (((gl r g).1).again), .int .i64 (((gl r g).1).shown), r78] [.int .i64 (((gl r g).1).phase), .int .i64 (((gl r g).1).holds), .int .i64 (((gl r g).1).again), .int .i64 (((gl r g).1).shown), r78] f82 rfl rfl rfl rfl (by simp) (all_cons rfl (all_cons rfl (all_cons rfl (all_cons rfl (all_cons s_r78.one1 all_nil))))) rfl (fun h83 mh83 sh83 bxx84 => ?_)
          have E85 := E80.mod mh83 (fun b hb => by simp at hb; omega)
          have G86 := G81.mod mh83 (fun b hb => by simp at hb; omega)
          refine s_nil ⟨fun _ x hx => G86.blk x (by simp at hx; omega), ?_⟩
          refine d_pureT (.bool ((gl r g).2)) (fun _ q => q) ?_
          have f87 := (s_r78.mod mh83 (fun b hb hc => by simp at hc; have := fr_r78 b hb; omega))
          refine d_done ⟨(r78, b67), ⟨rfl, rfl⟩, f87, fr_r78.mono (by omega), bxx84, by omega, (fun hc => by have := fr_r78 _ hc; omega), G86⟩
      rintro ⟨r88, p89⟩ R91 h90 ⟨s_r88, fr_r88, bxp89, lop89, np_p89_r88, eh90⟩
      simp only at s_r88 fr_r88 bxp89 lop89 np_p89_r88 eh90
      have E92 := E16.trans eh90
      have z93 := eh90.size
      have lt_r88 := s_r88.lt
      have lbp89 := bxp89.lt
      refine p_seqN ?_
      refine v_seq ?_
      refine v_seq ?_
      refine v_ops ?_
      refine s_pure (.pointer (some ⟨p89, 4, none⟩)) (fun _ q => q) ?_
      refine s_load r88 (fun _ q => bxp89.load rfl q) ?_
      refine s_pure (.int .i64 ((((gl r g).1).passed).length : Int)) (fun _ q => s_r88.lenVC q) ?_
      refine s_pure (.bool (decide (((((gl r g).1).passed).length : Int) > 80))) (fun _ q => q) ?_
      refine s_nil ?_
      refine p_seqN ?_
      refine v_cond rfl (fun c94 => ?_) (fun c94 => ?_)
      ·
        refine v_seq ?_
        refine v_ops ?_
        refine s_pure (.agg #[.int .i64 0, .int .i64 0, .int .i64 0, .int .i64 0, .slice none 0 0]) (fun _ q => w_build (seg_nil q)) ?_
        have f95 := ((bxb9.ext eh15).ext eh90)
        refine s_stBx (.agg #[.int .i64 0, .int .i64 0, .int .i64 0, .int .i64 0, .slice none 0 0]) [.int .i64 0, .int .i64 0, .int .i64 0, .int .i64 0, .slice none 0 0] [.int .i64 0, .int .i64 0, .int .i64 0, .int .i64 0, .slice none 0 0] f95 rfl rfl rfl rfl (by simp) (all_cons rfl (all_cons rfl (all_cons rfl (all_cons rfl (all_cons rfl all_nil))))) rfl (fun h96 mh96 sh96 bxx97 => ?_)
        have E98 := E92.mod mh96 (fun b hb => by simp at hb; omega)
        refine s_pure (.bool false) (fun _ q => q) ?_
        refine s_nil ?_
        refine p_seqN ?_
        refine v_ret ?_
        refine p_seqR ?_
        refine p_ret [.agg #[.int .i64 0, .int .i64 0, .int .i64 0, .int .i64 0, .slice none 0 0], .bool false] (.tuple #[.agg #[.int .i64 0, .int .i64 0, .int .i64 0, .int .i64 0, .slice none 0 0], .bool false]) (fun _ q => (bxx97.loadA rfl q)) rfl ?_
        have ho : rgOut r [g] = (⟨0, 0, 0, 0, []⟩, false) := by first | exact rg_no (.inl (by assumption)) | exact rg_no (.inr (fun hg => absurd (glok_one.1 hg) (by assumption))) | exact rg_one (by assumption) (by assumption) (by omega) | exact rg_one_no (by omega)
        exact ⟨(.slice none 0 0), by first | (rw [ho]; done) | rfl, sl_eq (SlX.nil (α := Int) true _) (congrArg (fun o => o.1.passed) ho).symm, Fr.nil _, E98⟩
      ·
        refine v_skip ?_
        refine p_seqN ?_
        refine v_seq ?_
        refine v_ops ?_
        refine s_load (.agg #[.int .i64 (((gl r g).1).phase), .int .i64 (((gl r g).1).holds), .int .i64 (((gl r g).1).again), .int .i64 (((gl r g).1).shown), r88]) (fun _ q => bxp89.loadA rfl q) ?_
        have f99 := ((bxb9.ext eh15).ext eh90)
        refine s_stBx (.agg #[.int .i64 (((gl r g).1).phase), .int .i64 (((gl r g).1).holds), .int .i64 (((gl r g).1).again), .int .i64 (((gl r g).1).shown), r88]) [.int .i64 (((gl r g).1).phase), .int .i64 (((gl r g).1).holds), .int .i64 (((gl r g).1).again), .int .i64 (((gl r g).1).shown), r88] [.int .i64 (((gl r g).1).phase), .int .i64 (((gl r g).1).holds), .int .i64 (((gl r g).1).again), .int .i64 (((gl r g).1).shown), r88] f99 rfl rfl rfl rfl (by simp) (all_cons rfl (all_cons rfl (all_cons rfl (all_cons rfl (all_cons s_r88.one1 all_nil))))) rfl (fun h100 mh100 sh100 bxx101 => ?_)
        have E102 := E92.mod mh100 (fun b hb => by simp at hb; omega)
        refine s_pure (.bool true) (fun _ q => q) ?_
        refine s_nil ?_
        refine p_seqN ?_
        refine v_ret ?_
        refine p_ret [.agg #[.int .i64 (((gl r g).1).phase), .int .i64 (((gl r g).1).holds), .int .i64 (((gl r g).1).again), .int .i64 (((gl r g).1).shown), r88], .bool true] (.tuple #[.agg #[.int .i64 (((gl r g).1).phase), .int .i64 (((gl r g).1).holds), .int .i64 (((gl r g).1).again), .int .i64 (((gl r g).1).shown), r88], .bool true]) (fun _ q => (bxx101.loadA rfl q)) rfl ?_
        have ho : rgOut r [g] = (⟨((gl r g).1).phase, ((gl r g).1).holds, ((gl r g).1).again, ((gl r g).1).shown, ((gl r g).1).passed⟩, true) := by first | exact rg_no (.inl (by assumption)) | exact rg_no (.inr (fun hg => absurd (glok_one.1 hg) (by assumption))) | exact rg_one (by assumption) (by assumption) (by omega) | exact rg_one_no (by omega)
        have f103 := (s_r88.mod mh100 (fun b hb hc => by simp at hc; have := fr_r88 b hb; omega))
        exact ⟨r88, by first | (rw [ho]; done) | rfl, sl_eq f103 (congrArg (fun o => o.1.passed) ho).symm, fr_r88.mono (by omega), E102⟩

theorem spec_GlanceAt_ok (r : RepP) (v_r_passed : Value) (g : GlanceD) (h : Heap) (s_r_passed : Sl h v_r_passed r.passed) : Cn f_spec_GlanceAt [.agg #[.int .i64 r.phase, .int .i64 r.holds, .int .i64 r.again, .int .i64 r.shown, v_r_passed], .agg #[.bool g.next, .int .i64 g.signal]] h fun v h' => ∃ r0 : Value, v = .tuple #[.agg #[.int .i64 (((rgOut r [g]).1).phase), .int .i64 (((rgOut r [g]).1).holds), .int .i64 (((rgOut r [g]).1).again), .int .i64 (((rgOut r [g]).1).shown), r0], .bool ((rgOut r [g]).2)] ∧ SlO h' r0 (((rgOut r [g]).1).passed) ∧ Fr h.size r0 ∧ Ext h h' := by
  have lt_r_passed := s_r_passed.lt
  have l63_r_passed := s_r_passed.len63
  refine calls_of r_spec_GlanceAt ?_
  refine v_seq ?_
  refine v_ops ?_
  refine s_box [.int .i64 r.phase, .int .i64 r.holds, .int .i64 r.again, .int .i64 r.shown, v_r_passed] rfl (fun h2 b1 hbb1 hzb1 eh2 bxb1 => ?_)
  have E3 := (Ext.refl h).trans eh2
  have z4 := eh2.size
  have lbb1 := bxb1.lt
  refine s_box [.bool g.next, .int .i64 g.signal] rfl (fun h6 b5 hbb5 hzb5 eh6 bxb5 => ?_)
  have E7 := E3.trans eh6
  have z8 := eh6.size
  have lbb5 := bxb5.lt
  refine s_new (fun h10 b9 hbb9 hzb9 eh10 bxb9 => ?_)
  have E11 := E7.trans eh10
  have z12 := eh10.size
  have lbb9 := bxb9.lt
  refine s_pure (.bool false) (fun _ q => q) ?_
  refine s_nil ?_
  refine p_seqN ?_
  refine v_seq ?_
  refine v_ops ?_
  have f13 := ((bxb1.ext eh6).ext eh10)
  refine s_load (.agg #[.int .i64 r.phase, .int .i64 r.holds, .int .i64 r.again, .int .i64 r.shown, v_r_passed]) (fun _ q => f13.loadA rfl q) ?_
  have f14 := (bxb5.ext eh10)
  refine s_load (.agg #[.bool g.next, .int .i64 g.signal]) (fun _ q => f14.loadA rfl q) ?_
  refine s_row (α := GlanceD) [(⟨g.next, g.signal⟩ : GlanceD)] (fun _ q => seg_agg rfl rfl (seg_nil q)) rfl (by simp [maxLen]) (fun r15 h16 eh16 zh16 s_r15 fr_r15 => ?_)
  have E17 := E11.trans eh16
  have z18 := eh16.size
  have lt_r15 := s_r15.lt
  have f19 := ((((s_r_passed.ext eh2).ext eh6).ext eh10).ext eh16)
  refine s_call [.agg #[.int .i64 r.phase, .int .i64 r.holds, .int .i64 r.again, .int .i64 r.shown, v_r_passed], r15] rfl (spec_RunGlances_ok r v_r_passed r15 [(⟨g.next, g.signal⟩ : GlanceD)] _ f19 s_r15.toSl) ?_
  rintro _ h21 ⟨r20, rfl, s_r20, fr_r20, eh21⟩
  have E22 := E17.trans eh21
  have z23 := eh21.size
  have lt_r20 := s_r20.lt
  refine s_pure (.agg #[.int .i64 (((rgOut r [(⟨g.next, g.signal⟩ : GlanceD)]).1).phase), .int .i64 (((rgOut r [(⟨g.next, g.signal⟩ : GlanceD)]).1).holds), .int .i64 (((rgOut r [(⟨g.next, g.signal⟩ : GlanceD)]).1).again), .int .i64 (((rgOut r [(⟨g.next, g.signal⟩ : GlanceD)]).1).shown), r20]) (fun _ q => q) ?_
  refine s_pure (.bool ((rgOut r [(⟨g.next, g.signal⟩ : GlanceD)]).2)) (fun _ q => q) ?_
  have f24 := ((bxb9.ext eh16).ext eh21)
  refine s_stBx (.agg #[.int .i64 (((rgOut r [(⟨g.next, g.signal⟩ : GlanceD)]).1).phase), .int .i64 (((rgOut r [(⟨g.next, g.signal⟩ : GlanceD)]).1).holds), .int .i64 (((rgOut r [(⟨g.next, g.signal⟩ : GlanceD)]).1).again), .int .i64 (((rgOut r [(⟨g.next, g.signal⟩ : GlanceD)]).1).shown), r20]) [.int .i64 (((rgOut r [(⟨g.next, g.signal⟩ : GlanceD)]).1).phase), .int .i64 (((rgOut r [(⟨g.next, g.signal⟩ : GlanceD)]).1).holds), .int .i64 (((rgOut r [(⟨g.next, g.signal⟩ : GlanceD)]).1).again), .int .i64 (((rgOut r [(⟨g.next, g.signal⟩ : GlanceD)]).1).shown), r20] [.int .i64 (((rgOut r [(⟨g.next, g.signal⟩ : GlanceD)]).1).phase), .int .i64 (((rgOut r [(⟨g.next, g.signal⟩ : GlanceD)]).1).holds), .int .i64 (((rgOut r [(⟨g.next, g.signal⟩ : GlanceD)]).1).again), .int .i64 (((rgOut r [(⟨g.next, g.signal⟩ : GlanceD)]).1).shown), r20] f24 rfl rfl rfl rfl (by simp) (all_cons rfl (all_cons rfl (all_cons rfl (all_cons rfl (all_cons s_r20.one1 all_nil))))) rfl (fun h25 mh25 sh25 bxx26 => ?_)
  have E27 := E22.mod mh25 (fun b hb => by simp at hb; omega)
  refine s_pure (.bool ((rgOut r [(⟨g.next, g.signal⟩ : GlanceD)]).2)) (fun _ q => q) ?_
  refine s_nil ?_
  refine p_seqN ?_
  refine v_ret ?_
  refine p_ret [.agg #[.int .i64 (((rgOut r [(⟨g.next, g.signal⟩ : GlanceD)]).1).phase), .int .i64 (((rgOut r [(⟨g.next, g.signal⟩ : GlanceD)]).1).holds), .int .i64 (((rgOut r [(⟨g.next, g.signal⟩ : GlanceD)]).1).again), .int .i64 (((rgOut r [(⟨g.next, g.signal⟩ : GlanceD)]).1).shown), r20], .bool ((rgOut r [(⟨g.next, g.signal⟩ : GlanceD)]).2)] (.tuple #[.agg #[.int .i64 (((rgOut r [(⟨g.next, g.signal⟩ : GlanceD)]).1).phase), .int .i64 (((rgOut r [(⟨g.next, g.signal⟩ : GlanceD)]).1).holds), .int .i64 (((rgOut r [(⟨g.next, g.signal⟩ : GlanceD)]).1).again), .int .i64 (((rgOut r [(⟨g.next, g.signal⟩ : GlanceD)]).1).shown), r20], .bool ((rgOut r [(⟨g.next, g.signal⟩ : GlanceD)]).2)]) (fun _ q => (bxx26.loadA rfl q)) rfl ?_
  have ho : rgOut r [g] = (⟨((rgOut r [(⟨g.next, g.signal⟩ : GlanceD)]).1).phase, ((rgOut r [(⟨g.next, g.signal⟩ : GlanceD)]).1).holds, ((rgOut r [(⟨g.next, g.signal⟩ : GlanceD)]).1).again, ((rgOut r [(⟨g.next, g.signal⟩ : GlanceD)]).1).shown, ((rgOut r [(⟨g.next, g.signal⟩ : GlanceD)]).1).passed⟩, (rgOut r [(⟨g.next, g.signal⟩ : GlanceD)]).2) := by rfl
  have f28 := (s_r20.mod mh25 (fun b hb hc => by simp at hc; have := fr_r20 b hb; omega))
  exact ⟨r20, by first | (rw [ho]; done) | rfl, sl_eq f28 (congrArg (fun o => o.1.passed) ho).symm, fr_r20.mono (by omega), E27⟩

theorem impl_PassedBy_ok (v_l : Value) (l : List GlanceD) (h : Heap) (s_l : Sl h v_l l) : Cn f_impl_PassedBy [v_l] h fun v h' => ∃ r0 : Value, v = .tuple #[r0, .int .i64 ((pbOut l).2.1), .bool ((pbOut l).2.2)] ∧ SlO h' r0 ((pbOut l).1) ∧ Fr h.size r0 ∧ Ext h h' := by
  have lt_l := s_l.lt
  have l63_l := s_l.len63
  refine calls_of r_impl_PassedBy ?_
  refine v_seq ?_
  refine v_ops ?_
  refine s_pure (.slice none 0 0) (fun _ q => q) ?_
  refine s_pure (.int .i64 0) (fun _ q => q) ?_
  refine s_pure (.bool false) (fun _ q => q) ?_
  refine s_nil ?_
  refine p_seqN ?_
  refine v_seq ?_
  refine v_ops ?_
  refine s_pure (.agg #[.int .i64 0, .int .i64 0, .int .i64 0, .int .i64 0, .slice none 0 0]) (fun _ q => w_build (seg_nil q)) ?_
  refine s_pure v_l (fun _ q => q) ?_
  refine s_call [.agg #[.int .i64 0, .int .i64 0, .int .i64 0, .int .i64 0, .slice none 0 0], v_l] rfl (impl_RunGlances_ok (⟨0, 0, 0, 0, []⟩ : RepP) (.slice none 0 0) v_l l _ (SlX.nil (α := Int) false _) s_l) ?_
  rintro _ h2 ⟨r1, rfl, s_r1, fr_r1, eh2⟩
  have E3 := (Ext.refl h).trans eh2
  have z4 := eh2.size
  have lt_r1 := s_r1.lt
  refine s_pure (.tuple #[.agg #[.int .i64 (((rgOut (⟨0, 0, 0, 0, []⟩ : RepP) l).1).phase), .int .i64 (((rgOut (⟨0, 0, 0, 0, []⟩ : RepP) l).1).holds), .int .i64 (((rgOut (⟨0, 0, 0, 0, []⟩ : RepP) l).1).again), .int .i64 (((rgOut (⟨0, 0, 0, 0, []⟩ : RepP) l).1).shown), r1], .bool ((rgOut (⟨0, 0, 0, 0, []⟩ : RepP) l).2)]) (fun _ q => q) ?_
  refine s_pure (.agg #[.int .i64 (((rgOut (⟨0, 0, 0, 0, []⟩ : RepP) l).1).phase), .int .i64 (((rgOut (⟨0, 0, 0, 0, []⟩ : RepP) l).1).holds), .int .i64 (((rgOut (⟨0, 0, 0, 0, []⟩ : RepP) l).1).again), .int .i64 (((rgOut (⟨0, 0, 0, 0, []⟩ : RepP) l).1).shown), r1]) (fun _ q => q) ?_
  refine s_pure (.bool ((rgOut (⟨0, 0, 0, 0, []⟩ : RepP) l).2)) (fun _ q => q) ?_
  refine s_new (fun h6 b5 hbb5 hzb5 eh6 bxb5 => ?_)
  have E7 := E3.trans eh6
  have z8 := eh6.size
  have lbb5 := bxb5.lt
  refine s_stBx (.agg #[.int .i64 (((rgOut (⟨0, 0, 0, 0, []⟩ : RepP) l).1).phase), .int .i64 (((rgOut (⟨0, 0, 0, 0, []⟩ : RepP) l).1).holds), .int .i64 (((rgOut (⟨0, 0, 0, 0, []⟩ : RepP) l).1).again), .int .i64 (((rgOut (⟨0, 0, 0, 0, []⟩ : RepP) l).1).shown), r1]) [.int .i64 (((rgOut (⟨0, 0, 0, 0, []⟩ : RepP) l).1).phase), .int .i64 (((rgOut (⟨0, 0, 0, 0, []⟩ : RepP) l).1).holds), .int .i64 (((rgOut (⟨0, 0, 0, 0, []⟩ : RepP) l).1).again), .int .i64 (((rgOut (⟨0, 0, 0, 0, []⟩ : RepP) l).1).shown), r1] [.int .i64 (((rgOut (⟨0, 0, 0, 0, []⟩ : RepP) l).1).phase), .int .i64 (((rgOut (⟨0, 0, 0, 0, []⟩ : RepP) l).1).holds), .int .i64 (((rgOut (⟨0, 0, 0, 0, []⟩ : RepP) l).1).again), .int .i64 (((rgOut (⟨0, 0, 0, 0, []⟩ : RepP) l).1).shown), r1] bxb5 rfl rfl rfl rfl (by simp) (all_cons rfl (all_cons rfl (all_cons rfl (all_cons rfl (all_cons s_r1.one1 all_nil))))) rfl (fun h9 mh9 sh9 bxx10 => ?_)
  have E11 := E7.mod mh9 (fun b hb => by simp at hb; omega)
  refine s_pure (.bool ((rgOut (⟨0, 0, 0, 0, []⟩ : RepP) l).2)) (fun _ q => q) ?_
  refine s_nil ?_
  refine p_seqN ?_
  refine v_seq ?_
  refine v_ops ?_
  refine s_pure (.pointer (some ⟨b5, 4, none⟩)) (fun _ q => q) ?_
  refine s_pure (.pointer (some ⟨b5, 0, none⟩)) (fun _ q => q) ?_
  refine s_pure (.bool ((rgOut (⟨0, 0, 0, 0, []⟩ : RepP) l).2)) (fun _ q => q) ?_
  refine s_load r1 (fun _ q => bxx10.load rfl q) ?_
  refine s_pure r1 (fun _ q => q) ?_
  refine s_load (.int .i64 (((rgOut (⟨0, 0, 0, 0, []⟩ : RepP) l).1).phase)) (fun _ q => bxx10.load rfl q) ?_
  refine s_pure (.int .i64 (((rgOut (⟨0, 0, 0, 0, []⟩ : RepP) l).1).phase)) (fun _ q => q) ?_
  refine s_pure (.bool ((rgOut (⟨0, 0, 0, 0, []⟩ : RepP) l).2)) (fun _ q => q) ?_
  refine s_nil ?_
  refine p_seqN ?_
  refine v_ret ?_
  refine p_ret [r1, .int .i64 (((rgOut (⟨0, 0, 0, 0, []⟩ : RepP) l).1).phase), .bool ((rgOut (⟨0, 0, 0, 0, []⟩ : RepP) l).2)] (.tuple #[r1, .int .i64 (((rgOut (⟨0, 0, 0, 0, []⟩ : RepP) l).1).phase), .bool ((rgOut (⟨0, 0, 0, 0, []⟩ : RepP) l).2)]) (fun _ q => q) rfl ?_
  have ho : pbOut l = (((rgOut (⟨0, 0, 0, 0, []⟩ : RepP) l).1).passed, ((rgOut (⟨0, 0, 0, 0, []⟩ : RepP) l).1).phase, (rgOut (⟨0, 0, 0, 0, []⟩ : RepP) l).2) := by rfl
  have f12 := ((s_r1.ext eh6).mod mh9 (fun b hb hc => by simp at hc; have := lt_r1 b hb; omega))
  exact ⟨r1, by first | (rw [ho]; done) | rfl, sl_eq f12 (congrArg (fun o => o.1) ho).symm, fr_r1.mono (by omega), E11⟩

end Go.Proofs.Ytpbjcaadnbeplaa


