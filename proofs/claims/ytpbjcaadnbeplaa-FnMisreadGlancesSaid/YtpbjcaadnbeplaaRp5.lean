/- What repeaters show along glances, and which glances change them. Condition: none. Printed in part by a program. -/
import Derived.Test.YtpbjcaadnbeplaaRp4
namespace Go.Proofs.Ytpbjcaadnbeplaa
open Go.Vc
set_option linter.all false
set_option maxRecDepth 10000 in
set_option maxHeartbeats 4000000 in
theorem impl_ShownAfter_ok (v_l : Value) (l : List GlanceD) (h : Heap) (s_l : Sl h v_l l) : Cn f_impl_ShownAfter [v_l] h fun v h' => ∃ r0 : Value, v = .tuple #[r0, .bool ((saOut l).2)] ∧ SlO h' r0 ((saOut l).1) ∧ Fr h.size r0 ∧ Ext h h' := by
  have lt_l := s_l.lt
  have l63_l := s_l.len63
  refine calls_of r_impl_ShownAfter ?_
  refine v_seq ?_
  refine v_ops ?_
  refine s_pure (.slice none 0 0) (fun _ q => q) ?_
  refine s_pure (.bool false) (fun _ q => q) ?_
  refine s_nil ?_
  refine p_seqN ?_
  refine v_seq ?_
  refine v_seq ?_
  refine v_ops ?_
  refine s_pure v_l (fun _ q => q) ?_
  refine s_call [v_l] rfl (areGlances_ok v_l l _ s_l) ?_
  rintro _ h1 ⟨rfl, eh1⟩
  have E2 := (Ext.refl h).trans eh1
  have z3 := eh1.size
  refine s_pure (.bool (!(decide (GlOk l)))) (fun _ q => q) ?_
  refine s_nil ?_
  refine p_seqN ?_
  refine v_cond rfl (fun c4 => ?_) (fun c4 => ?_)
  ·
    refine v_seq ?_
    refine v_ops ?_
    refine s_pure (.slice none 0 0) (fun _ q => q) ?_
    refine s_pure (.bool false) (fun _ q => q) ?_
    refine s_nil ?_
    refine p_seqN ?_
    refine v_ret ?_
    refine p_seqR ?_
    refine p_ret [.slice none 0 0, .bool false] (.tuple #[.slice none 0 0, .bool false]) (fun _ q => q) rfl ?_
    have ho : saOut l = ([], false) := by first | exact sa_no (by assumption) | (rw [saOut, if_pos (by assumption), take_all (by assumption)])
    exact ⟨(.slice none 0 0), by first | (rw [ho]; done) | rfl, sl_eq (SlX.nil (α := Int) true _) (congrArg (fun o => o.1) ho).symm, Fr.nil _, E2⟩
  ·
    have c4 := Classical.not_not.1 c4
    refine v_skip ?_
    refine p_seqN ?_
    refine v_seq ?_
    refine v_ops ?_
    refine s_new (fun h6 b5 hbb5 hzb5 eh6 bxb5 => ?_)
    have E7 := E2.trans eh6
    have z8 := eh6.size
    have lbb5 := bxb5.lt
    refine s_nil ?_
    refine p_seqN ?_
    refine v_seq ?_
    refine v_ops ?_
    refine s_pure (.slice none 0 0) (fun _ q => q) ?_
    refine s_nil ?_
    refine p_seqN ?_
    refine v_seq ?_
    refine v_seq ?_
    refine v_ops ?_
    refine s_pure v_l (fun _ q => q) ?_
    refine s_pure (.int .i64 (l.length : Int)) (fun _ q => s_l.lenVC q) ?_
    refine s_pure (.int .i64 0) (fun _ q => q) ?_
    refine s_nil ?_
    refine p_seqN ?_
    refine v_block ?_
    refine v_loop4 (α := Nat) (β := RepP) (γ := Value) (δ := Value) (fun k r v o => [(4, .pointer (some ⟨b5, 0, none⟩)), (5, o), (11, v_l), (12, .int .i64 (l.length : Int)), (13, .int .i64 (k : Int))]) (fun k r v o hh => Ext h hh ∧ Bx hh b5 [.int .i64 r.phase, .int .i64 r.holds, .int .i64 r.again, .int .i64 r.shown, v] 25 ∧ SlO hh v r.passed ∧ Fr h.size v ∧ SlO hh o (shown rz (l.take k)) ∧ Fr h.size o ∧ b5 ∉ blks v ∧ (∀ b ∈ blks o, b ∉ blks v) ∧ b5 ∉ blks o ∧ k ≤ l.length ∧ r = run rz (l.take k)) (fun k r v o => l.length - k) 0 rz (.slice none 0 0) (.slice none 0 0) ⟨rfl, rfl, rfl, rfl, rfl⟩ ⟨E7, bxb5, (sl_eq (SlX.nil (α := Int) true h6) (by simp [shown, useful])), (Fr.nil _), (sl_eq (SlX.nil (α := Int) true h6) (by simp [shown, useful])), (Fr.nil _), (by simp [blks, fpts]), (fun b hb hc => by simp [blks, fpts] at hc), (by simp [blks, fpts]), (by exact ⟨by omega, rfl⟩)⟩ ?_
    rintro k r v o R10 h9 ⟨Eh, bxb5, s_v, fr_v, s_o, fr_o, np_b5_v, np_o_v, np_b5_o, ⟨hk, hr⟩⟩
    have zEh := Eh.size
    have f12 := s_l.ext Eh
    have lbb5 := bxb5.lt
    have lt_v := s_v.lt
    have lt_o := s_o.lt
    have hi : RInv r := by rw [hr]; exact run_inv RInv.zero _
    have hl : r.passed.length ≤ l.length := by (have := run_len rz (l.take k)); rw [← hr] at this; simp at this; omega
    have ha := hi.a
    have gok := GlOk.len (by assumption : GlOk l)
    have hwl := shown_len rz (l.take k)
    simp only [List.length_take] at hwl
    refine v_seq ?_
    refine v_ops ?_
    refine s_pure (.bool (decide ((k : Int) < (l.length : Int)))) (fun _ q => q) ?_
    refine s_nil ?_
    refine p_seqN ?_
    refine v_seq ?_
    refine v_cond rfl (fun c13 => ?_) (fun c13 => ?_)
    ·
      refine v_skip ?_
      refine p_seqN ?_
      refine v_seq ?_
      refine v_block ?_
      refine v_seq ?_
      refine v_ops ?_
      have hk14 : k < l.length := (by first | omega | (simp; omega))
      obtain ⟨x15, hx15⟩ : ∃ x, l[k]? = some x := ⟨_, List.getElem?_eq_getElem hk14⟩
      refine s_pure (.pointer (some ⟨sblk v_l, soff v_l + k * 2, none⟩)) (fun _ q => f12.idx (k := k) rfl hk14 q) ?_
      refine s_load (.agg #[.bool x15.next, .int .i64 x15.signal]) (fun _ q => f12.loadN hx15 rfl q) ?_
      refine s_new (fun h17 b16 hbb16 hzb16 eh17 bxb16 => ?_)
      have E18 := Eh.trans eh17
      have z19 := eh17.size
      have lbb16 := bxb16.lt
      refine s_stBx (.agg #[.bool x15.next, .int .i64 x15.signal]) [.bool x15.next, .int .i64 x15.signal] [.bool x15.next, .int .i64 x15.signal] bxb16 rfl rfl rfl rfl (by simp) (all_cons rfl (all_cons rfl all_nil)) rfl (fun h20 mh20 sh20 bxx21 => ?_)
      have E22 := E18.mod mh20 (fun b hb => by simp at hb; omega)
      refine s_nil ?_
      refine p_seqN ?_
      refine v_seq ?_
      refine v_ops ?_
      have f23 := ((bxb5.ext eh17).mod mh20 (by simp; omega))
      refine s_load (.agg #[.int .i64 r.phase, .int .i64 r.holds, .int .i64 r.again, .int .i64 r.shown, v]) (fun _ q => f23.loadA rfl q) ?_
      refine s_load (.agg #[.bool x15.next, .int .i64 x15.signal]) (fun _ q => bxx21.loadA rfl q) ?_
      have f24 := ((s_v.ext eh17).mod mh20 (fun b hb hc => by simp at hc; have := lt_v b hb; omega))
      refine s_call [.agg #[.int .i64 r.phase, .int .i64 r.holds, .int .i64 r.again, .int .i64 r.shown, v], .agg #[.bool x15.next, .int .i64 x15.signal]] rfl (impl_glance_ok r v x15 _ f24 (by first | omega | assumption | (simp; omega)) (by first | omega | assumption | (simp; omega))) ?_
      rintro _ h26 ⟨r25, rfl, s_r25, mh26, ab_r25⟩
      have zh26 := mh26.size
      have E27 := E22.mod mh26 (fun b hb => by have := fr_v b hb; omega)
      have fr_r25 := fr_v.app ab_r25 (by omega)
      have np28 : b5 ∉ blks r25 := fun hc => (ab_r25 _ hc).elim np_b5_v (fun hc => by omega)
      have np29 : ∀ b ∈ blks o, b ∉ blks r25 := fun b hb hc => (ab_r25 _ hc).elim ((np_o_v : ∀ b ∈ blks o, b ∉ blks v) b hb) (fun hc => by have := lt_o b hb; omega)
      have np30 : ∀ b ∈ blks o, b ∉ blks r25 := fun b hb hc => (ab_r25 _ hc).elim ((np_o_v : ∀ b ∈ blks o, b ∉ blks v) b hb) (fun hc => by have := lt_o b hb; omega)
      have np31 : b16 ∉ blks r25 := fun hc => (ab_r25 _ hc).elim (fun hc => by have := lt_v _ hc; omega) (fun hc => by omega)
      have lt_r25 := s_r25.lt
      refine s_pure (.tuple #[.agg #[.int .i64 (((gl r x15).1).phase), .int .i64 (((gl r x15).1).holds), .int .i64 (((gl r x15).1).again), .int .i64 (((gl r x15).1).shown), r25], .bool ((gl r x15).2)]) (fun _ q => q) ?_
      refine s_pure (.agg #[.int .i64 (((gl r x15).1).phase), .int .i64 (((gl r x15).1).holds), .int .i64 (((gl r x15).1).again), .int .i64 (((gl r x15).1).shown), r25]) (fun _ q => q) ?_
      refine s_pure (.bool ((gl r x15).2)) (fun _ q => q) ?_
      have f32 := (f23.mod mh26 np_b5_v)
      refine s_stBx (.agg #[.int .i64 (((gl r x15).1).phase), .int .i64 (((gl r x15).1).holds), .int .i64 (((gl r x15).1).again), .int .i64 (((gl r x15).1).shown), r25]) [.int .i64 (((gl r x15).1).phase), .int .i64 (((gl r x15).1).holds), .int .i64 (((gl r x15).1).again), .int .i64 (((gl r x15).1).shown), r25] [.int .i64 (((gl r x15).1).phase), .int .i64 (((gl r x15).1).holds), .int .i64 (((gl r x15).1).again), .int .i64 (((gl r x15).1).shown), r25] f32 rfl rfl rfl rfl (by simp) (all_cons rfl (all_cons rfl (all_cons rfl (all_cons rfl (all_cons s_r25.one1 all_nil))))) rfl (fun h33 mh33 sh33 bxx34 => ?_)
      have E35 := E27.mod mh33 (fun b hb => by simp at hb; omega)
      refine s_nil ?_
      refine p_seqN ?_
      refine v_ops ?_
      refine s_pure o (fun _ q => q) ?_
      refine s_pure (.pointer (some ⟨b5, 3, none⟩)) (fun _ q => q) ?_
      refine s_load (.int .i64 (((gl r x15).1).shown)) (fun _ q => bxx34.load rfl q) ?_
      refine s_row (α := Int) [((gl r x15).1).shown] (fun _ q => seg_i rfl (seg_nil q)) rfl (by simp [maxLen]) (fun r36 h37 eh37 zh37 s_r36 fr_r36 => ?_)
      have E38 := E35.trans eh37
      have z39 := eh37.size
      have lt_r36 := s_r36.lt
      have f40 := (((((s_o.ext eh17).mod mh20 (fun b hb hc => by simp at hc; have := lt_o b hb; omega)).mod mh26 np_o_v).mod mh33 (fun b hb hc => np_b5_o (by simp at hc; rw [← hc]; exact hb))).ext eh37)
      refine s_app f40 s_r36 rfl rfl rfl (by simp [maxLen]; omega) (by simp; omega) (fun r41 h42 mh42 zh42 s_r41 ab_r41 => ?_)
      have E43 := E38.mod mh42 (fun b hb => by have := fr_o b hb; omega)
      have fr_r41 := fr_o.app ab_r41 (by omega)
      have np44 : ∀ b ∈ blks v, b ∉ blks r41 := fun b hb hc => (ab_r41 _ hc).elim (((fun b hb hc => np_o_v b hc hb) : ∀ b ∈ blks v, b ∉ blks o) b hb) (fun hc => by have := lt_v b hb; omega)
      have np45 : ∀ b ∈ blks v, b ∉ blks r41 := fun b hb hc => (ab_r41 _ hc).elim (((fun b hb hc => np_o_v b hc hb) : ∀ b ∈ blks v, b ∉ blks o) b hb) (fun hc => by have := lt_v b hb; omega)
      have np46 : b5 ∉ blks r41 := fun hc => (ab_r41 _ hc).elim np_b5_o (fun hc => by omega)
      have np47 : ∀ b ∈ blks r25, b ∉ blks r41 := fun b hb hc => (ab_r41 _ hc).elim (((fun b hb hc => np30 b hc hb) : ∀ b ∈ blks r25, b ∉ blks o) b hb) (fun hc => by have := lt_r25 b hb; omega)
      have np48 : ∀ b ∈ blks r25, b ∉ blks r41 := fun b hb hc => (ab_r41 _ hc).elim (((fun b hb hc => np30 b hc hb) : ∀ b ∈ blks r25, b ∉ blks o) b hb) (fun hc => by have := lt_r25 b hb; omega)
      have np49 : b16 ∉ blks r41 := fun hc => (ab_r41 _ hc).elim (fun hc => by have := lt_o _ hc; omega) (fun hc => by omega)
      have np50 : ∀ b ∈ blks r36, b ∉ blks r41 := fun b hb hc => (ab_r41 _ hc).elim (((fun b hb hc => by have := fr_r36 b hb; have := lt_o b hc; omega) : ∀ b ∈ blks r36, b ∉ blks o) b hb) (fun hc => by have := lt_r36 b hb; omega)
      have lt_r41 := s_r41.lt
      refine s_pure r41 (fun _ q => q) ?_
      refine s_nil ?_
      refine p_blkN ?_
      refine p_seqN ?_
      refine v_ops ?_
      refine s_pure (.int .i64 ((k : Int) + 1)) (fun _ q => ArithVC.mk (by omega) q) ?_
      refine s_pure (.int .i64 ((k : Int) + 1)) (fun _ q => q) ?_
      refine s_nil ?_
      have f51 := ((bxx34.ext eh37).mod mh42 np_b5_o)
      have f52 := (((s_r25.mod mh33 (fun b hb hc => np28 (by simp at hc; rw [← hc]; exact hb))).ext eh37).mod mh42 (fun b hb hc => np30 b hc hb))
      exact p_lpN ⟨k + 1, ((gl r x15).1), r25, r41, ⟨rfl, rfl, rfl, rfl, rfl⟩, ⟨E43, f51, (sl_eq f52 (by simp)), (fr_r25.mono (by omega)), (sl_eq s_r41 (by rw [shown_snoc rz (by assumption), ← hr])), (fr_r41.mono (by omega)), np28, (fun b hb hc => np48 b hc hb), np46, (by exact ⟨by omega, run_step (by assumption) hr⟩)⟩, by omega⟩
    ·
      refine v_exit ?_
      refine p_seqX ?_
      refine p_lpX ?_
      refine p_blkX ?_
      refine p_seqN ?_
      refine v_seq ?_
      refine v_ops ?_
      refine s_pure o (fun _ q => q) ?_
      refine s_pure o (fun _ q => q) ?_
      refine s_pure (.bool true) (fun _ q => q) ?_
      refine s_nil ?_
      refine p_seqN ?_
      refine v_ret ?_
      refine p_ret [o, .bool true] (.tuple #[o, .bool true]) (fun _ q => q) rfl ?_
      have ho : saOut l = (shown rz (l.take k), true) := by first | exact sa_no (by assumption) | (rw [saOut, if_pos (by assumption), take_all (by assumption)])
      exact ⟨o, by first | (rw [ho]; done) | rfl, sl_eq s_o (congrArg (fun o => o.1) ho).symm, fr_o.mono (by omega), Eh⟩

set_option maxRecDepth 10000 in
set_option maxHeartbeats 4000000 in
theorem spec_ShownAfter_ok (v_l : Value) (l : List GlanceD) (h : Heap) (s_l : Sl h v_l l) : Cn f_spec_ShownAfter [v_l] h fun v h' => ∃ r0 : Value, v = .tuple #[r0, .bool ((saOut l).2)] ∧ SlO h' r0 ((saOut l).1) ∧ Fr h.size r0 ∧ Ext h h' := by
  have lt_l := s_l.lt
  have l63_l := s_l.len63
  refine calls_of r_spec_ShownAfter ?_
  refine v_seq ?_
  refine v_ops ?_
  refine s_pure (.slice none 0 0) (fun _ q => q) ?_
  refine s_pure (.bool false) (fun _ q => q) ?_
  refine s_nil ?_
  refine p_seqN ?_
  refine v_seq ?_
  refine v_seq ?_
  refine v_ops ?_
  refine s_pure v_l (fun _ q => q) ?_
  refine s_call [v_l] rfl (rpGlances_ok v_l l _ s_l) ?_
  rintro _ h1 ⟨rfl, eh1⟩
  have E2 := (Ext.refl h).trans eh1
  have z3 := eh1.size
  refine s_pure (.bool (!(decide (GlOk l)))) (fun _ q => q) ?_
  refine s_nil ?_
  refine p_seqN ?_
  refine v_cond rfl (fun c4 => ?_) (fun c4 => ?_)
  ·
    refine v_seq ?_
    refine v_ops ?_
    refine s_pure (.slice none 0 0) (fun _ q => q) ?_
    refine s_pure (.bool false) (fun _ q => q) ?_
    refine s_nil ?_
    refine p_seqN ?_
    refine v_ret ?_
    refine p_seqR ?_
    refine p_ret [.slice none 0 0, .bool false] (.tuple #[.slice none 0 0, .bool false]) (fun _ q => q) rfl ?_
    have ho : saOut l = ([], false) := by first | exact sa_no (by assumption) | (rw [saOut, if_pos (by assumption), take_all (by assumption)])
    exact ⟨(.slice none 0 0), by first | (rw [ho]; done) | rfl, sl_eq (SlX.nil (α := Int) true _) (congrArg (fun o => o.1) ho).symm, Fr.nil _, E2⟩
  ·
    have c4 := Classical.not_not.1 c4
    refine v_skip ?_
    refine p_seqN ?_
    refine v_seq ?_
    refine v_ops ?_
    refine s_pure (.slice none 0 0) (fun _ q => q) ?_
    refine s_nil ?_
    refine p_seqN ?_
    refine v_seq ?_
    refine v_ops ?_
    refine s_call [] rfl (spec_rpNew_ok  _ ) ?_
    rintro _ h6 ⟨r5, rfl, s_r5, fr_r5, eh6⟩
    have E7 := E2.trans eh6
    have z8 := eh6.size
    have lt_r5 := s_r5.lt
    refine s_new (fun h10 b9 hbb9 hzb9 eh10 bxb9 => ?_)
    have E11 := E7.trans eh10
    have z12 := eh10.size
    have lbb9 := bxb9.lt
    refine s_stBx (.agg #[.int .i64 rz.phase, .int .i64 rz.holds, .int .i64 rz.again, .int .i64 rz.shown, r5]) [.int .i64 rz.phase, .int .i64 rz.holds, .int .i64 rz.again, .int .i64 rz.shown, r5] [.int .i64 rz.phase, .int .i64 rz.holds, .int .i64 rz.again, .int .i64 rz.shown, r5] bxb9 rfl rfl rfl rfl (by simp) (all_cons rfl (all_cons rfl (all_cons rfl (all_cons rfl (all_cons s_r5.one1 all_nil))))) rfl (fun h13 mh13 sh13 bxx14 => ?_)
    have E15 := E11.mod mh13 (fun b hb => by simp at hb; omega)
    refine s_nil ?_
    refine p_seqN ?_
    refine v_seq ?_
    refine v_seq ?_
    refine v_ops ?_
    refine s_pure v_l (fun _ q => q) ?_
    refine s_pure (.int .i64 (l.length : Int)) (fun _ q => s_l.lenVC q) ?_
    refine s_pure (.int .i64 0) (fun _ q => q) ?_
    refine s_nil ?_
    refine p_seqN ?_
    refine v_block ?_
    have f17 := ((s_r5.ext eh10).mod mh13 (fun b hb hc => by simp at hc; have := lt_r5 b hb; omega))
    refine v_loop4 (α := Nat) (β := RepP) (γ := Value) (δ := Value) (fun k r v o => [(4, o), (5, .pointer (some ⟨b9, 0, none⟩)), (12, v_l), (13, .int .i64 (l.length : Int)), (14, .int .i64 (k : Int))]) (fun k r v o hh => Ext h hh ∧ Bx hh b9 [.int .i64 r.phase, .int .i64 r.holds, .int .i64 r.again, .int .i64 r.shown, v] 25 ∧ SlO hh o (shown rz (l.take k)) ∧ Fr h.size o ∧ SlO hh v r.passed ∧ Fr h.size v ∧ b9 ∉ blks v ∧ (∀ b ∈ blks o, b ∉ blks v) ∧ b9 ∉ blks o ∧ k ≤ l.length ∧ r = run rz (l.take k)) (fun k r v o => l.length - k) 0 rz r5 (.slice none 0 0) ⟨rfl, rfl, rfl, rfl, rfl⟩ ⟨E15, bxx14, (sl_eq (SlX.nil (α := Int) true h13) (by simp [shown, useful])), (Fr.nil _), (sl_eq f17 (by simp [shown, useful])), (fr_r5.mono (by omega)), (fun hc => by have := lt_r5 _ hc; omega), (fun b hb hc => by simp [blks, fpts] at hb), (by simp [blks, fpts]), (by exact ⟨by omega, rfl⟩)⟩ ?_
    rintro k r v o R18 h16 ⟨Eh, bxb9, s_o, fr_o, s_v, fr_v, np_b9_v, np_o_v, np_b9_o, ⟨hk, hr⟩⟩
    have zEh := Eh.size
    have f20 := s_l.ext Eh
    have lbb9 := bxb9.lt
    have lt_v := s_v.lt
    have lt_o := s_o.lt
    have hi : RInv r := by rw [hr]; exact run_inv RInv.zero _
    have hl : r.passed.length ≤ l.length := by (have := run_len rz (l.take k)); rw [← hr] at this; simp at this; omega
    have ha := hi.a
    have gok := GlOk.len (by assumption : GlOk l)
    have hwl := shown_len rz (l.take k)
    simp only [List.length_take] at hwl
    refine v_seq ?_
    refine v_ops ?_
    refine s_pure (.bool (decide ((k : Int) < (l.length : Int)))) (fun _ q => q) ?_
    refine s_nil ?_
    refine p_seqN ?_
    refine v_seq ?_
    refine v_cond rfl (fun c21 => ?_) (fun c21 => ?_)
    ·
      refine v_skip ?_
      refine p_seqN ?_
      refine v_seq ?_
      refine v_block ?_
      refine v_seq ?_
      refine v_ops ?_
      have hk22 : k < l.length := (by first | omega | (simp; omega))
      obtain ⟨x23, hx23⟩ : ∃ x, l[k]? = some x := ⟨_, List.getElem?_eq_getElem hk22⟩
      refine s_pure (.pointer (some ⟨sblk v_l, soff v_l + k * 2, none⟩)) (fun _ q => f20.idx (k := k) rfl hk22 q) ?_
      refine s_load (.agg #[.bool x23.next, .int .i64 x23.signal]) (fun _ q => f20.loadN hx23 rfl q) ?_
      refine s_new (fun h25 b24 hbb24 hzb24 eh25 bxb24 => ?_)
      have E26 := Eh.trans eh25
      have z27 := eh25.size
      have lbb24 := bxb24.lt
      refine s_stBx (.agg #[.bool x23.next, .int .i64 x23.signal]) [.bool x23.next, .int .i64 x23.signal] [.bool x23.next, .int .i64 x23.signal] bxb24 rfl rfl rfl rfl (by simp) (all_cons rfl (all_cons rfl all_nil)) rfl (fun h28 mh28 sh28 bxx29 => ?_)
      have E30 := E26.mod mh28 (fun b hb => by simp at hb; omega)
      refine s_nil ?_
      refine p_seqN ?_
      refine v_seq ?_
      refine v_ops ?_
      have f31 := ((bxb9.ext eh25).mod mh28 (by simp; omega))
      refine s_load (.agg #[.int .i64 r.phase, .int .i64 r.holds, .int .i64 r.again, .int .i64 r.shown, v]) (fun _ q => f31.loadA rfl q) ?_
      refine s_load (.agg #[.bool x23.next, .int .i64 x23.signal]) (fun _ q => bxx29.loadA rfl q) ?_
      have f32 := ((s_v.ext eh25).mod mh28 (fun b hb hc => by simp at hc; have := lt_v b hb; omega))
      refine s_call [.agg #[.int .i64 r.phase, .int .i64 r.holds, .int .i64 r.again, .int .i64 r.shown, v], .agg #[.bool x23.next, .int .i64 x23.signal]] rfl (spec_rpStep_ok r v x23 _ f32.toSl (by first | omega | assumption | (simp; omega)) (by first | omega | assumption | (simp; omega))) ?_
      rintro _ h34 ⟨r33, rfl, s_r33, fr_r33, eh34⟩
      have E35 := E30.trans eh34
      have z36 := eh34.size
      have lt_r33 := s_r33.lt
      have f37 := (f31.ext eh34)
      refine s_stBx (.agg #[.int .i64 (((gl r x23).1).phase), .int .i64 (((gl r x23).1).holds), .int .i64 (((gl r x23).1).again), .int .i64 (((gl r x23).1).shown), r33]) [.int .i64 (((gl r x23).1).phase), .int .i64 (((gl r x23).1).holds), .int .i64 (((gl r x23).1).again), .int .i64 (((gl r x23).1).shown), r33] [.int .i64 (((gl r x23).1).phase), .int .i64 (((gl r x23).1).holds), .int .i64 (((gl r x23).1).again), .int .i64 (((gl r x23).1).shown), r33] f37 rfl rfl rfl rfl (by simp) (all_cons rfl (all_cons rfl (all_cons rfl (all_cons rfl (all_cons s_r33.one1 all_nil))))) rfl (fun h38 mh38 sh38 bxx39 => ?_)
      have E40 := E35.mod mh38 (fun b hb => by simp at hb; omega)
      refine s_nil ?_
      refine p_seqN ?_
      refine v_ops ?_
      refine s_pure o (fun _ q => q) ?_
      refine s_pure (.pointer (some ⟨b9, 3, none⟩)) (fun _ q => q) ?_
      refine s_load (.int .i64 (((gl r x23).1).shown)) (fun _ q => bxx39.load rfl q) ?_
      refine s_row (α := Int) [((gl r x23).1).shown] (fun _ q => seg_i rfl (seg_nil q)) rfl (by simp [maxLen]) (fun r41 h42 eh42 zh42 s_r41 fr_r41 => ?_)
      have E43 := E40.trans eh42
      have z44 := eh42.size
      have lt_r41 := s_r41.lt
      have f45 := (((((s_o.ext eh25).mod mh28 (fun b hb hc => by simp at hc; have := lt_o b hb; omega)).ext eh34).mod mh38 (fun b hb hc => np_b9_o (by simp at hc; rw [← hc]; exact hb))).ext eh42)
      refine s_app f45 s_r41 rfl rfl rfl (by simp [maxLen]; omega) (by simp; omega) (fun r46 h47 mh47 zh47 s_r46 ab_r46 => ?_)
      have E48 := E43.mod mh47 (fun b hb => by have := fr_o b hb; omega)
      have fr_r46 := fr_o.app ab_r46 (by omega)
      have np49 : ∀ b ∈ blks v, b ∉ blks r46 := fun b hb hc => (ab_r46 _ hc).elim (((fun b hb hc => np_o_v b hc hb) : ∀ b ∈ blks v, b ∉ blks o) b hb) (fun hc => by have := lt_v b hb; omega)
      have np50 : ∀ b ∈ blks v, b ∉ blks r46 := fun b hb hc => (ab_r46 _ hc).elim (((fun b hb hc => np_o_v b hc hb) : ∀ b ∈ blks v, b ∉ blks o) b hb) (fun hc => by have := lt_v b hb; omega)
      have np51 : b9 ∉ blks r46 := fun hc => (ab_r46 _ hc).elim np_b9_o (fun hc => by omega)
      have np52 : b24 ∉ blks r46 := fun hc => (ab_r46 _ hc).elim (fun hc => by have := lt_o _ hc; omega) (fun hc => by omega)
      have np53 : ∀ b ∈ blks r33, b ∉ blks r46 := fun b hb hc => (ab_r46 _ hc).elim (((fun b hb hc => by have := fr_r33 b hb; have := lt_o b hc; omega) : ∀ b ∈ blks r33, b ∉ blks o) b hb) (fun hc => by have := lt_r33 b hb; omega)
      have np54 : ∀ b ∈ blks r41, b ∉ blks r46 := fun b hb hc => (ab_r46 _ hc).elim (((fun b hb hc => by have := fr_r41 b hb; have := lt_o b hc; omega) : ∀ b ∈ blks r41, b ∉ blks o) b hb) (fun hc => by have := lt_r41 b hb; omega)
      have lt_r46 := s_r46.lt
      refine s_pure r46 (fun _ q => q) ?_
      refine s_nil ?_
      refine p_blkN ?_
      refine p_seqN ?_
      refine v_ops ?_
      refine s_pure (.int .i64 ((k : Int) + 1)) (fun _ q => ArithVC.mk (by omega) q) ?_
      refine s_pure (.int .i64 ((k : Int) + 1)) (fun _ q => q) ?_
      refine s_nil ?_
      have f55 := ((bxx39.ext eh42).mod mh47 np_b9_o)
      have f56 := (((s_r33.mod mh38 (fun b hb hc => by simp at hc; have := fr_r33 b hb; omega)).ext eh42).mod mh47 (fun b hb hc => by have := fr_r33 b hb; have := lt_o b hc; omega))
      exact p_lpN ⟨k + 1, ((gl r x23).1), r33, r46, ⟨rfl, rfl, rfl, rfl, rfl⟩, ⟨E48, f55, (sl_eq s_r46 (by rw [shown_snoc rz (by assumption), ← hr])), (fr_r46.mono (by omega)), (sl_eq f56 (by simp)), (fr_r33.mono (by omega)), (fun hc => by have := fr_r33 _ hc; omega), (fun b hb hc => np53 b hc hb), np51, (by exact ⟨by omega, run_step (by assumption) hr⟩)⟩, by omega⟩
    ·
      refine v_exit ?_
      refine p_seqX ?_
      refine p_lpX ?_
      refine p_blkX ?_
      refine p_seqN ?_
      refine v_seq ?_
      refine v_ops ?_
      refine s_pure o (fun _ q => q) ?_
      refine s_pure o (fun _ q => q) ?_
      refine s_pure (.bool true) (fun _ q => q) ?_
      refine s_nil ?_
      refine p_seqN ?_
      refine v_ret ?_
      refine p_ret [o, .bool true] (.tuple #[o, .bool true]) (fun _ q => q) rfl ?_
      have ho : saOut l = (shown rz (l.take k), true) := by first | exact sa_no (by assumption) | (rw [saOut, if_pos (by assumption), take_all (by assumption)])
      exact ⟨o, by first | (rw [ho]; done) | rfl, sl_eq s_o (congrArg (fun o => o.1) ho).symm, fr_o.mono (by omega), Eh⟩


theorem take_ext {α : Type} {xs ys : List α} {k : Nat} {x y : α} (h : xs.take k = ys.take k) (hx : xs[k]? = some x) (hy : ys[k]? = some y) (e : x = y) : xs.take (k + 1) = ys.take (k + 1) := by
  rw [snoc_get hx, snoc_get hy, h, e]
theorem get_ne {α : Type} {xs ys : List α} {k : Nat} {x y : α} (hx : xs[k]? = some x) (hy : ys[k]? = some y) (e : ¬ x = y) : ¬ xs = ys := by
  intro h; subst h; rw [hx] at hy; exact e (Option.some.inj hy)
theorem take_done {α : Type} {xs ys : List α} {k : Nat} (h : xs.take k = ys.take k) (hk : ¬ (k : Int) < (xs.length : Int)) (hl : (xs.length : Int) = (ys.length : Int)) : xs = ys := by
  rw [take_all hk, take_all (by omega)] at h; exact h
def RepP.same (a b : RepP) : Prop := a.phase = b.phase ∧ a.holds = b.holds ∧ a.again = b.again ∧ a.shown = b.shown ∧ a.passed = b.passed
instance (a b : RepP) : Decidable (a.same b) := inferInstanceAs (Decidable (_ ∧ _))
theorem gl_same {r : RepP} {g : GlanceD} : chg (gl r g).1 r = true ↔ ¬ r.same (gl r g).1 := by
  unfold chg RepP.same
  simp only [Bool.or_eq_true, bne_iff_ne]
  have hp : (gl r g).1.passed.length = r.passed.length ↔ r.passed = (gl r g).1.passed := by
    unfold gl
    repeat' split
    all_goals simp
  constructor
  · rintro h ⟨h1, h2, h3, h4, h5⟩
    rw [h1, h2, h3, h4] at h
    have := hp.2 h5
    simp [this] at h
  · intro h
    by_cases h1 : (gl r g).1.phase = r.phase
    · by_cases h2 : (gl r g).1.holds = r.holds
      · by_cases h3 : (gl r g).1.again = r.again
        · by_cases h4 : (gl r g).1.shown = r.shown
          · right
            intro hl
            exact h ⟨h1.symm, h2.symm, h3.symm, h4.symm, hp.1 hl⟩
          · left; right; exact h4
        · left; left; right; exact h3
      · left; left; left; right; exact h2
    · left; left; left; left; exact h1

theorem spec_l1Same_ok (v_a : Value) (a : List Int) (v_b : Value) (b : List Int) (h : Heap) (s_a : Sl h v_a a) (s_b : Sl h v_b b) : Cn f_spec_l1Same [v_a, v_b] h fun v h' => v = .bool (decide (a = b)) ∧ Ext h h' := by
  have lt_a := s_a.lt
  have l63_a := s_a.len63
  have lt_b := s_b.lt
  have l63_b := s_b.len63
  refine calls_of r_spec_l1Same ?_
  refine v_seq ?_
  refine v_ops ?_
  refine s_pure (.bool false) (fun _ q => q) ?_
  refine s_nil ?_
  refine p_seqN ?_
  refine v_seq ?_
  refine v_seq ?_
  refine v_ops ?_
  refine s_pure v_a (fun _ q => q) ?_
  refine s_pure (.int .i64 (a.length : Int)) (fun _ q => s_a.lenVC q) ?_
  refine s_pure v_b (fun _ q => q) ?_
  refine s_pure (.int .i64 (b.length : Int)) (fun _ q => s_b.lenVC q) ?_
  refine s_pure (.bool ((a.length : Int) != (b.length : Int))) (fun _ q => q) ?_
  refine s_nil ?_
  refine p_seqN ?_
  refine v_cond rfl (fun c1 => ?_) (fun c1 => ?_)
  ·
    refine v_seq ?_
    refine v_ops ?_
    refine s_pure (.bool false) (fun _ q => q) ?_
    refine s_nil ?_
    refine p_seqN ?_
    refine v_ret ?_
    refine p_seqR ?_
    refine p_ret [.bool false] (.bool false) (fun _ q => q) rfl ?_
    have ho : decide (a = b) = false := by simp only [decide_eq_true_eq, decide_eq_false_iff_not]; first | (intro hab; subst hab; omega) | exact get_ne (by assumption) (by assumption) (by assumption) | exact take_done hab (by assumption) (by omega)
    exact ⟨by first | (rw [ho]; done) | rfl, (Ext.refl h)⟩
  ·
    have c1 := Classical.not_not.1 c1
    refine v_skip ?_
    refine p_seqN ?_
    refine v_seq ?_
    refine v_seq ?_
    refine v_ops ?_
    refine s_pure v_a (fun _ q => q) ?_
    refine s_pure (.int .i64 (a.length : Int)) (fun _ q => s_a.lenVC q) ?_
    refine s_pure (.int .i64 0) (fun _ q => q) ?_
    refine s_nil ?_
    refine p_seqN ?_
    refine v_block ?_
    refine v_loop1 (α := Nat) (fun k => [(0, v_a), (1, v_b), (12, .int .i64 (a.length : Int)), (13, .int .i64 (k : Int))]) (fun k hh => Ext h hh ∧ k ≤ a.length ∧ a.take k = b.take k) (fun k => a.length - k) 0 ⟨rfl, rfl, rfl, rfl⟩ ⟨(Ext.refl h), (by simp)⟩ ?_
    rintro k R3 h2 ⟨Eh, ⟨hk, hab⟩⟩
    have zEh := Eh.size
    have f5 := s_a.ext Eh
    have f6 := s_b.ext Eh
    refine v_seq ?_
    refine v_ops ?_
    refine s_pure (.bool (decide ((k : Int) < (a.length : Int)))) (fun _ q => q) ?_
    refine s_nil ?_
    refine p_seqN ?_
    refine v_seq ?_
    refine v_cond rfl (fun c7 => ?_) (fun c7 => ?_)
    ·
      refine v_skip ?_
      refine p_seqN ?_
      refine v_seq ?_
      refine v_block ?_
      refine v_seq ?_
      refine v_ops ?_
      refine s_pure (.int .i64 (k : Int)) (fun _ q => q) ?_
      refine s_pure (.int .i64 (k : Int)) (fun _ q => q) ?_
      refine s_nil ?_
      refine p_seqN ?_
      refine v_seq ?_
      refine v_ops ?_
      refine s_pure v_a (fun _ q => q) ?_
      refine s_pure (.int .i64 (k : Int)) (fun _ q => q) ?_
      have hk8 : k < a.length := (by first | omega | (simp; omega))
      obtain ⟨x9, hx9⟩ : ∃ x, a[k]? = some x := ⟨_, List.getElem?_eq_getElem hk8⟩
      refine s_pure (.pointer (some ⟨sblk v_a, soff v_a + k * 1, none⟩)) (fun _ q => f5.idx (k := k) rfl hk8 q) ?_
      refine s_pure v_b (fun _ q => q) ?_
      refine s_pure (.int .i64 (k : Int)) (fun _ q => q) ?_
      have hk10 : k < b.length := (by first | omega | (simp; omega))
      obtain ⟨x11, hx11⟩ : ∃ x, b[k]? = some x := ⟨_, List.getElem?_eq_getElem hk10⟩
      refine s_pure (.pointer (some ⟨sblk v_b, soff v_b + k * 1, none⟩)) (fun _ q => f6.idx (k := k) rfl hk10 q) ?_
      refine s_load (.int .i64 x9) (fun _ q => f5.load1 hx9 rfl q) ?_
      refine s_load (.int .i64 x11) (fun _ q => f6.load1 hx11 rfl q) ?_
      refine s_pure (.bool (x9 != x11)) (fun _ q => q) ?_
      refine s_nil ?_
      refine p_seqN ?_
      refine v_cond rfl (fun c12 => ?_) (fun c12 => ?_)
      ·
        refine v_seq ?_
        refine v_ops ?_
        refine s_pure (.bool false) (fun _ q => q) ?_
        refine s_nil ?_
        refine p_seqN ?_
        refine v_ret ?_
        refine p_blkR ?_
        refine p_seqR ?_
        refine p_lpR ?_
        refine p_blkR ?_
        refine p_seqR ?_
        refine p_ret [.bool false] (.bool false) (fun _ q => q) rfl ?_
        have ho : decide (a = b) = false := by simp only [decide_eq_true_eq, decide_eq_false_iff_not]; first | (intro hab; subst hab; omega) | exact get_ne (by assumption) (by assumption) (by assumption) | exact take_done hab (by assumption) (by omega)
        exact ⟨by first | (rw [ho]; done) | rfl, Eh⟩
      ·
        have c12 := Classical.not_not.1 c12
        refine v_skip ?_
        refine p_blkN ?_
        refine p_seqN ?_
        refine v_ops ?_
        refine s_pure (.int .i64 ((k : Int) + 1)) (fun _ q => ArithVC.mk (by omega) q) ?_
        refine s_pure (.int .i64 ((k : Int) + 1)) (fun _ q => q) ?_
        refine s_nil ?_
        exact p_lpN ⟨k + 1, ⟨rfl, rfl, rfl, rfl⟩, ⟨Eh, (by exact ⟨by omega, take_ext hab (by assumption) (by assumption) (by assumption)⟩)⟩, by omega⟩
    ·
      refine v_exit ?_
      refine p_seqX ?_
      refine p_lpX ?_
      refine p_blkX ?_
      refine p_seqN ?_
      refine v_seq ?_
      refine v_ops ?_
      refine s_pure (.bool true) (fun _ q => q) ?_
      refine s_nil ?_
      refine p_seqN ?_
      refine v_ret ?_
      refine p_ret [.bool true] (.bool true) (fun _ q => q) rfl ?_
      have ho : decide (a = b) = true := by simp only [decide_eq_true_eq, decide_eq_false_iff_not]; first | (intro hab; subst hab; omega) | exact get_ne (by assumption) (by assumption) (by assumption) | exact take_done hab (by assumption) (by omega)
      exact ⟨by first | (rw [ho]; done) | rfl, Eh⟩

set_option maxRecDepth 10000 in
set_option maxHeartbeats 4000000 in
theorem spec_rpSame_ok (a : RepP) (v_a_passed : Value) (b : RepP) (v_b_passed : Value) (h : Heap) (s_a_passed : Sl h v_a_passed a.passed) (s_b_passed : Sl h v_b_passed b.passed) : Cn f_spec_rpSame [.agg #[.int .i64 a.phase, .int .i64 a.holds, .int .i64 a.again, .int .i64 a.shown, v_a_passed], .agg #[.int .i64 b.phase, .int .i64 b.holds, .int .i64 b.again, .int .i64 b.shown, v_b_passed]] h fun v h' => v = .bool (decide (a.same b)) ∧ Ext h h' := by
  have lt_a_passed := s_a_passed.lt
  have l63_a_passed := s_a_passed.len63
  have lt_b_passed := s_b_passed.lt
  have l63_b_passed := s_b_passed.len63
  refine calls_of r_spec_rpSame ?_
  refine v_seq ?_
  refine v_ops ?_
  refine s_box [.int .i64 a.phase, .int .i64 a.holds, .int .i64 a.again, .int .i64 a.shown, v_a_passed] rfl (fun h2 b1 hbb1 hzb1 eh2 bxb1 => ?_)
  have E3 := (Ext.refl h).trans eh2
  have z4 := eh2.size
  have lbb1 := bxb1.lt
  refine s_box [.int .i64 b.phase, .int .i64 b.holds, .int .i64 b.again, .int .i64 b.shown, v_b_passed] rfl (fun h6 b5 hbb5 hzb5 eh6 bxb5 => ?_)
  have E7 := E3.trans eh6
  have z8 := eh6.size
  have lbb5 := bxb5.lt
  refine s_pure (.bool false) (fun _ q => q) ?_
  refine s_nil ?_
  refine p_seqN ?_
  refine v_seq ?_
  refine v_ops ?_
  refine s_pure (.pointer (some ⟨b1, 0, none⟩)) (fun _ q => q) ?_
  have f9 := (bxb1.ext eh6)
  refine s_load (.int .i64 a.phase) (fun _ q => f9.load rfl q) ?_
  refine s_pure (.pointer (some ⟨b5, 0, none⟩)) (fun _ q => q) ?_
  refine s_load (.int .i64 b.phase) (fun _ q => bxb5.load rfl q) ?_
  refine s_pure (.bool (a.phase == b.phase)) (fun _ q => q) ?_
  refine s_pure (.bool (a.phase == b.phase)) (fun _ q => q) ?_
  refine s_splitT rfl (fun c10 => ?_) (fun c10 => ?_)
  ·
    refine s_run rfl ?_
    refine s_pure (.pointer (some ⟨b1, 1, none⟩)) (fun _ q => q) ?_
    refine s_run rfl ?_
    refine s_load (.int .i64 a.holds) (fun _ q => f9.load rfl q) ?_
    refine s_run rfl ?_
    refine s_pure (.pointer (some ⟨b5, 1, none⟩)) (fun _ q => q) ?_
    refine s_run rfl ?_
    refine s_load (.int .i64 b.holds) (fun _ q => bxb5.load rfl q) ?_
    refine s_run rfl ?_
    refine s_pure (.bool (a.holds == b.holds)) (fun _ q => q) ?_
    refine s_pure (.bool (a.holds == b.holds)) (fun _ q => q) ?_
    refine s_pure (.bool (a.holds == b.holds)) (fun _ q => q) ?_
    refine s_splitT rfl (fun c11 => ?_) (fun c11 => ?_)
    ·
      refine s_run rfl ?_
      refine s_pure (.pointer (some ⟨b1, 2, none⟩)) (fun _ q => q) ?_
      refine s_run rfl ?_
      refine s_load (.int .i64 a.again) (fun _ q => f9.load rfl q) ?_
      refine s_run rfl ?_
      refine s_pure (.pointer (some ⟨b5, 2, none⟩)) (fun _ q => q) ?_
      refine s_run rfl ?_
      refine s_load (.int .i64 b.again) (fun _ q => bxb5.load rfl q) ?_
      refine s_run rfl ?_
      refine s_pure (.bool (a.again == b.again)) (fun _ q => q) ?_
      refine s_pure (.bool (a.again == b.again)) (fun _ q => q) ?_
      refine s_pure (.bool (a.again == b.again)) (fun _ q => q) ?_
      refine s_splitT rfl (fun c12 => ?_) (fun c12 => ?_)
      ·
        refine s_run rfl ?_
        refine s_pure (.pointer (some ⟨b1, 3, none⟩)) (fun _ q => q) ?_
        refine s_run rfl ?_
        refine s_load (.int .i64 a.shown) (fun _ q => f9.load rfl q) ?_
        refine s_run rfl ?_
        refine s_pure (.pointer (some ⟨b5, 3, none⟩)) (fun _ q => q) ?_
        refine s_run rfl ?_
        refine s_load (.int .i64 b.shown) (fun _ q => bxb5.load rfl q) ?_
        refine s_run rfl ?_
        refine s_pure (.bool (a.shown == b.shown)) (fun _ q => q) ?_
        refine s_pure (.bool (a.shown == b.shown)) (fun _ q => q) ?_
        refine s_pure (.bool (a.shown == b.shown)) (fun _ q => q) ?_
        refine s_splitT rfl (fun c13 => ?_) (fun c13 => ?_)
        ·
          refine s_run rfl ?_
          refine s_pure (.pointer (some ⟨b1, 4, none⟩)) (fun _ q => q) ?_
          refine s_run rfl ?_
          refine s_load v_a_passed (fun _ q => f9.load rfl q) ?_
          refine s_run rfl ?_
          refine s_pure (.pointer (some ⟨b5, 4, none⟩)) (fun _ q => q) ?_
          refine s_run rfl ?_
          refine s_load v_b_passed (fun _ q => bxb5.load rfl q) ?_
          refine s_run rfl ?_
          have f14 := ((s_a_passed.ext eh2).ext eh6)
          have f15 := ((s_b_passed.ext eh2).ext eh6)
          refine s_call [v_a_passed, v_b_passed] rfl (spec_l1Same_ok v_a_passed a.passed v_b_passed b.passed _ f14 f15) ?_
          rintro _ h16 ⟨rfl, eh16⟩
          have E17 := E7.trans eh16
          have z18 := eh16.size
          refine s_pure (.bool (decide (a.passed = b.passed))) (fun _ q => q) ?_
          refine s_pure (.bool (decide (a.passed = b.passed))) (fun _ q => q) ?_
          refine s_nil ?_
          refine p_seqN ?_
          refine v_ret ?_
          refine p_ret [.bool (decide (a.passed = b.passed))] (.bool (decide (a.passed = b.passed))) (fun _ q => q) rfl ?_
          have ho : decide (a.same b) = decide (a.passed = b.passed) := by unfold RepP.same; simp [*]
          exact ⟨by first | (rw [ho]; done) | rfl, E17⟩
        ·
          refine s_pass rfl ?_
          refine s_pass rfl ?_
          refine s_pass rfl ?_
          refine s_pass rfl ?_
          refine s_pass rfl ?_
          refine s_pure (.bool false) (fun _ q => q) ?_
          refine s_pure (.bool false) (fun _ q => q) ?_
          refine s_nil ?_
          refine p_seqN ?_
          refine v_ret ?_
          refine p_ret [.bool false] (.bool false) (fun _ q => q) rfl ?_
          have ho : decide (a.same b) = false := by unfold RepP.same; simp [*]
          exact ⟨by first | (rw [ho]; done) | rfl, E7⟩
      ·
        refine s_pass rfl ?_
        refine s_pass rfl ?_
        refine s_pass rfl ?_
        refine s_pass rfl ?_
        refine s_pass rfl ?_
        refine s_pure (.bool false) (fun _ q => q) ?_
        refine s_pure (.bool false) (fun _ q => q) ?_
        refine s_splitN rfl (by simp) ?_
        refine s_pass rfl ?_
        refine s_pass rfl ?_
        refine s_pass rfl ?_
        refine s_pass rfl ?_
        refine s_pass rfl ?_
        refine s_pure (.bool false) (fun _ q => q) ?_
        refine s_pure (.bool false) (fun _ q => q) ?_
        refine s_nil ?_
        refine p_seqN ?_
        refine v_ret ?_
        refine p_ret [.bool false] (.bool false) (fun _ q => q) rfl ?_
        have ho : decide (a.same b) = false := by unfold RepP.same; simp [*]
        exact ⟨by first | (rw [ho]; done) | rfl, E7⟩
    ·
      refine s_pass rfl ?_
      refine s_pass rfl ?_
      refine s_pass rfl ?_
      refine s_pass rfl ?_
      refine s_pass rfl ?_
      refine s_pure (.bool false) (fun _ q => q) ?_
      refine s_pure (.bool false) (fun _ q => q) ?_
      refine s_splitN rfl (by simp) ?_
      refine s_pass rfl ?_
      refine s_pass rfl ?_
      refine s_pass rfl ?_
      refine s_pass rfl ?_
      refine s_pass rfl ?_
      refine s_pure (.bool false) (fun _ q => q) ?_
      refine s_pure (.bool false) (fun _ q => q) ?_
      refine s_splitN rfl (by simp) ?_
      refine s_pass rfl ?_
      refine s_pass rfl ?_
      refine s_pass rfl ?_
      refine s_pass rfl ?_
      refine s_pass rfl ?_
      refine s_pure (.bool false) (fun _ q => q) ?_
      refine s_pure (.bool false) (fun _ q => q) ?_
      refine s_nil ?_
      refine p_seqN ?_
      refine v_ret ?_
      refine p_ret [.bool false] (.bool false) (fun _ q => q) rfl ?_
      have ho : decide (a.same b) = false := by unfold RepP.same; simp [*]
      exact ⟨by first | (rw [ho]; done) | rfl, E7⟩
  ·
    refine s_pass rfl ?_
    refine s_pass rfl ?_
    refine s_pass rfl ?_
    refine s_pass rfl ?_
    refine s_pass rfl ?_
    refine s_pure (.bool false) (fun _ q => q) ?_
    refine s_pure (.bool false) (fun _ q => q) ?_
    refine s_splitN rfl (by simp) ?_
    refine s_pass rfl ?_
    refine s_pass rfl ?_
    refine s_pass rfl ?_
    refine s_pass rfl ?_
    refine s_pass rfl ?_
    refine s_pure (.bool false) (fun _ q => q) ?_
    refine s_pure (.bool false) (fun _ q => q) ?_
    refine s_splitN rfl (by simp) ?_
    refine s_pass rfl ?_
    refine s_pass rfl ?_
    refine s_pass rfl ?_
    refine s_pass rfl ?_
    refine s_pass rfl ?_
    refine s_pure (.bool false) (fun _ q => q) ?_
    refine s_pure (.bool false) (fun _ q => q) ?_
    refine s_splitN rfl (by simp) ?_
    refine s_pass rfl ?_
    refine s_pass rfl ?_
    refine s_pass rfl ?_
    refine s_pass rfl ?_
    refine s_pass rfl ?_
    refine s_pure (.bool false) (fun _ q => q) ?_
    refine s_pure (.bool false) (fun _ q => q) ?_
    refine s_nil ?_
    refine p_seqN ?_
    refine v_ret ?_
    refine p_ret [.bool false] (.bool false) (fun _ q => q) rfl ?_
    have ho : decide (a.same b) = false := by unfold RepP.same; simp [*]
    exact ⟨by first | (rw [ho]; done) | rfl, E7⟩

set_option maxRecDepth 10000 in
set_option maxHeartbeats 4000000 in
theorem impl_UsefulGlances_ok (v_l : Value) (l : List GlanceD) (h : Heap) (s_l : Sl h v_l l) : Cn f_impl_UsefulGlances [v_l] h fun v h' => ∃ r0 : Value, v = .tuple #[r0, .bool ((ugOut l).2)] ∧ SlO h' r0 ((ugOut l).1) ∧ Fr h.size r0 ∧ Ext h h' := by
  have lt_l := s_l.lt
  have l63_l := s_l.len63
  refine calls_of r_impl_UsefulGlances ?_
  refine v_seq ?_
  refine v_ops ?_
  refine s_pure (.slice none 0 0) (fun _ q => q) ?_
  refine s_pure (.bool false) (fun _ q => q) ?_
  refine s_nil ?_
  refine p_seqN ?_
  refine v_seq ?_
  refine v_seq ?_
  refine v_ops ?_
  refine s_pure v_l (fun _ q => q) ?_
  refine s_call [v_l] rfl (areGlances_ok v_l l _ s_l) ?_
  rintro _ h1 ⟨rfl, eh1⟩
  have E2 := (Ext.refl h).trans eh1
  have z3 := eh1.size
  refine s_pure (.bool (!(decide (GlOk l)))) (fun _ q => q) ?_
  refine s_nil ?_
  refine p_seqN ?_
  refine v_cond rfl (fun c4 => ?_) (fun c4 => ?_)
  ·
    refine v_seq ?_
    refine v_ops ?_
    refine s_pure (.slice none 0 0) (fun _ q => q) ?_
    refine s_pure (.bool false) (fun _ q => q) ?_
    refine s_nil ?_
    refine p_seqN ?_
    refine v_ret ?_
    refine p_seqR ?_
    refine p_ret [.slice none 0 0, .bool false] (.tuple #[.slice none 0 0, .bool false]) (fun _ q => q) rfl ?_
    have ho : ugOut l = ([], false) := by first | exact ug_no (by assumption) | (rw [ugOut, if_pos (by assumption), take_all (by assumption)])
    exact ⟨(.slice none 0 0), by first | (rw [ho]; done) | rfl, sl_eq (SlX.nil (α := Int) true _) (congrArg (fun o => o.1) ho).symm, Fr.nil _, E2⟩
  ·
    have c4 := Classical.not_not.1 c4
    refine v_skip ?_
    refine p_seqN ?_
    refine v_seq ?_
    refine v_ops ?_
    refine s_new (fun h6 b5 hbb5 hzb5 eh6 bxb5 => ?_)
    have E7 := E2.trans eh6
    have z8 := eh6.size
    have lbb5 := bxb5.lt
    refine s_nil ?_
    refine p_seqN ?_
    refine v_seq ?_
    refine v_ops ?_
    refine s_pure (.slice none 0 0) (fun _ q => q) ?_
    refine s_nil ?_
    refine p_seqN ?_
    refine v_seq ?_
    refine v_seq ?_
    refine v_ops ?_
    refine s_pure v_l (fun _ q => q) ?_
    refine s_pure (.int .i64 (l.length : Int)) (fun _ q => s_l.lenVC q) ?_
    refine s_pure (.int .i64 0) (fun _ q => q) ?_
    refine s_nil ?_
    refine p_seqN ?_
    refine v_block ?_
    refine v_loop4 (α := Nat) (β := RepP) (γ := Value) (δ := Value) (fun k r v o => [(4, .pointer (some ⟨b5, 0, none⟩)), (5, o), (13, v_l), (14, .int .i64 (l.length : Int)), (15, .int .i64 (k : Int))]) (fun k r v o hh => Ext h hh ∧ Bx hh b5 [.int .i64 r.phase, .int .i64 r.holds, .int .i64 r.again, .int .i64 r.shown, v] 25 ∧ SlO hh v r.passed ∧ Fr h.size v ∧ SlO hh o (useful rz (l.take k)) ∧ Fr h.size o ∧ b5 ∉ blks v ∧ (∀ b ∈ blks o, b ∉ blks v) ∧ b5 ∉ blks o ∧ k ≤ l.length ∧ r = run rz (l.take k)) (fun k r v o => l.length - k) 0 rz (.slice none 0 0) (.slice none 0 0) ⟨rfl, rfl, rfl, rfl, rfl⟩ ⟨E7, bxb5, (sl_eq (SlX.nil (α := Int) true h6) (by simp [shown, useful])), (Fr.nil _), (sl_eq (SlX.nil (α := Int) true h6) (by simp [shown, useful])), (Fr.nil _), (by simp [blks, fpts]), (fun b hb hc => by simp [blks, fpts] at hc), (by simp [blks, fpts]), (by exact ⟨by omega, rfl⟩)⟩ ?_
    rintro k r v o R10 h9 ⟨Eh, bxb5, s_v, fr_v, s_o, fr_o, np_b5_v, np_o_v, np_b5_o, ⟨hk, hr⟩⟩
    have zEh := Eh.size
    have f12 := s_l.ext Eh
    have lbb5 := bxb5.lt
    have lt_v := s_v.lt
    have lt_o := s_o.lt
    have hi : RInv r := by rw [hr]; exact run_inv RInv.zero _
    have hl : r.passed.length ≤ l.length := by (have := run_len rz (l.take k)); rw [← hr] at this; simp at this; omega
    have ha := hi.a
    have gok := GlOk.len (by assumption : GlOk l)
    have hwl := useful_len rz (l.take k)
    simp only [List.length_take] at hwl
    refine v_seq ?_
    refine v_ops ?_
    refine s_pure (.bool (decide ((k : Int) < (l.length : Int)))) (fun _ q => q) ?_
    refine s_nil ?_
    refine p_seqN ?_
    refine v_seq ?_
    refine v_cond rfl (fun c13 => ?_) (fun c13 => ?_)
    ·
      refine v_skip ?_
      refine p_seqN ?_
      refine v_seq ?_
      refine v_block ?_
      refine v_seq ?_
      refine v_ops ?_
      refine s_pure (.int .i64 (k : Int)) (fun _ q => q) ?_
      have hk14 : k < l.length := (by first | omega | (simp; omega))
      obtain ⟨x15, hx15⟩ : ∃ x, l[k]? = some x := ⟨_, List.getElem?_eq_getElem hk14⟩
      refine s_pure (.pointer (some ⟨sblk v_l, soff v_l + k * 2, none⟩)) (fun _ q => f12.idx (k := k) rfl hk14 q) ?_
      refine s_load (.agg #[.bool x15.next, .int .i64 x15.signal]) (fun _ q => f12.loadN hx15 rfl q) ?_
      refine s_new (fun h17 b16 hbb16 hzb16 eh17 bxb16 => ?_)
      have E18 := Eh.trans eh17
      have z19 := eh17.size
      have lbb16 := bxb16.lt
      refine s_pure (.int .i64 (k : Int)) (fun _ q => q) ?_
      refine s_stBx (.agg #[.bool x15.next, .int .i64 x15.signal]) [.bool x15.next, .int .i64 x15.signal] [.bool x15.next, .int .i64 x15.signal] bxb16 rfl rfl rfl rfl (by simp) (all_cons rfl (all_cons rfl all_nil)) rfl (fun h20 mh20 sh20 bxx21 => ?_)
      have E22 := E18.mod mh20 (fun b hb => by simp at hb; omega)
      refine s_nil ?_
      refine p_seqN ?_
      refine v_seq ?_
      refine v_ops ?_
      have f23 := ((bxb5.ext eh17).mod mh20 (by simp; omega))
      refine s_load (.agg #[.int .i64 r.phase, .int .i64 r.holds, .int .i64 r.again, .int .i64 r.shown, v]) (fun _ q => f23.loadA rfl q) ?_
      refine s_load (.agg #[.bool x15.next, .int .i64 x15.signal]) (fun _ q => bxx21.loadA rfl q) ?_
      have f24 := ((s_v.ext eh17).mod mh20 (fun b hb hc => by simp at hc; have := lt_v b hb; omega))
      refine s_call [.agg #[.int .i64 r.phase, .int .i64 r.holds, .int .i64 r.again, .int .i64 r.shown, v], .agg #[.bool x15.next, .int .i64 x15.signal]] rfl (impl_glance_ok r v x15 _ f24 (by first | omega | assumption | (simp; omega)) (by first | omega | assumption | (simp; omega))) ?_
      rintro _ h26 ⟨r25, rfl, s_r25, mh26, ab_r25⟩
      have zh26 := mh26.size
      have E27 := E22.mod mh26 (fun b hb => by have := fr_v b hb; omega)
      have fr_r25 := fr_v.app ab_r25 (by omega)
      have np28 : b5 ∉ blks r25 := fun hc => (ab_r25 _ hc).elim np_b5_v (fun hc => by omega)
      have np29 : ∀ b ∈ blks o, b ∉ blks r25 := fun b hb hc => (ab_r25 _ hc).elim ((np_o_v : ∀ b ∈ blks o, b ∉ blks v) b hb) (fun hc => by have := lt_o b hb; omega)
      have np30 : ∀ b ∈ blks o, b ∉ blks r25 := fun b hb hc => (ab_r25 _ hc).elim ((np_o_v : ∀ b ∈ blks o, b ∉ blks v) b hb) (fun hc => by have := lt_o b hb; omega)
      have np31 : b16 ∉ blks r25 := fun hc => (ab_r25 _ hc).elim (fun hc => by have := lt_v _ hc; omega) (fun hc => by omega)
      have lt_r25 := s_r25.lt
      refine s_pure (.tuple #[.agg #[.int .i64 (((gl r x15).1).phase), .int .i64 (((gl r x15).1).holds), .int .i64 (((gl r x15).1).again), .int .i64 (((gl r x15).1).shown), r25], .bool ((gl r x15).2)]) (fun _ q => q) ?_
      refine s_pure (.agg #[.int .i64 (((gl r x15).1).phase), .int .i64 (((gl r x15).1).holds), .int .i64 (((gl r x15).1).again), .int .i64 (((gl r x15).1).shown), r25]) (fun _ q => q) ?_
      refine s_pure (.bool ((gl r x15).2)) (fun _ q => q) ?_
      refine s_new (fun h33 b32 hbb32 hzb32 eh33 bxb32 => ?_)
      have E34 := E27.trans eh33
      have z35 := eh33.size
      have lbb32 := bxb32.lt
      refine s_stBx (.agg #[.int .i64 (((gl r x15).1).phase), .int .i64 (((gl r x15).1).holds), .int .i64 (((gl r x15).1).again), .int .i64 (((gl r x15).1).shown), r25]) [.int .i64 (((gl r x15).1).phase), .int .i64 (((gl r x15).1).holds), .int .i64 (((gl r x15).1).again), .int .i64 (((gl r x15).1).shown), r25] [.int .i64 (((gl r x15).1).phase), .int .i64 (((gl r x15).1).holds), .int .i64 (((gl r x15).1).again), .int .i64 (((gl r x15).1).shown), r25] bxb32 rfl rfl rfl rfl (by simp) (all_cons rfl (all_cons rfl (all_cons rfl (all_cons rfl (all_cons s_r25.one1 all_nil))))) rfl (fun h36 mh36 sh36 bxx37 => ?_)
      have E38 := E34.mod mh36 (fun b hb => by simp at hb; omega)
      refine s_pure (.bool ((gl r x15).2)) (fun _ q => q) ?_
      refine s_nil ?_
      refine p_seqN ?_
      refine v_seq ?_
      refine v_seq ?_
      refine v_ops ?_
      refine s_pure (.pointer (some ⟨b32, 0, none⟩)) (fun _ q => q) ?_
      refine s_load (.int .i64 (((gl r x15).1).phase)) (fun _ q => bxx37.load rfl q) ?_
      refine s_pure (.pointer (some ⟨b5, 0, none⟩)) (fun _ q => q) ?_
      have f39 := (((f23.mod mh26 np_b5_v).ext eh33).mod mh36 (by simp; omega))
      refine s_load (.int .i64 r.phase) (fun _ q => f39.load rfl q) ?_
      refine s_pure (.bool (((gl r x15).1).phase != r.phase)) (fun _ q => q) ?_
      refine s_pure (.bool (((gl r x15).1).phase != r.phase)) (fun _ q => q) ?_
      refine s_splitT rfl (fun c40 => ?_) (fun c40 => ?_)
      ·
        refine s_pass rfl ?_
        refine s_pass rfl ?_
        refine s_pass rfl ?_
        refine s_pass rfl ?_
        refine s_pass rfl ?_
        refine s_pure (.bool true) (fun _ q => q) ?_
        refine s_pure (.bool true) (fun _ q => q) ?_
        refine s_splitY rfl rfl ?_
        refine s_pass rfl ?_
        refine s_pass rfl ?_
        refine s_pass rfl ?_
        refine s_pass rfl ?_
        refine s_pass rfl ?_
        refine s_pure (.bool true) (fun _ q => q) ?_
        refine s_pure (.bool true) (fun _ q => q) ?_
        refine s_splitY rfl rfl ?_
        refine s_pass rfl ?_
        refine s_pass rfl ?_
        refine s_pass rfl ?_
        refine s_pass rfl ?_
        refine s_pass rfl ?_
        refine s_pure (.bool true) (fun _ q => q) ?_
        refine s_pure (.bool true) (fun _ q => q) ?_
        refine s_splitY rfl rfl ?_
        refine s_pass rfl ?_
        refine s_pass rfl ?_
        refine s_pass rfl ?_
        refine s_pass rfl ?_
        refine s_pass rfl ?_
        refine s_pass rfl ?_
        refine s_pass rfl ?_
        refine s_pure (.bool true) (fun _ q => q) ?_
        refine s_nil ?_
        refine p_seqN ?_
        refine v_condY rfl rfl ?_
        refine v_ops ?_
        refine s_pure o (fun _ q => q) ?_
        refine s_pure (.int .i64 (k : Int)) (fun _ q => q) ?_
        refine s_row (α := Int) [(k : Int)] (fun _ q => seg_i rfl (seg_nil q)) rfl (by simp [maxLen]) (fun r41 h42 eh42 zh42 s_r41 fr_r41 => ?_)
        have E43 := E38.trans eh42
        have z44 := eh42.size
        have lt_r41 := s_r41.lt
        have f45 := ((((((s_o.ext eh17).mod mh20 (fun b hb hc => by simp at hc; have := lt_o b hb; omega)).mod mh26 np_o_v).ext eh33).mod mh36 (fun b hb hc => by simp at hc; have := lt_o b hb; omega)).ext eh42)
        refine s_app f45 s_r41 rfl rfl rfl (by simp [maxLen]; omega) (by simp; omega) (fun r46 h47 mh47 zh47 s_r46 ab_r46 => ?_)
        have E48 := E43.mod mh47 (fun b hb => by have := fr_o b hb; omega)
        have fr_r46 := fr_o.app ab_r46 (by omega)
        have np49 : ∀ b ∈ blks v, b ∉ blks r46 := fun b hb hc => (ab_r46 _ hc).elim (((fun b hb hc => np_o_v b hc hb) : ∀ b ∈ blks v, b ∉ blks o) b hb) (fun hc => by have := lt_v b hb; omega)
        have np50 : ∀ b ∈ blks v, b ∉ blks r46 := fun b hb hc => (ab_r46 _ hc).elim (((fun b hb hc => np_o_v b hc hb) : ∀ b ∈ blks v, b ∉ blks o) b hb) (fun hc => by have := lt_v b hb; omega)
        have np51 : b5 ∉ blks r46 := fun hc => (ab_r46 _ hc).elim np_b5_o (fun hc => by omega)
        have np52 : ∀ b ∈ blks r25, b ∉ blks r46 := fun b hb hc => (ab_r46 _ hc).elim (((fun b hb hc => np30 b hc hb) : ∀ b ∈ blks r25, b ∉ blks o) b hb) (fun hc => by have := lt_r25 b hb; omega)
        have np53 : ∀ b ∈ blks r25, b ∉ blks r46 := fun b hb hc => (ab_r46 _ hc).elim (((fun b hb hc => np30 b hc hb) : ∀ b ∈ blks r25, b ∉ blks o) b hb) (fun hc => by have := lt_r25 b hb; omega)
        have np54 : b16 ∉ blks r46 := fun hc => (ab_r46 _ hc).elim (fun hc => by have := lt_o _ hc; omega) (fun hc => by omega)
        have np55 : b32 ∉ blks r46 := fun hc => (ab_r46 _ hc).elim (fun hc => by have := lt_o _ hc; omega) (fun hc => by omega)
        have np56 : ∀ b ∈ blks r41, b ∉ blks r46 := fun b hb hc => (ab_r46 _ hc).elim (((fun b hb hc => by have := fr_r41 b hb; have := lt_o b hc; omega) : ∀ b ∈ blks r41, b ∉ blks o) b hb) (fun hc => by have := lt_r41 b hb; omega)
        have lt_r46 := s_r46.lt
        refine s_pure r46 (fun _ q => q) ?_
        refine s_nil ?_
        refine p_seqN ?_
        refine v_ops ?_
        have f57 := ((bxx37.ext eh42).mod mh47 (fun hc => by have := lt_o _ hc; omega))
        refine s_load (.agg #[.int .i64 (((gl r x15).1).phase), .int .i64 (((gl r x15).1).holds), .int .i64 (((gl r x15).1).again), .int .i64 (((gl r x15).1).shown), r25]) (fun _ q => f57.loadA rfl q) ?_
        have f58 := ((f39.ext eh42).mod mh47 np_b5_o)
        refine s_stBx (.agg #[.int .i64 (((gl r x15).1).phase), .int .i64 (((gl r x15).1).holds), .int .i64 (((gl r x15).1).again), .int .i64 (((gl r x15).1).shown), r25]) [.int .i64 (((gl r x15).1).phase), .int .i64 (((gl r x15).1).holds), .int .i64 (((gl r x15).1).again), .int .i64 (((gl r x15).1).shown), r25] [.int .i64 (((gl r x15).1).phase), .int .i64 (((gl r x15).1).holds), .int .i64 (((gl r x15).1).again), .int .i64 (((gl r x15).1).shown), r25] f58 rfl rfl rfl rfl (by simp) (all_cons rfl (all_cons rfl (all_cons rfl (all_cons rfl (all_cons s_r25.one1 all_nil))))) rfl (fun h59 mh59 sh59 bxx60 => ?_)
        have E61 := E48.mod mh59 (fun b hb => by simp at hb; omega)
        refine s_nil ?_
        refine p_blkN ?_
        refine p_seqN ?_
        refine v_ops ?_
        refine s_pure (.int .i64 ((k : Int) + 1)) (fun _ q => ArithVC.mk (by omega) q) ?_
        refine s_pure (.int .i64 ((k : Int) + 1)) (fun _ q => q) ?_
        refine s_nil ?_
        have f62 := (((((s_r25.ext eh33).mod mh36 (fun b hb hc => by simp at hc; have := lt_r25 b hb; omega)).ext eh42).mod mh47 (fun b hb hc => np30 b hc hb)).mod mh59 (fun b hb hc => np28 (by simp at hc; rw [← hc]; exact hb)))
        have f63 := (s_r46.mod mh59 (fun b hb hc => np51 (by simp at hc; rw [← hc]; exact hb)))
        exact p_lpN ⟨k + 1, ((gl r x15).1), r25, r46, ⟨rfl, rfl, rfl, rfl, rfl⟩, ⟨E61, bxx60, (sl_eq f62 (by simp)), (fr_r25.mono (by omega)), (sl_eq f63 (by rw [useful_snoc rz (by assumption), ← hr]; first | rw [if_pos (by simp [chg]; omega)] | (rw [if_neg (by simp [chg]; omega)]; simp))), (fr_r46.mono (by omega)), np28, (fun b hb hc => np53 b hc hb), np51, (by exact ⟨by omega, run_step (by assumption) hr⟩)⟩, by omega⟩
      ·
        have c40 := Classical.not_not.1 c40
        refine s_run rfl ?_
        refine s_pure (.pointer (some ⟨b32, 1, none⟩)) (fun _ q => q) ?_
        refine s_run rfl ?_
        refine s_load (.int .i64 (((gl r x15).1).holds)) (fun _ q => bxx37.load rfl q) ?_
        refine s_run rfl ?_
        refine s_pure (.pointer (some ⟨b5, 1, none⟩)) (fun _ q => q) ?_
        refine s_run rfl ?_
        refine s_load (.int .i64 r.holds) (fun _ q => f39.load rfl q) ?_
        refine s_run rfl ?_
        refine s_pure (.bool (((gl r x15).1).holds != r.holds)) (fun _ q => q) ?_
        refine s_pure (.bool (((gl r x15).1).holds != r.holds)) (fun _ q => q) ?_
        refine s_pure (.bool (((gl r x15).1).holds != r.holds)) (fun _ q => q) ?_
        refine s_splitT rfl (fun c64 => ?_) (fun c64 => ?_)
        ·
          refine s_pass rfl ?_
          refine s_pass rfl ?_
          refine s_pass rfl ?_
          refine s_pass rfl ?_
          refine s_pass rfl ?_
          refine s_pure (.bool true) (fun _ q => q) ?_
          refine s_pure (.bool true) (fun _ q => q) ?_
          refine s_splitY rfl rfl ?_
          refine s_pass rfl ?_
          refine s_pass rfl ?_
          refine s_pass rfl ?_
          refine s_pass rfl ?_
          refine s_pass rfl ?_
          refine s_pure (.bool true) (fun _ q => q) ?_
          refine s_pure (.bool true) (fun _ q => q) ?_
          refine s_splitY rfl rfl ?_
          refine s_pass rfl ?_
          refine s_pass rfl ?_
          refine s_pass rfl ?_
          refine s_pass rfl ?_
          refine s_pass rfl ?_
          refine s_pass rfl ?_
          refine s_pass rfl ?_
          refine s_pure (.bool true) (fun _ q => q) ?_
          refine s_nil ?_
          refine p_seqN ?_
          refine v_condY rfl rfl ?_
          refine v_ops ?_
          refine s_pure o (fun _ q => q) ?_
          refine s_pure (.int .i64 (k : Int)) (fun _ q => q) ?_
          refine s_row (α := Int) [(k : Int)] (fun _ q => seg_i rfl (seg_nil q)) rfl (by simp [maxLen]) (fun r65 h66 eh66 zh66 s_r65 fr_r65 => ?_)
          have E67 := E38.trans eh66
          have z68 := eh66.size
          have lt_r65 := s_r65.lt
          have f69 := ((((((s_o.ext eh17).mod mh20 (fun b hb hc => by simp at hc; have := lt_o b hb; omega)).mod mh26 np_o_v).ext eh33).mod mh36 (fun b hb hc => by simp at hc; have := lt_o b hb; omega)).ext eh66)
          refine s_app f69 s_r65 rfl rfl rfl (by simp [maxLen]; omega) (by simp; omega) (fun r70 h71 mh71 zh71 s_r70 ab_r70 => ?_)
          have E72 := E67.mod mh71 (fun b hb => by have := fr_o b hb; omega)
          have fr_r70 := fr_o.app ab_r70 (by omega)
          have np73 : ∀ b ∈ blks v, b ∉ blks r70 := fun b hb hc => (ab_r70 _ hc).elim (((fun b hb hc => np_o_v b hc hb) : ∀ b ∈ blks v, b ∉ blks o) b hb) (fun hc => by have := lt_v b hb; omega)
          have np74 : ∀ b ∈ blks v, b ∉ blks r70 := fun b hb hc => (ab_r70 _ hc).elim (((fun b hb hc => np_o_v b hc hb) : ∀ b ∈ blks v, b ∉ blks o) b hb) (fun hc => by have := lt_v b hb; omega)
          have np75 : b5 ∉ blks r70 := fun hc => (ab_r70 _ hc).elim np_b5_o (fun hc => by omega)
          have np76 : ∀ b ∈ blks r25, b ∉ blks r70 := fun b hb hc => (ab_r70 _ hc).elim (((fun b hb hc => np30 b hc hb) : ∀ b ∈ blks r25, b ∉ blks o) b hb) (fun hc => by have := lt_r25 b hb; omega)
          have np77 : ∀ b ∈ blks r25, b ∉ blks r70 := fun b hb hc => (ab_r70 _ hc).elim (((fun b hb hc => np30 b hc hb) : ∀ b ∈ blks r25, b ∉ blks o) b hb) (fun hc => by have := lt_r25 b hb; omega)
          have np78 : b16 ∉ blks r70 := fun hc => (ab_r70 _ hc).elim (fun hc => by have := lt_o _ hc; omega) (fun hc => by omega)
          have np79 : b32 ∉ blks r70 := fun hc => (ab_r70 _ hc).elim (fun hc => by have := lt_o _ hc; omega) (fun hc => by omega)
          have np80 : ∀ b ∈ blks r65, b ∉ blks r70 := fun b hb hc => (ab_r70 _ hc).elim (((fun b hb hc => by have := fr_r65 b hb; have := lt_o b hc; omega) : ∀ b ∈ blks r65, b ∉ blks o) b hb) (fun hc => by have := lt_r65 b hb; omega)
          have lt_r70 := s_r70.lt
          refine s_pure r70 (fun _ q => q) ?_
          refine s_nil ?_
          refine p_seqN ?_
          refine v_ops ?_
          have f81 := ((bxx37.ext eh66).mod mh71 (fun hc => by have := lt_o _ hc; omega))
          refine s_load (.agg #[.int .i64 (((gl r x15).1).phase), .int .i64 (((gl r x15).1).holds), .int .i64 (((gl r x15).1).again), .int .i64 (((gl r x15).1).shown), r25]) (fun _ q => f81.loadA rfl q) ?_
          have f82 := ((f39.ext eh66).mod mh71 np_b5_o)
          refine s_stBx (.agg #[.int .i64 (((gl r x15).1).phase), .int .i64 (((gl r x15).1).holds), .int .i64 (((gl r x15).1).again), .int .i64 (((gl r x15).1).shown), r25]) [.int .i64 (((gl r x15).1).phase), .int .i64 (((gl r x15).1).holds), .int .i64 (((gl r x15).1).again), .int .i64 (((gl r x15).1).shown), r25] [.int .i64 (((gl r x15).1).phase), .int .i64 (((gl r x15).1).holds), .int .i64 (((gl r x15).1).again), .int .i64 (((gl r x15).1).shown), r25] f82 rfl rfl rfl rfl (by simp) (all_cons rfl (all_cons rfl (all_cons rfl (all_cons rfl (all_cons s_r25.one1 all_nil))))) rfl (fun h83 mh83 sh83 bxx84 => ?_)
          have E85 := E72.mod mh83 (fun b hb => by simp at hb; omega)
          refine s_nil ?_
          refine p_blkN ?_
          refine p_seqN ?_
          refine v_ops ?_
          refine s_pure (.int .i64 ((k : Int) + 1)) (fun _ q => ArithVC.mk (by omega) q) ?_
          refine s_pure (.int .i64 ((k : Int) + 1)) (fun _ q => q) ?_
          refine s_nil ?_
          have f86 := (((((s_r25.ext eh33).mod mh36 (fun b hb hc => by simp at hc; have := lt_r25 b hb; omega)).ext eh66).mod mh71 (fun b hb hc => np30 b hc hb)).mod mh83 (fun b hb hc => np28 (by simp at hc; rw [← hc]; exact hb)))
          have f87 := (s_r70.mod mh83 (fun b hb hc => np75 (by simp at hc; rw [← hc]; exact hb)))
          exact p_lpN ⟨k + 1, ((gl r x15).1), r25, r70, ⟨rfl, rfl, rfl, rfl, rfl⟩, ⟨E85, bxx84, (sl_eq f86 (by simp)), (fr_r25.mono (by omega)), (sl_eq f87 (by rw [useful_snoc rz (by assumption), ← hr]; first | rw [if_pos (by simp [chg]; omega)] | (rw [if_neg (by simp [chg]; omega)]; simp))), (fr_r70.mono (by omega)), np28, (fun b hb hc => np77 b hc hb), np75, (by exact ⟨by omega, run_step (by assumption) hr⟩)⟩, by omega⟩
        ·
          have c64 := Classical.not_not.1 c64
          refine s_run rfl ?_
          refine s_pure (.pointer (some ⟨b32, 2, none⟩)) (fun _ q => q) ?_
          refine s_run rfl ?_
          refine s_load (.int .i64 (((gl r x15).1).again)) (fun _ q => bxx37.load rfl q) ?_
          refine s_run rfl ?_
          refine s_pure (.pointer (some ⟨b5, 2, none⟩)) (fun _ q => q) ?_
          refine s_run rfl ?_
          refine s_load (.int .i64 r.again) (fun _ q => f39.load rfl q) ?_
          refine s_run rfl ?_
          refine s_pure (.bool (((gl r x15).1).again != r.again)) (fun _ q => q) ?_
          refine s_pure (.bool (((gl r x15).1).again != r.again)) (fun _ q => q) ?_
          refine s_pure (.bool (((gl r x15).1).again != r.again)) (fun _ q => q) ?_
          refine s_splitT rfl (fun c88 => ?_) (fun c88 => ?_)
          ·
            refine s_pass rfl ?_
            refine s_pass rfl ?_
            refine s_pass rfl ?_
            refine s_pass rfl ?_
            refine s_pass rfl ?_
            refine s_pure (.bool true) (fun _ q => q) ?_
            refine s_pure (.bool true) (fun _ q => q) ?_
            refine s_splitY rfl rfl ?_
            refine s_pass rfl ?_
            refine s_pass rfl ?_
            refine s_pass rfl ?_
            refine s_pass rfl ?_
            refine s_pass rfl ?_
            refine s_pass rfl ?_
            refine s_pass rfl ?_
            refine s_pure (.bool true) (fun _ q => q) ?_
            refine s_nil ?_
            refine p_seqN ?_
            refine v_condY rfl rfl ?_
            refine v_ops ?_
            refine s_pure o (fun _ q => q) ?_
            refine s_pure (.int .i64 (k : Int)) (fun _ q => q) ?_
            refine s_row (α := Int) [(k : Int)] (fun _ q => seg_i rfl (seg_nil q)) rfl (by simp [maxLen]) (fun r89 h90 eh90 zh90 s_r89 fr_r89 => ?_)
            have E91 := E38.trans eh90
            have z92 := eh90.size
            have lt_r89 := s_r89.lt
            have f93 := ((((((s_o.ext eh17).mod mh20 (fun b hb hc => by simp at hc; have := lt_o b hb; omega)).mod mh26 np_o_v).ext eh33).mod mh36 (fun b hb hc => by simp at hc; have := lt_o b hb; omega)).ext eh90)
            refine s_app f93 s_r89 rfl rfl rfl (by simp [maxLen]; omega) (by simp; omega) (fun r94 h95 mh95 zh95 s_r94 ab_r94 => ?_)
            have E96 := E91.mod mh95 (fun b hb => by have := fr_o b hb; omega)
            have fr_r94 := fr_o.app ab_r94 (by omega)
            have np97 : ∀ b ∈ blks v, b ∉ blks r94 := fun b hb hc => (ab_r94 _ hc).elim (((fun b hb hc => np_o_v b hc hb) : ∀ b ∈ blks v, b ∉ blks o) b hb) (fun hc => by have := lt_v b hb; omega)
            have np98 : ∀ b ∈ blks v, b ∉ blks r94 := fun b hb hc => (ab_r94 _ hc).elim (((fun b hb hc => np_o_v b hc hb) : ∀ b ∈ blks v, b ∉ blks o) b hb) (fun hc => by have := lt_v b hb; omega)
            have np99 : b5 ∉ blks r94 := fun hc => (ab_r94 _ hc).elim np_b5_o (fun hc => by omega)
            have np100 : ∀ b ∈ blks r25, b ∉ blks r94 := fun b hb hc => (ab_r94 _ hc).elim (((fun b hb hc => np30 b hc hb) : ∀ b ∈ blks r25, b ∉ blks o) b hb) (fun hc => by have := lt_r25 b hb; omega)
            have np101 : ∀ b ∈ blks r25, b ∉ blks r94 := fun b hb hc => (ab_r94 _ hc).elim (((fun b hb hc => np30 b hc hb) : ∀ b ∈ blks r25, b ∉ blks o) b hb) (fun hc => by have := lt_r25 b hb; omega)
            have np102 : b16 ∉ blks r94 := fun hc => (ab_r94 _ hc).elim (fun hc => by have := lt_o _ hc; omega) (fun hc => by omega)
            have np103 : b32 ∉ blks r94 := fun hc => (ab_r94 _ hc).elim (fun hc => by have := lt_o _ hc; omega) (fun hc => by omega)
            have np104 : ∀ b ∈ blks r89, b ∉ blks r94 := fun b hb hc => (ab_r94 _ hc).elim (((fun b hb hc => by have := fr_r89 b hb; have := lt_o b hc; omega) : ∀ b ∈ blks r89, b ∉ blks o) b hb) (fun hc => by have := lt_r89 b hb; omega)
            have lt_r94 := s_r94.lt
            refine s_pure r94 (fun _ q => q) ?_
            refine s_nil ?_
            refine p_seqN ?_
            refine v_ops ?_
            have f105 := ((bxx37.ext eh90).mod mh95 (fun hc => by have := lt_o _ hc; omega))
            refine s_load (.agg #[.int .i64 (((gl r x15).1).phase), .int .i64 (((gl r x15).1).holds), .int .i64 (((gl r x15).1).again), .int .i64 (((gl r x15).1).shown), r25]) (fun _ q => f105.loadA rfl q) ?_
            have f106 := ((f39.ext eh90).mod mh95 np_b5_o)
            refine s_stBx (.agg #[.int .i64 (((gl r x15).1).phase), .int .i64 (((gl r x15).1).holds), .int .i64 (((gl r x15).1).again), .int .i64 (((gl r x15).1).shown), r25]) [.int .i64 (((gl r x15).1).phase), .int .i64 (((gl r x15).1).holds), .int .i64 (((gl r x15).1).again), .int .i64 (((gl r x15).1).shown), r25] [.int .i64 (((gl r x15).1).phase), .int .i64 (((gl r x15).1).holds), .int .i64 (((gl r x15).1).again), .int .i64 (((gl r x15).1).shown), r25] f106 rfl rfl rfl rfl (by simp) (all_cons rfl (all_cons rfl (all_cons rfl (all_cons rfl (all_cons s_r25.one1 all_nil))))) rfl (fun h107 mh107 sh107 bxx108 => ?_)
            have E109 := E96.mod mh107 (fun b hb => by simp at hb; omega)
            refine s_nil ?_
            refine p_blkN ?_
            refine p_seqN ?_
            refine v_ops ?_
            refine s_pure (.int .i64 ((k : Int) + 1)) (fun _ q => ArithVC.mk (by omega) q) ?_
            refine s_pure (.int .i64 ((k : Int) + 1)) (fun _ q => q) ?_
            refine s_nil ?_
            have f110 := (((((s_r25.ext eh33).mod mh36 (fun b hb hc => by simp at hc; have := lt_r25 b hb; omega)).ext eh90).mod mh95 (fun b hb hc => np30 b hc hb)).mod mh107 (fun b hb hc => np28 (by simp at hc; rw [← hc]; exact hb)))
            have f111 := (s_r94.mod mh107 (fun b hb hc => np99 (by simp at hc; rw [← hc]; exact hb)))
            exact p_lpN ⟨k + 1, ((gl r x15).1), r25, r94, ⟨rfl, rfl, rfl, rfl, rfl⟩, ⟨E109, bxx108, (sl_eq f110 (by simp)), (fr_r25.mono (by omega)), (sl_eq f111 (by rw [useful_snoc rz (by assumption), ← hr]; first | rw [if_pos (by simp [chg]; omega)] | (rw [if_neg (by simp [chg]; omega)]; simp))), (fr_r94.mono (by omega)), np28, (fun b hb hc => np101 b hc hb), np99, (by exact ⟨by omega, run_step (by assumption) hr⟩)⟩, by omega⟩
          ·
            have c88 := Classical.not_not.1 c88
            refine s_run rfl ?_
            refine s_pure (.pointer (some ⟨b32, 3, none⟩)) (fun _ q => q) ?_
            refine s_run rfl ?_
            refine s_load (.int .i64 (((gl r x15).1).shown)) (fun _ q => bxx37.load rfl q) ?_
            refine s_run rfl ?_
            refine s_pure (.pointer (some ⟨b5, 3, none⟩)) (fun _ q => q) ?_
            refine s_run rfl ?_
            refine s_load (.int .i64 r.shown) (fun _ q => f39.load rfl q) ?_
            refine s_run rfl ?_
            refine s_pure (.bool (((gl r x15).1).shown != r.shown)) (fun _ q => q) ?_
            refine s_pure (.bool (((gl r x15).1).shown != r.shown)) (fun _ q => q) ?_
            refine s_pure (.bool (((gl r x15).1).shown != r.shown)) (fun _ q => q) ?_
            refine s_splitT rfl (fun c112 => ?_) (fun c112 => ?_)
            ·
              refine s_pass rfl ?_
              refine s_pass rfl ?_
              refine s_pass rfl ?_
              refine s_pass rfl ?_
              refine s_pass rfl ?_
              refine s_pass rfl ?_
              refine s_pass rfl ?_
              refine s_pure (.bool true) (fun _ q => q) ?_
              refine s_nil ?_
              refine p_seqN ?_
              refine v_condY rfl rfl ?_
              refine v_ops ?_
              refine s_pure o (fun _ q => q) ?_
              refine s_pure (.int .i64 (k : Int)) (fun _ q => q) ?_
              refine s_row (α := Int) [(k : Int)] (fun _ q => seg_i rfl (seg_nil q)) rfl (by simp [maxLen]) (fun r113 h114 eh114 zh114 s_r113 fr_r113 => ?_)
              have E115 := E38.trans eh114
              have z116 := eh114.size
              have lt_r113 := s_r113.lt
              have f117 := ((((((s_o.ext eh17).mod mh20 (fun b hb hc => by simp at hc; have := lt_o b hb; omega)).mod mh26 np_o_v).ext eh33).mod mh36 (fun b hb hc => by simp at hc; have := lt_o b hb; omega)).ext eh114)
              refine s_app f117 s_r113 rfl rfl rfl (by simp [maxLen]; omega) (by simp; omega) (fun r118 h119 mh119 zh119 s_r118 ab_r118 => ?_)
              have E120 := E115.mod mh119 (fun b hb => by have := fr_o b hb; omega)
              have fr_r118 := fr_o.app ab_r118 (by omega)
              have np121 : ∀ b ∈ blks v, b ∉ blks r118 := fun b hb hc => (ab_r118 _ hc).elim (((fun b hb hc => np_o_v b hc hb) : ∀ b ∈ blks v, b ∉ blks o) b hb) (fun hc => by have := lt_v b hb; omega)
              have np122 : ∀ b ∈ blks v, b ∉ blks r118 := fun b hb hc => (ab_r118 _ hc).elim (((fun b hb hc => np_o_v b hc hb) : ∀ b ∈ blks v, b ∉ blks o) b hb) (fun hc => by have := lt_v b hb; omega)
              have np123 : b5 ∉ blks r118 := fun hc => (ab_r118 _ hc).elim np_b5_o (fun hc => by omega)
              have np124 : ∀ b ∈ blks r25, b ∉ blks r118 := fun b hb hc => (ab_r118 _ hc).elim (((fun b hb hc => np30 b hc hb) : ∀ b ∈ blks r25, b ∉ blks o) b hb) (fun hc => by have := lt_r25 b hb; omega)
              have np125 : ∀ b ∈ blks r25, b ∉ blks r118 := fun b hb hc => (ab_r118 _ hc).elim (((fun b hb hc => np30 b hc hb) : ∀ b ∈ blks r25, b ∉ blks o) b hb) (fun hc => by have := lt_r25 b hb; omega)
              have np126 : b16 ∉ blks r118 := fun hc => (ab_r118 _ hc).elim (fun hc => by have := lt_o _ hc; omega) (fun hc => by omega)
              have np127 : b32 ∉ blks r118 := fun hc => (ab_r118 _ hc).elim (fun hc => by have := lt_o _ hc; omega) (fun hc => by omega)
              have np128 : ∀ b ∈ blks r113, b ∉ blks r118 := fun b hb hc => (ab_r118 _ hc).elim (((fun b hb hc => by have := fr_r113 b hb; have := lt_o b hc; omega) : ∀ b ∈ blks r113, b ∉ blks o) b hb) (fun hc => by have := lt_r113 b hb; omega)
              have lt_r118 := s_r118.lt
              refine s_pure r118 (fun _ q => q) ?_
              refine s_nil ?_
              refine p_seqN ?_
              refine v_ops ?_
              have f129 := ((bxx37.ext eh114).mod mh119 (fun hc => by have := lt_o _ hc; omega))
              refine s_load (.agg #[.int .i64 (((gl r x15).1).phase), .int .i64 (((gl r x15).1).holds), .int .i64 (((gl r x15).1).again), .int .i64 (((gl r x15).1).shown), r25]) (fun _ q => f129.loadA rfl q) ?_
              have f130 := ((f39.ext eh114).mod mh119 np_b5_o)
              refine s_stBx (.agg #[.int .i64 (((gl r x15).1).phase), .int .i64 (((gl r x15).1).holds), .int .i64 (((gl r x15).1).again), .int .i64 (((gl r x15).1).shown), r25]) [.int .i64 (((gl r x15).1).phase), .int .i64 (((gl r x15).1).holds), .int .i64 (((gl r x15).1).again), .int .i64 (((gl r x15).1).shown), r25] [.int .i64 (((gl r x15).1).phase), .int .i64 (((gl r x15).1).holds), .int .i64 (((gl r x15).1).again), .int .i64 (((gl r x15).1).shown), r25] f130 rfl rfl rfl rfl (by simp) (all_cons rfl (all_cons rfl (all_cons rfl (all_cons rfl (all_cons s_r25.one1 all_nil))))) rfl (fun h131 mh131 sh131 bxx132 => ?_)
              have E133 := E120.mod mh131 (fun b hb => by simp at hb; omega)
              refine s_nil ?_
              refine p_blkN ?_
              refine p_seqN ?_
              refine v_ops ?_
              refine s_pure (.int .i64 ((k : Int) + 1)) (fun _ q => ArithVC.mk (by omega) q) ?_
              refine s_pure (.int .i64 ((k : Int) + 1)) (fun _ q => q) ?_
              refine s_nil ?_
              have f134 := (((((s_r25.ext eh33).mod mh36 (fun b hb hc => by simp at hc; have := lt_r25 b hb; omega)).ext eh114).mod mh119 (fun b hb hc => np30 b hc hb)).mod mh131 (fun b hb hc => np28 (by simp at hc; rw [← hc]; exact hb)))
              have f135 := (s_r118.mod mh131 (fun b hb hc => np123 (by simp at hc; rw [← hc]; exact hb)))
              exact p_lpN ⟨k + 1, ((gl r x15).1), r25, r118, ⟨rfl, rfl, rfl, rfl, rfl⟩, ⟨E133, bxx132, (sl_eq f134 (by simp)), (fr_r25.mono (by omega)), (sl_eq f135 (by rw [useful_snoc rz (by assumption), ← hr]; first | rw [if_pos (by simp [chg]; omega)] | (rw [if_neg (by simp [chg]; omega)]; simp))), (fr_r118.mono (by omega)), np28, (fun b hb hc => np125 b hc hb), np123, (by exact ⟨by omega, run_step (by assumption) hr⟩)⟩, by omega⟩
            ·
              have c112 := Classical.not_not.1 c112
              refine s_run rfl ?_
              refine s_pure (.pointer (some ⟨b32, 4, none⟩)) (fun _ q => q) ?_
              refine s_run rfl ?_
              refine s_load r25 (fun _ q => bxx37.load rfl q) ?_
              refine s_run rfl ?_
              refine s_pure (.int .i64 ((((gl r x15).1).passed).length : Int)) (fun _ q => s_r25.lenVC q) ?_
              refine s_run rfl ?_
              refine s_pure (.pointer (some ⟨b5, 4, none⟩)) (fun _ q => q) ?_
              refine s_run rfl ?_
              refine s_load v (fun _ q => f39.load rfl q) ?_
              refine s_run rfl ?_
              refine s_pure (.int .i64 (r.passed.length : Int)) (fun _ q => f24.lenVC q) ?_
              refine s_run rfl ?_
              refine s_pure (.bool (((((gl r x15).1).passed).length : Int) != (r.passed.length : Int))) (fun _ q => q) ?_
              refine s_pure (.bool (((((gl r x15).1).passed).length : Int) != (r.passed.length : Int))) (fun _ q => q) ?_
              refine s_nil ?_
              refine p_seqN ?_
              refine v_cond rfl (fun c136 => ?_) (fun c136 => ?_)
              ·
                refine v_ops ?_
                refine s_pure o (fun _ q => q) ?_
                refine s_pure (.int .i64 (k : Int)) (fun _ q => q) ?_
                refine s_row (α := Int) [(k : Int)] (fun _ q => seg_i rfl (seg_nil q)) rfl (by simp [maxLen]) (fun r137 h138 eh138 zh138 s_r137 fr_r137 => ?_)
                have E139 := E38.trans eh138
                have z140 := eh138.size
                have lt_r137 := s_r137.lt
                have f141 := ((((((s_o.ext eh17).mod mh20 (fun b hb hc => by simp at hc; have := lt_o b hb; omega)).mod mh26 np_o_v).ext eh33).mod mh36 (fun b hb hc => by simp at hc; have := lt_o b hb; omega)).ext eh138)
                refine s_app f141 s_r137 rfl rfl rfl (by simp [maxLen]; omega) (by simp; omega) (fun r142 h143 mh143 zh143 s_r142 ab_r142 => ?_)
                have E144 := E139.mod mh143 (fun b hb => by have := fr_o b hb; omega)
                have fr_r142 := fr_o.app ab_r142 (by omega)
                have np145 : ∀ b ∈ blks v, b ∉ blks r142 := fun b hb hc => (ab_r142 _ hc).elim (((fun b hb hc => np_o_v b hc hb) : ∀ b ∈ blks v, b ∉ blks o) b hb) (fun hc => by have := lt_v b hb; omega)
                have np146 : ∀ b ∈ blks v, b ∉ blks r142 := fun b hb hc => (ab_r142 _ hc).elim (((fun b hb hc => np_o_v b hc hb) : ∀ b ∈ blks v, b ∉ blks o) b hb) (fun hc => by have := lt_v b hb; omega)
                have np147 : b5 ∉ blks r142 := fun hc => (ab_r142 _ hc).elim np_b5_o (fun hc => by omega)
                have np148 : ∀ b ∈ blks r25, b ∉ blks r142 := fun b hb hc => (ab_r142 _ hc).elim (((fun b hb hc => np30 b hc hb) : ∀ b ∈ blks r25, b ∉ blks o) b hb) (fun hc => by have := lt_r25 b hb; omega)
                have np149 : ∀ b ∈ blks r25, b ∉ blks r142 := fun b hb hc => (ab_r142 _ hc).elim (((fun b hb hc => np30 b hc hb) : ∀ b ∈ blks r25, b ∉ blks o) b hb) (fun hc => by have := lt_r25 b hb; omega)
                have np150 : b16 ∉ blks r142 := fun hc => (ab_r142 _ hc).elim (fun hc => by have := lt_o _ hc; omega) (fun hc => by omega)
                have np151 : b32 ∉ blks r142 := fun hc => (ab_r142 _ hc).elim (fun hc => by have := lt_o _ hc; omega) (fun hc => by omega)
                have np152 : ∀ b ∈ blks r137, b ∉ blks r142 := fun b hb hc => (ab_r142 _ hc).elim (((fun b hb hc => by have := fr_r137 b hb; have := lt_o b hc; omega) : ∀ b ∈ blks r137, b ∉ blks o) b hb) (fun hc => by have := lt_r137 b hb; omega)
                have lt_r142 := s_r142.lt
                refine s_pure r142 (fun _ q => q) ?_
                refine s_nil ?_
                refine p_seqN ?_
                refine v_ops ?_
                have f153 := ((bxx37.ext eh138).mod mh143 (fun hc => by have := lt_o _ hc; omega))
                refine s_load (.agg #[.int .i64 (((gl r x15).1).phase), .int .i64 (((gl r x15).1).holds), .int .i64 (((gl r x15).1).again), .int .i64 (((gl r x15).1).shown), r25]) (fun _ q => f153.loadA rfl q) ?_
                have f154 := ((f39.ext eh138).mod mh143 np_b5_o)
                refine s_stBx (.agg #[.int .i64 (((gl r x15).1).phase), .int .i64 (((gl r x15).1).holds), .int .i64 (((gl r x15).1).again), .int .i64 (((gl r x15).1).shown), r25]) [.int .i64 (((gl r x15).1).phase), .int .i64 (((gl r x15).1).holds), .int .i64 (((gl r x15).1).again), .int .i64 (((gl r x15).1).shown), r25] [.int .i64 (((gl r x15).1).phase), .int .i64 (((gl r x15).1).holds), .int .i64 (((gl r x15).1).again), .int .i64 (((gl r x15).1).shown), r25] f154 rfl rfl rfl rfl (by simp) (all_cons rfl (all_cons rfl (all_cons rfl (all_cons rfl (all_cons s_r25.one1 all_nil))))) rfl (fun h155 mh155 sh155 bxx156 => ?_)
                have E157 := E144.mod mh155 (fun b hb => by simp at hb; omega)
                refine s_nil ?_
                refine p_blkN ?_
                refine p_seqN ?_
                refine v_ops ?_
                refine s_pure (.int .i64 ((k : Int) + 1)) (fun _ q => ArithVC.mk (by omega) q) ?_
                refine s_pure (.int .i64 ((k : Int) + 1)) (fun _ q => q) ?_
                refine s_nil ?_
                have f158 := (((((s_r25.ext eh33).mod mh36 (fun b hb hc => by simp at hc; have := lt_r25 b hb; omega)).ext eh138).mod mh143 (fun b hb hc => np30 b hc hb)).mod mh155 (fun b hb hc => np28 (by simp at hc; rw [← hc]; exact hb)))
                have f159 := (s_r142.mod mh155 (fun b hb hc => np147 (by simp at hc; rw [← hc]; exact hb)))
                exact p_lpN ⟨k + 1, ((gl r x15).1), r25, r142, ⟨rfl, rfl, rfl, rfl, rfl⟩, ⟨E157, bxx156, (sl_eq f158 (by simp)), (fr_r25.mono (by omega)), (sl_eq f159 (by rw [useful_snoc rz (by assumption), ← hr]; first | rw [if_pos (by simp [chg]; omega)] | (rw [if_neg (by simp [chg]; omega)]; simp))), (fr_r142.mono (by omega)), np28, (fun b hb hc => np149 b hc hb), np147, (by exact ⟨by omega, run_step (by assumption) hr⟩)⟩, by omega⟩
              ·
                have c136 := Classical.not_not.1 c136
                refine v_skip ?_
                refine p_seqN ?_
                refine v_ops ?_
                refine s_load (.agg #[.int .i64 (((gl r x15).1).phase), .int .i64 (((gl r x15).1).holds), .int .i64 (((gl r x15).1).again), .int .i64 (((gl r x15).1).shown), r25]) (fun _ q => bxx37.loadA rfl q) ?_
                refine s_stBx (.agg #[.int .i64 (((gl r x15).1).phase), .int .i64 (((gl r x15).1).holds), .int .i64 (((gl r x15).1).again), .int .i64 (((gl r x15).1).shown), r25]) [.int .i64 (((gl r x15).1).phase), .int .i64 (((gl r x15).1).holds), .int .i64 (((gl r x15).1).again), .int .i64 (((gl r x15).1).shown), r25] [.int .i64 (((gl r x15).1).phase), .int .i64 (((gl r x15).1).holds), .int .i64 (((gl r x15).1).again), .int .i64 (((gl r x15).1).shown), r25] f39 rfl rfl rfl rfl (by simp) (all_cons rfl (all_cons rfl (all_cons rfl (all_cons rfl (all_cons s_r25.one1 all_nil))))) rfl (fun h160 mh160 sh160 bxx161 => ?_)
                have E162 := E38.mod mh160 (fun b hb => by simp at hb; omega)
                refine s_nil ?_
                refine p_blkN ?_
                refine p_seqN ?_
                refine v_ops ?_
                refine s_pure (.int .i64 ((k : Int) + 1)) (fun _ q => ArithVC.mk (by omega) q) ?_
                refine s_pure (.int .i64 ((k : Int) + 1)) (fun _ q => q) ?_
                refine s_nil ?_
                have f163 := (((s_r25.ext eh33).mod mh36 (fun b hb hc => by simp at hc; have := lt_r25 b hb; omega)).mod mh160 (fun b hb hc => np28 (by simp at hc; rw [← hc]; exact hb)))
                have f164 := ((((((s_o.ext eh17).mod mh20 (fun b hb hc => by simp at hc; have := lt_o b hb; omega)).mod mh26 np_o_v).ext eh33).mod mh36 (fun b hb hc => by simp at hc; have := lt_o b hb; omega)).mod mh160 (fun b hb hc => np_b5_o (by simp at hc; rw [← hc]; exact hb)))
                exact p_lpN ⟨k + 1, ((gl r x15).1), r25, o, ⟨rfl, rfl, rfl, rfl, rfl⟩, ⟨E162, bxx161, (sl_eq f163 (by simp)), (fr_r25.mono (by omega)), (sl_eq f164 (by rw [useful_snoc rz (by assumption), ← hr]; first | rw [if_pos (by simp [chg]; omega)] | (rw [if_neg (by simp [chg]; omega)]; simp))), (fr_o.mono (by omega)), np28, np30, np_b5_o, (by exact ⟨by omega, run_step (by assumption) hr⟩)⟩, by omega⟩
    ·
      refine v_exit ?_
      refine p_seqX ?_
      refine p_lpX ?_
      refine p_blkX ?_
      refine p_seqN ?_
      refine v_seq ?_
      refine v_ops ?_
      refine s_pure o (fun _ q => q) ?_
      refine s_pure o (fun _ q => q) ?_
      refine s_pure (.bool true) (fun _ q => q) ?_
      refine s_nil ?_
      refine p_seqN ?_
      refine v_ret ?_
      refine p_ret [o, .bool true] (.tuple #[o, .bool true]) (fun _ q => q) rfl ?_
      have ho : ugOut l = (useful rz (l.take k), true) := by first | exact ug_no (by assumption) | (rw [ugOut, if_pos (by assumption), take_all (by assumption)])
      exact ⟨o, by first | (rw [ho]; done) | rfl, sl_eq s_o (congrArg (fun o => o.1) ho).symm, fr_o.mono (by omega), Eh⟩

set_option maxRecDepth 10000 in
set_option maxHeartbeats 4000000 in
theorem spec_UsefulGlances_ok (v_l : Value) (l : List GlanceD) (h : Heap) (s_l : Sl h v_l l) : Cn f_spec_UsefulGlances [v_l] h fun v h' => ∃ r0 : Value, v = .tuple #[r0, .bool ((ugOut l).2)] ∧ SlO h' r0 ((ugOut l).1) ∧ Fr h.size r0 ∧ Ext h h' := by
  have lt_l := s_l.lt
  have l63_l := s_l.len63
  refine calls_of r_spec_UsefulGlances ?_
  refine v_seq ?_
  refine v_ops ?_
  refine s_pure (.slice none 0 0) (fun _ q => q) ?_
  refine s_pure (.bool false) (fun _ q => q) ?_
  refine s_nil ?_
  refine p_seqN ?_
  refine v_seq ?_
  refine v_seq ?_
  refine v_ops ?_
  refine s_pure v_l (fun _ q => q) ?_
  refine s_call [v_l] rfl (rpGlances_ok v_l l _ s_l) ?_
  rintro _ h1 ⟨rfl, eh1⟩
  have E2 := (Ext.refl h).trans eh1
  have z3 := eh1.size
  refine s_pure (.bool (!(decide (GlOk l)))) (fun _ q => q) ?_
  refine s_nil ?_
  refine p_seqN ?_
  refine v_cond rfl (fun c4 => ?_) (fun c4 => ?_)
  ·
    refine v_seq ?_
    refine v_ops ?_
    refine s_pure (.slice none 0 0) (fun _ q => q) ?_
    refine s_pure (.bool false) (fun _ q => q) ?_
    refine s_nil ?_
    refine p_seqN ?_
    refine v_ret ?_
    refine p_seqR ?_
    refine p_ret [.slice none 0 0, .bool false] (.tuple #[.slice none 0 0, .bool false]) (fun _ q => q) rfl ?_
    have ho : ugOut l = ([], false) := by first | exact ug_no (by assumption) | (rw [ugOut, if_pos (by assumption), take_all (by assumption)])
    exact ⟨(.slice none 0 0), by first | (rw [ho]; done) | rfl, sl_eq (SlX.nil (α := Int) true _) (congrArg (fun o => o.1) ho).symm, Fr.nil _, E2⟩
  ·
    have c4 := Classical.not_not.1 c4
    refine v_skip ?_
    refine p_seqN ?_
    refine v_seq ?_
    refine v_ops ?_
    refine s_pure (.slice none 0 0) (fun _ q => q) ?_
    refine s_nil ?_
    refine p_seqN ?_
    refine v_seq ?_
    refine v_ops ?_
    refine s_call [] rfl (spec_rpNew_ok  _ ) ?_
    rintro _ h6 ⟨r5, rfl, s_r5, fr_r5, eh6⟩
    have E7 := E2.trans eh6
    have z8 := eh6.size
    have lt_r5 := s_r5.lt
    refine s_new (fun h10 b9 hbb9 hzb9 eh10 bxb9 => ?_)
    have E11 := E7.trans eh10
    have z12 := eh10.size
    have lbb9 := bxb9.lt
    refine s_stBx (.agg #[.int .i64 rz.phase, .int .i64 rz.holds, .int .i64 rz.again, .int .i64 rz.shown, r5]) [.int .i64 rz.phase, .int .i64 rz.holds, .int .i64 rz.again, .int .i64 rz.shown, r5] [.int .i64 rz.phase, .int .i64 rz.holds, .int .i64 rz.again, .int .i64 rz.shown, r5] bxb9 rfl rfl rfl rfl (by simp) (all_cons rfl (all_cons rfl (all_cons rfl (all_cons rfl (all_cons s_r5.one1 all_nil))))) rfl (fun h13 mh13 sh13 bxx14 => ?_)
    have E15 := E11.mod mh13 (fun b hb => by simp at hb; omega)
    refine s_nil ?_
    refine p_seqN ?_
    refine v_seq ?_
    refine v_seq ?_
    refine v_ops ?_
    refine s_pure v_l (fun _ q => q) ?_
    refine s_pure (.int .i64 (l.length : Int)) (fun _ q => s_l.lenVC q) ?_
    refine s_pure (.int .i64 0) (fun _ q => q) ?_
    refine s_nil ?_
    refine p_seqN ?_
    refine v_block ?_
    have f17 := ((s_r5.ext eh10).mod mh13 (fun b hb hc => by simp at hc; have := lt_r5 b hb; omega))
    refine v_loop4 (α := Nat) (β := RepP) (γ := Value) (δ := Value) (fun k r v o => [(4, o), (5, .pointer (some ⟨b9, 0, none⟩)), (13, v_l), (14, .int .i64 (l.length : Int)), (15, .int .i64 (k : Int))]) (fun k r v o hh => Ext h hh ∧ Bx hh b9 [.int .i64 r.phase, .int .i64 r.holds, .int .i64 r.again, .int .i64 r.shown, v] 25 ∧ SlO hh o (useful rz (l.take k)) ∧ Fr h.size o ∧ SlO hh v r.passed ∧ Fr h.size v ∧ b9 ∉ blks v ∧ (∀ b ∈ blks o, b ∉ blks v) ∧ b9 ∉ blks o ∧ k ≤ l.length ∧ r = run rz (l.take k)) (fun k r v o => l.length - k) 0 rz r5 (.slice none 0 0) ⟨rfl, rfl, rfl, rfl, rfl⟩ ⟨E15, bxx14, (sl_eq (SlX.nil (α := Int) true h13) (by simp [shown, useful])), (Fr.nil _), (sl_eq f17 (by simp [shown, useful])), (fr_r5.mono (by omega)), (fun hc => by have := lt_r5 _ hc; omega), (fun b hb hc => by simp [blks, fpts] at hb), (by simp [blks, fpts]), (by exact ⟨by omega, rfl⟩)⟩ ?_
    rintro k r v o R18 h16 ⟨Eh, bxb9, s_o, fr_o, s_v, fr_v, np_b9_v, np_o_v, np_b9_o, ⟨hk, hr⟩⟩
    have zEh := Eh.size
    have f20 := s_l.ext Eh
    have lbb9 := bxb9.lt
    have lt_v := s_v.lt
    have lt_o := s_o.lt
    have hi : RInv r := by rw [hr]; exact run_inv RInv.zero _
    have hl : r.passed.length ≤ l.length := by (have := run_len rz (l.take k)); rw [← hr] at this; simp at this; omega
    have ha := hi.a
    have gok := GlOk.len (by assumption : GlOk l)
    have hwl := useful_len rz (l.take k)
    simp only [List.length_take] at hwl
    refine v_seq ?_
    refine v_ops ?_
    refine s_pure (.bool (decide ((k : Int) < (l.length : Int)))) (fun _ q => q) ?_
    refine s_nil ?_
    refine p_seqN ?_
    refine v_seq ?_
    refine v_cond rfl (fun c21 => ?_) (fun c21 => ?_)
    ·
      refine v_skip ?_
      refine p_seqN ?_
      refine v_seq ?_
      refine v_block ?_
      refine v_seq ?_
      refine v_ops ?_
      refine s_pure (.int .i64 (k : Int)) (fun _ q => q) ?_
      have hk22 : k < l.length := (by first | omega | (simp; omega))
      obtain ⟨x23, hx23⟩ : ∃ x, l[k]? = some x := ⟨_, List.getElem?_eq_getElem hk22⟩
      refine s_pure (.pointer (some ⟨sblk v_l, soff v_l + k * 2, none⟩)) (fun _ q => f20.idx (k := k) rfl hk22 q) ?_
      refine s_load (.agg #[.bool x23.next, .int .i64 x23.signal]) (fun _ q => f20.loadN hx23 rfl q) ?_
      refine s_new (fun h25 b24 hbb24 hzb24 eh25 bxb24 => ?_)
      have E26 := Eh.trans eh25
      have z27 := eh25.size
      have lbb24 := bxb24.lt
      refine s_pure (.int .i64 (k : Int)) (fun _ q => q) ?_
      refine s_stBx (.agg #[.bool x23.next, .int .i64 x23.signal]) [.bool x23.next, .int .i64 x23.signal] [.bool x23.next, .int .i64 x23.signal] bxb24 rfl rfl rfl rfl (by simp) (all_cons rfl (all_cons rfl all_nil)) rfl (fun h28 mh28 sh28 bxx29 => ?_)
      have E30 := E26.mod mh28 (fun b hb => by simp at hb; omega)
      refine s_nil ?_
      refine p_seqN ?_
      refine v_seq ?_
      refine v_ops ?_
      have f31 := ((bxb9.ext eh25).mod mh28 (by simp; omega))
      refine s_load (.agg #[.int .i64 r.phase, .int .i64 r.holds, .int .i64 r.again, .int .i64 r.shown, v]) (fun _ q => f31.loadA rfl q) ?_
      refine s_load (.agg #[.bool x23.next, .int .i64 x23.signal]) (fun _ q => bxx29.loadA rfl q) ?_
      have f32 := ((s_v.ext eh25).mod mh28 (fun b hb hc => by simp at hc; have := lt_v b hb; omega))
      refine s_call [.agg #[.int .i64 r.phase, .int .i64 r.holds, .int .i64 r.again, .int .i64 r.shown, v], .agg #[.bool x23.next, .int .i64 x23.signal]] rfl (spec_rpStep_ok r v x23 _ f32.toSl (by first | omega | assumption | (simp; omega)) (by first | omega | assumption | (simp; omega))) ?_
      rintro _ h34 ⟨r33, rfl, s_r33, fr_r33, eh34⟩
      have E35 := E30.trans eh34
      have z36 := eh34.size
      have lt_r33 := s_r33.lt
      refine s_new (fun h38 b37 hbb37 hzb37 eh38 bxb37 => ?_)
      have E39 := E35.trans eh38
      have z40 := eh38.size
      have lbb37 := bxb37.lt
      refine s_stBx (.agg #[.int .i64 (((gl r x23).1).phase), .int .i64 (((gl r x23).1).holds), .int .i64 (((gl r x23).1).again), .int .i64 (((gl r x23).1).shown), r33]) [.int .i64 (((gl r x23).1).phase), .int .i64 (((gl r x23).1).holds), .int .i64 (((gl r x23).1).again), .int .i64 (((gl r x23).1).shown), r33] [.int .i64 (((gl r x23).1).phase), .int .i64 (((gl r x23).1).holds), .int .i64 (((gl r x23).1).again), .int .i64 (((gl r x23).1).shown), r33] bxb37 rfl rfl rfl rfl (by simp) (all_cons rfl (all_cons rfl (all_cons rfl (all_cons rfl (all_cons s_r33.one1 all_nil))))) rfl (fun h41 mh41 sh41 bxx42 => ?_)
      have E43 := E39.mod mh41 (fun b hb => by simp at hb; omega)
      refine s_nil ?_
      refine p_seqN ?_
      refine v_seq ?_
      refine v_seq ?_
      refine v_ops ?_
      have f44 := (((f31.ext eh34).ext eh38).mod mh41 (by simp; omega))
      refine s_load (.agg #[.int .i64 r.phase, .int .i64 r.holds, .int .i64 r.again, .int .i64 r.shown, v]) (fun _ q => f44.loadA rfl q) ?_
      refine s_load (.agg #[.int .i64 (((gl r x23).1).phase), .int .i64 (((gl r x23).1).holds), .int .i64 (((gl r x23).1).again), .int .i64 (((gl r x23).1).shown), r33]) (fun _ q => bxx42.loadA rfl q) ?_
      have f45 := (((f32.ext eh34).ext eh38).mod mh41 (fun b hb hc => by simp at hc; have := lt_v b hb; omega))
      have f46 := ((s_r33.ext eh38).mod mh41 (fun b hb hc => by simp at hc; have := lt_r33 b hb; omega))
      refine s_call [.agg #[.int .i64 r.phase, .int .i64 r.holds, .int .i64 r.again, .int .i64 r.shown, v], .agg #[.int .i64 (((gl r x23).1).phase), .int .i64 (((gl r x23).1).holds), .int .i64 (((gl r x23).1).again), .int .i64 (((gl r x23).1).shown), r33]] rfl (spec_rpSame_ok r v ((gl r x23).1) r33 _ f45.toSl f46.toSl) ?_
      rintro _ h47 ⟨rfl, eh47⟩
      have E48 := E43.trans eh47
      have z49 := eh47.size
      refine s_pure (.bool (!decide (r.same ((gl r x23).1)))) (fun _ q => q) ?_
      refine s_nil ?_
      refine p_seqN ?_
      refine v_cond rfl (fun c50 => ?_) (fun c50 => ?_)
      ·
        refine v_ops ?_
        refine s_pure o (fun _ q => q) ?_
        refine s_pure (.int .i64 (k : Int)) (fun _ q => q) ?_
        refine s_row (α := Int) [(k : Int)] (fun _ q => seg_i rfl (seg_nil q)) rfl (by simp [maxLen]) (fun r51 h52 eh52 zh52 s_r51 fr_r51 => ?_)
        have E53 := E48.trans eh52
        have z54 := eh52.size
        have lt_r51 := s_r51.lt
        have f55 := (((((((s_o.ext eh25).mod mh28 (fun b hb hc => by simp at hc; have := lt_o b hb; omega)).ext eh34).ext eh38).mod mh41 (fun b hb hc => by simp at hc; have := lt_o b hb; omega)).ext eh47).ext eh52)
        refine s_app f55 s_r51 rfl rfl rfl (by simp [maxLen]; omega) (by simp; omega) (fun r56 h57 mh57 zh57 s_r56 ab_r56 => ?_)
        have E58 := E53.mod mh57 (fun b hb => by have := fr_o b hb; omega)
        have fr_r56 := fr_o.app ab_r56 (by omega)
        have np59 : ∀ b ∈ blks v, b ∉ blks r56 := fun b hb hc => (ab_r56 _ hc).elim (((fun b hb hc => np_o_v b hc hb) : ∀ b ∈ blks v, b ∉ blks o) b hb) (fun hc => by have := lt_v b hb; omega)
        have np60 : ∀ b ∈ blks v, b ∉ blks r56 := fun b hb hc => (ab_r56 _ hc).elim (((fun b hb hc => np_o_v b hc hb) : ∀ b ∈ blks v, b ∉ blks o) b hb) (fun hc => by have := lt_v b hb; omega)
        have np61 : b9 ∉ blks r56 := fun hc => (ab_r56 _ hc).elim np_b9_o (fun hc => by omega)
        have np62 : b24 ∉ blks r56 := fun hc => (ab_r56 _ hc).elim (fun hc => by have := lt_o _ hc; omega) (fun hc => by omega)
        have np63 : ∀ b ∈ blks r33, b ∉ blks r56 := fun b hb hc => (ab_r56 _ hc).elim (((fun b hb hc => by have := fr_r33 b hb; have := lt_o b hc; omega) : ∀ b ∈ blks r33, b ∉ blks o) b hb) (fun hc => by have := lt_r33 b hb; omega)
        have np64 : b37 ∉ blks r56 := fun hc => (ab_r56 _ hc).elim (fun hc => by have := lt_o _ hc; omega) (fun hc => by omega)
        have np65 : ∀ b ∈ blks r51, b ∉ blks r56 := fun b hb hc => (ab_r56 _ hc).elim (((fun b hb hc => by have := fr_r51 b hb; have := lt_o b hc; omega) : ∀ b ∈ blks r51, b ∉ blks o) b hb) (fun hc => by have := lt_r51 b hb; omega)
        have lt_r56 := s_r56.lt
        refine s_pure r56 (fun _ q => q) ?_
        refine s_nil ?_
        refine p_seqN ?_
        refine v_ops ?_
        have f66 := (((bxx42.ext eh47).ext eh52).mod mh57 (fun hc => by have := lt_o _ hc; omega))
        refine s_load (.agg #[.int .i64 (((gl r x23).1).phase), .int .i64 (((gl r x23).1).holds), .int .i64 (((gl r x23).1).again), .int .i64 (((gl r x23).1).shown), r33]) (fun _ q => f66.loadA rfl q) ?_
        have f67 := (((f44.ext eh47).ext eh52).mod mh57 np_b9_o)
        refine s_stBx (.agg #[.int .i64 (((gl r x23).1).phase), .int .i64 (((gl r x23).1).holds), .int .i64 (((gl r x23).1).again), .int .i64 (((gl r x23).1).shown), r33]) [.int .i64 (((gl r x23).1).phase), .int .i64 (((gl r x23).1).holds), .int .i64 (((gl r x23).1).again), .int .i64 (((gl r x23).1).shown), r33] [.int .i64 (((gl r x23).1).phase), .int .i64 (((gl r x23).1).holds), .int .i64 (((gl r x23).1).again), .int .i64 (((gl r x23).1).shown), r33] f67 rfl rfl rfl rfl (by simp) (all_cons rfl (all_cons rfl (all_cons rfl (all_cons rfl (all_cons f46.one1 all_nil))))) rfl (fun h68 mh68 sh68 bxx69 => ?_)
        have E70 := E58.mod mh68 (fun b hb => by simp at hb; omega)
        refine s_nil ?_
        refine p_blkN ?_
        refine p_seqN ?_
        refine v_ops ?_
        refine s_pure (.int .i64 ((k : Int) + 1)) (fun _ q => ArithVC.mk (by omega) q) ?_
        refine s_pure (.int .i64 ((k : Int) + 1)) (fun _ q => q) ?_
        refine s_nil ?_
        have f71 := (s_r56.mod mh68 (fun b hb hc => np61 (by simp at hc; rw [← hc]; exact hb)))
        have f72 := ((((f46.ext eh47).ext eh52).mod mh57 (fun b hb hc => by have := fr_r33 b hb; have := lt_o b hc; omega)).mod mh68 (fun b hb hc => by simp at hc; have := fr_r33 b hb; omega))
        exact p_lpN ⟨k + 1, ((gl r x23).1), r33, r56, ⟨rfl, rfl, rfl, rfl, rfl⟩, ⟨E70, bxx69, (sl_eq f71 (by rw [useful_snoc rz (by assumption), ← hr]; first | rw [if_pos (gl_same.2 (by assumption))] | (rw [if_neg (fun hc => gl_same.1 hc (by assumption))]; simp))), (fr_r56.mono (by omega)), (sl_eq f72 (by simp)), (fr_r33.mono (by omega)), (fun hc => by have := fr_r33 _ hc; omega), (fun b hb hc => np63 b hc hb), np61, (by exact ⟨by omega, run_step (by assumption) hr⟩)⟩, by omega⟩
      ·
        have c50 := Classical.not_not.1 c50
        refine v_skip ?_
        refine p_seqN ?_
        refine v_ops ?_
        have f73 := (bxx42.ext eh47)
        refine s_load (.agg #[.int .i64 (((gl r x23).1).phase), .int .i64 (((gl r x23).1).holds), .int .i64 (((gl r x23).1).again), .int .i64 (((gl r x23).1).shown), r33]) (fun _ q => f73.loadA rfl q) ?_
        have f74 := (f44.ext eh47)
        refine s_stBx (.agg #[.int .i64 (((gl r x23).1).phase), .int .i64 (((gl r x23).1).holds), .int .i64 (((gl r x23).1).again), .int .i64 (((gl r x23).1).shown), r33]) [.int .i64 (((gl r x23).1).phase), .int .i64 (((gl r x23).1).holds), .int .i64 (((gl r x23).1).again), .int .i64 (((gl r x23).1).shown), r33] [.int .i64 (((gl r x23).1).phase), .int .i64 (((gl r x23).1).holds), .int .i64 (((gl r x23).1).again), .int .i64 (((gl r x23).1).shown), r33] f74 rfl rfl rfl rfl (by simp) (all_cons rfl (all_cons rfl (all_cons rfl (all_cons rfl (all_cons f46.one1 all_nil))))) rfl (fun h75 mh75 sh75 bxx76 => ?_)
        have E77 := E48.mod mh75 (fun b hb => by simp at hb; omega)
        refine s_nil ?_
        refine p_blkN ?_
        refine p_seqN ?_
        refine v_ops ?_
        refine s_pure (.int .i64 ((k : Int) + 1)) (fun _ q => ArithVC.mk (by omega) q) ?_
        refine s_pure (.int .i64 ((k : Int) + 1)) (fun _ q => q) ?_
        refine s_nil ?_
        have f78 := (((((((s_o.ext eh25).mod mh28 (fun b hb hc => by simp at hc; have := lt_o b hb; omega)).ext eh34).ext eh38).mod mh41 (fun b hb hc => by simp at hc; have := lt_o b hb; omega)).ext eh47).mod mh75 (fun b hb hc => np_b9_o (by simp at hc; rw [← hc]; exact hb)))
        have f79 := ((f46.ext eh47).mod mh75 (fun b hb hc => by simp at hc; have := fr_r33 b hb; omega))
        exact p_lpN ⟨k + 1, ((gl r x23).1), r33, o, ⟨rfl, rfl, rfl, rfl, rfl⟩, ⟨E77, bxx76, (sl_eq f78 (by rw [useful_snoc rz (by assumption), ← hr]; first | rw [if_pos (gl_same.2 (by assumption))] | (rw [if_neg (fun hc => gl_same.1 hc (by assumption))]; simp))), (fr_o.mono (by omega)), (sl_eq f79 (by simp)), (fr_r33.mono (by omega)), (fun hc => by have := fr_r33 _ hc; omega), (fun b hb hc => by have := lt_o b hb; have := fr_r33 b hc; omega), np_b9_o, (by exact ⟨by omega, run_step (by assumption) hr⟩)⟩, by omega⟩
    ·
      refine v_exit ?_
      refine p_seqX ?_
      refine p_lpX ?_
      refine p_blkX ?_
      refine p_seqN ?_
      refine v_seq ?_
      refine v_ops ?_
      refine s_pure o (fun _ q => q) ?_
      refine s_pure o (fun _ q => q) ?_
      refine s_pure (.bool true) (fun _ q => q) ?_
      refine s_nil ?_
      refine p_seqN ?_
      refine v_ret ?_
      refine p_ret [o, .bool true] (.tuple #[o, .bool true]) (fun _ q => q) rfl ?_
      have ho : ugOut l = (useful rz (l.take k), true) := by first | exact ug_no (by assumption) | (rw [ugOut, if_pos (by assumption), take_all (by assumption)])
      exact ⟨o, by first | (rw [ho]; done) | rfl, sl_eq s_o (congrArg (fun o => o.1) ho).symm, fr_o.mono (by omega), Eh⟩

end Go.Proofs.Ytpbjcaadnbeplaa

