/- What repeaters show along glances, and which glances change them. Condition: none. Printed in part by a program. -/
import Derived.Test.YtgfokmjnfaopaaaRp4
namespace Go.Proofs.Ytgfokmjnfaopaaa
open Go.Vc
set_option linter.all false
set_option maxRecDepth 10000 in
theorem impl_ShownAfter_ok (v_l : Value) (l : List GlanceD) (h : Heap) (s_l : Sl h v_l l) : Cn f_impl_ShownAfter [v_l] h fun v h' => ∃ r0 : Value, v = .tuple #[r0, .bool ((saOut l).2)] ∧ SlO h' r0 ((saOut l).1) ∧ Fr h.size r0 ∧ Ext h h' := by
  have lt_l := s_l.lt
  have l63_l := s_l.len63
  refine calls_of r_impl_ShownAfter ?_
  refine v_seq ?_
  refine v_ops ?_
  refine s_pure (.slice none 0 0) (fun _ q => q) ?_
  refine s_pure (.bool false) (fun _ q => q) ?_
  refine s_nil ?_
  refine p_seqN ?_
  refine v_seq ?_
  refine v_seq ?_
  refine v_ops ?_
  refine s_pure v_l (fun _ q => q) ?_
  refine s_call [v_l] rfl (areGlances_ok v_l l _ s_l) ?_
  rintro _ h1 ⟨rfl, eh1⟩
  have E2 := (Ext.refl h).trans eh1
  have z3 := eh1.size
  refine s_pure (.bool (!(decide (GlOk l)))) (fun _ q => q) ?_
  refine s_nil ?_
  refine p_seqN ?_
  refine v_cond rfl (fun c4 => ?_) (fun c4 => ?_)
  ·
    refine v_seq ?_
    refine v_ops ?_
    refine s_pure (.slice none 0 0) (fun _ q => q) ?_
    refine s_pure (.bool false) (fun _ q => q) ?_
    refine s_nil ?_
    refine p_seqN ?_
    refine v_ret ?_
    refine p_seqR ?_
    refine p_ret [.slice none 0 0, .bool false] (.tuple #[.slice none 0 0, .bool false]) (fun _ q => q) rfl ?_
    have ho : saOut l = ([], false) := by first | exact sa_no (by assumption) | (rw [saOut, if_pos (by assumption), take_all (by assumption)])
    exact ⟨(.slice none 0 0), by first | (rw [ho]; done) | rfl, sl_eq (SlX.nil (α := Int) true _) (congrArg (fun o => o.1) ho).symm, Fr.nil _, E2⟩
  ·
    have c4 := Classical.not_not.1 c4
    refine v_skip ?_
    refine p_seqN ?_
    refine v_seq ?_
    refine v_ops ?_
    refine s_new (fun h6 b5 hbb5 hzb5 eh6 bxb5 => ?_)
    have E7 := E2.trans eh6
    have z8 := eh6.size
    have lbb5 := bxb5.lt
    refine s_nil ?_
    refine p_seqN ?_
    refine v_seq ?_
    refine v_ops ?_
    refine s_pure (.slice none 0 0) (fun _ q => q) ?_
    refine s_nil ?_
    refine p_seqN ?_
    refine v_seq ?_
    refine v_seq ?_
    refine v_ops ?_
    refine s_pure v_l (fun _ q => q) ?_
    refine s_pure (.int .i64 (l.length : Int)) (fun _ q => s_l.lenVC q) ?_
    refine s_pure (.int .i64 0) (fun _ q => q) ?_
    refine s_nil ?_
    refine p_seqN ?_
    refine v_block ?_
    refine v_loop4 (α := Nat) (β := RepP) (γ := Value) (δ := Value) (fun k r v o => [(4, .pointer (some ⟨b5, 0, none⟩)), (5, o), (11, v_l), (12, .int .i64 (l.length : Int)), (13, .int .i64 (k : Int))]) (fun k r v o hh => Ext h hh ∧ Bx hh b5 [.int .i64 r.phase, .int .i64 r.holds, .int .i64 r.again, .int .i64 r.shown, v] 27 ∧ SlO hh v r.passed ∧ Fr h.size v ∧ SlO hh o (shown rz (l.take k)) ∧ Fr h.size o ∧ b5 ∉ blks v ∧ (∀ b ∈ blks o, b ∉ blks v) ∧ b5 ∉ blks o ∧ k ≤ l.length ∧ r = run rz (l.take k)) (fun k r v o => l.length - k) 0 rz (.slice none 0 0) (.slice none 0 0) ⟨rfl, rfl, rfl, rfl, rfl⟩ ⟨E7, bxb5, (sl_eq (SlX.nil (α := Int) true h6) (by simp [shown, useful])), (Fr.nil _), (sl_eq (SlX.nil (α := Int) true h6) (by simp [shown, useful])), (Fr.nil _), (by simp [blks]), (fun b hb hc => by simp [blks] at hc), (by simp [blks]), (by exact ⟨by omega, rfl⟩)⟩ ?_
    rintro k r v o R10 h9 ⟨Eh, bxb5, s_v, fr_v, s_o, fr_o, np_b5_v, np_o_v, np_b5_o, ⟨hk, hr⟩⟩
    have zEh := Eh.size
    have f11 := s_l.ext Eh
    have lbb5 := bxb5.lt
    have lt_v := s_v.lt
    have lt_o := s_o.lt
    have hi : RInv r := by rw [hr]; exact run_inv RInv.zero _
    have hl : r.passed.length ≤ l.length := by (have := run_len rz (l.take k)); rw [← hr] at this; simp at this; omega
    have ha := hi.a
    have gok := GlOk.len (by assumption : GlOk l)
    have hwl := shown_len rz (l.take k)
    simp only [List.length_take] at hwl
    refine v_seq ?_
    refine v_ops ?_
    refine s_pure (.bool (decide ((k : Int) < (l.length : Int)))) (fun _ q => q) ?_
    refine s_nil ?_
    refine p_seqN ?_
    refine v_seq ?_
    refine v_cond rfl (fun c12 => ?_) (fun c12 => ?_)
    ·
      refine v_skip ?_
      refine p_seqN ?_
      refine v_seq ?_
      refine v_block ?_
      refine v_seq ?_
      refine v_ops ?_
      have hk13 : k < l.length := (by first | omega | (simp; omega))
      obtain ⟨x14, hx14⟩ : ∃ x, l[k]? = some x := ⟨_, List.getElem?_eq_getElem hk13⟩
      refine s_pure (.pointer (some ⟨sblk v_l, soff v_l + k * 2, none⟩)) (fun _ q => f11.idx (k := k) rfl hk13 q) ?_
      refine s_load (.agg #[.bool x14.next, .int .i64 x14.signal]) (fun _ q => f11.loadN hx14 rfl q) ?_
      refine s_new (fun h16 b15 hbb15 hzb15 eh16 bxb15 => ?_)
      have E17 := Eh.trans eh16
      have z18 := eh16.size
      have lbb15 := bxb15.lt
      refine s_stBx (.agg #[.bool x14.next, .int .i64 x14.signal]) [.bool x14.next, .int .i64 x14.signal] [.bool x14.next, .int .i64 x14.signal] bxb15 rfl rfl rfl rfl (by simp) (all_cons rfl (all_cons rfl all_nil)) rfl (fun h19 mh19 sh19 bxx20 => ?_)
      have E21 := E17.mod mh19 (fun b hb => by simp at hb; omega)
      refine s_nil ?_
      refine p_seqN ?_
      refine v_seq ?_
      refine v_ops ?_
      have f22 := ((bxb5.ext eh16).mod mh19 (by simp; omega))
      refine s_load (.agg #[.int .i64 r.phase, .int .i64 r.holds, .int .i64 r.again, .int .i64 r.shown, v]) (fun _ q => f22.loadA rfl q) ?_
      refine s_load (.agg #[.bool x14.next, .int .i64 x14.signal]) (fun _ q => bxx20.loadA rfl q) ?_
      have f23 := ((s_v.ext eh16).mod mh19 (fun b hb hc => by simp at hc; have := lt_v b hb; omega))
      refine s_call [.agg #[.int .i64 r.phase, .int .i64 r.holds, .int .i64 r.again, .int .i64 r.shown, v], .agg #[.bool x14.next, .int .i64 x14.signal]] rfl (impl_glance_ok r v x14 _ f23 (by first | omega | assumption | (simp; omega)) (by first | omega | assumption | (simp; omega))) ?_
      rintro _ h25 ⟨r24, rfl, s_r24, mh25, ab_r24⟩
      have zh25 := mh25.size
      have E26 := E21.mod mh25 (fun b hb => by have := fr_v b hb; omega)
      have fr_r24 := fr_v.app ab_r24 (by omega)
      have np27 : b5 ∉ blks r24 := fun hc => (ab_r24 _ hc).elim np_b5_v (fun hc => by omega)
      have np28 : ∀ b ∈ blks o, b ∉ blks r24 := fun b hb hc => (ab_r24 _ hc).elim (np_o_v b hb) (fun hc => by have := lt_o b hb; omega)
      have np29 : ∀ b ∈ blks o, b ∉ blks r24 := fun b hb hc => (ab_r24 _ hc).elim (np_o_v b hb) (fun hc => by have := lt_o b hb; omega)
      have np30 : b15 ∉ blks r24 := fun hc => (ab_r24 _ hc).elim (fun hc => by have := lt_v _ hc; omega) (fun hc => by omega)
      have lt_r24 := s_r24.lt
      refine s_pure (.tuple #[.agg #[.int .i64 (((gl r x14).1).phase), .int .i64 (((gl r x14).1).holds), .int .i64 (((gl r x14).1).again), .int .i64 (((gl r x14).1).shown), r24], .bool ((gl r x14).2)]) (fun _ q => q) ?_
      refine s_pure (.agg #[.int .i64 (((gl r x14).1).phase), .int .i64 (((gl r x14).1).holds), .int .i64 (((gl r x14).1).again), .int .i64 (((gl r x14).1).shown), r24]) (fun _ q => q) ?_
      refine s_pure (.bool ((gl r x14).2)) (fun _ q => q) ?_
      have f31 := (f22.mod mh25 np_b5_v)
      refine s_stBx (.agg #[.int .i64 (((gl r x14).1).phase), .int .i64 (((gl r x14).1).holds), .int .i64 (((gl r x14).1).again), .int .i64 (((gl r x14).1).shown), r24]) [.int .i64 (((gl r x14).1).phase), .int .i64 (((gl r x14).1).holds), .int .i64 (((gl r x14).1).again), .int .i64 (((gl r x14).1).shown), r24] [.int .i64 (((gl r x14).1).phase), .int .i64 (((gl r x14).1).holds), .int .i64 (((gl r x14).1).again), .int .i64 (((gl r x14).1).shown), r24] f31 rfl rfl rfl rfl (by simp) (all_cons rfl (all_cons rfl (all_cons rfl (all_cons rfl (all_cons s_r24.one1 all_nil))))) rfl (fun h32 mh32 sh32 bxx33 => ?_)
      have E34 := E26.mod mh32 (fun b hb => by simp at hb; omega)
      refine s_nil ?_
      refine p_seqN ?_
      refine v_ops ?_
      refine s_pure o (fun _ q => q) ?_
      refine s_pure (.pointer (some ⟨b5, 3, none⟩)) (fun _ q => q) ?_
      refine s_load (.int .i64 (((gl r x14).1).shown)) (fun _ q => bxx33.load rfl q) ?_
      refine s_row (α := Int) [((gl r x14).1).shown] (fun _ q => seg_i rfl (seg_nil q)) rfl (by simp [maxLen]) (fun r35 h36 eh36 zh36 s_r35 fr_r35 => ?_)
      have E37 := E34.trans eh36
      have z38 := eh36.size
      have lt_r35 := s_r35.lt
      have f39 := (((((s_o.ext eh16).mod mh19 (fun b hb hc => by simp at hc; have := lt_o b hb; omega)).mod mh25 np_o_v).mod mh32 (fun b hb hc => np_b5_o (by simp at hc; rw [← hc]; exact hb))).ext eh36)
      refine s_app f39 s_r35 rfl rfl rfl (by simp [maxLen]; omega) (by simp; omega) (fun r40 h41 mh41 zh41 s_r40 ab_r40 => ?_)
      have E42 := E37.mod mh41 (fun b hb => by have := fr_o b hb; omega)
      have fr_r40 := fr_o.app ab_r40 (by omega)
      have np43 : ∀ b ∈ blks v, b ∉ blks r40 := fun b hb hc => (ab_r40 _ hc).elim ((fun b hb hc => np_o_v b hc hb) b hb) (fun hc => by have := lt_v b hb; omega)
      have np44 : ∀ b ∈ blks v, b ∉ blks r40 := fun b hb hc => (ab_r40 _ hc).elim ((fun b hb hc => np_o_v b hc hb) b hb) (fun hc => by have := lt_v b hb; omega)
      have np45 : b5 ∉ blks r40 := fun hc => (ab_r40 _ hc).elim np_b5_o (fun hc => by omega)
      have np46 : ∀ b ∈ blks r24, b ∉ blks r40 := fun b hb hc => (ab_r40 _ hc).elim ((fun b hb hc => np29 b hc hb) b hb) (fun hc => by have := lt_r24 b hb; omega)
      have np47 : ∀ b ∈ blks r24, b ∉ blks r40 := fun b hb hc => (ab_r40 _ hc).elim ((fun b hb hc => np29 b hc hb) b hb) (fun hc => by have := lt_r24 b hb; omega)
      have np48 : b15 ∉ blks r40 := fun hc => (ab_r40 _ hc).elim (fun hc => by have := lt_o _ hc; omega) (fun hc => by omega)
      have np49 : ∀ b ∈ blks r35, b ∉ blks r40 := fun b hb hc => (ab_r40 _ hc).elim ((fr_r35.apart' (fun b hb => by have := lt_o b hb; omega)) b hb) (fun hc => by have := lt_r35 b hb; omega)
      have lt_r40 := s_r40.lt
      refine s_pure r40 (fun _ q => q) ?_
      refine s_nil ?_
      refine p_blkN ?_
      refine p_seqN ?_
      refine v_ops ?_
      refine s_pure (.int .i64 ((k : Int) + 1)) (fun _ q => ArithVC.mk (by omega) q) ?_
      refine s_pure (.int .i64 ((k : Int) + 1)) (fun _ q => q) ?_
      refine s_nil ?_
      have f50 := ((bxx33.ext eh36).mod mh41 np_b5_o)
      have f51 := (((s_r24.mod mh32 (fun b hb hc => np27 (by simp at hc; rw [← hc]; exact hb))).ext eh36).mod mh41 (fun b hb hc => np29 b hc hb))
      exact p_lpN ⟨k + 1, ((gl r x14).1), r24, r40, ⟨rfl, rfl, rfl, rfl, rfl⟩, ⟨E42, f50, (sl_eq f51 (by simp)), (fr_r24.mono (by omega)), (sl_eq s_r40 (by rw [shown_snoc rz (by assumption), ← hr])), (fr_r40.mono (by omega)), np27, (fun b hb hc => np47 b hc hb), np45, (by exact ⟨by omega, run_step (by assumption) hr⟩)⟩, by omega⟩
    ·
      refine v_exit ?_
      refine p_seqX ?_
      refine p_lpX ?_
      refine p_blkX ?_
      refine p_seqN ?_
      refine v_seq ?_
      refine v_ops ?_
      refine s_pure o (fun _ q => q) ?_
      refine s_pure o (fun _ q => q) ?_
      refine s_pure (.bool true) (fun _ q => q) ?_
      refine s_nil ?_
      refine p_seqN ?_
      refine v_ret ?_
      refine p_ret [o, .bool true] (.tuple #[o, .bool true]) (fun _ q => q) rfl ?_
      have ho : saOut l = (shown rz (l.take k), true) := by first | exact sa_no (by assumption) | (rw [saOut, if_pos (by assumption), take_all (by assumption)])
      exact ⟨o, by first | (rw [ho]; done) | rfl, sl_eq s_o (congrArg (fun o => o.1) ho).symm, fr_o.mono (by omega), Eh⟩

set_option maxRecDepth 10000 in
theorem spec_ShownAfter_ok (v_l : Value) (l : List GlanceD) (h : Heap) (s_l : Sl h v_l l) : Cn f_spec_ShownAfter [v_l] h fun v h' => ∃ r0 : Value, v = .tuple #[r0, .bool ((saOut l).2)] ∧ SlO h' r0 ((saOut l).1) ∧ Fr h.size r0 ∧ Ext h h' := by
  have lt_l := s_l.lt
  have l63_l := s_l.len63
  refine calls_of r_spec_ShownAfter ?_
  refine v_seq ?_
  refine v_ops ?_
  refine s_pure (.slice none 0 0) (fun _ q => q) ?_
  refine s_pure (.bool false) (fun _ q => q) ?_
  refine s_nil ?_
  refine p_seqN ?_
  refine v_seq ?_
  refine v_seq ?_
  refine v_ops ?_
  refine s_pure v_l (fun _ q => q) ?_
  refine s_call [v_l] rfl (rpGlances_ok v_l l _ s_l) ?_
  rintro _ h1 ⟨rfl, eh1⟩
  have E2 := (Ext.refl h).trans eh1
  have z3 := eh1.size
  refine s_pure (.bool (!(decide (GlOk l)))) (fun _ q => q) ?_
  refine s_nil ?_
  refine p_seqN ?_
  refine v_cond rfl (fun c4 => ?_) (fun c4 => ?_)
  ·
    refine v_seq ?_
    refine v_ops ?_
    refine s_pure (.slice none 0 0) (fun _ q => q) ?_
    refine s_pure (.bool false) (fun _ q => q) ?_
    refine s_nil ?_
    refine p_seqN ?_
    refine v_ret ?_
    refine p_seqR ?_
    refine p_ret [.slice none 0 0, .bool false] (.tuple #[.slice none 0 0, .bool false]) (fun _ q => q) rfl ?_
    have ho : saOut l = ([], false) := by first | exact sa_no (by assumption) | (rw [saOut, if_pos (by assumption), take_all (by assumption)])
    exact ⟨(.slice none 0 0), by first | (rw [ho]; done) | rfl, sl_eq (SlX.nil (α := Int) true _) (congrArg (fun o => o.1) ho).symm, Fr.nil _, E2⟩
  ·
    have c4 := Classical.not_not.1 c4
    refine v_skip ?_
    refine p_seqN ?_
    refine v_seq ?_
    refine v_ops ?_
    refine s_pure (.slice none 0 0) (fun _ q => q) ?_
    refine s_nil ?_
    refine p_seqN ?_
    refine v_seq ?_
    refine v_ops ?_
    refine s_call [] rfl (spec_rpNew_ok  _ ) ?_
    rintro _ h6 ⟨r5, rfl, s_r5, fr_r5, eh6⟩
    have E7 := E2.trans eh6
    have z8 := eh6.size
    have lt_r5 := s_r5.lt
    refine s_new (fun h10 b9 hbb9 hzb9 eh10 bxb9 => ?_)
    have E11 := E7.trans eh10
    have z12 := eh10.size
    have lbb9 := bxb9.lt
    refine s_stBx (.agg #[.int .i64 rz.phase, .int .i64 rz.holds, .int .i64 rz.again, .int .i64 rz.shown, r5]) [.int .i64 rz.phase, .int .i64 rz.holds, .int .i64 rz.again, .int .i64 rz.shown, r5] [.int .i64 rz.phase, .int .i64 rz.holds, .int .i64 rz.again, .int .i64 rz.shown, r5] bxb9 rfl rfl rfl rfl (by simp) (all_cons rfl (all_cons rfl (all_cons rfl (all_cons rfl (all_cons s_r5.one1 all_nil))))) rfl (fun h13 mh13 sh13 bxx14 => ?_)
    have E15 := E11.mod mh13 (fun b hb => by simp at hb; omega)
    refine s_nil ?_
    refine p_seqN ?_
    refine v_seq ?_
    refine v_seq ?_
    refine v_ops ?_
    refine s_pure v_l (fun _ q => q) ?_
    refine s_pure (.int .i64 (l.length : Int)) (fun _ q => s_l.lenVC q) ?_
    refine s_pure (.int .i64 0) (fun _ q => q) ?_
    refine s_nil ?_
    refine p_seqN ?_
    refine v_block ?_
    have f17 := ((s_r5.ext eh10).mod mh13 (fun b hb hc => by simp at hc; have := lt_r5 b hb; omega))
    refine v_loop4 (α := Nat) (β := RepP) (γ := Value) (δ := Value) (fun k r v o => [(4, o), (5, .pointer (some ⟨b9, 0, none⟩)), (12, v_l), (13, .int .i64 (l.length : Int)), (14, .int .i64 (k : Int))]) (fun k r v o hh => Ext h hh ∧ Bx hh b9 [.int .i64 r.phase, .int .i64 r.holds, .int .i64 r.again, .int .i64 r.shown, v] 27 ∧ SlO hh o (shown rz (l.take k)) ∧ Fr h.size o ∧ SlO hh v r.passed ∧ Fr h.size v ∧ b9 ∉ blks v ∧ (∀ b ∈ blks o, b ∉ blks v) ∧ b9 ∉ blks o ∧ k ≤ l.length ∧ r = run rz (l.take k)) (fun k r v o => l.length - k) 0 rz r5 (.slice none 0 0) ⟨rfl, rfl, rfl, rfl, rfl⟩ ⟨E15, bxx14, (sl_eq (SlX.nil (α := Int) true h13) (by simp [shown, useful])), (Fr.nil _), (sl_eq f17 (by simp [shown, useful])), (fr_r5.mono (by omega)), (fun hc => by have := lt_r5 _ hc; omega), (fun b hb hc => by simp [blks] at hb), (by simp [blks]), (by exact ⟨by omega, rfl⟩)⟩ ?_
    rintro k r v o R18 h16 ⟨Eh, bxb9, s_o, fr_o, s_v, fr_v, np_b9_v, np_o_v, np_b9_o, ⟨hk, hr⟩⟩
    have zEh := Eh.size
    have f19 := s_l.ext Eh
    have lbb9 := bxb9.lt
    have lt_v := s_v.lt
    have lt_o := s_o.lt
    have hi : RInv r := by rw [hr]; exact run_inv RInv.zero _
    have hl : r.passed.length ≤ l.length := by (have := run_len rz (l.take k)); rw [← hr] at this; simp at this; omega
    have ha := hi.a
    have gok := GlOk.len (by assumption : GlOk l)
    have hwl := shown_len rz (l.take k)
    simp only [List.length_take] at hwl
    refine v_seq ?_
    refine v_ops ?_
    refine s_pure (.bool (decide ((k : Int) < (l.length : Int)))) (fun _ q => q) ?_
    refine s_nil ?_
    refine p_seqN ?_
    refine v_seq ?_
    refine v_cond rfl (fun c20 => ?_) (fun c20 => ?_)
    ·
      refine v_skip ?_
      refine p_seqN ?_
      refine v_seq ?_
      refine v_block ?_
      refine v_seq ?_
      refine v_ops ?_
      have hk21 : k < l.length := (by first | omega | (simp; omega))
      obtain ⟨x22, hx22⟩ : ∃ x, l[k]? = some x := ⟨_, List.getElem?_eq_getElem hk21⟩
      refine s_pure (.pointer (some ⟨sblk v_l, soff v_l + k * 2, none⟩)) (fun _ q => f19.idx (k := k) rfl hk21 q) ?_
      refine s_load (.agg #[.bool x22.next, .int .i64 x22.signal]) (fun _ q => f19.loadN hx22 rfl q) ?_
      refine s_new (fun h24 b23 hbb23 hzb23 eh24 bxb23 => ?_)
      have E25 := Eh.trans eh24
      have z26 := eh24.size
      have lbb23 := bxb23.lt
      refine s_stBx (.agg #[.bool x22.next, .int .i64 x22.signal]) [.bool x22.next, .int .i64 x22.signal] [.bool x22.next, .int .i64 x22.signal] bxb23 rfl rfl rfl rfl (by simp) (all_cons rfl (all_cons rfl all_nil)) rfl (fun h27 mh27 sh27 bxx28 => ?_)
      have E29 := E25.mod mh27 (fun b hb => by simp at hb; omega)
      refine s_nil ?_
      refine p_seqN ?_
      refine v_seq ?_
      refine v_ops ?_
      have f30 := ((bxb9.ext eh24).mod mh27 (by simp; omega))
      refine s_load (.agg #[.int .i64 r.phase, .int .i64 r.holds, .int .i64 r.again, .int .i64 r.shown, v]) (fun _ q => f30.loadA rfl q) ?_
      refine s_load (.agg #[.bool x22.next, .int .i64 x22.signal]) (fun _ q => bxx28.loadA rfl q) ?_
      have f31 := ((s_v.ext eh24).mod mh27 (fun b hb hc => by simp at hc; have := lt_v b hb; omega))
      refine s_call [.agg #[.int .i64 r.phase, .int .i64 r.holds, .int .i64 r.again, .int .i64 r.shown, v], .agg #[.bool x22.next, .int .i64 x22.signal]] rfl (spec_rpStep_ok r v x22 _ f31.toSl (by first | omega | assumption | (simp; omega)) (by first | omega | assumption | (simp; omega))) ?_
      rintro _ h33 ⟨r32, rfl, s_r32, fr_r32, eh33⟩
      have E34 := E29.trans eh33
      have z35 := eh33.size
      have lt_r32 := s_r32.lt
      have f36 := (f30.ext eh33)
      refine s_stBx (.agg #[.int .i64 (((gl r x22).1).phase), .int .i64 (((gl r x22).1).holds), .int .i64 (((gl r x22).1).again), .int .i64 (((gl r x22).1).shown), r32]) [.int .i64 (((gl r x22).1).phase), .int .i64 (((gl r x22).1).holds), .int .i64 (((gl r x22).1).again), .int .i64 (((gl r x22).1).shown), r32] [.int .i64 (((gl r x22).1).phase), .int .i64 (((gl r x22).1).holds), .int .i64 (((gl r x22).1).again), .int .i64 (((gl r x22).1).shown), r32] f36 rfl rfl rfl rfl (by simp) (all_cons rfl (all_cons rfl (all_cons rfl (all_cons rfl (all_cons s_r32.one1 all_nil))))) rfl (fun h37 mh37 sh37 bxx38 => ?_)
      have E39 := E34.mod mh37 (fun b hb => by simp at hb; omega)
      refine s_nil ?_
      refine p_seqN ?_
      refine v_ops ?_
      refine s_pure o (fun _ q => q) ?_
      refine s_pure (.pointer (some ⟨b9, 3, none⟩)) (fun _ q => q) ?_
      refine s_load (.int .i64 (((gl r x22).1).shown)) (fun _ q => bxx38.load rfl q) ?_
      refine s_row (α := Int) [((gl r x22).1).shown] (fun _ q => seg_i rfl (seg_nil q)) rfl (by simp [maxLen]) (fun r40 h41 eh41 zh41 s_r40 fr_r40 => ?_)
      have E42 := E39.trans eh41
      have z43 := eh41.size
      have lt_r40 := s_r40.lt
      have f44 := (((((s_o.ext eh24).mod mh27 (fun b hb hc => by simp at hc; have := lt_o b hb; omega)).ext eh33).mod mh37 (fun b hb hc => np_b9_o (by simp at hc; rw [← hc]; exact hb))).ext eh41)
      refine s_app f44 s_r40 rfl rfl rfl (by simp [maxLen]; omega) (by simp; omega) (fun r45 h46 mh46 zh46 s_r45 ab_r45 => ?_)
      have E47 := E42.mod mh46 (fun b hb => by have := fr_o b hb; omega)
      have fr_r45 := fr_o.app ab_r45 (by omega)
      have np48 : ∀ b ∈ blks v, b ∉ blks r45 := fun b hb hc => (ab_r45 _ hc).elim ((fun b hb hc => np_o_v b hc hb) b hb) (fun hc => by have := lt_v b hb; omega)
      have np49 : ∀ b ∈ blks v, b ∉ blks r45 := fun b hb hc => (ab_r45 _ hc).elim ((fun b hb hc => np_o_v b hc hb) b hb) (fun hc => by have := lt_v b hb; omega)
      have np50 : b9 ∉ blks r45 := fun hc => (ab_r45 _ hc).elim np_b9_o (fun hc => by omega)
      have np51 : b23 ∉ blks r45 := fun hc => (ab_r45 _ hc).elim (fun hc => by have := lt_o _ hc; omega) (fun hc => by omega)
      have np52 : ∀ b ∈ blks r32, b ∉ blks r45 := fun b hb hc => (ab_r45 _ hc).elim ((fr_r32.apart' (fun b hb => by have := lt_o b hb; omega)) b hb) (fun hc => by have := lt_r32 b hb; omega)
      have np53 : ∀ b ∈ blks r40, b ∉ blks r45 := fun b hb hc => (ab_r45 _ hc).elim ((fr_r40.apart' (fun b hb => by have := lt_o b hb; omega)) b hb) (fun hc => by have := lt_r40 b hb; omega)
      have lt_r45 := s_r45.lt
      refine s_pure r45 (fun _ q => q) ?_
      refine s_nil ?_
      refine p_blkN ?_
      refine p_seqN ?_
      refine v_ops ?_
      refine s_pure (.int .i64 ((k : Int) + 1)) (fun _ q => ArithVC.mk (by omega) q) ?_
      refine s_pure (.int .i64 ((k : Int) + 1)) (fun _ q => q) ?_
      refine s_nil ?_
      have f54 := ((bxx38.ext eh41).mod mh46 np_b9_o)
      have f55 := (((s_r32.mod mh37 (fun b hb hc => by simp at hc; have := fr_r32 b hb; omega)).ext eh41).mod mh46 (fr_r32.apart' (fun b hb => by have := lt_o b hb; omega)))
      exact p_lpN ⟨k + 1, ((gl r x22).1), r32, r45, ⟨rfl, rfl, rfl, rfl, rfl⟩, ⟨E47, f54, (sl_eq s_r45 (by rw [shown_snoc rz (by assumption), ← hr])), (fr_r45.mono (by omega)), (sl_eq f55 (by simp)), (fr_r32.mono (by omega)), (fr_r32.out (by omega)), (fun b hb hc => np52 b hc hb), np50, (by exact ⟨by omega, run_step (by assumption) hr⟩)⟩, by omega⟩
    ·
      refine v_exit ?_
      refine p_seqX ?_
      refine p_lpX ?_
      refine p_blkX ?_
      refine p_seqN ?_
      refine v_seq ?_
      refine v_ops ?_
      refine s_pure o (fun _ q => q) ?_
      refine s_pure o (fun _ q => q) ?_
      refine s_pure (.bool true) (fun _ q => q) ?_
      refine s_nil ?_
      refine p_seqN ?_
      refine v_ret ?_
      refine p_ret [o, .bool true] (.tuple #[o, .bool true]) (fun _ q => q) rfl ?_
      have ho : saOut l = (shown rz (l.take k), true) := by first | exact sa_no (by assumption) | (rw [saOut, if_pos (by assumption), take_all (by assumption)])
      exact ⟨o, by first | (rw [ho]; done) | rfl, sl_eq s_o (congrArg (fun o => o.1) ho).symm, fr_o.mono (by omega), Eh⟩


theorem take_ext {α : Type} {xs ys : List α} {k : Nat} {x y : α} (h : xs.take k = ys.take k) (hx : xs[k]? = some x) (hy : ys[k]? = some y) (e : x = y) : xs.take (k + 1) = ys.take (k + 1) := by
  rw [snoc_get hx, snoc_get hy, h, e]
theorem get_ne {α : Type} {xs ys : List α} {k : Nat} {x y : α} (hx : xs[k]? = some x) (hy : ys[k]? = some y) (e : ¬ x = y) : ¬ xs = ys := by
  intro h; subst h; rw [hx] at hy; exact e (Option.some.inj hy)
theorem take_done {α : Type} {xs ys : List α} {k : Nat} (h : xs.take k = ys.take k) (hk : ¬ (k : Int) < (xs.length : Int)) (hl : (xs.length : Int) = (ys.length : Int)) : xs = ys := by
  rw [take_all hk, take_all (by omega)] at h; exact h
def RepP.same (a b : RepP) : Prop := a.phase = b.phase ∧ a.holds = b.holds ∧ a.again = b.again ∧ a.shown = b.shown ∧ a.passed = b.passed
instance (a b : RepP) : Decidable (a.same b) := inferInstanceAs (Decidable (_ ∧ _))
theorem gl_same {r : RepP} {g : GlanceD} : chg (gl r g).1 r = true ↔ ¬ r.same (gl r g).1 := by
  unfold chg RepP.same
  simp only [Bool.or_eq_true, bne_iff_ne]
  have hp : (gl r g).1.passed.length = r.passed.length ↔ r.passed = (gl r g).1.passed := by
    unfold gl
    repeat' split
    all_goals simp
  constructor
  · rintro h ⟨h1, h2, h3, h4, h5⟩
    rw [h1, h2, h3, h4] at h
    have := hp.2 h5
    simp [this] at h
  · intro h
    by_cases h1 : (gl r g).1.phase = r.phase
    · by_cases h2 : (gl r g).1.holds = r.holds
      · by_cases h3 : (gl r g).1.again = r.again
        · by_cases h4 : (gl r g).1.shown = r.shown
          · right
            intro hl
            exact h ⟨h1.symm, h2.symm, h3.symm, h4.symm, hp.1 hl⟩
          · left; right; exact h4
        · left; left; right; exact h3
      · left; left; left; right; exact h2
    · left; left; left; left; exact h1

theorem spec_l1Same_ok (v_a : Value) (a : List Int) (v_b : Value) (b : List Int) (h : Heap) (s_a : Sl h v_a a) (s_b : Sl h v_b b) : Cn f_spec_l1Same [v_a, v_b] h fun v h' => v = .bool (decide (a = b)) ∧ Ext h h' := by
  have lt_a := s_a.lt
  have l63_a := s_a.len63
  have lt_b := s_b.lt
  have l63_b := s_b.len63
  refine calls_of r_spec_l1Same ?_
  refine v_seq ?_
  refine v_ops ?_
  refine s_pure (.bool false) (fun _ q => q) ?_
  refine s_nil ?_
  refine p_seqN ?_
  refine v_seq ?_
  refine v_seq ?_
  refine v_ops ?_
  refine s_pure v_a (fun _ q => q) ?_
  refine s_pure (.int .i64 (a.length : Int)) (fun _ q => s_a.lenVC q) ?_
  refine s_pure v_b (fun _ q => q) ?_
  refine s_pure (.int .i64 (b.length : Int)) (fun _ q => s_b.lenVC q) ?_
  refine s_pure (.bool ((a.length : Int) != (b.length : Int))) (fun _ q => q) ?_
  refine s_nil ?_
  refine p_seqN ?_
  refine v_cond rfl (fun c1 => ?_) (fun c1 => ?_)
  ·
    refine v_seq ?_
    refine v_ops ?_
    refine s_pure (.bool false) (fun _ q => q) ?_
    refine s_nil ?_
    refine p_seqN ?_
    refine v_ret ?_
    refine p_seqR ?_
    refine p_ret [.bool false] (.bool false) (fun _ q => q) rfl ?_
    have ho : decide (a = b) = false := by simp only [decide_eq_true_eq, decide_eq_false_iff_not]; first | (intro hab; subst hab; omega) | exact get_ne (by assumption) (by assumption) (by assumption) | exact take_done hab (by assumption) (by omega)
    exact ⟨by first | (rw [ho]; done) | rfl, (Ext.refl h)⟩
  ·
    have c1 := Classical.not_not.1 c1
    refine v_skip ?_
    refine p_seqN ?_
    refine v_seq ?_
    refine v_seq ?_
    refine v_ops ?_
    refine s_pure v_a (fun _ q => q) ?_
    refine s_pure (.int .i64 (a.length : Int)) (fun _ q => s_a.lenVC q) ?_
    refine s_pure (.int .i64 0) (fun _ q => q) ?_
    refine s_nil ?_
    refine p_seqN ?_
    refine v_block ?_
    refine v_loop1 (α := Nat) (fun k => [(0, v_a), (1, v_b), (12, .int .i64 (a.length : Int)), (13, .int .i64 (k : Int))]) (fun k hh => Ext h hh ∧ k ≤ a.length ∧ a.take k = b.take k) (fun k => a.length - k) 0 ⟨rfl, rfl, rfl, rfl⟩ ⟨(Ext.refl h), (by simp)⟩ ?_
    rintro k R3 h2 ⟨Eh, ⟨hk, hab⟩⟩
    have zEh := Eh.size
    have f4 := s_a.ext Eh
    have f5 := s_b.ext Eh
    refine v_seq ?_
    refine v_ops ?_
    refine s_pure (.bool (decide ((k : Int) < (a.length : Int)))) (fun _ q => q) ?_
    refine s_nil ?_
    refine p_seqN ?_
    refine v_seq ?_
    refine v_cond rfl (fun c6 => ?_) (fun c6 => ?_)
    ·
      refine v_skip ?_
      refine p_seqN ?_
      refine v_seq ?_
      refine v_block ?_
      refine v_seq ?_
      refine v_ops ?_
      refine s_pure (.int .i64 (k : Int)) (fun _ q => q) ?_
      refine s_pure (.int .i64 (k : Int)) (fun _ q => q) ?_
      refine s_nil ?_
      refine p_seqN ?_
      refine v_seq ?_
      refine v_ops ?_
      refine s_pure v_a (fun _ q => q) ?_
      refine s_pure (.int .i64 (k : Int)) (fun _ q => q) ?_
      have hk7 : k < a.length := (by first | omega | (simp; omega))
      obtain ⟨x8, hx8⟩ : ∃ x, a[k]? = some x := ⟨_, List.getElem?_eq_getElem hk7⟩
      refine s_pure (.pointer (some ⟨sblk v_a, soff v_a + k * 1, none⟩)) (fun _ q => f4.idx (k := k) rfl hk7 q) ?_
      refine s_pure v_b (fun _ q => q) ?_
      refine s_pure (.int .i64 (k : Int)) (fun _ q => q) ?_
      have hk9 : k < b.length := (by first | omega | (simp; omega))
      obtain ⟨x10, hx10⟩ : ∃ x, b[k]? = some x := ⟨_, List.getElem?_eq_getElem hk9⟩
      refine s_pure (.pointer (some ⟨sblk v_b, soff v_b + k * 1, none⟩)) (fun _ q => f5.idx (k := k) rfl hk9 q) ?_
      refine s_load (.int .i64 x8) (fun _ q => f4.load1 hx8 rfl q) ?_
      refine s_load (.int .i64 x10) (fun _ q => f5.load1 hx10 rfl q) ?_
      refine s_pure (.bool (x8 != x10)) (fun _ q => q) ?_
      refine s_nil ?_
      refine p_seqN ?_
      refine v_cond rfl (fun c11 => ?_) (fun c11 => ?_)
      ·
        refine v_seq ?_
        refine v_ops ?_
        refine s_pure (.bool false) (fun _ q => q) ?_
        refine s_nil ?_
        refine p_seqN ?_
        refine v_ret ?_
        refine p_blkR ?_
        refine p_seqR ?_
        refine p_lpR ?_
        refine p_blkR ?_
        refine p_seqR ?_
        refine p_ret [.bool false] (.bool false) (fun _ q => q) rfl ?_
        have ho : decide (a = b) = false := by simp only [decide_eq_true_eq, decide_eq_false_iff_not]; first | (intro hab; subst hab; omega) | exact get_ne (by assumption) (by assumption) (by assumption) | exact take_done hab (by assumption) (by omega)
        exact ⟨by first | (rw [ho]; done) | rfl, Eh⟩
      ·
        have c11 := Classical.not_not.1 c11
        refine v_skip ?_
        refine p_blkN ?_
        refine p_seqN ?_
        refine v_ops ?_
        refine s_pure (.int .i64 ((k : Int) + 1)) (fun _ q => ArithVC.mk (by omega) q) ?_
        refine s_pure (.int .i64 ((k : Int) + 1)) (fun _ q => q) ?_
        refine s_nil ?_
        exact p_lpN ⟨k + 1, ⟨rfl, rfl, rfl, rfl⟩, ⟨Eh, (by exact ⟨by omega, take_ext hab (by assumption) (by assumption) (by assumption)⟩)⟩, by omega⟩
    ·
      refine v_exit ?_
      refine p_seqX ?_
      refine p_lpX ?_
      refine p_blkX ?_
      refine p_seqN ?_
      refine v_seq ?_
      refine v_ops ?_
      refine s_pure (.bool true) (fun _ q => q) ?_
      refine s_nil ?_
      refine p_seqN ?_
      refine v_ret ?_
      refine p_ret [.bool true] (.bool true) (fun _ q => q) rfl ?_
      have ho : decide (a = b) = true := by simp only [decide_eq_true_eq, decide_eq_false_iff_not]; first | (intro hab; subst hab; omega) | exact get_ne (by assumption) (by assumption) (by assumption) | exact take_done hab (by assumption) (by omega)
      exact ⟨by first | (rw [ho]; done) | rfl, Eh⟩

set_option maxRecDepth 10000 in
theorem spec_rpSame_ok (a : RepP) (v_a_passed : Value) (b : RepP) (v_b_passed : Value) (h : Heap) (s_a_passed : Sl h v_a_passed a.passed) (s_b_passed : Sl h v_b_passed b.passed) : Cn f_spec_rpSame [.agg #[.int .i64 a.phase, .int .i64 a.holds, .int .i64 a.again, .int .i64 a.shown, v_a_passed], .agg #[.int .i64 b.phase, .int .i64 b.holds, .int .i64 b.again, .int .i64 b.shown, v_b_passed]] h fun v h' => v = .bool (decide (a.same b)) ∧ Ext h h' := by
  have lt_a_passed := s_a_passed.lt
  have l63_a_passed := s_a_passed.len63
  have lt_b_passed := s_b_passed.lt
  have l63_b_passed := s_b_passed.len63
  refine calls_of r_spec_rpSame ?_
  refine v_seq ?_
  refine v_ops ?_
  refine s_box [.int .i64 a.phase, .int .i64 a.holds, .int .i64 a.again, .int .i64 a.shown, v_a_passed] rfl (fun h2 b1 hbb1 hzb1 eh2 bxb1 => ?_)
  have E3 := (Ext.refl h).trans eh2
  have z4 := eh2.size
  have lbb1 := bxb1.lt
  refine s_box [.int .i64 b.phase, .int .i64 b.holds, .int .i64 b.again, .int .i64 b.shown, v_b_passed] rfl (fun h6 b5 hbb5 hzb5 eh6 bxb5 => ?_)
  have E7 := E3.trans eh6
  have z8 := eh6.size
  have lbb5 := bxb5.lt
  refine s_pure (.bool false) (fun _ q => q) ?_
  refine s_nil ?_
  refine p_seqN ?_
  refine v_seq ?_
  refine v_ops ?_
  refine s_pure (.pointer (some ⟨b1, 0, none⟩)) (fun _ q => q) ?_
  have f9 := (bxb1.ext eh6)
  refine s_load (.int .i64 a.phase) (fun _ q => f9.load rfl q) ?_
  refine s_pure (.pointer (some ⟨b5, 0, none⟩)) (fun _ q => q) ?_
  refine s_load (.int .i64 b.phase) (fun _ q => bxb5.load rfl q) ?_
  refine s_pure (.bool (a.phase == b.phase)) (fun _ q => q) ?_
  refine s_pure (.bool (a.phase == b.phase)) (fun _ q => q) ?_
  refine s_splitT rfl (fun c10 => ?_) (fun c10 => ?_)
  ·
    refine s_run rfl ?_
    refine s_pure (.pointer (some ⟨b1, 1, none⟩)) (fun _ q => q) ?_
    refine s_run rfl ?_
    refine s_load (.int .i64 a.holds) (fun _ q => f9.load rfl q) ?_
    refine s_run rfl ?_
    refine s_pure (.pointer (some ⟨b5, 1, none⟩)) (fun _ q => q) ?_
    refine s_run rfl ?_
    refine s_load (.int .i64 b.holds) (fun _ q => bxb5.load rfl q) ?_
    refine s_run rfl ?_
    refine s_pure (.bool (a.holds == b.holds)) (fun _ q => q) ?_
    refine s_pure (.bool (a.holds == b.holds)) (fun _ q => q) ?_
    refine s_pure (.bool (a.holds == b.holds)) (fun _ q => q) ?_
    refine s_splitT rfl (fun c11 => ?_) (fun c11 => ?_)
    ·
      refine s_run rfl ?_
      refine s_pure (.pointer (some ⟨b1, 2, none⟩)) (fun _ q => q) ?_
      refine s_run rfl ?_
      refine s_load (.int .i64 a.again) (fun _ q => f9.load rfl q) ?_
      refine s_run rfl ?_
      refine s_pure (.pointer (some ⟨b5, 2, none⟩)) (fun _ q => q) ?_
      refine s_run rfl ?_
      refine s_load (.int .i64 b.again) (fun _ q => bxb5.load rfl q) ?_
      refine s_run rfl ?_
      refine s_pure (.bool (a.again == b.again)) (fun _ q => q) ?_
      refine s_pure (.bool (a.again == b.again)) (fun _ q => q) ?_
      refine s_pure (.bool (a.again == b.again)) (fun _ q => q) ?_
      refine s_splitT rfl (fun c12 => ?_) (fun c12 => ?_)
      ·
        refine s_run rfl ?_
        refine s_pure (.pointer (some ⟨b1, 3, none⟩)) (fun _ q => q) ?_
        refine s_run rfl ?_
        refine s_load (.int .i64 a.shown) (fun _ q => f9.load rfl q) ?_
        refine s_run rfl ?_
        refine s_pure (.pointer (some ⟨b5, 3, none⟩)) (fun _ q => q) ?_
        refine s_run rfl ?_
        refine s_load (.int .i64 b.shown) (fun _ q => bxb5.load rfl q) ?_
        refine s_run rfl ?_
        refine s_pure (.bool (a.shown == b.shown)) (fun _ q => q) ?_
        refine s_pure (.bool (a.shown == b.shown)) (fun _ q => q) ?_
        refine s_pure (.bool (a.shown == b.shown)) (fun _ q => q) ?_
        refine s_splitT rfl (fun c13 => ?_) (fun c13 => ?_)
        ·
          refine s_run rfl ?_
          refine s_pure (.pointer (some ⟨b1, 4, none⟩)) (fun _ q => q) ?_
          refine s_run rfl ?_
          refine s_load v_a_passed (fun _ q => f9.load rfl q) ?_
          refine s_run rfl ?_
          refine s_pure (.pointer (some ⟨b5, 4, none⟩)) (fun _ q => q) ?_
          refine s_run rfl ?_
          refine s_load v_b_passed (fun _ q => bxb5.load rfl q) ?_
          refine s_run rfl ?_
          have f14 := ((s_a_passed.ext eh2).ext eh6)
          have f15 := ((s_b_passed.ext eh2).ext eh6)
          refine s_call [v_a_passed, v_b_passed] rfl (spec_l1Same_ok v_a_passed a.passed v_b_passed b.passed _ f14 f15) ?_
          rintro _ h16 ⟨rfl, eh16⟩
          have E17 := E7.trans eh16
          have z18 := eh16.size
          refine s_pure (.bool (decide (a.passed = b.passed))) (fun _ q => q) ?_
          refine s_pure (.bool (decide (a.passed = b.passed))) (fun _ q => q) ?_
          refine s_nil ?_
          refine p_seqN ?_
          refine v_ret ?_
          refine p_ret [.bool (decide (a.passed = b.passed))] (.bool (decide (a.passed = b.passed))) (fun _ q => q) rfl ?_
          have ho : decide (a.same b) = decide (a.passed = b.passed) := by unfold RepP.same; simp [*]
          exact ⟨by first | (rw [ho]; done) | rfl, E17⟩
        ·
          refine s_pass rfl ?_
          refine s_pass rfl ?_
          refine s_pass rfl ?_
          refine s_pass rfl ?_
          refine s_pass rfl ?_
          refine s_pure (.bool false) (fun _ q => q) ?_
          refine s_pure (.bool false) (fun _ q => q) ?_
          refine s_nil ?_
          refine p_seqN ?_
          refine v_ret ?_
          refine p_ret [.bool false] (.bool false) (fun _ q => q) rfl ?_
          have ho : decide (a.same b) = false := by unfold RepP.same; simp [*]
          exact ⟨by first | (rw [ho]; done) | rfl, E7⟩
      ·
        refine s_pass rfl ?_
        refine s_pass rfl ?_
        refine s_pass rfl ?_
        refine s_pass rfl ?_
        refine s_pass rfl ?_
        refine s_pure (.bool false) (fun _ q => q) ?_
        refine s_pure (.bool false) (fun _ q => q) ?_
        refine s_splitN rfl (by simp) ?_
        refine s_pass rfl ?_
        refine s_pass rfl ?_
        refine s_pass rfl ?_
        refine s_pass rfl ?_
        refine s_pass rfl ?_
        refine s_pure (.bool false) (fun _ q => q) ?_
        refine s_pure (.bool false) (fun _ q => q) ?_
        refine s_nil ?_
        refine p_seqN ?_
        refine v_ret ?_
        refine p_ret [.bool false] (.bool false) (fun _ q => q) rfl ?_
        have ho : decide (a.same b) = false := by unfold RepP.same; simp [*]
        exact ⟨by first | (rw [ho]; done) | rfl, E7⟩
    ·
      refine s_pass rfl ?_
      refine s_pass rfl ?_
      refine s_pass rfl ?_
      refine s_pass rfl ?_
      refine s_pass rfl ?_
      refine s_pure (.bool false) (fun _ q => q) ?_
      refine s_pure (.bool false) (fun _ q => q) ?_
      refine s_splitN rfl (by simp) ?_
      refine s_pass rfl ?_
      refine s_pass rfl ?_
      refine s_pass rfl ?_
      refine s_pass rfl ?_
      refine s_pass rfl ?_
      refine s_pure (.bool false) (fun _ q => q) ?_
      refine s_pure (.bool false) (fun _ q => q) ?_
      refine s_splitN rfl (by simp) ?_
      refine s_pass rfl ?_
      refine s_pass rfl ?_
      refine s_pass rfl ?_
      refine s_pass rfl ?_
      refine s_pass rfl ?_
      refine s_pure (.bool false) (fun _ q => q) ?_
      refine s_pure (.bool false) (fun _ q => q) ?_
      refine s_nil ?_
      refine p_seqN ?_
      refine v_ret ?_
      refine p_ret [.bool false] (.bool false) (fun _ q => q) rfl ?_
      have ho : decide (a.same b) = false := by unfold RepP.same; simp [*]
      exact ⟨by first | (rw [ho]; done) | rfl, E7⟩
  ·
    refine s_pass rfl ?_
    refine s_pass rfl ?_
    refine s_pass rfl ?_
    refine s_pass rfl ?_
    refine s_pass rfl ?_
    refine s_pure (.bool false) (fun _ q => q) ?_
    refine s_pure (.bool false) (fun _ q => q) ?_
    refine s_splitN rfl (by simp) ?_
    refine s_pass rfl ?_
    refine s_pass rfl ?_
    refine s_pass rfl ?_
    refine s_pass rfl ?_
    refine s_pass rfl ?_
    refine s_pure (.bool false) (fun _ q => q) ?_
    refine s_pure (.bool false) (fun _ q => q) ?_
    refine s_splitN rfl (by simp) ?_
    refine s_pass rfl ?_
    refine s_pass rfl ?_
    refine s_pass rfl ?_
    refine s_pass rfl ?_
    refine s_pass rfl ?_
    refine s_pure (.bool false) (fun _ q => q) ?_
    refine s_pure (.bool false) (fun _ q => q) ?_
    refine s_splitN rfl (by simp) ?_
    refine s_pass rfl ?_
    refine s_pass rfl ?_
    refine s_pass rfl ?_
    refine s_pass rfl ?_
    refine s_pass rfl ?_
    refine s_pure (.bool false) (fun _ q => q) ?_
    refine s_pure (.bool false) (fun _ q => q) ?_
    refine s_nil ?_
    refine p_seqN ?_
    refine v_ret ?_
    refine p_ret [.bool false] (.bool false) (fun _ q => q) rfl ?_
    have ho : decide (a.same b) = false := by unfold RepP.same; simp [*]
    exact ⟨by first | (rw [ho]; done) | rfl, E7⟩

set_option maxRecDepth 10000 in
theorem impl_UsefulGlances_ok (v_l : Value) (l : List GlanceD) (h : Heap) (s_l : Sl h v_l l) : Cn f_impl_UsefulGlances [v_l] h fun v h' => ∃ r0 : Value, v = .tuple #[r0, .bool ((ugOut l).2)] ∧ SlO h' r0 ((ugOut l).1) ∧ Fr h.size r0 ∧ Ext h h' := by
  have lt_l := s_l.lt
  have l63_l := s_l.len63
  refine calls_of r_impl_UsefulGlances ?_
  refine v_seq ?_
  refine v_ops ?_
  refine s_pure (.slice none 0 0) (fun _ q => q) ?_
  refine s_pure (.bool false) (fun _ q => q) ?_
  refine s_nil ?_
  refine p_seqN ?_
  refine v_seq ?_
  refine v_seq ?_
  refine v_ops ?_
  refine s_pure v_l (fun _ q => q) ?_
  refine s_call [v_l] rfl (areGlances_ok v_l l _ s_l) ?_
  rintro _ h1 ⟨rfl, eh1⟩
  have E2 := (Ext.refl h).trans eh1
  have z3 := eh1.size
  refine s_pure (.bool (!(decide (GlOk l)))) (fun _ q => q) ?_
  refine s_nil ?_
  refine p_seqN ?_
  refine v_cond rfl (fun c4 => ?_) (fun c4 => ?_)
  ·
    refine v_seq ?_
    refine v_ops ?_
    refine s_pure (.slice none 0 0) (fun _ q => q) ?_
    refine s_pure (.bool false) (fun _ q => q) ?_
    refine s_nil ?_
    refine p_seqN ?_
    refine v_ret ?_
    refine p_seqR ?_
    refine p_ret [.slice none 0 0, .bool false] (.tuple #[.slice none 0 0, .bool false]) (fun _ q => q) rfl ?_
    have ho : ugOut l = ([], false) := by first | exact ug_no (by assumption) | (rw [ugOut, if_pos (by assumption), take_all (by assumption)])
    exact ⟨(.slice none 0 0), by first | (rw [ho]; done) | rfl, sl_eq (SlX.nil (α := Int) true _) (congrArg (fun o => o.1) ho).symm, Fr.nil _, E2⟩
  ·
    have c4 := Classical.not_not.1 c4
    refine v_skip ?_
    refine p_seqN ?_
    refine v_seq ?_
    refine v_ops ?_
    refine s_new (fun h6 b5 hbb5 hzb5 eh6 bxb5 => ?_)
    have E7 := E2.trans eh6
    have z8 := eh6.size
    have lbb5 := bxb5.lt
    refine s_nil ?_
    refine p_seqN ?_
    refine v_seq ?_
    refine v_ops ?_
    refine s_pure (.slice none 0 0) (fun _ q => q) ?_
    refine s_nil ?_
    refine p_seqN ?_
    refine v_seq ?_
    refine v_seq ?_
    refine v_ops ?_
    refine s_pure v_l (fun _ q => q) ?_
    refine s_pure (.int .i64 (l.length : Int)) (fun _ q => s_l.lenVC q) ?_
    refine s_pure (.int .i64 0) (fun _ q => q) ?_
    refine s_nil ?_
    refine p_seqN ?_
    refine v_block ?_
    refine v_loop4 (α := Nat) (β := RepP) (γ := Value) (δ := Value) (fun k r v o => [(4, .pointer (some ⟨b5, 0, none⟩)), (5, o), (13, v_l), (14, .int .i64 (l.length : Int)), (15, .int .i64 (k : Int))]) (fun k r v o hh => Ext h hh ∧ Bx hh b5 [.int .i64 r.phase, .int .i64 r.holds, .int .i64 r.again, .int .i64 r.shown, v] 27 ∧ SlO hh v r.passed ∧ Fr h.size v ∧ SlO hh o (useful rz (l.take k)) ∧ Fr h.size o ∧ b5 ∉ blks v ∧ (∀ b ∈ blks o, b ∉ blks v) ∧ b5 ∉ blks o ∧ k ≤ l.length ∧ r = run rz (l.take k)) (fun k r v o => l.length - k) 0 rz (.slice none 0 0) (.slice none 0 0) ⟨rfl, rfl, rfl, rfl, rfl⟩ ⟨E7, bxb5, (sl_eq (SlX.nil (α := Int) true h6) (by simp [shown, useful])), (Fr.nil _), (sl_eq (SlX.nil (α := Int) true h6) (by simp [shown, useful])), (Fr.nil _), (by simp [blks]), (fun b hb hc => by simp [blks] at hc), (by simp [blks]), (by exact ⟨by omega, rfl⟩)⟩ ?_
    rintro k r v o R10 h9 ⟨Eh, bxb5, s_v, fr_v, s_o, fr_o, np_b5_v, np_o_v, np_b5_o, ⟨hk, hr⟩⟩
    have zEh := Eh.size
    have f11 := s_l.ext Eh
    have lbb5 := bxb5.lt
    have lt_v := s_v.lt
    have lt_o := s_o.lt
    have hi : RInv r := by rw [hr]; exact run_inv RInv.zero _
    have hl : r.passed.length ≤ l.length := by (have := run_len rz (l.take k)); rw [← hr] at this; simp at this; omega
    have ha := hi.a
    have gok := GlOk.len (by assumption : GlOk l)
    have hwl := useful_len rz (l.take k)
    simp only [List.length_take] at hwl
    refine v_seq ?_
    refine v_ops ?_
    refine s_pure (.bool (decide ((k : Int) < (l.length : Int)))) (fun _ q => q) ?_
    refine s_nil ?_
    refine p_seqN ?_
    refine v_seq ?_
    refine v_cond rfl (fun c12 => ?_) (fun c12 => ?_)
    ·
      refine v_skip ?_
      refine p_seqN ?_
      refine v_seq ?_
      refine v_block ?_
      refine v_seq ?_
      refine v_ops ?_
      refine s_pure (.int .i64 (k : Int)) (fun _ q => q) ?_
      have hk13 : k < l.length := (by first | omega | (simp; omega))
      obtain ⟨x14, hx14⟩ : ∃ x, l[k]? = some x := ⟨_, List.getElem?_eq_getElem hk13⟩
      refine s_pure (.pointer (some ⟨sblk v_l, soff v_l + k * 2, none⟩)) (fun _ q => f11.idx (k := k) rfl hk13 q) ?_
      refine s_load (.agg #[.bool x14.next, .int .i64 x14.signal]) (fun _ q => f11.loadN hx14 rfl q) ?_
      refine s_new (fun h16 b15 hbb15 hzb15 eh16 bxb15 => ?_)
      have E17 := Eh.trans eh16
      have z18 := eh16.size
      have lbb15 := bxb15.lt
      refine s_pure (.int .i64 (k : Int)) (fun _ q => q) ?_
      refine s_stBx (.agg #[.bool x14.next, .int .i64 x14.signal]) [.bool x14.next, .int .i64 x14.signal] [.bool x14.next, .int .i64 x14.signal] bxb15 rfl rfl rfl rfl (by simp) (all_cons rfl (all_cons rfl all_nil)) rfl (fun h19 mh19 sh19 bxx20 => ?_)
      have E21 := E17.mod mh19 (fun b hb => by simp at hb; omega)
      refine s_nil ?_
      refine p_seqN ?_
      refine v_seq ?_
      refine v_ops ?_
      have f22 := ((bxb5.ext eh16).mod mh19 (by simp; omega))
      refine s_load (.agg #[.int .i64 r.phase, .int .i64 r.holds, .int .i64 r.again, .int .i64 r.shown, v]) (fun _ q => f22.loadA rfl q) ?_
      refine s_load (.agg #[.bool x14.next, .int .i64 x14.signal]) (fun _ q => bxx20.loadA rfl q) ?_
      have f23 := ((s_v.ext eh16).mod mh19 (fun b hb hc => by simp at hc; have := lt_v b hb; omega))
      refine s_call [.agg #[.int .i64 r.phase, .int .i64 r.holds, .int .i64 r.again, .int .i64 r.shown, v], .agg #[.bool x14.next, .int .i64 x14.signal]] rfl (impl_glance_ok r v x14 _ f23 (by first | omega | assumption | (simp; omega)) (by first | omega | assumption | (simp; omega))) ?_
      rintro _ h25 ⟨r24, rfl, s_r24, mh25, ab_r24⟩
      have zh25 := mh25.size
      have E26 := E21.mod mh25 (fun b hb => by have := fr_v b hb; omega)
      have fr_r24 := fr_v.app ab_r24 (by omega)
      have np27 : b5 ∉ blks r24 := fun hc => (ab_r24 _ hc).elim np_b5_v (fun hc => by omega)
      have np28 : ∀ b ∈ blks o, b ∉ blks r24 := fun b hb hc => (ab_r24 _ hc).elim (np_o_v b hb) (fun hc => by have := lt_o b hb; omega)
      have np29 : ∀ b ∈ blks o, b ∉ blks r24 := fun b hb hc => (ab_r24 _ hc).elim (np_o_v b hb) (fun hc => by have := lt_o b hb; omega)
      have np30 : b15 ∉ blks r24 := fun hc => (ab_r24 _ hc).elim (fun hc => by have := lt_v _ hc; omega) (fun hc => by omega)
      have lt_r24 := s_r24.lt
      refine s_pure (.tuple #[.agg #[.int .i64 (((gl r x14).1).phase), .int .i64 (((gl r x14).1).holds), .int .i64 (((gl r x14).1).again), .int .i64 (((gl r x14).1).shown), r24], .bool ((gl r x14).2)]) (fun _ q => q) ?_
      refine s_pure (.agg #[.int .i64 (((gl r x14).1).phase), .int .i64 (((gl r x14).1).holds), .int .i64 (((gl r x14).1).again), .int .i64 (((gl r x14).1).shown), r24]) (fun _ q => q) ?_
      refine s_pure (.bool ((gl r x14).2)) (fun _ q => q) ?_
      refine s_new (fun h32 b31 hbb31 hzb31 eh32 bxb31 => ?_)
      have E33 := E26.trans eh32
      have z34 := eh32.size
      have lbb31 := bxb31.lt
      refine s_stBx (.agg #[.int .i64 (((gl r x14).1).phase), .int .i64 (((gl r x14).1).holds), .int .i64 (((gl r x14).1).again), .int .i64 (((gl r x14).1).shown), r24]) [.int .i64 (((gl r x14).1).phase), .int .i64 (((gl r x14).1).holds), .int .i64 (((gl r x14).1).again), .int .i64 (((gl r x14).1).shown), r24] [.int .i64 (((gl r x14).1).phase), .int .i64 (((gl r x14).1).holds), .int .i64 (((gl r x14).1).again), .int .i64 (((gl r x14).1).shown), r24] bxb31 rfl rfl rfl rfl (by simp) (all_cons rfl (all_cons rfl (all_cons rfl (all_cons rfl (all_cons s_r24.one1 all_nil))))) rfl (fun h35 mh35 sh35 bxx36 => ?_)
      have E37 := E33.mod mh35 (fun b hb => by simp at hb; omega)
      refine s_pure (.bool ((gl r x14).2)) (fun _ q => q) ?_
      refine s_nil ?_
      refine p_seqN ?_
      refine v_seq ?_
      refine v_seq ?_
      refine v_ops ?_
      refine s_pure (.pointer (some ⟨b31, 0, none⟩)) (fun _ q => q) ?_
      refine s_load (.int .i64 (((gl r x14).1).phase)) (fun _ q => bxx36.load rfl q) ?_
      refine s_pure (.pointer (some ⟨b5, 0, none⟩)) (fun _ q => q) ?_
      have f38 := (((f22.mod mh25 np_b5_v).ext eh32).mod mh35 (by simp; omega))
      refine s_load (.int .i64 r.phase) (fun _ q => f38.load rfl q) ?_
      refine s_pure (.bool (((gl r x14).1).phase != r.phase)) (fun _ q => q) ?_
      refine s_pure (.bool (((gl r x14).1).phase != r.phase)) (fun _ q => q) ?_
      refine s_splitT rfl (fun c39 => ?_) (fun c39 => ?_)
      ·
        refine s_pass rfl ?_
        refine s_pass rfl ?_
        refine s_pass rfl ?_
        refine s_pass rfl ?_
        refine s_pass rfl ?_
        refine s_pure (.bool true) (fun _ q => q) ?_
        refine s_pure (.bool true) (fun _ q => q) ?_
        refine s_splitY rfl rfl ?_
        refine s_pass rfl ?_
        refine s_pass rfl ?_
        refine s_pass rfl ?_
        refine s_pass rfl ?_
        refine s_pass rfl ?_
        refine s_pure (.bool true) (fun _ q => q) ?_
        refine s_pure (.bool true) (fun _ q => q) ?_
        refine s_splitY rfl rfl ?_
        refine s_pass rfl ?_
        refine s_pass rfl ?_
        refine s_pass rfl ?_
        refine s_pass rfl ?_
        refine s_pass rfl ?_
        refine s_pure (.bool true) (fun _ q => q) ?_
        refine s_pure (.bool true) (fun _ q => q) ?_
        refine s_splitY rfl rfl ?_
        refine s_pass rfl ?_
        refine s_pass rfl ?_
        refine s_pass rfl ?_
        refine s_pass rfl ?_
        refine s_pass rfl ?_
        refine s_pass rfl ?_
        refine s_pass rfl ?_
        refine s_pure (.bool true) (fun _ q => q) ?_
        refine s_nil ?_
        refine p_seqN ?_
        refine v_condY rfl rfl ?_
        refine v_ops ?_
        refine s_pure o (fun _ q => q) ?_
        refine s_pure (.int .i64 (k : Int)) (fun _ q => q) ?_
        refine s_row (α := Int) [(k : Int)] (fun _ q => seg_i rfl (seg_nil q)) rfl (by simp [maxLen]) (fun r40 h41 eh41 zh41 s_r40 fr_r40 => ?_)
        have E42 := E37.trans eh41
        have z43 := eh41.size
        have lt_r40 := s_r40.lt
        have f44 := ((((((s_o.ext eh16).mod mh19 (fun b hb hc => by simp at hc; have := lt_o b hb; omega)).mod mh25 np_o_v).ext eh32).mod mh35 (fun b hb hc => by simp at hc; have := lt_o b hb; omega)).ext eh41)
        refine s_app f44 s_r40 rfl rfl rfl (by simp [maxLen]; omega) (by simp; omega) (fun r45 h46 mh46 zh46 s_r45 ab_r45 => ?_)
        have E47 := E42.mod mh46 (fun b hb => by have := fr_o b hb; omega)
        have fr_r45 := fr_o.app ab_r45 (by omega)
        have np48 : ∀ b ∈ blks v, b ∉ blks r45 := fun b hb hc => (ab_r45 _ hc).elim ((fun b hb hc => np_o_v b hc hb) b hb) (fun hc => by have := lt_v b hb; omega)
        have np49 : ∀ b ∈ blks v, b ∉ blks r45 := fun b hb hc => (ab_r45 _ hc).elim ((fun b hb hc => np_o_v b hc hb) b hb) (fun hc => by have := lt_v b hb; omega)
        have np50 : b5 ∉ blks r45 := fun hc => (ab_r45 _ hc).elim np_b5_o (fun hc => by omega)
        have np51 : ∀ b ∈ blks r24, b ∉ blks r45 := fun b hb hc => (ab_r45 _ hc).elim ((fun b hb hc => np29 b hc hb) b hb) (fun hc => by have := lt_r24 b hb; omega)
        have np52 : ∀ b ∈ blks r24, b ∉ blks r45 := fun b hb hc => (ab_r45 _ hc).elim ((fun b hb hc => np29 b hc hb) b hb) (fun hc => by have := lt_r24 b hb; omega)
        have np53 : b15 ∉ blks r45 := fun hc => (ab_r45 _ hc).elim (fun hc => by have := lt_o _ hc; omega) (fun hc => by omega)
        have np54 : b31 ∉ blks r45 := fun hc => (ab_r45 _ hc).elim (fun hc => by have := lt_o _ hc; omega) (fun hc => by omega)
        have np55 : ∀ b ∈ blks r40, b ∉ blks r45 := fun b hb hc => (ab_r45 _ hc).elim ((fr_r40.apart' (fun b hb => by have := lt_o b hb; omega)) b hb) (fun hc => by have := lt_r40 b hb; omega)
        have lt_r45 := s_r45.lt
        refine s_pure r45 (fun _ q => q) ?_
        refine s_nil ?_
        refine p_seqN ?_
        refine v_ops ?_
        have f56 := ((bxx36.ext eh41).mod mh46 (fun hc => by have := lt_o _ hc; omega))
        refine s_load (.agg #[.int .i64 (((gl r x14).1).phase), .int .i64 (((gl r x14).1).holds), .int .i64 (((gl r x14).1).again), .int .i64 (((gl r x14).1).shown), r24]) (fun _ q => f56.loadA rfl q) ?_
        have f57 := ((f38.ext eh41).mod mh46 np_b5_o)
        refine s_stBx (.agg #[.int .i64 (((gl r x14).1).phase), .int .i64 (((gl r x14).1).holds), .int .i64 (((gl r x14).1).again), .int .i64 (((gl r x14).1).shown), r24]) [.int .i64 (((gl r x14).1).phase), .int .i64 (((gl r x14).1).holds), .int .i64 (((gl r x14).1).again), .int .i64 (((gl r x14).1).shown), r24] [.int .i64 (((gl r x14).1).phase), .int .i64 (((gl r x14).1).holds), .int .i64 (((gl r x14).1).again), .int .i64 (((gl r x14).1).shown), r24] f57 rfl rfl rfl rfl (by simp) (all_cons rfl (all_cons rfl (all_cons rfl (all_cons rfl (all_cons s_r24.one1 all_nil))))) rfl (fun h58 mh58 sh58 bxx59 => ?_)
        have E60 := E47.mod mh58 (fun b hb => by simp at hb; omega)
        refine s_nil ?_
        refine p_blkN ?_
        refine p_seqN ?_
        refine v_ops ?_
        refine s_pure (.int .i64 ((k : Int) + 1)) (fun _ q => ArithVC.mk (by omega) q) ?_
        refine s_pure (.int .i64 ((k : Int) + 1)) (fun _ q => q) ?_
        refine s_nil ?_
        have f61 := (((((s_r24.ext eh32).mod mh35 (fun b hb hc => by simp at hc; have := lt_r24 b hb; omega)).ext eh41).mod mh46 (fun b hb hc => np29 b hc hb)).mod mh58 (fun b hb hc => np27 (by simp at hc; rw [← hc]; exact hb)))
        have f62 := (s_r45.mod mh58 (fun b hb hc => np50 (by simp at hc; rw [← hc]; exact hb)))
        exact p_lpN ⟨k + 1, ((gl r x14).1), r24, r45, ⟨rfl, rfl, rfl, rfl, rfl⟩, ⟨E60, bxx59, (sl_eq f61 (by simp)), (fr_r24.mono (by omega)), (sl_eq f62 (by rw [useful_snoc rz (by assumption), ← hr]; first | rw [if_pos (by simp [chg]; omega)] | (rw [if_neg (by simp [chg]; omega)]; simp))), (fr_r45.mono (by omega)), np27, (fun b hb hc => np52 b hc hb), np50, (by exact ⟨by omega, run_step (by assumption) hr⟩)⟩, by omega⟩
      ·
        have c39 := Classical.not_not.1 c39
        refine s_run rfl ?_
        refine s_pure (.pointer (some ⟨b31, 1, none⟩)) (fun _ q => q) ?_
        refine s_run rfl ?_
        refine s_load (.int .i64 (((gl r x14).1).holds)) (fun _ q => bxx36.load rfl q) ?_
        refine s_run rfl ?_
        refine s_pure (.pointer (some ⟨b5, 1, none⟩)) (fun _ q => q) ?_
        refine s_run rfl ?_
        refine s_load (.int .i64 r.holds) (fun _ q => f38.load rfl q) ?_
        refine s_run rfl ?_
        refine s_pure (.bool (((gl r x14).1).holds != r.holds)) (fun _ q => q) ?_
        refine s_pure (.bool (((gl r x14).1).holds != r.holds)) (fun _ q => q) ?_
        refine s_pure (.bool (((gl r x14).1).holds != r.holds)) (fun _ q => q) ?_
        refine s_splitT rfl (fun c63 => ?_) (fun c63 => ?_)
        ·
          refine s_pass rfl ?_
          refine s_pass rfl ?_
          refine s_pass rfl ?_
          refine s_pass rfl ?_
          refine s_pass rfl ?_
          refine s_pure (.bool true) (fun _ q => q) ?_
          refine s_pure (.bool true) (fun _ q => q) ?_
          refine s_splitY rfl rfl ?_
          refine s_pass rfl ?_
          refine s_pass rfl ?_
          refine s_pass rfl ?_
          refine s_pass rfl ?_
          refine s_pass rfl ?_
          refine s_pure (.bool true) (fun _ q => q) ?_
          refine s_pure (.bool true) (fun _ q => q) ?_
          refine s_splitY rfl rfl ?_
          refine s_pass rfl ?_
          refine s_pass rfl ?_
          refine s_pass rfl ?_
          refine s_pass rfl ?_
          refine s_pass rfl ?_
          refine s_pass rfl ?_
          refine s_pass rfl ?_
          refine s_pure (.bool true) (fun _ q => q) ?_
          refine s_nil ?_
          refine p_seqN ?_
          refine v_condY rfl rfl ?_
          refine v_ops ?_
          refine s_pure o (fun _ q => q) ?_
          refine s_pure (.int .i64 (k : Int)) (fun _ q => q) ?_
          refine s_row (α := Int) [(k : Int)] (fun _ q => seg_i rfl (seg_nil q)) rfl (by simp [maxLen]) (fun r64 h65 eh65 zh65 s_r64 fr_r64 => ?_)
          have E66 := E37.trans eh65
          have z67 := eh65.size
          have lt_r64 := s_r64.lt
          have f68 := ((((((s_o.ext eh16).mod mh19 (fun b hb hc => by simp at hc; have := lt_o b hb; omega)).mod mh25 np_o_v).ext eh32).mod mh35 (fun b hb hc => by simp at hc; have := lt_o b hb; omega)).ext eh65)
          refine s_app f68 s_r64 rfl rfl rfl (by simp [maxLen]; omega) (by simp; omega) (fun r69 h70 mh70 zh70 s_r69 ab_r69 => ?_)
          have E71 := E66.mod mh70 (fun b hb => by have := fr_o b hb; omega)
          have fr_r69 := fr_o.app ab_r69 (by omega)
          have np72 : ∀ b ∈ blks v, b ∉ blks r69 := fun b hb hc => (ab_r69 _ hc).elim ((fun b hb hc => np_o_v b hc hb) b hb) (fun hc => by have := lt_v b hb; omega)
          have np73 : ∀ b ∈ blks v, b ∉ blks r69 := fun b hb hc => (ab_r69 _ hc).elim ((fun b hb hc => np_o_v b hc hb) b hb) (fun hc => by have := lt_v b hb; omega)
          have np74 : b5 ∉ blks r69 := fun hc => (ab_r69 _ hc).elim np_b5_o (fun hc => by omega)
          have np75 : ∀ b ∈ blks r24, b ∉ blks r69 := fun b hb hc => (ab_r69 _ hc).elim ((fun b hb hc => np29 b hc hb) b hb) (fun hc => by have := lt_r24 b hb; omega)
          have np76 : ∀ b ∈ blks r24, b ∉ blks r69 := fun b hb hc => (ab_r69 _ hc).elim ((fun b hb hc => np29 b hc hb) b hb) (fun hc => by have := lt_r24 b hb; omega)
          have np77 : b15 ∉ blks r69 := fun hc => (ab_r69 _ hc).elim (fun hc => by have := lt_o _ hc; omega) (fun hc => by omega)
          have np78 : b31 ∉ blks r69 := fun hc => (ab_r69 _ hc).elim (fun hc => by have := lt_o _ hc; omega) (fun hc => by omega)
          have np79 : ∀ b ∈ blks r64, b ∉ blks r69 := fun b hb hc => (ab_r69 _ hc).elim ((fr_r64.apart' (fun b hb => by have := lt_o b hb; omega)) b hb) (fun hc => by have := lt_r64 b hb; omega)
          have lt_r69 := s_r69.lt
          refine s_pure r69 (fun _ q => q) ?_
          refine s_nil ?_
          refine p_seqN ?_
          refine v_ops ?_
          have f80 := ((bxx36.ext eh65).mod mh70 (fun hc => by have := lt_o _ hc; omega))
          refine s_load (.agg #[.int .i64 (((gl r x14).1).phase), .int .i64 (((gl r x14).1).holds), .int .i64 (((gl r x14).1).again), .int .i64 (((gl r x14).1).shown), r24]) (fun _ q => f80.loadA rfl q) ?_
          have f81 := ((f38.ext eh65).mod mh70 np_b5_o)
          refine s_stBx (.agg #[.int .i64 (((gl r x14).1).phase), .int .i64 (((gl r x14).1).holds), .int .i64 (((gl r x14).1).again), .int .i64 (((gl r x14).1).shown), r24]) [.int .i64 (((gl r x14).1).phase), .int .i64 (((gl r x14).1).holds), .int .i64 (((gl r x14).1).again), .int .i64 (((gl r x14).1).shown), r24] [.int .i64 (((gl r x14).1).phase), .int .i64 (((gl r x14).1).holds), .int .i64 (((gl r x14).1).again), .int .i64 (((gl r x14).1).shown), r24] f81 rfl rfl rfl rfl (by simp) (all_cons rfl (all_cons rfl (all_cons rfl (all_cons rfl (all_cons s_r24.one1 all_nil))))) rfl (fun h82 mh82 sh82 bxx83 => ?_)
          have E84 := E71.mod mh82 (fun b hb => by simp at hb; omega)
          refine s_nil ?_
          refine p_blkN ?_
          refine p_seqN ?_
          refine v_ops ?_
          refine s_pure (.int .i64 ((k : Int) + 1)) (fun _ q => ArithVC.mk (by omega) q) ?_
          refine s_pure (.int .i64 ((k : Int) + 1)) (fun _ q => q) ?_
          refine s_nil ?_
          have f85 := (((((s_r24.ext eh32).mod mh35 (fun b hb hc => by simp at hc; have := lt_r24 b hb; omega)).ext eh65).mod mh70 (fun b hb hc => np29 b hc hb)).mod mh82 (fun b hb hc => np27 (by simp at hc; rw [← hc]; exact hb)))
          have f86 := (s_r69.mod mh82 (fun b hb hc => np74 (by simp at hc; rw [← hc]; exact hb)))
          exact p_lpN ⟨k + 1, ((gl r x14).1), r24, r69, ⟨rfl, rfl, rfl, rfl, rfl⟩, ⟨E84, bxx83, (sl_eq f85 (by simp)), (fr_r24.mono (by omega)), (sl_eq f86 (by rw [useful_snoc rz (by assumption), ← hr]; first | rw [if_pos (by simp [chg]; omega)] | (rw [if_neg (by simp [chg]; omega)]; simp))), (fr_r69.mono (by omega)), np27, (fun b hb hc => np76 b hc hb), np74, (by exact ⟨by omega, run_step (by assumption) hr⟩)⟩, by omega⟩
        ·
          have c63 := Classical.not_not.1 c63
          refine s_run rfl ?_
          refine s_pure (.pointer (some ⟨b31, 2, none⟩)) (fun _ q => q) ?_
          refine s_run rfl ?_
          refine s_load (.int .i64 (((gl r x14).1).again)) (fun _ q => bxx36.load rfl q) ?_
          refine s_run rfl ?_
          refine s_pure (.pointer (some ⟨b5, 2, none⟩)) (fun _ q => q) ?_
          refine s_run rfl ?_
          refine s_load (.int .i64 r.again) (fun _ q => f38.load rfl q) ?_
          refine s_run rfl ?_
          refine s_pure (.bool (((gl r x14).1).again != r.again)) (fun _ q => q) ?_
          refine s_pure (.bool (((gl r x14).1).again != r.again)) (fun _ q => q) ?_
          refine s_pure (.bool (((gl r x14).1).again != r.again)) (fun _ q => q) ?_
          refine s_splitT rfl (fun c87 => ?_) (fun c87 => ?_)
          ·
            refine s_pass rfl ?_
            refine s_pass rfl ?_
            refine s_pass rfl ?_
            refine s_pass rfl ?_
            refine s_pass rfl ?_
            refine s_pure (.bool true) (fun _ q => q) ?_
            refine s_pure (.bool true) (fun _ q => q) ?_
            refine s_splitY rfl rfl ?_
            refine s_pass rfl ?_
            refine s_pass rfl ?_
            refine s_pass rfl ?_
            refine s_pass rfl ?_
            refine s_pass rfl ?_
            refine s_pass rfl ?_
            refine s_pass rfl ?_
            refine s_pure (.bool true) (fun _ q => q) ?_
            refine s_nil ?_
            refine p_seqN ?_
            refine v_condY rfl rfl ?_
            refine v_ops ?_
            refine s_pure o (fun _ q => q) ?_
            refine s_pure (.int .i64 (k : Int)) (fun _ q => q) ?_
            refine s_row (α := Int) [(k : Int)] (fun _ q => seg_i rfl (seg_nil q)) rfl (by simp [maxLen]) (fun r88 h89 eh89 zh89 s_r88 fr_r88 => ?_)
            have E90 := E37.trans eh89
            have z91 := eh89.size
            have lt_r88 := s_r88.lt
            have f92 := ((((((s_o.ext eh16).mod mh19 (fun b hb hc => by simp at hc; have := lt_o b hb; omega)).mod mh25 np_o_v).ext eh32).mod mh35 (fun b hb hc => by simp at hc; have := lt_o b hb; omega)).ext eh89)
            refine s_app f92 s_r88 rfl rfl rfl (by simp [maxLen]; omega) (by simp; omega) (fun r93 h94 mh94 zh94 s_r93 ab_r93 => ?_)
            have E95 := E90.mod mh94 (fun b hb => by have := fr_o b hb; omega)
            have fr_r93 := fr_o.app ab_r93 (by omega)
            have np96 : ∀ b ∈ blks v, b ∉ blks r93 := fun b hb hc => (ab_r93 _ hc).elim ((fun b hb hc => np_o_v b hc hb) b hb) (fun hc => by have := lt_v b hb; omega)
            have np97 : ∀ b ∈ blks v, b ∉ blks r93 := fun b hb hc => (ab_r93 _ hc).elim ((fun b hb hc => np_o_v b hc hb) b hb) (fun hc => by have := lt_v b hb; omega)
            have np98 : b5 ∉ blks r93 := fun hc => (ab_r93 _ hc).elim np_b5_o (fun hc => by omega)
            have np99 : ∀ b ∈ blks r24, b ∉ blks r93 := fun b hb hc => (ab_r93 _ hc).elim ((fun b hb hc => np29 b hc hb) b hb) (fun hc => by have := lt_r24 b hb; omega)
            have np100 : ∀ b ∈ blks r24, b ∉ blks r93 := fun b hb hc => (ab_r93 _ hc).elim ((fun b hb hc => np29 b hc hb) b hb) (fun hc => by have := lt_r24 b hb; omega)
            have np101 : b15 ∉ blks r93 := fun hc => (ab_r93 _ hc).elim (fun hc => by have := lt_o _ hc; omega) (fun hc => by omega)
            have np102 : b31 ∉ blks r93 := fun hc => (ab_r93 _ hc).elim (fun hc => by have := lt_o _ hc; omega) (fun hc => by omega)
            have np103 : ∀ b ∈ blks r88, b ∉ blks r93 := fun b hb hc => (ab_r93 _ hc).elim ((fr_r88.apart' (fun b hb => by have := lt_o b hb; omega)) b hb) (fun hc => by have := lt_r88 b hb; omega)
            have lt_r93 := s_r93.lt
            refine s_pure r93 (fun _ q => q) ?_
            refine s_nil ?_
            refine p_seqN ?_
            refine v_ops ?_
            have f104 := ((bxx36.ext eh89).mod mh94 (fun hc => by have := lt_o _ hc; omega))
            refine s_load (.agg #[.int .i64 (((gl r x14).1).phase), .int .i64 (((gl r x14).1).holds), .int .i64 (((gl r x14).1).again), .int .i64 (((gl r x14).1).shown), r24]) (fun _ q => f104.loadA rfl q) ?_
            have f105 := ((f38.ext eh89).mod mh94 np_b5_o)
            refine s_stBx (.agg #[.int .i64 (((gl r x14).1).phase), .int .i64 (((gl r x14).1).holds), .int .i64 (((gl r x14).1).again), .int .i64 (((gl r x14).1).shown), r24]) [.int .i64 (((gl r x14).1).phase), .int .i64 (((gl r x14).1).holds), .int .i64 (((gl r x14).1).again), .int .i64 (((gl r x14).1).shown), r24] [.int .i64 (((gl r x14).1).phase), .int .i64 (((gl r x14).1).holds), .int .i64 (((gl r x14).1).again), .int .i64 (((gl r x14).1).shown), r24] f105 rfl rfl rfl rfl (by simp) (all_cons rfl (all_cons rfl (all_cons rfl (all_cons rfl (all_cons s_r24.one1 all_nil))))) rfl (fun h106 mh106 sh106 bxx107 => ?_)
            have E108 := E95.mod mh106 (fun b hb => by simp at hb; omega)
            refine s_nil ?_
            refine p_blkN ?_
            refine p_seqN ?_
            refine v_ops ?_
            refine s_pure (.int .i64 ((k : Int) + 1)) (fun _ q => ArithVC.mk (by omega) q) ?_
            refine s_pure (.int .i64 ((k : Int) + 1)) (fun _ q => q) ?_
            refine s_nil ?_
            have f109 := (((((s_r24.ext eh32).mod mh35 (fun b hb hc => by simp at hc; have := lt_r24 b hb; omega)).ext eh89).mod mh94 (fun b hb hc => np29 b hc hb)).mod mh106 (fun b hb hc => np27 (by simp at hc; rw [← hc]; exact hb)))
            have f110 := (s_r93.mod mh106 (fun b hb hc => np98 (by simp at hc; rw [← hc]; exact hb)))
            exact p_lpN ⟨k + 1, ((gl r x14).1), r24, r93, ⟨rfl, rfl, rfl, rfl, rfl⟩, ⟨E108, bxx107, (sl_eq f109 (by simp)), (fr_r24.mono (by omega)), (sl_eq f110 (by rw [useful_snoc rz (by assumption), ← hr]; first | rw [if_pos (by simp [chg]; omega)] | (rw [if_neg (by simp [chg]; omega)]; simp))), (fr_r93.mono (by omega)), np27, (fun b hb hc => np100 b hc hb), np98, (by exact ⟨by omega, run_step (by assumption) hr⟩)⟩, by omega⟩
          ·
            have c87 := Classical.not_not.1 c87
            refine s_run rfl ?_
            refine s_pure (.pointer (some ⟨b31, 3, none⟩)) (fun _ q => q) ?_
            refine s_run rfl ?_
            refine s_load (.int .i64 (((gl r x14).1).shown)) (fun _ q => bxx36.load rfl q) ?_
            refine s_run rfl ?_
            refine s_pure (.pointer (some ⟨b5, 3, none⟩)) (fun _ q => q) ?_
            refine s_run rfl ?_
            refine s_load (.int .i64 r.shown) (fun _ q => f38.load rfl q) ?_
            refine s_run rfl ?_
            refine s_pure (.bool (((gl r x14).1).shown != r.shown)) (fun _ q => q) ?_
            refine s_pure (.bool (((gl r x14).1).shown != r.shown)) (fun _ q => q) ?_
            refine s_pure (.bool (((gl r x14).1).shown != r.shown)) (fun _ q => q) ?_
            refine s_splitT rfl (fun c111 => ?_) (fun c111 => ?_)
            ·
              refine s_pass rfl ?_
              refine s_pass rfl ?_
              refine s_pass rfl ?_
              refine s_pass rfl ?_
              refine s_pass rfl ?_
              refine s_pass rfl ?_
              refine s_pass rfl ?_
              refine s_pure (.bool true) (fun _ q => q) ?_
              refine s_nil ?_
              refine p_seqN ?_
              refine v_condY rfl rfl ?_
              refine v_ops ?_
              refine s_pure o (fun _ q => q) ?_
              refine s_pure (.int .i64 (k : Int)) (fun _ q => q) ?_
              refine s_row (α := Int) [(k : Int)] (fun _ q => seg_i rfl (seg_nil q)) rfl (by simp [maxLen]) (fun r112 h113 eh113 zh113 s_r112 fr_r112 => ?_)
              have E114 := E37.trans eh113
              have z115 := eh113.size
              have lt_r112 := s_r112.lt
              have f116 := ((((((s_o.ext eh16).mod mh19 (fun b hb hc => by simp at hc; have := lt_o b hb; omega)).mod mh25 np_o_v).ext eh32).mod mh35 (fun b hb hc => by simp at hc; have := lt_o b hb; omega)).ext eh113)
              refine s_app f116 s_r112 rfl rfl rfl (by simp [maxLen]; omega) (by simp; omega) (fun r117 h118 mh118 zh118 s_r117 ab_r117 => ?_)
              have E119 := E114.mod mh118 (fun b hb => by have := fr_o b hb; omega)
              have fr_r117 := fr_o.app ab_r117 (by omega)
              have np120 : ∀ b ∈ blks v, b ∉ blks r117 := fun b hb hc => (ab_r117 _ hc).elim ((fun b hb hc => np_o_v b hc hb) b hb) (fun hc => by have := lt_v b hb; omega)
              have np121 : ∀ b ∈ blks v, b ∉ blks r117 := fun b hb hc => (ab_r117 _ hc).elim ((fun b hb hc => np_o_v b hc hb) b hb) (fun hc => by have := lt_v b hb; omega)
              have np122 : b5 ∉ blks r117 := fun hc => (ab_r117 _ hc).elim np_b5_o (fun hc => by omega)
              have np123 : ∀ b ∈ blks r24, b ∉ blks r117 := fun b hb hc => (ab_r117 _ hc).elim ((fun b hb hc => np29 b hc hb) b hb) (fun hc => by have := lt_r24 b hb; omega)
              have np124 : ∀ b ∈ blks r24, b ∉ blks r117 := fun b hb hc => (ab_r117 _ hc).elim ((fun b hb hc => np29 b hc hb) b hb) (fun hc => by have := lt_r24 b hb; omega)
              have np125 : b15 ∉ blks r117 := fun hc => (ab_r117 _ hc).elim (fun hc => by have := lt_o _ hc; omega) (fun hc => by omega)
              have np126 : b31 ∉ blks r117 := fun hc => (ab_r117 _ hc).elim (fun hc => by have := lt_o _ hc; omega) (fun hc => by omega)
              have np127 : ∀ b ∈ blks r112, b ∉ blks r117 := fun b hb hc => (ab_r117 _ hc).elim ((fr_r112.apart' (fun b hb => by have := lt_o b hb; omega)) b hb) (fun hc => by have := lt_r112 b hb; omega)
              have lt_r117 := s_r117.lt
              refine s_pure r117 (fun _ q => q) ?_
              refine s_nil ?_
              refine p_seqN ?_
              refine v_ops ?_
              have f128 := ((bxx36.ext eh113).mod mh118 (fun hc => by have := lt_o _ hc; omega))
              refine s_load (.agg #[.int .i64 (((gl r x14).1).phase), .int .i64 (((gl r x14).1).holds), .int .i64 (((gl r x14).1).again), .int .i64 (((gl r x14).1).shown), r24]) (fun _ q => f128.loadA rfl q) ?_
              have f129 := ((f38.ext eh113).mod mh118 np_b5_o)
              refine s_stBx (.agg #[.int .i64 (((gl r x14).1).phase), .int .i64 (((gl r x14).1).holds), .int .i64 (((gl r x14).1).again), .int .i64 (((gl r x14).1).shown), r24]) [.int .i64 (((gl r x14).1).phase), .int .i64 (((gl r x14).1).holds), .int .i64 (((gl r x14).1).again), .int .i64 (((gl r x14).1).shown), r24] [.int .i64 (((gl r x14).1).phase), .int .i64 (((gl r x14).1).holds), .int .i64 (((gl r x14).1).again), .int .i64 (((gl r x14).1).shown), r24] f129 rfl rfl rfl rfl (by simp) (all_cons rfl (all_cons rfl (all_cons rfl (all_cons rfl (all_cons s_r24.one1 all_nil))))) rfl (fun h130 mh130 sh130 bxx131 => ?_)
              have E132 := E119.mod mh130 (fun b hb => by simp at hb; omega)
              refine s_nil ?_
              refine p_blkN ?_
              refine p_seqN ?_
              refine v_ops ?_
              refine s_pure (.int .i64 ((k : Int) + 1)) (fun _ q => ArithVC.mk (by omega) q) ?_
              refine s_pure (.int .i64 ((k : Int) + 1)) (fun _ q => q) ?_
              refine s_nil ?_
              have f133 := (((((s_r24.ext eh32).mod mh35 (fun b hb hc => by simp at hc; have := lt_r24 b hb; omega)).ext eh113).mod mh118 (fun b hb hc => np29 b hc hb)).mod mh130 (fun b hb hc => np27 (by simp at hc; rw [← hc]; exact hb)))
              have f134 := (s_r117.mod mh130 (fun b hb hc => np122 (by simp at hc; rw [← hc]; exact hb)))
              exact p_lpN ⟨k + 1, ((gl r x14).1), r24, r117, ⟨rfl, rfl, rfl, rfl, rfl⟩, ⟨E132, bxx131, (sl_eq f133 (by simp)), (fr_r24.mono (by omega)), (sl_eq f134 (by rw [useful_snoc rz (by assumption), ← hr]; first | rw [if_pos (by simp [chg]; omega)] | (rw [if_neg (by simp [chg]; omega)]; simp))), (fr_r117.mono (by omega)), np27, (fun b hb hc => np124 b hc hb), np122, (by exact ⟨by omega, run_step (by assumption) hr⟩)⟩, by omega⟩
            ·
              have c111 := Classical.not_not.1 c111
              refine s_run rfl ?_
              refine s_pure (.pointer (some ⟨b31, 4, none⟩)) (fun _ q => q) ?_
              refine s_run rfl ?_
              refine s_load r24 (fun _ q => bxx36.load rfl q) ?_
              refine s_run rfl ?_
              refine s_pure (.int .i64 (((gl r x14).1).passed.length : Int)) (fun _ q => s_r24.lenVC q) ?_
              refine s_run rfl ?_
              refine s_pure (.pointer (some ⟨b5, 4, none⟩)) (fun _ q => q) ?_
              refine s_run rfl ?_
              refine s_load v (fun _ q => f38.load rfl q) ?_
              refine s_run rfl ?_
              refine s_pure (.int .i64 (r.passed.length : Int)) (fun _ q => f23.lenVC q) ?_
              refine s_run rfl ?_
              refine s_pure (.bool ((((gl r x14).1).passed.length : Int) != (r.passed.length : Int))) (fun _ q => q) ?_
              refine s_pure (.bool ((((gl r x14).1).passed.length : Int) != (r.passed.length : Int))) (fun _ q => q) ?_
              refine s_nil ?_
              refine p_seqN ?_
              refine v_cond rfl (fun c135 => ?_) (fun c135 => ?_)
              ·
                refine v_ops ?_
                refine s_pure o (fun _ q => q) ?_
                refine s_pure (.int .i64 (k : Int)) (fun _ q => q) ?_
                refine s_row (α := Int) [(k : Int)] (fun _ q => seg_i rfl (seg_nil q)) rfl (by simp [maxLen]) (fun r136 h137 eh137 zh137 s_r136 fr_r136 => ?_)
                have E138 := E37.trans eh137
                have z139 := eh137.size
                have lt_r136 := s_r136.lt
                have f140 := ((((((s_o.ext eh16).mod mh19 (fun b hb hc => by simp at hc; have := lt_o b hb; omega)).mod mh25 np_o_v).ext eh32).mod mh35 (fun b hb hc => by simp at hc; have := lt_o b hb; omega)).ext eh137)
                refine s_app f140 s_r136 rfl rfl rfl (by simp [maxLen]; omega) (by simp; omega) (fun r141 h142 mh142 zh142 s_r141 ab_r141 => ?_)
                have E143 := E138.mod mh142 (fun b hb => by have := fr_o b hb; omega)
                have fr_r141 := fr_o.app ab_r141 (by omega)
                have np144 : ∀ b ∈ blks v, b ∉ blks r141 := fun b hb hc => (ab_r141 _ hc).elim ((fun b hb hc => np_o_v b hc hb) b hb) (fun hc => by have := lt_v b hb; omega)
                have np145 : ∀ b ∈ blks v, b ∉ blks r141 := fun b hb hc => (ab_r141 _ hc).elim ((fun b hb hc => np_o_v b hc hb) b hb) (fun hc => by have := lt_v b hb; omega)
                have np146 : b5 ∉ blks r141 := fun hc => (ab_r141 _ hc).elim np_b5_o (fun hc => by omega)
                have np147 : ∀ b ∈ blks r24, b ∉ blks r141 := fun b hb hc => (ab_r141 _ hc).elim ((fun b hb hc => np29 b hc hb) b hb) (fun hc => by have := lt_r24 b hb; omega)
                have np148 : ∀ b ∈ blks r24, b ∉ blks r141 := fun b hb hc => (ab_r141 _ hc).elim ((fun b hb hc => np29 b hc hb) b hb) (fun hc => by have := lt_r24 b hb; omega)
                have np149 : b15 ∉ blks r141 := fun hc => (ab_r141 _ hc).elim (fun hc => by have := lt_o _ hc; omega) (fun hc => by omega)
                have np150 : b31 ∉ blks r141 := fun hc => (ab_r141 _ hc).elim (fun hc => by have := lt_o _ hc; omega) (fun hc => by omega)
                have np151 : ∀ b ∈ blks r136, b ∉ blks r141 := fun b hb hc => (ab_r141 _ hc).elim ((fr_r136.apart' (fun b hb => by have := lt_o b hb; omega)) b hb) (fun hc => by have := lt_r136 b hb; omega)
                have lt_r141 := s_r141.lt
                refine s_pure r141 (fun _ q => q) ?_
                refine s_nil ?_
                refine p_seqN ?_
                refine v_ops ?_
                have f152 := ((bxx36.ext eh137).mod mh142 (fun hc => by have := lt_o _ hc; omega))
                refine s_load (.agg #[.int .i64 (((gl r x14).1).phase), .int .i64 (((gl r x14).1).holds), .int .i64 (((gl r x14).1).again), .int .i64 (((gl r x14).1).shown), r24]) (fun _ q => f152.loadA rfl q) ?_
                have f153 := ((f38.ext eh137).mod mh142 np_b5_o)
                refine s_stBx (.agg #[.int .i64 (((gl r x14).1).phase), .int .i64 (((gl r x14).1).holds), .int .i64 (((gl r x14).1).again), .int .i64 (((gl r x14).1).shown), r24]) [.int .i64 (((gl r x14).1).phase), .int .i64 (((gl r x14).1).holds), .int .i64 (((gl r x14).1).again), .int .i64 (((gl r x14).1).shown), r24] [.int .i64 (((gl r x14).1).phase), .int .i64 (((gl r x14).1).holds), .int .i64 (((gl r x14).1).again), .int .i64 (((gl r x14).1).shown), r24] f153 rfl rfl rfl rfl (by simp) (all_cons rfl (all_cons rfl (all_cons rfl (all_cons rfl (all_cons s_r24.one1 all_nil))))) rfl (fun h154 mh154 sh154 bxx155 => ?_)
                have E156 := E143.mod mh154 (fun b hb => by simp at hb; omega)
                refine s_nil ?_
                refine p_blkN ?_
                refine p_seqN ?_
                refine v_ops ?_
                refine s_pure (.int .i64 ((k : Int) + 1)) (fun _ q => ArithVC.mk (by omega) q) ?_
                refine s_pure (.int .i64 ((k : Int) + 1)) (fun _ q => q) ?_
                refine s_nil ?_
                have f157 := (((((s_r24.ext eh32).mod mh35 (fun b hb hc => by simp at hc; have := lt_r24 b hb; omega)).ext eh137).mod mh142 (fun b hb hc => np29 b hc hb)).mod mh154 (fun b hb hc => np27 (by simp at hc; rw [← hc]; exact hb)))
                have f158 := (s_r141.mod mh154 (fun b hb hc => np146 (by simp at hc; rw [← hc]; exact hb)))
                exact p_lpN ⟨k + 1, ((gl r x14).1), r24, r141, ⟨rfl, rfl, rfl, rfl, rfl⟩, ⟨E156, bxx155, (sl_eq f157 (by simp)), (fr_r24.mono (by omega)), (sl_eq f158 (by rw [useful_snoc rz (by assumption), ← hr]; first | rw [if_pos (by simp [chg]; omega)] | (rw [if_neg (by simp [chg]; omega)]; simp))), (fr_r141.mono (by omega)), np27, (fun b hb hc => np148 b hc hb), np146, (by exact ⟨by omega, run_step (by assumption) hr⟩)⟩, by omega⟩
              ·
                have c135 := Classical.not_not.1 c135
                refine v_skip ?_
                refine p_seqN ?_
                refine v_ops ?_
                refine s_load (.agg #[.int .i64 (((gl r x14).1).phase), .int .i64 (((gl r x14).1).holds), .int .i64 (((gl r x14).1).again), .int .i64 (((gl r x14).1).shown), r24]) (fun _ q => bxx36.loadA rfl q) ?_
                refine s_stBx (.agg #[.int .i64 (((gl r x14).1).phase), .int .i64 (((gl r x14).1).holds), .int .i64 (((gl r x14).1).again), .int .i64 (((gl r x14).1).shown), r24]) [.int .i64 (((gl r x14).1).phase), .int .i64 (((gl r x14).1).holds), .int .i64 (((gl r x14).1).again), .int .i64 (((gl r x14).1).shown), r24] [.int .i64 (((gl r x14).1).phase), .int .i64 (((gl r x14).1).holds), .int .i64 (((gl r x14).1).again), .int .i64 (((gl r x14).1).shown), r24] f38 rfl rfl rfl rfl (by simp) (all_cons rfl (all_cons rfl (all_cons rfl (all_cons rfl (all_cons s_r24.one1 all_nil))))) rfl (fun h159 mh159 sh159 bxx160 => ?_)
                have E161 := E37.mod mh159 (fun b hb => by simp at hb; omega)
                refine s_nil ?_
                refine p_blkN ?_
                refine p_seqN ?_
                refine v_ops ?_
                refine s_pure (.int .i64 ((k : Int) + 1)) (fun _ q => ArithVC.mk (by omega) q) ?_
                refine s_pure (.int .i64 ((k : Int) + 1)) (fun _ q => q) ?_
                refine s_nil ?_
                have f162 := (((s_r24.ext eh32).mod mh35 (fun b hb hc => by simp at hc; have := lt_r24 b hb; omega)).mod mh159 (fun b hb hc => np27 (by simp at hc; rw [← hc]; exact hb)))
                have f163 := ((((((s_o.ext eh16).mod mh19 (fun b hb hc => by simp at hc; have := lt_o b hb; omega)).mod mh25 np_o_v).ext eh32).mod mh35 (fun b hb hc => by simp at hc; have := lt_o b hb; omega)).mod mh159 (fun b hb hc => np_b5_o (by simp at hc; rw [← hc]; exact hb)))
                exact p_lpN ⟨k + 1, ((gl r x14).1), r24, o, ⟨rfl, rfl, rfl, rfl, rfl⟩, ⟨E161, bxx160, (sl_eq f162 (by simp)), (fr_r24.mono (by omega)), (sl_eq f163 (by rw [useful_snoc rz (by assumption), ← hr]; first | rw [if_pos (by simp [chg]; omega)] | (rw [if_neg (by simp [chg]; omega)]; simp))), (fr_o.mono (by omega)), np27, np29, np_b5_o, (by exact ⟨by omega, run_step (by assumption) hr⟩)⟩, by omega⟩
    ·
      refine v_exit ?_
      refine p_seqX ?_
      refine p_lpX ?_
      refine p_blkX ?_
      refine p_seqN ?_
      refine v_seq ?_
      refine v_ops ?_
      refine s_pure o (fun _ q => q) ?_
      refine s_pure o (fun _ q => q) ?_
      refine s_pure (.bool true) (fun _ q => q) ?_
      refine s_nil ?_
      refine p_seqN ?_
      refine v_ret ?_
      refine p_ret [o, .bool true] (.tuple #[o, .bool true]) (fun _ q => q) rfl ?_
      have ho : ugOut l = (useful rz (l.take k), true) := by first | exact ug_no (by assumption) | (rw [ugOut, if_pos (by assumption), take_all (by assumption)])
      exact ⟨o, by first | (rw [ho]; done) | rfl, sl_eq s_o (congrArg (fun o => o.1) ho).symm, fr_o.mono (by omega), Eh⟩

set_option maxRecDepth 10000 in
theorem spec_UsefulGlances_ok (v_l : Value) (l : List GlanceD) (h : Heap) (s_l : Sl h v_l l) : Cn f_spec_UsefulGlances [v_l] h fun v h' => ∃ r0 : Value, v = .tuple #[r0, .bool ((ugOut l).2)] ∧ SlO h' r0 ((ugOut l).1) ∧ Fr h.size r0 ∧ Ext h h' := by
  have lt_l := s_l.lt
  have l63_l := s_l.len63
  refine calls_of r_spec_UsefulGlances ?_
  refine v_seq ?_
  refine v_ops ?_
  refine s_pure (.slice none 0 0) (fun _ q => q) ?_
  refine s_pure (.bool false) (fun _ q => q) ?_
  refine s_nil ?_
  refine p_seqN ?_
  refine v_seq ?_
  refine v_seq ?_
  refine v_ops ?_
  refine s_pure v_l (fun _ q => q) ?_
  refine s_call [v_l] rfl (rpGlances_ok v_l l _ s_l) ?_
  rintro _ h1 ⟨rfl, eh1⟩
  have E2 := (Ext.refl h).trans eh1
  have z3 := eh1.size
  refine s_pure (.bool (!(decide (GlOk l)))) (fun _ q => q) ?_
  refine s_nil ?_
  refine p_seqN ?_
  refine v_cond rfl (fun c4 => ?_) (fun c4 => ?_)
  ·
    refine v_seq ?_
    refine v_ops ?_
    refine s_pure (.slice none 0 0) (fun _ q => q) ?_
    refine s_pure (.bool false) (fun _ q => q) ?_
    refine s_nil ?_
    refine p_seqN ?_
    refine v_ret ?_
    refine p_seqR ?_
    refine p_ret [.slice none 0 0, .bool false] (.tuple #[.slice none 0 0, .bool false]) (fun _ q => q) rfl ?_
    have ho : ugOut l = ([], false) := by first | exact ug_no (by assumption) | (rw [ugOut, if_pos (by assumption), take_all (by assumption)])
    exact ⟨(.slice none 0 0), by first | (rw [ho]; done) | rfl, sl_eq (SlX.nil (α := Int) true _) (congrArg (fun o => o.1) ho).symm, Fr.nil _, E2⟩
  ·
    have c4 := Classical.not_not.1 c4
    refine v_skip ?_
    refine p_seqN ?_
    refine v_seq ?_
    refine v_ops ?_
    refine s_pure (.slice none 0 0) (fun _ q => q) ?_
    refine s_nil ?_
    refine p_seqN ?_
    refine v_seq ?_
    refine v_ops ?_
    refine s_call [] rfl (spec_rpNew_ok  _ ) ?_
    rintro _ h6 ⟨r5, rfl, s_r5, fr_r5, eh6⟩
    have E7 := E2.trans eh6
    have z8 := eh6.size
    have lt_r5 := s_r5.lt
    refine s_new (fun h10 b9 hbb9 hzb9 eh10 bxb9 => ?_)
    have E11 := E7.trans eh10
    have z12 := eh10.size
    have lbb9 := bxb9.lt
    refine s_stBx (.agg #[.int .i64 rz.phase, .int .i64 rz.holds, .int .i64 rz.again, .int .i64 rz.shown, r5]) [.int .i64 rz.phase, .int .i64 rz.holds, .int .i64 rz.again, .int .i64 rz.shown, r5] [.int .i64 rz.phase, .int .i64 rz.holds, .int .i64 rz.again, .int .i64 rz.shown, r5] bxb9 rfl rfl rfl rfl (by simp) (all_cons rfl (all_cons rfl (all_cons rfl (all_cons rfl (all_cons s_r5.one1 all_nil))))) rfl (fun h13 mh13 sh13 bxx14 => ?_)
    have E15 := E11.mod mh13 (fun b hb => by simp at hb; omega)
    refine s_nil ?_
    refine p_seqN ?_
    refine v_seq ?_
    refine v_seq ?_
    refine v_ops ?_
    refine s_pure v_l (fun _ q => q) ?_
    refine s_pure (.int .i64 (l.length : Int)) (fun _ q => s_l.lenVC q) ?_
    refine s_pure (.int .i64 0) (fun _ q => q) ?_
    refine s_nil ?_
    refine p_seqN ?_
    refine v_block ?_
    have f17 := ((s_r5.ext eh10).mod mh13 (fun b hb hc => by simp at hc; have := lt_r5 b hb; omega))
    refine v_loop4 (α := Nat) (β := RepP) (γ := Value) (δ := Value) (fun k r v o => [(4, o), (5, .pointer (some ⟨b9, 0, none⟩)), (13, v_l), (14, .int .i64 (l.length : Int)), (15, .int .i64 (k : Int))]) (fun k r v o hh => Ext h hh ∧ Bx hh b9 [.int .i64 r.phase, .int .i64 r.holds, .int .i64 r.again, .int .i64 r.shown, v] 27 ∧ SlO hh o (useful rz (l.take k)) ∧ Fr h.size o ∧ SlO hh v r.passed ∧ Fr h.size v ∧ b9 ∉ blks v ∧ (∀ b ∈ blks o, b ∉ blks v) ∧ b9 ∉ blks o ∧ k ≤ l.length ∧ r = run rz (l.take k)) (fun k r v o => l.length - k) 0 rz r5 (.slice none 0 0) ⟨rfl, rfl, rfl, rfl, rfl⟩ ⟨E15, bxx14, (sl_eq (SlX.nil (α := Int) true h13) (by simp [shown, useful])), (Fr.nil _), (sl_eq f17 (by simp [shown, useful])), (fr_r5.mono (by omega)), (fun hc => by have := lt_r5 _ hc; omega), (fun b hb hc => by simp [blks] at hb), (by simp [blks]), (by exact ⟨by omega, rfl⟩)⟩ ?_
    rintro k r v o R18 h16 ⟨Eh, bxb9, s_o, fr_o, s_v, fr_v, np_b9_v, np_o_v, np_b9_o, ⟨hk, hr⟩⟩
    have zEh := Eh.size
    have f19 := s_l.ext Eh
    have lbb9 := bxb9.lt
    have lt_v := s_v.lt
    have lt_o := s_o.lt
    have hi : RInv r := by rw [hr]; exact run_inv RInv.zero _
    have hl : r.passed.length ≤ l.length := by (have := run_len rz (l.take k)); rw [← hr] at this; simp at this; omega
    have ha := hi.a
    have gok := GlOk.len (by assumption : GlOk l)
    have hwl := useful_len rz (l.take k)
    simp only [List.length_take] at hwl
    refine v_seq ?_
    refine v_ops ?_
    refine s_pure (.bool (decide ((k : Int) < (l.length : Int)))) (fun _ q => q) ?_
    refine s_nil ?_
    refine p_seqN ?_
    refine v_seq ?_
    refine v_cond rfl (fun c20 => ?_) (fun c20 => ?_)
    ·
      refine v_skip ?_
      refine p_seqN ?_
      refine v_seq ?_
      refine v_block ?_
      refine v_seq ?_
      refine v_ops ?_
      refine s_pure (.int .i64 (k : Int)) (fun _ q => q) ?_
      have hk21 : k < l.length := (by first | omega | (simp; omega))
      obtain ⟨x22, hx22⟩ : ∃ x, l[k]? = some x := ⟨_, List.getElem?_eq_getElem hk21⟩
      refine s_pure (.pointer (some ⟨sblk v_l, soff v_l + k * 2, none⟩)) (fun _ q => f19.idx (k := k) rfl hk21 q) ?_
      refine s_load (.agg #[.bool x22.next, .int .i64 x22.signal]) (fun _ q => f19.loadN hx22 rfl q) ?_
      refine s_new (fun h24 b23 hbb23 hzb23 eh24 bxb23 => ?_)
      have E25 := Eh.trans eh24
      have z26 := eh24.size
      have lbb23 := bxb23.lt
      refine s_pure (.int .i64 (k : Int)) (fun _ q => q) ?_
      refine s_stBx (.agg #[.bool x22.next, .int .i64 x22.signal]) [.bool x22.next, .int .i64 x22.signal] [.bool x22.next, .int .i64 x22.signal] bxb23 rfl rfl rfl rfl (by simp) (all_cons rfl (all_cons rfl all_nil)) rfl (fun h27 mh27 sh27 bxx28 => ?_)
      have E29 := E25.mod mh27 (fun b hb => by simp at hb; omega)
      refine s_nil ?_
      refine p_seqN ?_
      refine v_seq ?_
      refine v_ops ?_
      have f30 := ((bxb9.ext eh24).mod mh27 (by simp; omega))
      refine s_load (.agg #[.int .i64 r.phase, .int .i64 r.holds, .int .i64 r.again, .int .i64 r.shown, v]) (fun _ q => f30.loadA rfl q) ?_
      refine s_load (.agg #[.bool x22.next, .int .i64 x22.signal]) (fun _ q => bxx28.loadA rfl q) ?_
      have f31 := ((s_v.ext eh24).mod mh27 (fun b hb hc => by simp at hc; have := lt_v b hb; omega))
      refine s_call [.agg #[.int .i64 r.phase, .int .i64 r.holds, .int .i64 r.again, .int .i64 r.shown, v], .agg #[.bool x22.next, .int .i64 x22.signal]] rfl (spec_rpStep_ok r v x22 _ f31.toSl (by first | omega | assumption | (simp; omega)) (by first | omega | assumption | (simp; omega))) ?_
      rintro _ h33 ⟨r32, rfl, s_r32, fr_r32, eh33⟩
      have E34 := E29.trans eh33
      have z35 := eh33.size
      have lt_r32 := s_r32.lt
      refine s_new (fun h37 b36 hbb36 hzb36 eh37 bxb36 => ?_)
      have E38 := E34.trans eh37
      have z39 := eh37.size
      have lbb36 := bxb36.lt
      refine s_stBx (.agg #[.int .i64 (((gl r x22).1).phase), .int .i64 (((gl r x22).1).holds), .int .i64 (((gl r x22).1).again), .int .i64 (((gl r x22).1).shown), r32]) [.int .i64 (((gl r x22).1).phase), .int .i64 (((gl r x22).1).holds), .int .i64 (((gl r x22).1).again), .int .i64 (((gl r x22).1).shown), r32] [.int .i64 (((gl r x22).1).phase), .int .i64 (((gl r x22).1).holds), .int .i64 (((gl r x22).1).again), .int .i64 (((gl r x22).1).shown), r32] bxb36 rfl rfl rfl rfl (by simp) (all_cons rfl (all_cons rfl (all_cons rfl (all_cons rfl (all_cons s_r32.one1 all_nil))))) rfl (fun h40 mh40 sh40 bxx41 => ?_)
      have E42 := E38.mod mh40 (fun b hb => by simp at hb; omega)
      refine s_nil ?_
      refine p_seqN ?_
      refine v_seq ?_
      refine v_seq ?_
      refine v_ops ?_
      have f43 := (((f30.ext eh33).ext eh37).mod mh40 (by simp; omega))
      refine s_load (.agg #[.int .i64 r.phase, .int .i64 r.holds, .int .i64 r.again, .int .i64 r.shown, v]) (fun _ q => f43.loadA rfl q) ?_
      refine s_load (.agg #[.int .i64 (((gl r x22).1).phase), .int .i64 (((gl r x22).1).holds), .int .i64 (((gl r x22).1).again), .int .i64 (((gl r x22).1).shown), r32]) (fun _ q => bxx41.loadA rfl q) ?_
      have f44 := (((f31.ext eh33).ext eh37).mod mh40 (fun b hb hc => by simp at hc; have := lt_v b hb; omega))
      have f45 := ((s_r32.ext eh37).mod mh40 (fun b hb hc => by simp at hc; have := lt_r32 b hb; omega))
      refine s_call [.agg #[.int .i64 r.phase, .int .i64 r.holds, .int .i64 r.again, .int .i64 r.shown, v], .agg #[.int .i64 (((gl r x22).1).phase), .int .i64 (((gl r x22).1).holds), .int .i64 (((gl r x22).1).again), .int .i64 (((gl r x22).1).shown), r32]] rfl (spec_rpSame_ok r v ((gl r x22).1) r32 _ f44.toSl f45.toSl) ?_
      rintro _ h46 ⟨rfl, eh46⟩
      have E47 := E42.trans eh46
      have z48 := eh46.size
      refine s_pure (.bool (!decide (r.same ((gl r x22).1)))) (fun _ q => q) ?_
      refine s_nil ?_
      refine p_seqN ?_
      refine v_cond rfl (fun c49 => ?_) (fun c49 => ?_)
      ·
        refine v_ops ?_
        refine s_pure o (fun _ q => q) ?_
        refine s_pure (.int .i64 (k : Int)) (fun _ q => q) ?_
        refine s_row (α := Int) [(k : Int)] (fun _ q => seg_i rfl (seg_nil q)) rfl (by simp [maxLen]) (fun r50 h51 eh51 zh51 s_r50 fr_r50 => ?_)
        have E52 := E47.trans eh51
        have z53 := eh51.size
        have lt_r50 := s_r50.lt
        have f54 := (((((((s_o.ext eh24).mod mh27 (fun b hb hc => by simp at hc; have := lt_o b hb; omega)).ext eh33).ext eh37).mod mh40 (fun b hb hc => by simp at hc; have := lt_o b hb; omega)).ext eh46).ext eh51)
        refine s_app f54 s_r50 rfl rfl rfl (by simp [maxLen]; omega) (by simp; omega) (fun r55 h56 mh56 zh56 s_r55 ab_r55 => ?_)
        have E57 := E52.mod mh56 (fun b hb => by have := fr_o b hb; omega)
        have fr_r55 := fr_o.app ab_r55 (by omega)
        have np58 : ∀ b ∈ blks v, b ∉ blks r55 := fun b hb hc => (ab_r55 _ hc).elim ((fun b hb hc => np_o_v b hc hb) b hb) (fun hc => by have := lt_v b hb; omega)
        have np59 : ∀ b ∈ blks v, b ∉ blks r55 := fun b hb hc => (ab_r55 _ hc).elim ((fun b hb hc => np_o_v b hc hb) b hb) (fun hc => by have := lt_v b hb; omega)
        have np60 : b9 ∉ blks r55 := fun hc => (ab_r55 _ hc).elim np_b9_o (fun hc => by omega)
        have np61 : b23 ∉ blks r55 := fun hc => (ab_r55 _ hc).elim (fun hc => by have := lt_o _ hc; omega) (fun hc => by omega)
        have np62 : ∀ b ∈ blks r32, b ∉ blks r55 := fun b hb hc => (ab_r55 _ hc).elim ((fr_r32.apart' (fun b hb => by have := lt_o b hb; omega)) b hb) (fun hc => by have := lt_r32 b hb; omega)
        have np63 : b36 ∉ blks r55 := fun hc => (ab_r55 _ hc).elim (fun hc => by have := lt_o _ hc; omega) (fun hc => by omega)
        have np64 : ∀ b ∈ blks r50, b ∉ blks r55 := fun b hb hc => (ab_r55 _ hc).elim ((fr_r50.apart' (fun b hb => by have := lt_o b hb; omega)) b hb) (fun hc => by have := lt_r50 b hb; omega)
        have lt_r55 := s_r55.lt
        refine s_pure r55 (fun _ q => q) ?_
        refine s_nil ?_
        refine p_seqN ?_
        refine v_ops ?_
        have f65 := (((bxx41.ext eh46).ext eh51).mod mh56 (fun hc => by have := lt_o _ hc; omega))
        refine s_load (.agg #[.int .i64 (((gl r x22).1).phase), .int .i64 (((gl r x22).1).holds), .int .i64 (((gl r x22).1).again), .int .i64 (((gl r x22).1).shown), r32]) (fun _ q => f65.loadA rfl q) ?_
        have f66 := (((f43.ext eh46).ext eh51).mod mh56 np_b9_o)
        refine s_stBx (.agg #[.int .i64 (((gl r x22).1).phase), .int .i64 (((gl r x22).1).holds), .int .i64 (((gl r x22).1).again), .int .i64 (((gl r x22).1).shown), r32]) [.int .i64 (((gl r x22).1).phase), .int .i64 (((gl r x22).1).holds), .int .i64 (((gl r x22).1).again), .int .i64 (((gl r x22).1).shown), r32] [.int .i64 (((gl r x22).1).phase), .int .i64 (((gl r x22).1).holds), .int .i64 (((gl r x22).1).again), .int .i64 (((gl r x22).1).shown), r32] f66 rfl rfl rfl rfl (by simp) (all_cons rfl (all_cons rfl (all_cons rfl (all_cons rfl (all_cons f45.one1 all_nil))))) rfl (fun h67 mh67 sh67 bxx68 => ?_)
        have E69 := E57.mod mh67 (fun b hb => by simp at hb; omega)
        refine s_nil ?_
        refine p_blkN ?_
        refine p_seqN ?_
        refine v_ops ?_
        refine s_pure (.int .i64 ((k : Int) + 1)) (fun _ q => ArithVC.mk (by omega) q) ?_
        refine s_pure (.int .i64 ((k : Int) + 1)) (fun _ q => q) ?_
        refine s_nil ?_
        have f70 := (s_r55.mod mh67 (fun b hb hc => np60 (by simp at hc; rw [← hc]; exact hb)))
        have f71 := ((((f45.ext eh46).ext eh51).mod mh56 (fr_r32.apart' (fun b hb => by have := lt_o b hb; omega))).mod mh67 (fun b hb hc => by simp at hc; have := fr_r32 b hb; omega))
        exact p_lpN ⟨k + 1, ((gl r x22).1), r32, r55, ⟨rfl, rfl, rfl, rfl, rfl⟩, ⟨E69, bxx68, (sl_eq f70 (by rw [useful_snoc rz (by assumption), ← hr]; first | rw [if_pos (gl_same.2 (by assumption))] | (rw [if_neg (fun hc => gl_same.1 hc (by assumption))]; simp))), (fr_r55.mono (by omega)), (sl_eq f71 (by simp)), (fr_r32.mono (by omega)), (fr_r32.out (by omega)), (fun b hb hc => np62 b hc hb), np60, (by exact ⟨by omega, run_step (by assumption) hr⟩)⟩, by omega⟩
      ·
        have c49 := Classical.not_not.1 c49
        refine v_skip ?_
        refine p_seqN ?_
        refine v_ops ?_
        have f72 := (bxx41.ext eh46)
        refine s_load (.agg #[.int .i64 (((gl r x22).1).phase), .int .i64 (((gl r x22).1).holds), .int .i64 (((gl r x22).1).again), .int .i64 (((gl r x22).1).shown), r32]) (fun _ q => f72.loadA rfl q) ?_
        have f73 := (f43.ext eh46)
        refine s_stBx (.agg #[.int .i64 (((gl r x22).1).phase), .int .i64 (((gl r x22).1).holds), .int .i64 (((gl r x22).1).again), .int .i64 (((gl r x22).1).shown), r32]) [.int .i64 (((gl r x22).1).phase), .int .i64 (((gl r x22).1).holds), .int .i64 (((gl r x22).1).again), .int .i64 (((gl r x22).1).shown), r32] [.int .i64 (((gl r x22).1).phase), .int .i64 (((gl r x22).1).holds), .int .i64 (((gl r x22).1).again), .int .i64 (((gl r x22).1).shown), r32] f73 rfl rfl rfl rfl (by simp) (all_cons rfl (all_cons rfl (all_cons rfl (all_cons rfl (all_cons f45.one1 all_nil))))) rfl (fun h74 mh74 sh74 bxx75 => ?_)
        have E76 := E47.mod mh74 (fun b hb => by simp at hb; omega)
        refine s_nil ?_
        refine p_blkN ?_
        refine p_seqN ?_
        refine v_ops ?_
        refine s_pure (.int .i64 ((k : Int) + 1)) (fun _ q => ArithVC.mk (by omega) q) ?_
        refine s_pure (.int .i64 ((k : Int) + 1)) (fun _ q => q) ?_
        refine s_nil ?_
        have f77 := (((((((s_o.ext eh24).mod mh27 (fun b hb hc => by simp at hc; have := lt_o b hb; omega)).ext eh33).ext eh37).mod mh40 (fun b hb hc => by simp at hc; have := lt_o b hb; omega)).ext eh46).mod mh74 (fun b hb hc => np_b9_o (by simp at hc; rw [← hc]; exact hb)))
        have f78 := ((f45.ext eh46).mod mh74 (fun b hb hc => by simp at hc; have := fr_r32 b hb; omega))
        exact p_lpN ⟨k + 1, ((gl r x22).1), r32, o, ⟨rfl, rfl, rfl, rfl, rfl⟩, ⟨E76, bxx75, (sl_eq f77 (by rw [useful_snoc rz (by assumption), ← hr]; first | rw [if_pos (gl_same.2 (by assumption))] | (rw [if_neg (fun hc => gl_same.1 hc (by assumption))]; simp))), (fr_o.mono (by omega)), (sl_eq f78 (by simp)), (fr_r32.mono (by omega)), (fr_r32.out (by omega)), (fr_r32.apart (fun b hb => by have := lt_o b hb; omega)), np_b9_o, (by exact ⟨by omega, run_step (by assumption) hr⟩)⟩, by omega⟩
    ·
      refine v_exit ?_
      refine p_seqX ?_
      refine p_lpX ?_
      refine p_blkX ?_
      refine p_seqN ?_
      refine v_seq ?_
      refine v_ops ?_
      refine s_pure o (fun _ q => q) ?_
      refine s_pure o (fun _ q => q) ?_
      refine s_pure (.bool true) (fun _ q => q) ?_
      refine s_nil ?_
      refine p_seqN ?_
      refine v_ret ?_
      refine p_ret [o, .bool true] (.tuple #[o, .bool true]) (fun _ q => q) rfl ?_
      have ho : ugOut l = (useful rz (l.take k), true) := by first | exact ug_no (by assumption) | (rw [ugOut, if_pos (by assumption), take_all (by assumption)])
      exact ⟨o, by first | (rw [ho]; done) | rfl, sl_eq s_o (congrArg (fun o => o.1) ho).symm, fr_o.mono (by omega), Eh⟩

end Go.Proofs.Ytgfokmjnfaopaaa
