/- The messages of some packets: the code. Condition: none. Printed in part by a program. -/
import Derived.Test.YtjmcijcdncgaiaaPk8
import Derived.Test.YtjmcijcdncgaiaaSortILay
namespace Go.Proofs.Ytjmcijcdncgaiaa
open Go.Vc
set_option linter.all false
set_option maxRecDepth 10000 in
set_option maxHeartbeats 4000000 in
theorem spec_l1Put_ok (v_l : Value) (l : List Int) (n : Int) (h : Heap) (s_l : SlO h v_l l) (bl : l.length ≤ 1000000) : Cn f_spec_l1Put [v_l, .int .i64 n] h fun v h' => ∃ r0 : Value, v = r0 ∧ SlO h' r0 (putW l n) ∧ Mod (blks v_l) h h' ∧ ∀ b ∈ blks r0, b ∈ (blks v_l) ∨ h.size ≤ b := by
  have lt_l := s_l.lt
  have l63_l := s_l.len63
  refine calls_of r_spec_l1Put ?_
  refine v_seq ?_
  refine v_ops ?_
  refine s_pure (.slice none 0 0) (fun _ q => q) ?_
  refine s_nil ?_
  refine p_seqN ?_
  refine v_seq ?_
  refine v_ops ?_
  refine s_pure (.int .i64 0) (fun _ q => q) ?_
  refine s_nil ?_
  refine p_seqN ?_
  refine v_seq ?_
  refine v_block ?_
  refine v_loop2 (α := Nat) (β := List Int) (fun k ll => [(0, v_l), (1, .int .i64 n), (5, .int .i64 (k : Int))]) (fun k ll hh => Mod (blks v_l) h hh ∧ SlO hh v_l ll ∧ ll = l ∧ k ≤ ll.length ∧ ∀ y ∈ ll.take k, y < n) (fun k ll => l.length - k) 0 l ⟨rfl, rfl, rfl⟩ ⟨(Mod.refl (blks v_l) h), s_l, (by exact ⟨rfl, by simp⟩)⟩ ?_
  rintro k ll R2 h1 ⟨Eh, s_l, ⟨hll, hk, hall⟩⟩
  have zEh := Eh.size
  have lt_l := s_l.lt
  have hlen : ll.length = l.length := by rw [hll]
  refine v_seq ?_
  refine v_seq ?_
  refine v_ops ?_
  refine s_pure (.int .i64 (k : Int)) (fun _ q => q) ?_
  refine s_pure v_l (fun _ q => q) ?_
  refine s_pure (.int .i64 (ll.length : Int)) (fun _ q => s_l.lenVC q) ?_
  refine s_pure (.bool (decide ((k : Int) < (ll.length : Int)))) (fun _ q => q) ?_
  refine s_pure (.bool (decide ((k : Int) < (ll.length : Int)))) (fun _ q => q) ?_
  refine s_splitT rfl (fun c3 => ?_) (fun c3 => ?_)
  ·
    refine s_run rfl ?_
    refine s_pure v_l (fun _ q => q) ?_
    refine s_run rfl ?_
    refine s_pure (.int .i64 (k : Int)) (fun _ q => q) ?_
    refine s_run rfl ?_
    have hk4 : k < ll.length := (by first | omega | (simp; omega))
    obtain ⟨x5, hx5⟩ : ∃ x, ll[k]? = some x := ⟨_, List.getElem?_eq_getElem hk4⟩
    refine s_pure (.pointer (some ⟨sblk v_l, soff v_l + k * 1, none⟩)) (fun _ q => s_l.idx (k := k) rfl hk4 q) ?_
    refine s_run rfl ?_
    refine s_load (.int .i64 x5) (fun _ q => s_l.load1 hx5 rfl q) ?_
    refine s_run rfl ?_
    refine s_pure (.int .i64 n) (fun _ q => q) ?_
    refine s_run rfl ?_
    refine s_pure (.bool (decide (x5 < n))) (fun _ q => q) ?_
    refine s_pure (.bool (decide (x5 < n))) (fun _ q => q) ?_
    refine s_nil ?_
    refine p_seqN ?_
    refine v_cond rfl (fun c6 => ?_) (fun c6 => ?_)
    ·
      refine v_skip ?_
      refine p_seqN ?_
      refine v_block ?_
      refine v_ops ?_
      refine s_pure (.int .i64 (k : Int)) (fun _ q => q) ?_
      refine s_pure (.int .i64 ((k : Int) + 1)) (fun _ q => ArithVC.mk (by omega) q) ?_
      refine s_pure (.int .i64 ((k : Int) + 1)) (fun _ q => q) ?_
      refine s_nil ?_
      refine p_blkN ?_
      exact p_lpN ⟨k + 1, ll, ⟨rfl, rfl, rfl⟩, ⟨Eh, (sl_eq s_l rfl), (by exact ⟨hll, by omega, all_lt_snoc hall (by assumption) (by assumption)⟩)⟩, by omega⟩
    ·
      refine v_exit ?_
      refine p_seqX ?_
      refine p_lpX ?_
      refine p_blkX ?_
      refine p_seqN ?_
      refine v_seq ?_
      refine v_seq ?_
      refine v_ops ?_
      refine s_pure (.int .i64 (k : Int)) (fun _ q => q) ?_
      refine s_pure v_l (fun _ q => q) ?_
      refine s_pure (.int .i64 (ll.length : Int)) (fun _ q => s_l.lenVC q) ?_
      refine s_pure (.bool (decide ((k : Int) < (ll.length : Int)))) (fun _ q => q) ?_
      refine s_pure (.bool (decide ((k : Int) < (ll.length : Int)))) (fun _ q => q) ?_
      refine s_splitY rfl (by first | assumption | omega | (simp; done) | (simp; omega) | simp_all) ?_
      refine s_run rfl ?_
      refine s_pure v_l (fun _ q => q) ?_
      refine s_run rfl ?_
      refine s_pure (.int .i64 (k : Int)) (fun _ q => q) ?_
      refine s_run rfl ?_
      refine s_pure (.pointer (some ⟨sblk v_l, soff v_l + k * 1, none⟩)) (fun _ q => s_l.idx (k := k) rfl hk4 q) ?_
      refine s_run rfl ?_
      refine s_load (.int .i64 x5) (fun _ q => s_l.load1 hx5 rfl q) ?_
      refine s_run rfl ?_
      refine s_pure (.int .i64 n) (fun _ q => q) ?_
      refine s_run rfl ?_
      refine s_pure (.bool (x5 == n)) (fun _ q => q) ?_
      refine s_pure (.bool (x5 == n)) (fun _ q => q) ?_
      refine s_nil ?_
      refine p_seqN ?_
      refine v_cond rfl (fun c7 => ?_) (fun c7 => ?_)
      ·
        refine v_seq ?_
        refine v_ops ?_
        refine s_pure v_l (fun _ q => q) ?_
        refine s_pure v_l (fun _ q => q) ?_
        refine s_nil ?_
        refine p_seqN ?_
        refine v_ret ?_
        refine p_seqR ?_
        refine p_ret [v_l] v_l (fun _ q => q) rfl ?_
        have ho : putW l n = ll := by subst hll; first | exact put_there hall (by assumption) (by assumption) (by assumption) | (rw [put_in hall (by assumption) (by assumption) (by assumption)]; simp; done) | (rw [put_end hall hk (by assumption)]; simp; done)
        exact ⟨v_l, by first | (rw [ho]; done) | rfl, sl_eq s_l (congrArg (fun o => o) ho).symm, Eh, (fun b hb => Or.inl hb)⟩
      ·
        refine v_skip ?_
        refine p_seqN ?_
        refine v_seq ?_
        refine v_ops ?_
        refine s_row (α := Int) [] (fun _ q => seg_nil q) rfl (by simp [maxLen]) (fun r8 h9 eh9 zh9 s_r8 fr_r8 => ?_)
        have E10 := Eh.trans (Mod.of_ext eh9 _)
        have z11 := eh9.size
        have lt_r8 := s_r8.lt
        refine s_pure v_l (fun _ q => q) ?_
        refine s_pure (.int .i64 (k : Int)) (fun _ q => q) ?_
        have f12 := (s_l.ext eh9)
        obtain ⟨r13, hqr13, s_r13, bk_r13⟩ := f12.toSl.slc (l := 0) (m := k) (by first | omega | (simp; omega)) (by first | omega | (simp; omega))
        simp only [List.drop_zero] at s_r13
        have lt_r13 := s_r13.lt
        refine s_pure r13 (fun K q => hqr13 _ rfl none (some (.int .i64 (k : Int))) rfl ⟨_, _, rfl, rfl⟩ K q) ?_
        refine s_app s_r8 s_r13 rfl rfl rfl (by simp [maxLen]; omega) (by simp; omega) (fun r14 h15 mh15 zh15 s_r14 ab_r14 => ?_)
        have E16 := E10.new mh15 (fun b hb => .inr (by have := fr_r8 b hb; omega))
        have fr_r14 := fr_r8.app ab_r14 (by omega)
        have lt_r14 := s_r14.lt
        refine s_pure r14 (fun _ q => q) ?_
        refine s_nil ?_
        refine p_seqN ?_
        refine v_seq ?_
        refine v_ops ?_
        refine s_pure r14 (fun _ q => q) ?_
        refine s_pure (.int .i64 n) (fun _ q => q) ?_
        refine s_row (α := Int) [n] (fun _ q => seg_i rfl (seg_nil q)) rfl (by simp [maxLen]) (fun r17 h18 eh18 zh18 s_r17 fr_r17 => ?_)
        have E19 := E16.trans (Mod.of_ext eh18 _)
        have z20 := eh18.size
        have lt_r17 := s_r17.lt
        have f21 := (s_r14.ext eh18)
        refine s_app f21 s_r17 rfl rfl rfl (by simp [maxLen]; omega) (by simp; omega) (fun r22 h23 mh23 zh23 s_r22 ab_r22 => ?_)
        have E24 := E19.new mh23 (fun b hb => .inr (by have := fr_r14 b hb; omega))
        have fr_r22 := fr_r14.app ab_r22 (by omega)
        have np25 : ∀ b ∈ blks r17, b ∉ blks r22 := fun b hb hc => (ab_r22 _ hc).elim (((fun b hb hc => by have := fr_r17 b hb; have := lt_r14 b hc; omega) : ∀ b ∈ blks r17, b ∉ blks r14) b hb) (fun hc => by have := lt_r17 b hb; omega)
        have lt_r22 := s_r22.lt
        refine s_pure r22 (fun _ q => q) ?_
        refine s_nil ?_
        refine p_seqN ?_
        refine v_seq ?_
        refine v_ops ?_
        refine s_pure r22 (fun _ q => q) ?_
        refine s_pure v_l (fun _ q => q) ?_
        refine s_pure (.int .i64 (k : Int)) (fun _ q => q) ?_
        have f26 := (((f12.mod mh15 (fun b hb hc => by have := lt_l b hb; have := fr_r8 b hc; omega)).ext eh18).mod mh23 (fun b hb hc => by have := lt_l b hb; have := fr_r14 b hc; omega))
        obtain ⟨r27, hqr27, s_r27, bk_r27⟩ := f26.toSl.slc (l := k) (m := ll.length) (by first | omega | (simp; omega)) (by first | omega | (simp; omega))
        have lt_r27 := s_r27.lt
        refine s_pure r27 (fun K q => hqr27 _ rfl (some (.int .i64 (k : Int))) none ⟨_, _, rfl, rfl⟩ rfl K q) ?_
        refine s_app s_r22 s_r27 rfl rfl rfl (by simp [maxLen]; omega) (by simp; omega) (fun r28 h29 mh29 zh29 s_r28 ab_r28 => ?_)
        have E30 := E24.new mh29 (fun b hb => .inr (by have := fr_r22 b hb; omega))
        have fr_r28 := fr_r22.app ab_r28 (by omega)
        have np31 : ∀ b ∈ blks r17, b ∉ blks r28 := fun b hb hc => (ab_r28 _ hc).elim ((np25 : ∀ b ∈ blks r17, b ∉ blks r22) b hb) (fun hc => by have := lt_r17 b hb; omega)
        have np32 : ∀ b ∈ blks r17, b ∉ blks r28 := fun b hb hc => (ab_r28 _ hc).elim ((np25 : ∀ b ∈ blks r17, b ∉ blks r22) b hb) (fun hc => by have := lt_r17 b hb; omega)
        have lt_r28 := s_r28.lt
        refine s_pure r28 (fun _ q => q) ?_
        refine s_nil ?_
        refine p_seqN ?_
        refine v_ret ?_
        refine p_ret [r28] r28 (fun _ q => q) rfl ?_
        have ho : putW l n = ((([] ++ ll.take k) ++ [n]) ++ (ll.take ll.length).drop k) := by subst hll; first | exact put_there hall (by assumption) (by assumption) (by assumption) | (rw [put_in hall (by assumption) (by assumption) (by assumption)]; simp; done) | (rw [put_end hall hk (by assumption)]; simp; done)
        exact ⟨r28, by first | (rw [ho]; done) | rfl, sl_eq s_r28 (congrArg (fun o => o) ho).symm, E30, (fun b hb => Or.inr (fr_r28.mono (by omega) b hb))⟩
  ·
    refine s_pass rfl ?_
    refine s_pass rfl ?_
    refine s_pass rfl ?_
    refine s_pass rfl ?_
    refine s_pass rfl ?_
    refine s_pass rfl ?_
    refine s_pure (.bool false) (fun _ q => q) ?_
    refine s_nil ?_
    refine p_seqN ?_
    refine v_condN rfl (by simp) ?_
    refine v_exit ?_
    refine p_seqX ?_
    refine p_lpX ?_
    refine p_blkX ?_
    refine p_seqN ?_
    refine v_seq ?_
    refine v_seq ?_
    refine v_ops ?_
    refine s_pure (.int .i64 (k : Int)) (fun _ q => q) ?_
    refine s_pure v_l (fun _ q => q) ?_
    refine s_pure (.int .i64 (ll.length : Int)) (fun _ q => s_l.lenVC q) ?_
    refine s_pure (.bool (decide ((k : Int) < (ll.length : Int)))) (fun _ q => q) ?_
    refine s_pure (.bool (decide ((k : Int) < (ll.length : Int)))) (fun _ q => q) ?_
    refine s_splitN rfl (by first | assumption | omega | (simp; done) | (simp; omega) | simp_all) ?_
    refine s_pass rfl ?_
    refine s_pass rfl ?_
    refine s_pass rfl ?_
    refine s_pass rfl ?_
    refine s_pass rfl ?_
    refine s_pass rfl ?_
    refine s_pure (.bool false) (fun _ q => q) ?_
    refine s_nil ?_
    refine p_seqN ?_
    refine v_condN rfl (by simp) ?_
    refine v_skip ?_
    refine p_seqN ?_
    refine v_seq ?_
    refine v_ops ?_
    refine s_row (α := Int) [] (fun _ q => seg_nil q) rfl (by simp [maxLen]) (fun r33 h34 eh34 zh34 s_r33 fr_r33 => ?_)
    have E35 := Eh.trans (Mod.of_ext eh34 _)
    have z36 := eh34.size
    have lt_r33 := s_r33.lt
    refine s_pure v_l (fun _ q => q) ?_
    refine s_pure (.int .i64 (k : Int)) (fun _ q => q) ?_
    have f37 := (s_l.ext eh34)
    obtain ⟨r38, hqr38, s_r38, bk_r38⟩ := f37.toSl.slc (l := 0) (m := k) (by first | omega | (simp; omega)) (by first | omega | (simp; omega))
    simp only [List.drop_zero] at s_r38
    have lt_r38 := s_r38.lt
    refine s_pure r38 (fun K q => hqr38 _ rfl none (some (.int .i64 (k : Int))) rfl ⟨_, _, rfl, rfl⟩ K q) ?_
    refine s_app s_r33 s_r38 rfl rfl rfl (by simp [maxLen]; omega) (by simp; omega) (fun r39 h40 mh40 zh40 s_r39 ab_r39 => ?_)
    have E41 := E35.new mh40 (fun b hb => .inr (by have := fr_r33 b hb; omega))
    have fr_r39 := fr_r33.app ab_r39 (by omega)
    have lt_r39 := s_r39.lt
    refine s_pure r39 (fun _ q => q) ?_
    refine s_nil ?_
    refine p_seqN ?_
    refine v_seq ?_
    refine v_ops ?_
    refine s_pure r39 (fun _ q => q) ?_
    refine s_pure (.int .i64 n) (fun _ q => q) ?_
    refine s_row (α := Int) [n] (fun _ q => seg_i rfl (seg_nil q)) rfl (by simp [maxLen]) (fun r42 h43 eh43 zh43 s_r42 fr_r42 => ?_)
    have E44 := E41.trans (Mod.of_ext eh43 _)
    have z45 := eh43.size
    have lt_r42 := s_r42.lt
    have f46 := (s_r39.ext eh43)
    refine s_app f46 s_r42 rfl rfl rfl (by simp [maxLen]; omega) (by simp; omega) (fun r47 h48 mh48 zh48 s_r47 ab_r47 => ?_)
    have E49 := E44.new mh48 (fun b hb => .inr (by have := fr_r39 b hb; omega))
    have fr_r47 := fr_r39.app ab_r47 (by omega)
    have np50 : ∀ b ∈ blks r42, b ∉ blks r47 := fun b hb hc => (ab_r47 _ hc).elim (((fun b hb hc => by have := fr_r42 b hb; have := lt_r39 b hc; omega) : ∀ b ∈ blks r42, b ∉ blks r39) b hb) (fun hc => by have := lt_r42 b hb; omega)
    have lt_r47 := s_r47.lt
    refine s_pure r47 (fun _ q => q) ?_
    refine s_nil ?_
    refine p_seqN ?_
    refine v_seq ?_
    refine v_ops ?_
    refine s_pure r47 (fun _ q => q) ?_
    refine s_pure v_l (fun _ q => q) ?_
    refine s_pure (.int .i64 (k : Int)) (fun _ q => q) ?_
    have f51 := (((f37.mod mh40 (fun b hb hc => by have := lt_l b hb; have := fr_r33 b hc; omega)).ext eh43).mod mh48 (fun b hb hc => by have := lt_l b hb; have := fr_r39 b hc; omega))
    obtain ⟨r52, hqr52, s_r52, bk_r52⟩ := f51.toSl.slc (l := k) (m := ll.length) (by first | omega | (simp; omega)) (by first | omega | (simp; omega))
    have lt_r52 := s_r52.lt
    refine s_pure r52 (fun K q => hqr52 _ rfl (some (.int .i64 (k : Int))) none ⟨_, _, rfl, rfl⟩ rfl K q) ?_
    refine s_app s_r47 s_r52 rfl rfl rfl (by simp [maxLen]; omega) (by simp; omega) (fun r53 h54 mh54 zh54 s_r53 ab_r53 => ?_)
    have E55 := E49.new mh54 (fun b hb => .inr (by have := fr_r47 b hb; omega))
    have fr_r53 := fr_r47.app ab_r53 (by omega)
    have np56 : ∀ b ∈ blks r42, b ∉ blks r53 := fun b hb hc => (ab_r53 _ hc).elim ((np50 : ∀ b ∈ blks r42, b ∉ blks r47) b hb) (fun hc => by have := lt_r42 b hb; omega)
    have np57 : ∀ b ∈ blks r42, b ∉ blks r53 := fun b hb hc => (ab_r53 _ hc).elim ((np50 : ∀ b ∈ blks r42, b ∉ blks r47) b hb) (fun hc => by have := lt_r42 b hb; omega)
    have lt_r53 := s_r53.lt
    refine s_pure r53 (fun _ q => q) ?_
    refine s_nil ?_
    refine p_seqN ?_
    refine v_ret ?_
    refine p_ret [r53] r53 (fun _ q => q) rfl ?_
    have ho : putW l n = ((([] ++ ll.take k) ++ [n]) ++ (ll.take ll.length).drop k) := by subst hll; first | exact put_there hall (by assumption) (by assumption) (by assumption) | (rw [put_in hall (by assumption) (by assumption) (by assumption)]; simp; done) | (rw [put_end hall hk (by assumption)]; simp; done)
    exact ⟨r53, by first | (rw [ho]; done) | rfl, sl_eq s_r53 (congrArg (fun o => o) ho).symm, E55, (fun b hb => Or.inr (fr_r53.mono (by omega) b hb))⟩

theorem impl_MessagesIn_ok (v_l : Value) (l : List Pk) (d_l : List (PkP)) (h : Heap) (s_l : Sl h v_l l) (in_l : ∀ p ∈ l, Sl h p.sv.v p.sig) (hd_l : l.map Pk.p = d_l) : Cn f_impl_MessagesIn [v_l] h fun v h' => ∃ r0 : Value, v = .tuple #[r0, .bool ((msgOut d_l).2)] ∧ SlO h' r0 ((msgOut d_l).1) ∧ Fr h.size r0 ∧ Ext h h' := by
  subst hd_l
  have lt_l := s_l.lt
  have l63_l := s_l.len63
  have inlt_l := fun p hp => (in_l p hp).lt
  refine calls_of r_impl_MessagesIn ?_
  refine v_seq ?_
  refine v_ops ?_
  refine s_pure (.slice none 0 0) (fun _ q => q) ?_
  refine s_pure (.bool false) (fun _ q => q) ?_
  refine s_nil ?_
  refine p_seqN ?_
  refine v_seq ?_
  refine v_seq ?_
  refine v_ops ?_
  refine s_pure v_l (fun _ q => q) ?_
  refine s_call [v_l] rfl (impl_ArePackets_ok v_l l (l.map Pk.p) _ s_l in_l rfl) ?_
  rintro _ h1 ⟨rfl, eh1⟩
  have E2 := (Ext.refl h).trans eh1
  have z3 := eh1.size
  refine s_pure (.bool (!decide (PksOk (l.map Pk.p)))) (fun _ q => q) ?_
  refine s_nil ?_
  refine p_seqN ?_
  refine v_cond rfl (fun c4 => ?_) (fun c4 => ?_)
  ·
    refine v_seq ?_
    refine v_ops ?_
    refine s_pure (.slice none 0 0) (fun _ q => q) ?_
    refine s_pure (.bool false) (fun _ q => q) ?_
    refine s_nil ?_
    refine p_seqN ?_
    refine v_ret ?_
    refine p_seqR ?_
    refine p_ret [.slice none 0 0, .bool false] (.tuple #[.slice none 0 0, .bool false]) (fun _ q => q) rfl ?_
    have ho : msgOut (l.map Pk.p) = ([], false) := by first | exact msg_no (by assumption) | exact (msg_sort (by assumption) (ho.trans (by rw [take_all (by assumption)]))).symm
    exact ⟨(.slice none 0 0), by first | (rw [ho]; done) | rfl, sl_eq (SlX.nil (α := Int) true _) (congrArg (fun o => o.1) ho).symm, Fr.nil _, E2⟩
  ·
    have c4 := Classical.not_not.1 c4
    refine v_skip ?_
    refine p_seqN ?_
    refine v_seq ?_
    refine v_ops ?_
    refine s_pure (.slice none 0 0) (fun _ q => q) ?_
    refine s_nil ?_
    refine p_seqN ?_
    refine v_seq ?_
    refine v_seq ?_
    refine v_ops ?_
    refine s_pure v_l (fun _ q => q) ?_
    refine s_pure (.int .i64 (l.length : Int)) (fun _ q => s_l.lenVC q) ?_
    refine s_pure (.int .i64 0) (fun _ q => q) ?_
    refine s_nil ?_
    refine p_seqN ?_
    refine v_block ?_
    have hl40 : l.length ≤ 40 := by (have h4 := (by assumption : PksOk (l.map Pk.p)).1); simpa using h4
    refine v_loop3 (α := Nat) (β := List Int) (γ := Value) (fun k o w => [(4, w), (10, v_l), (11, .int .i64 (l.length : Int)), (12, .int .i64 (k : Int))]) (fun k o w hh => Ext h hh ∧ SlO hh w o ∧ Fr h.size w ∧ k ≤ l.length ∧ o = (l.take k).map Pk.message) (fun k o w => l.length - k) 0 [] (.slice none 0 0) ⟨rfl, rfl, rfl, rfl⟩ ⟨E2, (sl_eq (SlX.nil (α := Int) true h1) (by simp)), (Fr.nil _), (by simp)⟩ ?_
    rintro k o w R6 h5 ⟨Eh, s_w, fr_w, ⟨hk, ho⟩⟩
    have zEh := Eh.size
    have f7 := s_l.ext Eh
    have in8 := fun p hp => (in_l p hp).ext Eh
    have lt_w := s_w.lt
    have hol : o.length ≤ l.length := by (rw [ho]; simp; omega)
    refine v_seq ?_
    refine v_ops ?_
    refine s_pure (.bool (decide ((k : Int) < (l.length : Int)))) (fun _ q => q) ?_
    refine s_nil ?_
    refine p_seqN ?_
    refine v_seq ?_
    refine v_cond rfl (fun c9 => ?_) (fun c9 => ?_)
    ·
      refine v_skip ?_
      refine p_seqN ?_
      refine v_seq ?_
      refine v_block ?_
      refine v_seq ?_
      refine v_ops ?_
      have hk10 : k < l.length := (by first | omega | (simp; omega))
      obtain ⟨x11, hx11⟩ : ∃ x, l[k]? = some x := ⟨_, List.getElem?_eq_getElem hk10⟩
      refine s_pure (.pointer (some ⟨sblk v_l, soff v_l + k * 4, none⟩)) (fun _ q => f7.idx (k := k) rfl hk10 q) ?_
      have s12 := in8 x11 (List.mem_of_getElem? hx11)
      refine s_load (.agg #[.int .i64 x11.message, .int .i64 x11.part, .int .i64 x11.parts, x11.sv.v]) (fun _ q => f7.loadN hx11 rfl q) ?_
      refine s_new (fun h14 b13 hbb13 hzb13 eh14 bxb13 => ?_)
      have E15 := Eh.trans eh14
      have z16 := eh14.size
      have lbb13 := bxb13.lt
      refine s_stBx (.agg #[.int .i64 x11.message, .int .i64 x11.part, .int .i64 x11.parts, x11.sv.v]) [.int .i64 x11.message, .int .i64 x11.part, .int .i64 x11.parts, x11.sv.v] [.int .i64 x11.message, .int .i64 x11.part, .int .i64 x11.parts, x11.sv.v] bxb13 rfl rfl rfl rfl (by simp) (all_cons rfl (all_cons rfl (all_cons rfl (all_cons s12.one1 all_nil)))) rfl (fun h17 mh17 sh17 bxx18 => ?_)
      have E19 := E15.mod mh17 (fun b hb => by simp at hb; omega)
      refine s_nil ?_
      refine p_seqN ?_
      refine v_ops ?_
      refine s_pure w (fun _ q => q) ?_
      refine s_pure (.pointer (some ⟨b13, 0, none⟩)) (fun _ q => q) ?_
      refine s_load (.int .i64 x11.message) (fun _ q => bxx18.load rfl q) ?_
      refine s_row (α := Int) [x11.message] (fun _ q => seg_i rfl (seg_nil q)) rfl (by simp [maxLen]) (fun r20 h21 eh21 zh21 s_r20 fr_r20 => ?_)
      have E22 := E19.trans eh21
      have z23 := eh21.size
      have lt_r20 := s_r20.lt
      have f24 := (((s_w.ext eh14).mod mh17 (fun b hb hc => by simp at hc; have := lt_w b hb; omega)).ext eh21)
      refine s_app f24 s_r20 rfl rfl rfl (by simp [maxLen]; omega) (by simp; omega) (fun r25 h26 mh26 zh26 s_r25 ab_r25 => ?_)
      have E27 := E22.mod mh26 (fun b hb => by have := fr_w b hb; omega)
      have fr_r25 := fr_w.app ab_r25 (by omega)
      have np28 : b13 ∉ blks r25 := fun hc => (ab_r25 _ hc).elim (fun hc => by have := lt_w _ hc; omega) (fun hc => by omega)
      have np29 : ∀ b ∈ blks r20, b ∉ blks r25 := fun b hb hc => (ab_r25 _ hc).elim (((fun b hb hc => by have := fr_r20 b hb; have := lt_w b hc; omega) : ∀ b ∈ blks r20, b ∉ blks w) b hb) (fun hc => by have := lt_r20 b hb; omega)
      have lt_r25 := s_r25.lt
      refine s_pure r25 (fun _ q => q) ?_
      refine s_nil ?_
      refine p_blkN ?_
      refine p_seqN ?_
      refine v_ops ?_
      refine s_pure (.int .i64 ((k : Int) + 1)) (fun _ q => ArithVC.mk (by omega) q) ?_
      refine s_pure (.int .i64 ((k : Int) + 1)) (fun _ q => q) ?_
      refine s_nil ?_
      exact p_lpN ⟨k + 1, (o ++ [x11.message]), r25, ⟨rfl, rfl, rfl, rfl⟩, ⟨E27, (sl_eq s_r25 (by simp)), (fr_r25.mono (by omega)), (by exact ⟨by omega, msg_step ho (by assumption)⟩)⟩, by omega⟩
    ·
      refine v_exit ?_
      refine p_seqX ?_
      refine p_lpX ?_
      refine p_blkX ?_
      refine p_seqN ?_
      refine v_seq ?_
      refine v_ops ?_
      refine s_pure w (fun _ q => q) ?_
      refine s_call [w] rfl (slices_Sort_ok w o _ s_w (by omega)) ?_
      rintro _ h30 ⟨rfl, s31, mh30⟩
      have zh30 := mh30.size
      have E32 := Eh.mod mh30 (fun b hb => by have := fr_w b hb; omega)
      refine s_nil ?_
      refine p_seqN ?_
      refine v_seq ?_
      refine v_ops ?_
      refine s_pure w (fun _ q => q) ?_
      refine s_call [w] rfl (slices_Compact_ok w (o.mergeSort fun x y => decide (x ≤ y)) _ s31 (by simp; omega)) ?_
      rintro r34 h33 ⟨s_r34, mh33, ab_r34⟩
      have zh33 := mh33.size
      have E35 := E32.mod mh33 (fun b hb => by have := fr_w b hb; omega)
      have fr_r34 := fr_w.app ab_r34 (by omega)
      have lt_r34 := s_r34.lt
      refine s_pure r34 (fun _ q => q) ?_
      refine s_pure (.bool true) (fun _ q => q) ?_
      refine s_nil ?_
      refine p_seqN ?_
      refine v_ret ?_
      refine p_ret [r34, .bool true] (.tuple #[r34, .bool true]) (fun _ q => q) rfl ?_
      have ho : msgOut (l.map Pk.p) = ((Lib.compact (o.mergeSort fun x y => decide (x ≤ y))), true) := by first | exact msg_no (by assumption) | exact (msg_sort (by assumption) (ho.trans (by rw [take_all (by assumption)]))).symm
      exact ⟨r34, by first | (rw [ho]; done) | rfl, sl_eq s_r34 (congrArg (fun o => o.1) ho).symm, fr_r34.mono (by omega), E35⟩

theorem spec_MessagesIn_ok (v_l : Value) (l : List Pk) (d_l : List (PkP)) (h : Heap) (s_l : Sl h v_l l) (in_l : ∀ p ∈ l, Sl h p.sv.v p.sig) (hd_l : l.map Pk.p = d_l) : Cn f_spec_MessagesIn [v_l] h fun v h' => ∃ r0 : Value, v = .tuple #[r0, .bool ((msgOut d_l).2)] ∧ SlO h' r0 ((msgOut d_l).1) ∧ Fr h.size r0 ∧ Ext h h' := by
  subst hd_l
  have lt_l := s_l.lt
  have l63_l := s_l.len63
  have inlt_l := fun p hp => (in_l p hp).lt
  refine calls_of r_spec_MessagesIn ?_
  refine v_seq ?_
  refine v_ops ?_
  refine s_pure (.slice none 0 0) (fun _ q => q) ?_
  refine s_pure (.bool false) (fun _ q => q) ?_
  refine s_nil ?_
  refine p_seqN ?_
  refine v_seq ?_
  refine v_seq ?_
  refine v_ops ?_
  refine s_pure v_l (fun _ q => q) ?_
  refine s_call [v_l] rfl (spec_pkAll_ok v_l l (l.map Pk.p) _ s_l in_l rfl) ?_
  rintro _ h1 ⟨rfl, eh1⟩
  have E2 := (Ext.refl h).trans eh1
  have z3 := eh1.size
  refine s_pure (.bool (!decide (PksOk (l.map Pk.p)))) (fun _ q => q) ?_
  refine s_nil ?_
  refine p_seqN ?_
  refine v_cond rfl (fun c4 => ?_) (fun c4 => ?_)
  ·
    refine v_seq ?_
    refine v_ops ?_
    refine s_pure (.slice none 0 0) (fun _ q => q) ?_
    refine s_pure (.bool false) (fun _ q => q) ?_
    refine s_nil ?_
    refine p_seqN ?_
    refine v_ret ?_
    refine p_seqR ?_
    refine p_ret [.slice none 0 0, .bool false] (.tuple #[.slice none 0 0, .bool false]) (fun _ q => q) rfl ?_
    have ho : msgOut (l.map Pk.p) = ([], false) := by first | exact msg_no (by assumption) | exact (msg_end (by assumption) (ho.trans (by rw [take_all (by assumption)]))).symm
    exact ⟨(.slice none 0 0), by first | (rw [ho]; done) | rfl, sl_eq (SlX.nil (α := Int) true _) (congrArg (fun o => o.1) ho).symm, Fr.nil _, E2⟩
  ·
    have c4 := Classical.not_not.1 c4
    refine v_skip ?_
    refine p_seqN ?_
    refine v_seq ?_
    refine v_ops ?_
    refine s_pure (.slice none 0 0) (fun _ q => q) ?_
    refine s_nil ?_
    refine p_seqN ?_
    refine v_seq ?_
    refine v_seq ?_
    refine v_ops ?_
    refine s_pure v_l (fun _ q => q) ?_
    refine s_pure (.int .i64 (l.length : Int)) (fun _ q => s_l.lenVC q) ?_
    refine s_pure (.int .i64 0) (fun _ q => q) ?_
    refine s_nil ?_
    refine p_seqN ?_
    refine v_block ?_
    have hl40 : l.length ≤ 40 := by (have h4 := (by assumption : PksOk (l.map Pk.p)).1); simpa using h4
    refine v_loop3 (α := Nat) (β := List Int) (γ := Value) (fun k o w => [(4, w), (10, v_l), (11, .int .i64 (l.length : Int)), (12, .int .i64 (k : Int))]) (fun k o w hh => Ext h hh ∧ SlO hh w o ∧ Fr h.size w ∧ k ≤ l.length ∧ o = ((l.take k).map Pk.message).foldl putW []) (fun k o w => l.length - k) 0 [] (.slice none 0 0) ⟨rfl, rfl, rfl, rfl⟩ ⟨E2, (sl_eq (SlX.nil (α := Int) true h1) (by simp)), (Fr.nil _), (by simp)⟩ ?_
    rintro k o w R6 h5 ⟨Eh, s_w, fr_w, ⟨hk, ho⟩⟩
    have zEh := Eh.size
    have f7 := s_l.ext Eh
    have in8 := fun p hp => (in_l p hp).ext Eh
    have lt_w := s_w.lt
    have hol : o.length ≤ l.length := by (rw [ho]; exact msg_put_len)
    refine v_seq ?_
    refine v_ops ?_
    refine s_pure (.bool (decide ((k : Int) < (l.length : Int)))) (fun _ q => q) ?_
    refine s_nil ?_
    refine p_seqN ?_
    refine v_seq ?_
    refine v_cond rfl (fun c9 => ?_) (fun c9 => ?_)
    ·
      refine v_skip ?_
      refine p_seqN ?_
      refine v_seq ?_
      refine v_block ?_
      refine v_seq ?_
      refine v_ops ?_
      have hk10 : k < l.length := (by first | omega | (simp; omega))
      obtain ⟨x11, hx11⟩ : ∃ x, l[k]? = some x := ⟨_, List.getElem?_eq_getElem hk10⟩
      refine s_pure (.pointer (some ⟨sblk v_l, soff v_l + k * 4, none⟩)) (fun _ q => f7.idx (k := k) rfl hk10 q) ?_
      have s12 := in8 x11 (List.mem_of_getElem? hx11)
      refine s_load (.agg #[.int .i64 x11.message, .int .i64 x11.part, .int .i64 x11.parts, x11.sv.v]) (fun _ q => f7.loadN hx11 rfl q) ?_
      refine s_new (fun h14 b13 hbb13 hzb13 eh14 bxb13 => ?_)
      have E15 := Eh.trans eh14
      have z16 := eh14.size
      have lbb13 := bxb13.lt
      refine s_stBx (.agg #[.int .i64 x11.message, .int .i64 x11.part, .int .i64 x11.parts, x11.sv.v]) [.int .i64 x11.message, .int .i64 x11.part, .int .i64 x11.parts, x11.sv.v] [.int .i64 x11.message, .int .i64 x11.part, .int .i64 x11.parts, x11.sv.v] bxb13 rfl rfl rfl rfl (by simp) (all_cons rfl (all_cons rfl (all_cons rfl (all_cons s12.one1 all_nil)))) rfl (fun h17 mh17 sh17 bxx18 => ?_)
      have E19 := E15.mod mh17 (fun b hb => by simp at hb; omega)
      refine s_nil ?_
      refine p_seqN ?_
      refine v_ops ?_
      refine s_pure w (fun _ q => q) ?_
      refine s_pure (.pointer (some ⟨b13, 0, none⟩)) (fun _ q => q) ?_
      refine s_load (.int .i64 x11.message) (fun _ q => bxx18.load rfl q) ?_
      have f20 := ((s_w.ext eh14).mod mh17 (fun b hb hc => by simp at hc; have := lt_w b hb; omega))
      refine s_call [w, .int .i64 x11.message] rfl (spec_l1Put_ok w o x11.message _ f20 (by first | omega | assumption | (simp; omega))) ?_
      rintro r21 h22 ⟨_, rfl, s_r21, mh22, ab_r21⟩
      have zh22 := mh22.size
      have E23 := E19.mod mh22 (fun b hb => by have := fr_w b hb; omega)
      have fr_r21 := fr_w.app ab_r21 (by omega)
      have np24 : b13 ∉ blks r21 := fun hc => (ab_r21 _ hc).elim (fun hc => by have := lt_w _ hc; omega) (fun hc => by omega)
      have lt_r21 := s_r21.lt
      refine s_pure r21 (fun _ q => q) ?_
      refine s_nil ?_
      refine p_blkN ?_
      refine p_seqN ?_
      refine v_ops ?_
      refine s_pure (.int .i64 ((k : Int) + 1)) (fun _ q => ArithVC.mk (by omega) q) ?_
      refine s_pure (.int .i64 ((k : Int) + 1)) (fun _ q => q) ?_
      refine s_nil ?_
      exact p_lpN ⟨k + 1, putW o x11.message, r21, ⟨rfl, rfl, rfl, rfl⟩, ⟨E23, (sl_eq s_r21 (by simp)), (fr_r21.mono (by omega)), (by exact ⟨by omega, msg_put ho (by assumption)⟩)⟩, by omega⟩
    ·
      refine v_exit ?_
      refine p_seqX ?_
      refine p_lpX ?_
      refine p_blkX ?_
      refine p_seqN ?_
      refine v_seq ?_
      refine v_ops ?_
      refine s_pure w (fun _ q => q) ?_
      refine s_pure w (fun _ q => q) ?_
      refine s_pure (.bool true) (fun _ q => q) ?_
      refine s_nil ?_
      refine p_seqN ?_
      refine v_ret ?_
      refine p_ret [w, .bool true] (.tuple #[w, .bool true]) (fun _ q => q) rfl ?_
      have ho : msgOut (l.map Pk.p) = (o, true) := by first | exact msg_no (by assumption) | exact (msg_end (by assumption) (ho.trans (by rw [take_all (by assumption)]))).symm
      exact ⟨w, by first | (rw [ho]; done) | rfl, sl_eq s_w (congrArg (fun o => o.1) ho).symm, fr_w.mono (by omega), Eh⟩

end Go.Proofs.Ytjmcijcdncgaiaa
