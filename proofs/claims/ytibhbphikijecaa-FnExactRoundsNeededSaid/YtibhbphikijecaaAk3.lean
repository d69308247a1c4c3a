/- Rounds of acknowledgements in the specification. Condition: none. Printed in part by a program. -/
import Derived.Test.YtibhbphikijecaaAk2
import Derived.Test.YtibhbphikijecaaDeep2
namespace Go.Proofs.Ytibhbphikijecaa
open Go.Vc
set_option linter.all false

def putW (l : List Int) (n : Int) : List Int := if l[(l.takeWhile (fun x => decide (x < n))).length]? = some n then l else l.take (l.takeWhile (fun x => decide (x < n))).length ++ [n] ++ l.drop (l.takeWhile (fun x => decide (x < n))).length
theorem tw_len {l : List Int} {n : Int} {k : Nat} (h : ∀ x ∈ l.take k, x < n) (hk : k ≤ l.length) (he : l.length ≤ k ∨ ∃ x, l[k]? = some x ∧ ¬ x < n) : (l.takeWhile (fun x => decide (x < n))).length = k := by
  induction l generalizing k with
  | nil => simp at hk ⊢; exact hk.symm
  | cons y l ih =>
    cases k with
    | zero =>
      rcases he with he | ⟨x, hx, hn⟩
      · simp at he
      · simp at hx; subst hx; simp [hn]
    | succ k =>
      have hy : y < n := h y (by simp)
      simp only [List.takeWhile_cons, hy, decide_true, if_true, List.length_cons]
      rw [ih (k := k) (fun x hx => h x (by simp only [List.take_succ_cons]; exact List.mem_cons_of_mem _ hx)) (by simpa using hk) (he.imp (by simp) (fun ⟨x, hx, hn⟩ => ⟨x, by simpa using hx, hn⟩))]
theorem all_lt_snoc {l : List Int} {n : Int} {k : Nat} {x : Int} (h : ∀ y ∈ l.take k, y < n) (hx : l[k]? = some x) (hn : x < n) : ∀ y ∈ l.take (k + 1), y < n := by
  rw [snoc_get hx]
  intro y hy
  rcases List.mem_append.1 hy with hy | hy
  · exact h y hy
  · obtain rfl := List.mem_singleton.1 hy; exact hn
theorem put_there {l : List Int} {n : Int} {k : Nat} {x : Int} (h : ∀ y ∈ l.take k, y < n) (hx : l[k]? = some x) (hn : ¬ x < n) (e : x = n) : putW l n = l := by
  have hk := (List.getElem?_eq_some_iff.1 hx).1
  unfold putW
  rw [tw_len h (by omega) (.inr ⟨x, hx, hn⟩), if_pos (by rw [hx, e])]
theorem put_in {l : List Int} {n : Int} {k : Nat} {x : Int} (h : ∀ y ∈ l.take k, y < n) (hx : l[k]? = some x) (hn : ¬ x < n) (e : ¬ x = n) : putW l n = l.take k ++ [n] ++ l.drop k := by
  have hk := (List.getElem?_eq_some_iff.1 hx).1
  unfold putW
  rw [tw_len h (by omega) (.inr ⟨x, hx, hn⟩), if_neg (by rw [hx]; simpa using e)]
theorem put_end {l : List Int} {n : Int} {k : Nat} (h : ∀ y ∈ l.take k, y < n) (hk : k ≤ l.length) (hl : ¬ (k : Int) < (l.length : Int)) : putW l n = l.take k ++ [n] ++ l.drop k := by
  unfold putW
  rw [tw_len h hk (.inl (by omega)), if_neg (by rw [List.getElem?_eq_none (by omega)]; simp)]
theorem mem_bad {l : List Int} {n : Int} {k : Nat} {x : Int} (hx : l[k]? = some x) (e : x = n) : decide (n ∈ l) = true := by
  simp only [decide_eq_true_eq]; exact e ▸ List.mem_of_getElem? hx
theorem ne_snoc {l : List Int} {n : Int} {k : Nat} {x : Int} (h : ∀ y ∈ l.take k, y ≠ n) (hx : l[k]? = some x) (hn : ¬ x = n) : ∀ y ∈ l.take (k + 1), y ≠ n := by
  rw [snoc_get hx]
  intro y hy
  rcases List.mem_append.1 hy with hy | hy
  · exact h y hy
  · obtain rfl := List.mem_singleton.1 hy; exact hn
theorem mem_end {l : List Int} {n : Int} {k : Nat} (h : ∀ y ∈ l.take k, y ≠ n) (hl : ¬ (k : Int) < (l.length : Int)) : decide (n ∈ l) = false := by
  rw [take_all hl] at h
  simp only [decide_eq_false_iff_not]; exact fun hm => h n hm rfl

theorem spec_l1Own_ok (v_l : Value) (l : List Int) (h : Heap) (s_l : Sl h v_l l) (bl : l.length ≤ 2000000) : Cn f_spec_l1Own [v_l] h fun v h' => ∃ r0 : Value, v = r0 ∧ SlO h' r0 l ∧ Fr h.size r0 ∧ Ext h h' := by
  have lt_l := s_l.lt
  have l63_l := s_l.len63
  refine calls_of r_spec_l1Own ?_
  refine v_seq ?_
  refine v_ops ?_
  refine s_pure (.slice none 0 0) (fun _ q => q) ?_
  refine s_nil ?_
  refine p_seqN ?_
  refine v_seq ?_
  refine v_ops ?_
  refine s_row (α := Int) [] (fun _ q => seg_nil q) rfl (by simp [maxLen]) (fun r1 h2 eh2 zh2 s_r1 fr_r1 => ?_)
  have E3 := (Ext.refl h).trans eh2
  have z4 := eh2.size
  have lt_r1 := s_r1.lt
  refine s_pure v_l (fun _ q => q) ?_
  have f5 := (s_l.ext eh2)
  refine s_app s_r1 f5 rfl rfl rfl (by simpa using s_l.len_le) (by have := s_l.len_le; simp [maxLen] at *; omega) (fun r6 h7 mh7 zh7 s_r6 ab_r6 => ?_)
  have E8 := E3.mod mh7 (fun b hb => by have := fr_r1 b hb; omega)
  have fr_r6 := fr_r1.app ab_r6 (by omega)
  have lt_r6 := s_r6.lt
  refine s_pure r6 (fun _ q => q) ?_
  refine s_nil ?_
  refine p_seqN ?_
  refine v_ret ?_
  refine p_ret [r6] r6 (fun _ q => q) rfl ?_
  have ho : l = ([] ++ l) := by simp
  exact ⟨r6, by first | (rw [ho]; done) | rfl, sl_eq s_r6 (congrArg (fun o => o) ho).symm, fr_r6.mono (by omega), E8⟩

theorem spec_l1Has_ok (v_l : Value) (l : List Int) (n : Int) (h : Heap) (s_l : Sl h v_l l) : Cn f_spec_l1Has [v_l, .int .i64 n] h fun v h' => v = .bool (decide (n ∈ l)) ∧ Ext h h' := by
  have lt_l := s_l.lt
  have l63_l := s_l.len63
  refine calls_of r_spec_l1Has ?_
  refine v_seq ?_
  refine v_ops ?_
  refine s_pure (.bool false) (fun _ q => q) ?_
  refine s_nil ?_
  refine p_seqN ?_
  refine v_seq ?_
  refine v_seq ?_
  refine v_ops ?_
  refine s_pure v_l (fun _ q => q) ?_
  refine s_pure (.int .i64 (l.length : Int)) (fun _ q => s_l.lenVC q) ?_
  refine s_pure (.int .i64 0) (fun _ q => q) ?_
  refine s_nil ?_
  refine p_seqN ?_
  refine v_block ?_
  refine v_loop1 (α := Nat) (fun k => [(1, .int .i64 n), (7, v_l), (8, .int .i64 (l.length : Int)), (9, .int .i64 (k : Int))]) (fun k hh => Ext h hh ∧ k ≤ l.length ∧ ∀ y ∈ l.take k, y ≠ n) (fun k => l.length - k) 0 ⟨rfl, rfl, rfl, rfl⟩ ⟨(Ext.refl h), (by simp)⟩ ?_
  rintro k R2 h1 ⟨Eh, ⟨hk, hall⟩⟩
  have zEh := Eh.size
  have f3 := s_l.ext Eh
  refine v_seq ?_
  refine v_ops ?_
  refine s_pure (.bool (decide ((k : Int) < (l.length : Int)))) (fun _ q => q) ?_
  refine s_nil ?_
  refine p_seqN ?_
  refine v_seq ?_
  refine v_cond rfl (fun c4 => ?_) (fun c4 => ?_)
  ·
    refine v_skip ?_
    refine p_seqN ?_
    refine v_seq ?_
    refine v_block ?_
    refine v_seq ?_
    refine v_ops ?_
    have hk5 : k < l.length := (by first | omega | (simp; omega))
    obtain ⟨x6, hx6⟩ : ∃ x, l[k]? = some x := ⟨_, List.getElem?_eq_getElem hk5⟩
    refine s_pure (.pointer (some ⟨sblk v_l, soff v_l + k * 1, none⟩)) (fun _ q => f3.idx (k := k) rfl hk5 q) ?_
    refine s_load (.int .i64 x6) (fun _ q => f3.load1 hx6 rfl q) ?_
    refine s_pure (.int .i64 x6) (fun _ q => q) ?_
    refine s_nil ?_
    refine p_seqN ?_
    refine v_seq ?_
    refine v_ops ?_
    refine s_pure (.int .i64 x6) (fun _ q => q) ?_
    refine s_pure (.int .i64 n) (fun _ q => q) ?_
    refine s_pure (.bool (x6 == n)) (fun _ q => q) ?_
    refine s_nil ?_
    refine p_seqN ?_
    refine v_cond rfl (fun c7 => ?_) (fun c7 => ?_)
    ·
      refine v_seq ?_
      refine v_ops ?_
      refine s_pure (.bool true) (fun _ q => q) ?_
      refine s_nil ?_
      refine p_seqN ?_
      refine v_ret ?_
      refine p_blkR ?_
      refine p_seqR ?_
      refine p_lpR ?_
      refine p_blkR ?_
      refine p_seqR ?_
      refine p_ret [.bool true] (.bool true) (fun _ q => q) rfl ?_
      have ho : decide (n ∈ l) = true := by first | exact mem_bad (by assumption) (by assumption) | exact mem_end hall (by assumption)
      exact ⟨by first | (rw [ho]; done) | rfl, Eh⟩
    ·
      refine v_skip ?_
      refine p_blkN ?_
      refine p_seqN ?_
      refine v_ops ?_
      refine s_pure (.int .i64 ((k : Int) + 1)) (fun _ q => ArithVC.mk (by omega) q) ?_
      refine s_pure (.int .i64 ((k : Int) + 1)) (fun _ q => q) ?_
      refine s_nil ?_
      exact p_lpN ⟨k + 1, ⟨rfl, rfl, rfl, rfl⟩, ⟨Eh, (by exact ⟨by omega, ne_snoc hall (by assumption) (by assumption)⟩)⟩, by omega⟩
  ·
    refine v_exit ?_
    refine p_seqX ?_
    refine p_lpX ?_
    refine p_blkX ?_
    refine p_seqN ?_
    refine v_seq ?_
    refine v_ops ?_
    refine s_pure (.bool false) (fun _ q => q) ?_
    refine s_nil ?_
    refine p_seqN ?_
    refine v_ret ?_
    refine p_ret [.bool false] (.bool false) (fun _ q => q) rfl ?_
    have ho : decide (n ∈ l) = false := by first | exact mem_bad (by assumption) (by assumption) | exact mem_end hall (by assumption)
    exact ⟨by first | (rw [ho]; done) | rfl, Eh⟩

set_option maxRecDepth 10000 in
set_option maxHeartbeats 4000000 in
theorem spec_l1Put_ok (v_l : Value) (l : List Int) (n : Int) (h : Heap) (s_l : SlO h v_l l) (bl : l.length ≤ 1000000) : Cn f_spec_l1Put [v_l, .int .i64 n] h fun v h' => ∃ r0 : Value, v = r0 ∧ SlO h' r0 (putW l n) ∧ Mod (blks v_l) h h' ∧ ∀ b ∈ blks r0, b ∈ (blks v_l) ∨ h.size ≤ b := by
  have lt_l := s_l.lt
  have l63_l := s_l.len63
  refine calls_of r_spec_l1Put ?_
  refine v_seq ?_
  refine v_ops ?_
  refine s_pure (.slice none 0 0) (fun _ q => q) ?_
  refine s_nil ?_
  refine p_seqN ?_
  refine v_seq ?_
  refine v_ops ?_
  refine s_pure (.int .i64 0) (fun _ q => q) ?_
  refine s_nil ?_
  refine p_seqN ?_
  refine v_seq ?_
  refine v_block ?_
  refine v_loop2 (α := Nat) (β := List Int) (fun k ll => [(0, v_l), (1, .int .i64 n), (5, .int .i64 (k : Int))]) (fun k ll hh => Mod (blks v_l) h hh ∧ SlO hh v_l ll ∧ ll = l ∧ k ≤ ll.length ∧ ∀ y ∈ ll.take k, y < n) (fun k ll => l.length - k) 0 l ⟨rfl, rfl, rfl⟩ ⟨(Mod.refl (blks v_l) h), s_l, (by exact ⟨rfl, by simp⟩)⟩ ?_
  rintro k ll R2 h1 ⟨Eh, s_l, ⟨hll, hk, hall⟩⟩
  have zEh := Eh.size
  have lt_l := s_l.lt
  have hlen : ll.length = l.length := by rw [hll]
  refine v_seq ?_
  refine v_seq ?_
  refine v_ops ?_
  refine s_pure (.int .i64 (k : Int)) (fun _ q => q) ?_
  refine s_pure v_l (fun _ q => q) ?_
  refine s_pure (.int .i64 (ll.length : Int)) (fun _ q => s_l.lenVC q) ?_
  refine s_pure (.bool (decide ((k : Int) < (ll.length : Int)))) (fun _ q => q) ?_
  refine s_pure (.bool (decide ((k : Int) < (ll.length : Int)))) (fun _ q => q) ?_
  refine s_splitT rfl (fun c3 => ?_) (fun c3 => ?_)
  ·
    refine s_run rfl ?_
    refine s_pure v_l (fun _ q => q) ?_
    refine s_run rfl ?_
    refine s_pure (.int .i64 (k : Int)) (fun _ q => q) ?_
    refine s_run rfl ?_
    have hk4 : k < ll.length := (by first | omega | (simp; omega))
    obtain ⟨x5, hx5⟩ : ∃ x, ll[k]? = some x := ⟨_, List.getElem?_eq_getElem hk4⟩
    refine s_pure (.pointer (some ⟨sblk v_l, soff v_l + k * 1, none⟩)) (fun _ q => s_l.idx (k := k) rfl hk4 q) ?_
    refine s_run rfl ?_
    refine s_load (.int .i64 x5) (fun _ q => s_l.load1 hx5 rfl q) ?_
    refine s_run rfl ?_
    refine s_pure (.int .i64 n) (fun _ q => q) ?_
    refine s_run rfl ?_
    refine s_pure (.bool (decide (x5 < n))) (fun _ q => q) ?_
    refine s_pure (.bool (decide (x5 < n))) (fun _ q => q) ?_
    refine s_nil ?_
    refine p_seqN ?_
    refine v_cond rfl (fun c6 => ?_) (fun c6 => ?_)
    ·
      refine v_skip ?_
      refine p_seqN ?_
      refine v_block ?_
      refine v_ops ?_
      refine s_pure (.int .i64 (k : Int)) (fun _ q => q) ?_
      refine s_pure (.int .i64 ((k : Int) + 1)) (fun _ q => ArithVC.mk (by omega) q) ?_
      refine s_pure (.int .i64 ((k : Int) + 1)) (fun _ q => q) ?_
      refine s_nil ?_
      refine p_blkN ?_
      exact p_lpN ⟨k + 1, ll, ⟨rfl, rfl, rfl⟩, ⟨Eh, (sl_eq s_l rfl), (by exact ⟨hll, by omega, all_lt_snoc hall (by assumption) (by assumption)⟩)⟩, by omega⟩
    ·
      refine v_exit ?_
      refine p_seqX ?_
      refine p_lpX ?_
      refine p_blkX ?_
      refine p_seqN ?_
      refine v_seq ?_
      refine v_seq ?_
      refine v_ops ?_
      refine s_pure (.int .i64 (k : Int)) (fun _ q => q) ?_
      refine s_pure v_l (fun _ q => q) ?_
      refine s_pure (.int .i64 (ll.length : Int)) (fun _ q => s_l.lenVC q) ?_
      refine s_pure (.bool (decide ((k : Int) < (ll.length : Int)))) (fun _ q => q) ?_
      refine s_pure (.bool (decide ((k : Int) < (ll.length : Int)))) (fun _ q => q) ?_
      refine s_splitY rfl (by first | assumption | omega | (simp; done) | (simp; omega) | simp_all) ?_
      refine s_run rfl ?_
      refine s_pure v_l (fun _ q => q) ?_
      refine s_run rfl ?_
      refine s_pure (.int .i64 (k : Int)) (fun _ q => q) ?_
      refine s_run rfl ?_
      refine s_pure (.pointer (some ⟨sblk v_l, soff v_l + k * 1, none⟩)) (fun _ q => s_l.idx (k := k) rfl hk4 q) ?_
      refine s_run rfl ?_
      refine s_load (.int .i64 x5) (fun _ q => s_l.load1 hx5 rfl q) ?_
      refine s_run rfl ?_
      refine s_pure (.int .i64 n) (fun _ q => q) ?_
      refine s_run rfl ?_
      refine s_pure (.bool (x5 == n)) (fun _ q => q) ?_
      refine s_pure (.bool (x5 == n)) (fun _ q => q) ?_
      refine s_nil ?_
      refine p_seqN ?_
      refine v_cond rfl (fun c7 => ?_) (fun c7 => ?_)
      ·
        refine v_seq ?_
        refine v_ops ?_
        refine s_pure v_l (fun _ q => q) ?_
        refine s_pure v_l (fun _ q => q) ?_
        refine s_nil ?_
        refine p_seqN ?_
        refine v_ret ?_
        refine p_seqR ?_
        refine p_ret [v_l] v_l (fun _ q => q) rfl ?_
        have ho : putW l n = ll := by subst hll; first | exact put_there hall (by assumption) (by assumption) (by assumption) | (rw [put_in hall (by assumption) (by assumption) (by assumption)]; simp; done) | (rw [put_end hall hk (by assumption)]; simp; done)
        exact ⟨v_l, by first | (rw [ho]; done) | rfl, sl_eq s_l (congrArg (fun o => o) ho).symm, Eh, (fun b hb => Or.inl hb)⟩
      ·
        refine v_skip ?_
        refine p_seqN ?_
        refine v_seq ?_
        refine v_ops ?_
        refine s_row (α := Int) [] (fun _ q => seg_nil q) rfl (by simp [maxLen]) (fun r8 h9 eh9 zh9 s_r8 fr_r8 => ?_)
        have E10 := Eh.trans (Mod.of_ext eh9 _)
        have z11 := eh9.size
        have lt_r8 := s_r8.lt
        refine s_pure v_l (fun _ q => q) ?_
        refine s_pure (.int .i64 (k : Int)) (fun _ q => q) ?_
        have f12 := (s_l.ext eh9)
        obtain ⟨r13, hqr13, s_r13, bk_r13⟩ := f12.toSl.slc (l := 0) (m := k) (by first | omega | (simp; omega)) (by first | omega | (simp; omega))
        simp only [List.drop_zero] at s_r13
        have lt_r13 := s_r13.lt
        refine s_pure r13 (fun K q => hqr13 _ rfl none (some (.int .i64 (k : Int))) rfl ⟨_, _, rfl, rfl⟩ K q) ?_
        refine s_app s_r8 s_r13 rfl rfl rfl (by simp [maxLen]; omega) (by simp; omega) (fun r14 h15 mh15 zh15 s_r14 ab_r14 => ?_)
        have E16 := E10.new mh15 (fun b hb => .inr (by have := fr_r8 b hb; omega))
        have fr_r14 := fr_r8.app ab_r14 (by omega)
        have lt_r14 := s_r14.lt
        refine s_pure r14 (fun _ q => q) ?_
        refine s_nil ?_
        refine p_seqN ?_
        refine v_seq ?_
        refine v_ops ?_
        refine s_pure r14 (fun _ q => q) ?_
        refine s_pure (.int .i64 n) (fun _ q => q) ?_
        refine s_row (α := Int) [n] (fun _ q => seg_i rfl (seg_nil q)) rfl (by simp [maxLen]) (fun r17 h18 eh18 zh18 s_r17 fr_r17 => ?_)
        have E19 := E16.trans (Mod.of_ext eh18 _)
        have z20 := eh18.size
        have lt_r17 := s_r17.lt
        have f21 := (s_r14.ext eh18)
        refine s_app f21 s_r17 rfl rfl rfl (by simp [maxLen]; omega) (by simp; omega) (fun r22 h23 mh23 zh23 s_r22 ab_r22 => ?_)
        have E24 := E19.new mh23 (fun b hb => .inr (by have := fr_r14 b hb; omega))
        have fr_r22 := fr_r14.app ab_r22 (by omega)
        have np25 : ∀ b ∈ blks r17, b ∉ blks r22 := fun b hb hc => (ab_r22 _ hc).elim (((fun b hb hc => by have := fr_r17 b hb; have := lt_r14 b hc; omega) : ∀ b ∈ blks r17, b ∉ blks r14) b hb) (fun hc => by have := lt_r17 b hb; omega)
        have lt_r22 := s_r22.lt
        refine s_pure r22 (fun _ q => q) ?_
        refine s_nil ?_
        refine p_seqN ?_
        refine v_seq ?_
        refine v_ops ?_
        refine s_pure r22 (fun _ q => q) ?_
        refine s_pure v_l (fun _ q => q) ?_
        refine s_pure (.int .i64 (k : Int)) (fun _ q => q) ?_
        have f26 := (((f12.mod mh15 (fun b hb hc => by have := lt_l b hb; have := fr_r8 b hc; omega)).ext eh18).mod mh23 (fun b hb hc => by have := lt_l b hb; have := fr_r14 b hc; omega))
        obtain ⟨r27, hqr27, s_r27, bk_r27⟩ := f26.toSl.slc (l := k) (m := ll.length) (by first | omega | (simp; omega)) (by first | omega | (simp; omega))
        have lt_r27 := s_r27.lt
        refine s_pure r27 (fun K q => hqr27 _ rfl (some (.int .i64 (k : Int))) none ⟨_, _, rfl, rfl⟩ rfl K q) ?_
        refine s_app s_r22 s_r27 rfl rfl rfl (by simp [maxLen]; omega) (by simp; omega) (fun r28 h29 mh29 zh29 s_r28 ab_r28 => ?_)
        have E30 := E24.new mh29 (fun b hb => .inr (by have := fr_r22 b hb; omega))
        have fr_r28 := fr_r22.app ab_r28 (by omega)
        have np31 : ∀ b ∈ blks r17, b ∉ blks r28 := fun b hb hc => (ab_r28 _ hc).elim ((np25 : ∀ b ∈ blks r17, b ∉ blks r22) b hb) (fun hc => by have := lt_r17 b hb; omega)
        have np32 : ∀ b ∈ blks r17, b ∉ blks r28 := fun b hb hc => (ab_r28 _ hc).elim ((np25 : ∀ b ∈ blks r17, b ∉ blks r22) b hb) (fun hc => by have := lt_r17 b hb; omega)
        have lt_r28 := s_r28.lt
        refine s_pure r28 (fun _ q => q) ?_
        refine s_nil ?_
        refine p_seqN ?_
        refine v_ret ?_
        refine p_ret [r28] r28 (fun _ q => q) rfl ?_
        have ho : putW l n = ((([] ++ ll.take k) ++ [n]) ++ (ll.take ll.length).drop k) := by subst hll; first | exact put_there hall (by assumption) (by assumption) (by assumption) | (rw [put_in hall (by assumption) (by assumption) (by assumption)]; simp; done) | (rw [put_end hall hk (by assumption)]; simp; done)
        exact ⟨r28, by first | (rw [ho]; done) | rfl, sl_eq s_r28 (congrArg (fun o => o) ho).symm, E30, (fun b hb => Or.inr (fr_r28.mono (by omega) b hb))⟩
  ·
    refine s_pass rfl ?_
    refine s_pass rfl ?_
    refine s_pass rfl ?_
    refine s_pass rfl ?_
    refine s_pass rfl ?_
    refine s_pass rfl ?_
    refine s_pure (.bool false) (fun _ q => q) ?_
    refine s_nil ?_
    refine p_seqN ?_
    refine v_condN rfl (by simp) ?_
    refine v_exit ?_
    refine p_seqX ?_
    refine p_lpX ?_
    refine p_blkX ?_
    refine p_seqN ?_
    refine v_seq ?_
    refine v_seq ?_
    refine v_ops ?_
    refine s_pure (.int .i64 (k : Int)) (fun _ q => q) ?_
    refine s_pure v_l (fun _ q => q) ?_
    refine s_pure (.int .i64 (ll.length : Int)) (fun _ q => s_l.lenVC q) ?_
    refine s_pure (.bool (decide ((k : Int) < (ll.length : Int)))) (fun _ q => q) ?_
    refine s_pure (.bool (decide ((k : Int) < (ll.length : Int)))) (fun _ q => q) ?_
    refine s_splitN rfl (by first | assumption | omega | (simp; done) | (simp; omega) | simp_all) ?_
    refine s_pass rfl ?_
    refine s_pass rfl ?_
    refine s_pass rfl ?_
    refine s_pass rfl ?_
    refine s_pass rfl ?_
    refine s_pass rfl ?_
    refine s_pure (.bool false) (fun _ q => q) ?_
    refine s_nil ?_
    refine p_seqN ?_
    refine v_condN rfl (by simp) ?_
    refine v_skip ?_
    refine p_seqN ?_
    refine v_seq ?_
    refine v_ops ?_
    refine s_row (α := Int) [] (fun _ q => seg_nil q) rfl (by simp [maxLen]) (fun r33 h34 eh34 zh34 s_r33 fr_r33 => ?_)
    have E35 := Eh.trans (Mod.of_ext eh34 _)
    have z36 := eh34.size
    have lt_r33 := s_r33.lt
    refine s_pure v_l (fun _ q => q) ?_
    refine s_pure (.int .i64 (k : Int)) (fun _ q => q) ?_
    have f37 := (s_l.ext eh34)
    obtain ⟨r38, hqr38, s_r38, bk_r38⟩ := f37.toSl.slc (l := 0) (m := k) (by first | omega | (simp; omega)) (by first | omega | (simp; omega))
    simp only [List.drop_zero] at s_r38
    have lt_r38 := s_r38.lt
    refine s_pure r38 (fun K q => hqr38 _ rfl none (some (.int .i64 (k : Int))) rfl ⟨_, _, rfl, rfl⟩ K q) ?_
    refine s_app s_r33 s_r38 rfl rfl rfl (by simp [maxLen]; omega) (by simp; omega) (fun r39 h40 mh40 zh40 s_r39 ab_r39 => ?_)
    have E41 := E35.new mh40 (fun b hb => .inr (by have := fr_r33 b hb; omega))
    have fr_r39 := fr_r33.app ab_r39 (by omega)
    have lt_r39 := s_r39.lt
    refine s_pure r39 (fun _ q => q) ?_
    refine s_nil ?_
    refine p_seqN ?_
    refine v_seq ?_
    refine v_ops ?_
    refine s_pure r39 (fun _ q => q) ?_
    refine s_pure (.int .i64 n) (fun _ q => q) ?_
    refine s_row (α := Int) [n] (fun _ q => seg_i rfl (seg_nil q)) rfl (by simp [maxLen]) (fun r42 h43 eh43 zh43 s_r42 fr_r42 => ?_)
    have E44 := E41.trans (Mod.of_ext eh43 _)
    have z45 := eh43.size
    have lt_r42 := s_r42.lt
    have f46 := (s_r39.ext eh43)
    refine s_app f46 s_r42 rfl rfl rfl (by simp [maxLen]; omega) (by simp; omega) (fun r47 h48 mh48 zh48 s_r47 ab_r47 => ?_)
    have E49 := E44.new mh48 (fun b hb => .inr (by have := fr_r39 b hb; omega))
    have fr_r47 := fr_r39.app ab_r47 (by omega)
    have np50 : ∀ b ∈ blks r42, b ∉ blks r47 := fun b hb hc => (ab_r47 _ hc).elim (((fun b hb hc => by have := fr_r42 b hb; have := lt_r39 b hc; omega) : ∀ b ∈ blks r42, b ∉ blks r39) b hb) (fun hc => by have := lt_r42 b hb; omega)
    have lt_r47 := s_r47.lt
    refine s_pure r47 (fun _ q => q) ?_
    refine s_nil ?_
    refine p_seqN ?_
    refine v_seq ?_
    refine v_ops ?_
    refine s_pure r47 (fun _ q => q) ?_
    refine s_pure v_l (fun _ q => q) ?_
    refine s_pure (.int .i64 (k : Int)) (fun _ q => q) ?_
    have f51 := (((f37.mod mh40 (fun b hb hc => by have := lt_l b hb; have := fr_r33 b hc; omega)).ext eh43).mod mh48 (fun b hb hc => by have := lt_l b hb; have := fr_r39 b hc; omega))
    obtain ⟨r52, hqr52, s_r52, bk_r52⟩ := f51.toSl.slc (l := k) (m := ll.length) (by first | omega | (simp; omega)) (by first | omega | (simp; omega))
    have lt_r52 := s_r52.lt
    refine s_pure r52 (fun K q => hqr52 _ rfl (some (.int .i64 (k : Int))) none ⟨_, _, rfl, rfl⟩ rfl K q) ?_
    refine s_app s_r47 s_r52 rfl rfl rfl (by simp [maxLen]; omega) (by simp; omega) (fun r53 h54 mh54 zh54 s_r53 ab_r53 => ?_)
    have E55 := E49.new mh54 (fun b hb => .inr (by have := fr_r47 b hb; omega))
    have fr_r53 := fr_r47.app ab_r53 (by omega)
    have np56 : ∀ b ∈ blks r42, b ∉ blks r53 := fun b hb hc => (ab_r53 _ hc).elim ((np50 : ∀ b ∈ blks r42, b ∉ blks r47) b hb) (fun hc => by have := lt_r42 b hb; omega)
    have np57 : ∀ b ∈ blks r42, b ∉ blks r53 := fun b hb hc => (ab_r53 _ hc).elim ((np50 : ∀ b ∈ blks r42, b ∉ blks r47) b hb) (fun hc => by have := lt_r42 b hb; omega)
    have lt_r53 := s_r53.lt
    refine s_pure r53 (fun _ q => q) ?_
    refine s_nil ?_
    refine p_seqN ?_
    refine v_ret ?_
    refine p_ret [r53] r53 (fun _ q => q) rfl ?_
    have ho : putW l n = ((([] ++ ll.take k) ++ [n]) ++ (ll.take ll.length).drop k) := by subst hll; first | exact put_there hall (by assumption) (by assumption) (by assumption) | (rw [put_in hall (by assumption) (by assumption) (by assumption)]; simp; done) | (rw [put_end hall hk (by assumption)]; simp; done)
    exact ⟨r53, by first | (rw [ho]; done) | rfl, sl_eq s_r53 (congrArg (fun o => o) ho).symm, E55, (fun b hb => Or.inr (fr_r53.mono (by omega) b hb))⟩


theorem conv_u64 {a : Int} {K : Value → Prop} (hb : 0 ≤ a ∧ a ≤ 9223372036854775807) (q : K (.int .u64 a)) : K (.int .u64 (IntKind.u64.wrap a)) := by
  have : IntKind.u64.wrap a = a := by rw [IntKind.wrap_u64]; omega
  rw [this]; exact q
def bitsL (m : Nat) : List Int := ((List.range 9).filter fun p => m.testBit p).map fun (p : Nat) => (p : Int)
theorem mem_bits {m p : Nat} (hp : p < 9) : (p : Int) ∈ bitsL m ↔ m.testBit p = true := by
  unfold bitsL
  simp only [List.mem_map, List.mem_filter, List.mem_range]
  constructor
  · rintro ⟨q, ⟨_, hq⟩, e⟩
    have : q = p := by omega
    rw [← this]; exact hq
  · intro h; exact ⟨p, ⟨hp, h⟩, rfl⟩
set_option maxRecDepth 100000 in
theorem put_bits0 : ∀ m : Fin 512, ∀ p : Fin 9, putW (bitsL m.val) (p.val : Int) = bitsL (m.val ||| 2 ^ p.val) := by decide +kernel
theorem put_bits {m p : Nat} (hm : m < 512) (hp : p < 9) : putW (bitsL m) (p : Int) = bitsL (m ||| 2 ^ p) := put_bits0 ⟨m, hm⟩ ⟨p, hp⟩
set_option maxRecDepth 100000 in
theorem len_bits0 : ∀ n : Fin 10, ∀ m : Fin 512, m.val < 2 ^ n.val → ((bitsL m.val).length < n.val ↔ m.val ≠ 2 ^ n.val - 1) := by decide +kernel
theorem len_bits {n m : Nat} (hn : n < 10) (hm5 : m < 512) (hm : m < 2 ^ n) : (bitsL m).length < n ↔ m ≠ 2 ^ n - 1 := len_bits0 ⟨n, hn⟩ ⟨m, hm5⟩ hm
theorem pow_lt9 {n : Nat} (hn : n < 10) : 2 ^ n ≤ 512 := Nat.pow_le_pow_right (n := 2) (by omega) (by omega : n ≤ 9)
theorem bits_le (m : Nat) : (bitsL m).length ≤ 9 := by
  unfold bitsL
  rw [List.length_map]
  exact Nat.le_trans (List.length_filter_le _ _) (by simp)
theorem or_bit {now arr p : Nat} (h : ∀ q, p ≤ q → now.testBit q = arr.testBit q) : ∀ q, p + 1 ≤ q → (now ||| 2 ^ p).testBit q = arr.testBit q := by
  intro q hq
  rw [Nat.testBit_or, h q (by omega), Nat.testBit_two_pow]
  have : decide (p = q) = false := by simp; omega
  rw [this, Bool.or_false]

set_option maxRecDepth 10000 in
set_option maxHeartbeats 4000000 in
theorem spec_akRun_ok (n : Int) (w : Int) (v_script : Value) (script : List Int) (k : Int) (h : Heap) (s_script : Sl h v_script script) (hn : 1 ≤ n ∧ n ≤ 9) (hw : 1 ≤ w ∧ w ≤ 9) (hack : AckOk script) (hk : 0 ≤ k ∧ k ≤ 1000) : Cn f_spec_akRun [.int .i64 n, .int .i64 w, v_script, .int .i64 k] h fun v h' => ∃ (b : Nat) (va vk : Value) (T : TypeId), v = .pointer (some ⟨b, 0, none⟩) ∧ Bx h' b [va, vk, .int .i64 (ackRun n w script k.toNat ackZ).rounds, .int .i64 (ackRun n w script k.toNat ackZ).sent, .int .i64 (ackRun n w script k.toNat ackZ).dbl] T ∧ Ext h h' := by
  have lt_script := s_script.lt
  have l63_script := s_script.len63
  refine calls_of r_spec_akRun ?_
  refine v_seq ?_
  refine v_ops ?_
  refine s_pure (.pointer none) (fun _ q => q) ?_
  refine s_nil ?_
  refine p_seqN ?_
  refine v_seq ?_
  refine v_ops ?_
  refine s_pure (.agg #[.slice none 0 0, .slice none 0 0, .int .i64 0, .int .i64 0, .int .i64 0]) (fun _ q => w_build (seg_nil q)) ?_
  refine s_box [.slice none 0 0, .slice none 0 0, .int .i64 0, .int .i64 0, .int .i64 0] rfl (fun h2 b1 hbb1 hzb1 eh2 bxb1 => ?_)
  have E3 := (Ext.refl h).trans eh2
  have z4 := eh2.size
  have lbb1 := bxb1.lt
  refine s_pure (.pointer (some ⟨b1, 0, none⟩)) (fun _ q => q) ?_
  refine s_nil ?_
  refine p_seqN ?_
  refine v_seq ?_
  refine v_block ?_
  refine v_loop7 (α := Nat) (β := Nat) (γ := Int) (δ := Int) (ε := Int) (ζ := Value) (η := Value) (fun arr kn rd sent dbl va vk => [(0, .int .i64 n), (1, .int .i64 w), (2, v_script), (3, .int .i64 k), (9, .pointer (some ⟨b1, 0, none⟩))]) (fun arr kn rd sent dbl va vk hh => Ext h hh ∧ Bx hh b1 [va, vk, .int .i64 rd, .int .i64 sent, .int .i64 dbl] 31 ∧ SlO hh va (bitsL arr) ∧ Fr h.size va ∧ SlO hh vk (bitsL kn) ∧ Fr h.size vk ∧ b1 ∉ blks va ∧ (∀ b ∈ blks vk, b ∉ blks va) ∧ b1 ∉ blks vk ∧ ackRun n w script (k - rd).toNat ⟨arr, kn, rd, sent, dbl⟩ = ackRun n w script k.toNat ackZ ∧ 0 ≤ rd ∧ rd ≤ k ∧ arr < 2 ^ n.toNat ∧ kn < 2 ^ n.toNat ∧ (0 ≤ sent ∧ sent ≤ 9 * rd) ∧ 0 ≤ dbl ∧ dbl ≤ 9 * rd) (fun arr kn rd sent dbl va vk => (k - rd).toNat) 0 0 0 0 0 (.slice none 0 0) (.slice none 0 0) ⟨rfl, rfl, rfl, rfl, rfl⟩ ⟨E3, bxb1, (sl_eq (SlX.nil (α := Int) true h2) (by decide)), (Fr.nil _), (sl_eq (SlX.nil (α := Int) true h2) (by decide)), (Fr.nil _), (by simp [blks, fpts]), (fun b hb hc => by simp [blks, fpts] at hc), (by simp [blks, fpts]), (by exact ⟨by simp, by omega, by omega, Nat.two_pow_pos _, Nat.two_pow_pos _, by omega, by omega, by omega⟩)⟩ ?_
  rintro arr kn rd sent dbl va vk R6 h5 ⟨Eh, bxb1, s_va, fr_va, s_vk, fr_vk, np_b1_va, np_vk_va, np_b1_vk, ⟨hrun, hr0, hrk, harr, hkn, hsent, hdbl⟩⟩
  have zEh := Eh.size
  have f7 := s_script.ext Eh
  have lbb1 := bxb1.lt
  have lt_va := s_va.lt
  have lt_vk := s_vk.lt
  have h512 := pow_lt9 (n := n.toNat) (by omega)
  have hlen := len_bits (n := n.toNat) (m := kn) (by omega) (by omega) hkn
  have hle := bits_le arr
  have hle2 := bits_le kn
  refine v_seq ?_
  refine v_seq ?_
  refine v_ops ?_
  refine s_pure (.pointer (some ⟨b1, 0, none⟩)) (fun _ q => q) ?_
  refine s_pure (.pointer (some ⟨b1, 0, none⟩)) (fun _ q => q) ?_
  refine s_pure (.pointer (some ⟨b1, 2, none⟩)) (fun _ q => q) ?_
  refine s_load (.int .i64 rd) (fun _ q => bxb1.load rfl q) ?_
  refine s_pure (.int .i64 k) (fun _ q => q) ?_
  refine s_pure (.bool (decide (rd < k))) (fun _ q => q) ?_
  refine s_pure (.bool (decide (rd < k))) (fun _ q => q) ?_
  refine s_splitT rfl (fun c8 => ?_) (fun c8 => ?_)
  ·
    refine s_run rfl ?_
    refine s_pure (.pointer (some ⟨b1, 0, none⟩)) (fun _ q => q) ?_
    refine s_run rfl ?_
    refine s_pure (.pointer (some ⟨b1, 0, none⟩)) (fun _ q => q) ?_
    refine s_run rfl ?_
    refine s_pure (.pointer (some ⟨b1, 1, none⟩)) (fun _ q => q) ?_
    refine s_run rfl ?_
    refine s_load vk (fun _ q => bxb1.load rfl q) ?_
    refine s_run rfl ?_
    refine s_pure (.int .i64 ((bitsL kn).length : Int)) (fun _ q => s_vk.lenVC q) ?_
    refine s_run rfl ?_
    refine s_pure (.int .i64 n) (fun _ q => q) ?_
    refine s_run rfl ?_
    refine s_pure (.bool (decide (((bitsL kn).length : Int) < n))) (fun _ q => q) ?_
    refine s_pure (.bool (decide (((bitsL kn).length : Int) < n))) (fun _ q => q) ?_
    refine s_nil ?_
    refine p_seqN ?_
    refine v_cond rfl (fun c9 => ?_) (fun c9 => ?_)
    ·
      refine v_skip ?_
      refine p_seqN ?_
      refine v_block ?_
      refine v_seq ?_
      refine v_ops ?_
      refine s_pure (.int .i64 0) (fun _ q => q) ?_
      refine s_nil ?_
      refine p_seqN ?_
      refine v_seq ?_
      refine v_seq ?_
      refine v_ops ?_
      refine s_pure (.pointer (some ⟨b1, 0, none⟩)) (fun _ q => q) ?_
      refine s_pure (.pointer (some ⟨b1, 0, none⟩)) (fun _ q => q) ?_
      refine s_pure (.pointer (some ⟨b1, 2, none⟩)) (fun _ q => q) ?_
      refine s_load (.int .i64 rd) (fun _ q => bxb1.load rfl q) ?_
      refine s_pure v_script (fun _ q => q) ?_
      refine s_pure (.int .i64 (script.length : Int)) (fun _ q => f7.lenVC q) ?_
      refine s_pure (.bool (decide (rd < (script.length : Int)))) (fun _ q => q) ?_
      refine s_nil ?_
      refine p_seqN ?_
      refine v_cond rfl (fun c10 => ?_) (fun c10 => ?_)
      ·
        refine v_ops ?_
        refine s_pure v_script (fun _ q => q) ?_
        refine s_pure (.pointer (some ⟨b1, 0, none⟩)) (fun _ q => q) ?_
        refine s_pure (.pointer (some ⟨b1, 0, none⟩)) (fun _ q => q) ?_
        refine s_pure (.pointer (some ⟨b1, 2, none⟩)) (fun _ q => q) ?_
        refine s_load (.int .i64 rd) (fun _ q => bxb1.load rfl q) ?_
        have hk11 : (rd).toNat < script.length := (by first | omega | (simp; omega))
        obtain ⟨x12, hx12⟩ : ∃ x, script[(rd).toNat]? = some x := ⟨_, List.getElem?_eq_getElem hk11⟩
        refine s_pure (.pointer (some ⟨sblk v_script, soff v_script + ((rd).toNat) * 1, none⟩)) (fun _ q => f7.idx (k := (rd).toNat) (by omega) hk11 q) ?_
        refine s_load (.int .i64 x12) (fun _ q => f7.load1 hx12 rfl q) ?_
        refine s_pure (.int .i64 x12) (fun _ q => q) ?_
        refine s_nil ?_
        refine p_seqN ?_
        refine v_ops ?_
        refine s_pure (.pointer (some ⟨b1, 0, none⟩)) (fun _ q => q) ?_
        refine s_pure (.int .i64 n) (fun _ q => q) ?_
        refine s_pure (.int .i64 w) (fun _ q => q) ?_
        refine s_pure (.int .i64 x12) (fun _ q => q) ?_
        refine s_inl r_spec_akState_round [.pointer (some ⟨b1, 0, none⟩), .int .i64 n, .int .i64 w, .int .i64 x12] rfl ?_ rfl
        refine v_seq ?_
        refine v_ops ?_
        refine s_pure (.int .i64 0) (fun _ q => q) ?_
        refine s_nil ?_
        refine p_seqN ?_
        refine v_seq ?_
        refine v_seq ?_
        refine v_ops ?_
        refine s_pure (.int .i64 0) (fun _ q => q) ?_
        refine s_nil ?_
        refine p_seqN ?_
        refine v_block ?_
        have hL : x12 = (lostAt script rd : Int) := by first | exact lost_some hack rfl (by assumption) | exact lost_none hr0 (by omega)
        have hL2 := lost_lt hack rd
        refine v_loop5 (α := Nat) (β := Int) (γ := Int) (δ := Nat) (ε := Value) (fun p sn d now vn => [(0, .pointer (some ⟨b1, 0, none⟩)), (1, .int .i64 n), (2, .int .i64 w), (3, .int .i64 x12), (8, .int .i64 sn), (9, .int .i64 (p : Int))]) (fun p sn d now vn hh => Ext h hh ∧ Bx hh b1 [vn, vk, .int .i64 rd, .int .i64 sent, .int .i64 d] 31 ∧ SlO hh vn (bitsL now) ∧ Fr h.size vn ∧ SlO hh vk (bitsL kn) ∧ b1 ∉ blks vn ∧ (∀ b ∈ blks vk, b ∉ blks vn) ∧ p ≤ n.toNat ∧ inRun w (lostAt script rd) kn arr (n.toNat - p) p sn d now = inRun w (lostAt script rd) kn arr n.toNat 0 0 dbl arr ∧ (0 ≤ sn ∧ sn ≤ w) ∧ now < 2 ^ n.toNat ∧ (dbl ≤ d ∧ d ≤ dbl + p) ∧ ∀ q, p ≤ q → now.testBit q = arr.testBit q) (fun p sn d now vn => n.toNat - p) 0 0 dbl arr va ⟨rfl, rfl, rfl, rfl, rfl, rfl⟩ ⟨Eh, bxb1, (sl_eq s_va (by simp)), (fr_va.mono (by omega)), s_vk, np_b1_va, np_vk_va, (by refine ⟨by omega, by simp, by omega, harr, by omega, fun _ _ => rfl⟩)⟩ ?_
        rintro p sn d now vn R14 h13 ⟨Eh, bxb1, s_vn, fr_vn, s_vk, np_b1_vn, np_vk_vn, ⟨hp, hin, hsn, hnow, hd, hbit⟩⟩
        have zEh := Eh.size
        have f15 := s_script.ext Eh
        have lbb1 := bxb1.lt
        have lt_vk := s_vk.lt
        have lt_vn := s_vn.lt
        have hle3 := bits_le now
        have hbL := tbi2 (p := p) hL hL2 (by omega)
        refine v_seq ?_
        refine v_seq ?_
        refine v_ops ?_
        refine s_pure (.int .i64 (p : Int)) (fun _ q => q) ?_
        refine s_pure (.int .i64 n) (fun _ q => q) ?_
        refine s_pure (.bool (decide ((p : Int) < n))) (fun _ q => q) ?_
        refine s_pure (.bool (decide ((p : Int) < n))) (fun _ q => q) ?_
        refine s_splitT rfl (fun c16 => ?_) (fun c16 => ?_)
        ·
          refine s_run rfl ?_
          refine s_pure (.int .i64 sn) (fun _ q => q) ?_
          refine s_run rfl ?_
          refine s_pure (.int .i64 w) (fun _ q => q) ?_
          refine s_run rfl ?_
          refine s_pure (.bool (decide (sn < w))) (fun _ q => q) ?_
          refine s_pure (.bool (decide (sn < w))) (fun _ q => q) ?_
          refine s_nil ?_
          refine p_seqN ?_
          refine v_cond rfl (fun c17 => ?_) (fun c17 => ?_)
          ·
            refine v_skip ?_
            refine p_seqN ?_
            refine v_seq ?_
            refine v_block ?_
            refine v_seq ?_
            refine v_seq ?_
            refine v_ops ?_
            refine s_pure (.pointer (some ⟨b1, 0, none⟩)) (fun _ q => q) ?_
            refine s_pure (.pointer (some ⟨b1, 0, none⟩)) (fun _ q => q) ?_
            refine s_pure (.pointer (some ⟨b1, 1, none⟩)) (fun _ q => q) ?_
            refine s_load vk (fun _ q => bxb1.load rfl q) ?_
            refine s_pure (.int .i64 (p : Int)) (fun _ q => q) ?_
            refine s_call [vk, .int .i64 (p : Int)] rfl (spec_l1Has_ok vk (bitsL kn) (p : Int) _ s_vk.toSl) ?_
            rintro _ h18 ⟨rfl, eh18⟩
            have E19 := Eh.trans eh18
            have z20 := eh18.size
            refine s_nil ?_
            refine p_seqN ?_
            refine v_cond rfl (fun c21 => ?_) (fun c21 => ?_)
            ·
              refine v_exit ?_
              refine p_seqX ?_
              refine p_blkX ?_
              refine p_seqN ?_
              refine v_ops ?_
              refine s_pure (.int .i64 (p : Int)) (fun _ q => q) ?_
              refine s_pure (.int .i64 ((p : Int) + 1)) (fun _ q => ArithVC.mk (by omega) q) ?_
              refine s_pure (.int .i64 ((p : Int) + 1)) (fun _ q => q) ?_
              refine s_nil ?_
              have f22 := (bxb1.ext eh18)
              have f23 := (s_vn.ext eh18)
              have f24 := (s_vk.ext eh18)
              exact p_lpN ⟨p + 1, sn, d, now, vn, ⟨rfl, rfl, rfl, rfl, rfl, rfl⟩, ⟨E19, f22, (sl_eq f23 (by first | rfl | exact put_bits (by omega) (by omega))), (fr_vn.mono (by omega)), f24, np_b1_vn, np_vk_vn, (by first | ((have e3 := in_next hin (by omega) (by omega) (in_known ((mem_bits (by omega)).1 (by assumption)))); refine ⟨by omega, ?_, by omega, ?_, by omega, ?_⟩; all_goals first | omega | exact e3 | assumption | exact Nat.or_lt_two_pow hnow (Nat.pow_lt_pow_right (by omega) (by omega)) | exact fun q hq => hbit q (by omega) | exact or_bit hbit) | ((have e3 := in_next hin (by omega) (by omega) (in_lost (fun hc => absurd ((mem_bits (by omega)).2 hc) (by assumption)) (hbL.1 (by assumption)))); refine ⟨by omega, ?_, by omega, ?_, by omega, ?_⟩; all_goals first | omega | exact e3 | assumption | exact Nat.or_lt_two_pow hnow (Nat.pow_lt_pow_right (by omega) (by omega)) | exact fun q hq => hbit q (by omega) | exact or_bit hbit) | ((have e3 := in_next hin (by omega) (by omega) (in_new (fun hc => absurd ((mem_bits (by omega)).2 hc) (by assumption)) (fun hc => absurd (hbL.2 hc) (by assumption)) (by rw [← hbit p (Nat.le_refl p)]; exact (mem_bits (by omega)).1 (by assumption)))); refine ⟨by omega, ?_, by omega, ?_, by omega, ?_⟩; all_goals first | omega | exact e3 | assumption | exact Nat.or_lt_two_pow hnow (Nat.pow_lt_pow_right (by omega) (by omega)) | exact fun q hq => hbit q (by omega) | exact or_bit hbit) | ((have e3 := in_next hin (by omega) (by omega) (in_first (fun hc => absurd ((mem_bits (by omega)).2 hc) (by assumption)) (fun hc => absurd (hbL.2 hc) (by assumption)) (by rw [← hbit p (Nat.le_refl p)]; exact fun hc => absurd ((mem_bits (by omega)).2 hc) (by assumption)))); refine ⟨by omega, ?_, by omega, ?_, by omega, ?_⟩; all_goals first | omega | exact e3 | assumption | exact Nat.or_lt_two_pow hnow (Nat.pow_lt_pow_right (by omega) (by omega)) | exact fun q hq => hbit q (by omega) | exact or_bit hbit))⟩, by omega⟩
            ·
              refine v_skip ?_
              refine p_seqN ?_
              refine v_seq ?_
              refine v_ops ?_
              refine s_pure (.int .i64 sn) (fun _ q => q) ?_
              refine s_pure (.int .i64 (sn + 1)) (fun _ q => ArithVC.mk (by omega) q) ?_
              refine s_pure (.int .i64 (sn + 1)) (fun _ q => q) ?_
              refine s_nil ?_
              refine p_seqN ?_
              refine v_seq ?_
              refine v_seq ?_
              refine v_ops ?_
              refine s_pure (.int .i64 x12) (fun _ q => q) ?_
              refine s_pure (.int .i64 (p : Int)) (fun _ q => q) ?_
              refine s_pure (.int .u64 (p : Int)) (fun _ q => conv_u64 (by omega) q) ?_
              refine s_pure (.int .i64 (shrT x12 (p : Int))) (fun _ q => shr_vc (by omega) rfl q) ?_
              refine s_pure (.int .i64 (bits .and .i64 (shrT x12 (p : Int)) 1)) (fun _ q => BitsVC.mk q) ?_
              refine s_pure (.bool ((bits .and .i64 (shrT x12 (p : Int)) 1) == 1)) (fun _ q => q) ?_
              refine s_nil ?_
              refine p_seqN ?_
              refine v_cond rfl (fun c25 => ?_) (fun c25 => ?_)
              ·
                refine v_exit ?_
                refine p_seqX ?_
                refine p_blkX ?_
                refine p_seqN ?_
                refine v_ops ?_
                refine s_pure (.int .i64 (p : Int)) (fun _ q => q) ?_
                refine s_pure (.int .i64 ((p : Int) + 1)) (fun _ q => ArithVC.mk (by omega) q) ?_
                refine s_pure (.int .i64 ((p : Int) + 1)) (fun _ q => q) ?_
                refine s_nil ?_
                have f26 := (bxb1.ext eh18)
                have f27 := (s_vn.ext eh18)
                have f28 := (s_vk.ext eh18)
                exact p_lpN ⟨p + 1, (sn + 1), d, now, vn, ⟨rfl, rfl, rfl, rfl, rfl, rfl⟩, ⟨E19, f26, (sl_eq f27 (by first | rfl | exact put_bits (by omega) (by omega))), (fr_vn.mono (by omega)), f28, np_b1_vn, np_vk_vn, (by first | ((have e3 := in_next hin (by omega) (by omega) (in_known ((mem_bits (by omega)).1 (by assumption)))); refine ⟨by omega, ?_, by omega, ?_, by omega, ?_⟩; all_goals first | omega | exact e3 | assumption | exact Nat.or_lt_two_pow hnow (Nat.pow_lt_pow_right (by omega) (by omega)) | exact fun q hq => hbit q (by omega) | exact or_bit hbit) | ((have e3 := in_next hin (by omega) (by omega) (in_lost (fun hc => absurd ((mem_bits (by omega)).2 hc) (by assumption)) (hbL.1 (by assumption)))); refine ⟨by omega, ?_, by omega, ?_, by omega, ?_⟩; all_goals first | omega | exact e3 | assumption | exact Nat.or_lt_two_pow hnow (Nat.pow_lt_pow_right (by omega) (by omega)) | exact fun q hq => hbit q (by omega) | exact or_bit hbit) | ((have e3 := in_next hin (by omega) (by omega) (in_new (fun hc => absurd ((mem_bits (by omega)).2 hc) (by assumption)) (fun hc => absurd (hbL.2 hc) (by assumption)) (by rw [← hbit p (Nat.le_refl p)]; exact (mem_bits (by omega)).1 (by assumption)))); refine ⟨by omega, ?_, by omega, ?_, by omega, ?_⟩; all_goals first | omega | exact e3 | assumption | exact Nat.or_lt_two_pow hnow (Nat.pow_lt_pow_right (by omega) (by omega)) | exact fun q hq => hbit q (by omega) | exact or_bit hbit) | ((have e3 := in_next hin (by omega) (by omega) (in_first (fun hc => absurd ((mem_bits (by omega)).2 hc) (by assumption)) (fun hc => absurd (hbL.2 hc) (by assumption)) (by rw [← hbit p (Nat.le_refl p)]; exact fun hc => absurd ((mem_bits (by omega)).2 hc) (by assumption)))); refine ⟨by omega, ?_, by omega, ?_, by omega, ?_⟩; all_goals first | omega | exact e3 | assumption | exact Nat.or_lt_two_pow hnow (Nat.pow_lt_pow_right (by omega) (by omega)) | exact fun q hq => hbit q (by omega) | exact or_bit hbit))⟩, by omega⟩
              ·
                refine v_skip ?_
                refine p_seqN ?_
                refine v_seq ?_
                refine v_seq ?_
                refine v_ops ?_
                refine s_pure (.pointer (some ⟨b1, 0, none⟩)) (fun _ q => q) ?_
                refine s_pure (.pointer (some ⟨b1, 0, none⟩)) (fun _ q => q) ?_
                refine s_pure (.pointer (some ⟨b1, 0, none⟩)) (fun _ q => q) ?_
                have f29 := (bxb1.ext eh18)
                refine s_load vn (fun _ q => f29.load rfl q) ?_
                refine s_pure (.int .i64 (p : Int)) (fun _ q => q) ?_
                have f30 := (s_vn.ext eh18)
                refine s_call [vn, .int .i64 (p : Int)] rfl (spec_l1Has_ok vn (bitsL now) (p : Int) _ f30.toSl) ?_
                rintro _ h31 ⟨rfl, eh31⟩
                have E32 := E19.trans eh31
                have z33 := eh31.size
                refine s_nil ?_
                refine p_seqN ?_
                refine v_cond rfl (fun c34 => ?_) (fun c34 => ?_)
                ·
                  refine v_ops ?_
                  refine s_pure (.pointer (some ⟨b1, 0, none⟩)) (fun _ q => q) ?_
                  refine s_pure (.pointer (some ⟨b1, 0, none⟩)) (fun _ q => q) ?_
                  refine s_pure (.pointer (some ⟨b1, 4, none⟩)) (fun _ q => q) ?_
                  have f35 := (f29.ext eh31)
                  refine s_load (.int .i64 d) (fun _ q => f35.load rfl q) ?_
                  refine s_pure (.int .i64 (d + 1)) (fun _ q => ArithVC.mk (by omega) q) ?_
                  refine s_pure (.pointer (some ⟨b1, 0, none⟩)) (fun _ q => q) ?_
                  refine s_pure (.pointer (some ⟨b1, 4, none⟩)) (fun _ q => q) ?_
                  refine s_stBx (.int .i64 (d + 1)) [.int .i64 (d + 1)] [vn, vk, .int .i64 rd, .int .i64 sent, .int .i64 (d + 1)] f35 rfl rfl rfl rfl (by simp) (all_cons rfl all_nil) rfl (fun h36 mh36 sh36 bxx37 => ?_)
                  have E38 := E32.mod mh36 (fun b hb => by simp at hb; omega)
                  refine s_nil ?_
                  refine p_seqN ?_
                  refine v_ops ?_
                  refine s_pure (.pointer (some ⟨b1, 0, none⟩)) (fun _ q => q) ?_
                  refine s_pure (.pointer (some ⟨b1, 0, none⟩)) (fun _ q => q) ?_
                  refine s_pure (.pointer (some ⟨b1, 0, none⟩)) (fun _ q => q) ?_
                  refine s_pure (.pointer (some ⟨b1, 0, none⟩)) (fun _ q => q) ?_
                  refine s_load vn (fun _ q => bxx37.load rfl q) ?_
                  refine s_pure (.int .i64 (p : Int)) (fun _ q => q) ?_
                  have f39 := ((f30.ext eh31).mod mh36 (fun b hb hc => np_b1_vn (by simp at hc; rw [← hc]; exact hb)))
                  refine s_call [vn, .int .i64 (p : Int)] rfl (spec_l1Put_ok vn (bitsL now) (p : Int) _ f39 (by first | omega | assumption | (simp; omega))) ?_
                  rintro r40 h41 ⟨_, rfl, s_r40, mh41, ab_r40⟩
                  have zh41 := mh41.size
                  have E42 := E38.mod mh41 (fun b hb => by have := fr_vn b hb; omega)
                  have fr_r40 := fr_vn.app ab_r40 (by omega)
                  have np43 : b1 ∉ blks r40 := fun hc => (ab_r40 _ hc).elim np_b1_vn (fun hc => by omega)
                  have np44 : ∀ b ∈ blks vk, b ∉ blks r40 := fun b hb hc => (ab_r40 _ hc).elim ((np_vk_vn : ∀ b ∈ blks vk, b ∉ blks vn) b hb) (fun hc => by have := lt_vk b hb; omega)
                  have np45 : ∀ b ∈ blks vk, b ∉ blks r40 := fun b hb hc => (ab_r40 _ hc).elim ((np_vk_vn : ∀ b ∈ blks vk, b ∉ blks vn) b hb) (fun hc => by have := lt_vk b hb; omega)
                  have lt_r40 := s_r40.lt
                  refine s_pure (.pointer (some ⟨b1, 0, none⟩)) (fun _ q => q) ?_
                  refine s_pure (.pointer (some ⟨b1, 0, none⟩)) (fun _ q => q) ?_
                  have f46 := (bxx37.mod mh41 np_b1_vn)
                  refine s_stBx r40 [r40] [r40, vk, .int .i64 rd, .int .i64 sent, .int .i64 (d + 1)] f46 rfl rfl s_r40.cellsv rfl (by simp) (all_cons s_r40.one1 all_nil) rfl (fun h47 mh47 sh47 bxx48 => ?_)
                  have E49 := E42.mod mh47 (fun b hb => by simp at hb; omega)
                  refine s_nil ?_
                  refine p_blkN ?_
                  refine p_seqN ?_
                  refine v_ops ?_
                  refine s_pure (.int .i64 (p : Int)) (fun _ q => q) ?_
                  refine s_pure (.int .i64 ((p : Int) + 1)) (fun _ q => ArithVC.mk (by omega) q) ?_
                  refine s_pure (.int .i64 ((p : Int) + 1)) (fun _ q => q) ?_
                  refine s_nil ?_
                  have f50 := (s_r40.mod mh47 (fun b hb hc => np43 (by simp at hc; rw [← hc]; exact hb)))
                  have f51 := (((((s_vk.ext eh18).ext eh31).mod mh36 (fun b hb hc => np_b1_vk (by simp at hc; rw [← hc]; exact hb))).mod mh41 np_vk_vn).mod mh47 (fun b hb hc => np_b1_vk (by simp at hc; rw [← hc]; exact hb)))
                  exact p_lpN ⟨p + 1, (sn + 1), (d + 1), (now ||| 2 ^ p), r40, ⟨rfl, rfl, rfl, rfl, rfl, rfl⟩, ⟨E49, bxx48, (sl_eq f50 (by first | rfl | exact put_bits (by omega) (by omega))), (fr_r40.mono (by omega)), f51, np43, np45, (by first | ((have e3 := in_next hin (by omega) (by omega) (in_known ((mem_bits (by omega)).1 (by assumption)))); refine ⟨by omega, ?_, by omega, ?_, by omega, ?_⟩; all_goals first | omega | exact e3 | assumption | exact Nat.or_lt_two_pow hnow (Nat.pow_lt_pow_right (by omega) (by omega)) | exact fun q hq => hbit q (by omega) | exact or_bit hbit) | ((have e3 := in_next hin (by omega) (by omega) (in_lost (fun hc => absurd ((mem_bits (by omega)).2 hc) (by assumption)) (hbL.1 (by assumption)))); refine ⟨by omega, ?_, by omega, ?_, by omega, ?_⟩; all_goals first | omega | exact e3 | assumption | exact Nat.or_lt_two_pow hnow (Nat.pow_lt_pow_right (by omega) (by omega)) | exact fun q hq => hbit q (by omega) | exact or_bit hbit) | ((have e3 := in_next hin (by omega) (by omega) (in_new (fun hc => absurd ((mem_bits (by omega)).2 hc) (by assumption)) (fun hc => absurd (hbL.2 hc) (by assumption)) (by rw [← hbit p (Nat.le_refl p)]; exact (mem_bits (by omega)).1 (by assumption)))); refine ⟨by omega, ?_, by omega, ?_, by omega, ?_⟩; all_goals first | omega | exact e3 | assumption | exact Nat.or_lt_two_pow hnow (Nat.pow_lt_pow_right (by omega) (by omega)) | exact fun q hq => hbit q (by omega) | exact or_bit hbit) | ((have e3 := in_next hin (by omega) (by omega) (in_first (fun hc => absurd ((mem_bits (by omega)).2 hc) (by assumption)) (fun hc => absurd (hbL.2 hc) (by assumption)) (by rw [← hbit p (Nat.le_refl p)]; exact fun hc => absurd ((mem_bits (by omega)).2 hc) (by assumption)))); refine ⟨by omega, ?_, by omega, ?_, by omega, ?_⟩; all_goals first | omega | exact e3 | assumption | exact Nat.or_lt_two_pow hnow (Nat.pow_lt_pow_right (by omega) (by omega)) | exact fun q hq => hbit q (by omega) | exact or_bit hbit))⟩, by omega⟩
                ·
                  refine v_skip ?_
                  refine p_seqN ?_
                  refine v_ops ?_
                  refine s_pure (.pointer (some ⟨b1, 0, none⟩)) (fun _ q => q) ?_
                  refine s_pure (.pointer (some ⟨b1, 0, none⟩)) (fun _ q => q) ?_
                  refine s_pure (.pointer (some ⟨b1, 0, none⟩)) (fun _ q => q) ?_
                  refine s_pure (.pointer (some ⟨b1, 0, none⟩)) (fun _ q => q) ?_
                  have f52 := (f29.ext eh31)
                  refine s_load vn (fun _ q => f52.load rfl q) ?_
                  refine s_pure (.int .i64 (p : Int)) (fun _ q => q) ?_
                  have f53 := (f30.ext eh31)
                  refine s_call [vn, .int .i64 (p : Int)] rfl (spec_l1Put_ok vn (bitsL now) (p : Int) _ f53 (by first | omega | assumption | (simp; omega))) ?_
                  rintro r54 h55 ⟨_, rfl, s_r54, mh55, ab_r54⟩
                  have zh55 := mh55.size
                  have E56 := E32.mod mh55 (fun b hb => by have := fr_vn b hb; omega)
                  have fr_r54 := fr_vn.app ab_r54 (by omega)
                  have np57 : b1 ∉ blks r54 := fun hc => (ab_r54 _ hc).elim np_b1_vn (fun hc => by omega)
                  have np58 : ∀ b ∈ blks vk, b ∉ blks r54 := fun b hb hc => (ab_r54 _ hc).elim ((np_vk_vn : ∀ b ∈ blks vk, b ∉ blks vn) b hb) (fun hc => by have := lt_vk b hb; omega)
                  have np59 : ∀ b ∈ blks vk, b ∉ blks r54 := fun b hb hc => (ab_r54 _ hc).elim ((np_vk_vn : ∀ b ∈ blks vk, b ∉ blks vn) b hb) (fun hc => by have := lt_vk b hb; omega)
                  have lt_r54 := s_r54.lt
                  refine s_pure (.pointer (some ⟨b1, 0, none⟩)) (fun _ q => q) ?_
                  refine s_pure (.pointer (some ⟨b1, 0, none⟩)) (fun _ q => q) ?_
                  have f60 := (f52.mod mh55 np_b1_vn)
                  refine s_stBx r54 [r54] [r54, vk, .int .i64 rd, .int .i64 sent, .int .i64 d] f60 rfl rfl s_r54.cellsv rfl (by simp) (all_cons s_r54.one1 all_nil) rfl (fun h61 mh61 sh61 bxx62 => ?_)
                  have E63 := E56.mod mh61 (fun b hb => by simp at hb; omega)
                  refine s_nil ?_
                  refine p_blkN ?_
                  refine p_seqN ?_
                  refine v_ops ?_
                  refine s_pure (.int .i64 (p : Int)) (fun _ q => q) ?_
                  refine s_pure (.int .i64 ((p : Int) + 1)) (fun _ q => ArithVC.mk (by omega) q) ?_
                  refine s_pure (.int .i64 ((p : Int) + 1)) (fun _ q => q) ?_
                  refine s_nil ?_
                  have f64 := (s_r54.mod mh61 (fun b hb hc => np57 (by simp at hc; rw [← hc]; exact hb)))
                  have f65 := ((((s_vk.ext eh18).ext eh31).mod mh55 np_vk_vn).mod mh61 (fun b hb hc => np_b1_vk (by simp at hc; rw [← hc]; exact hb)))
                  exact p_lpN ⟨p + 1, (sn + 1), d, (now ||| 2 ^ p), r54, ⟨rfl, rfl, rfl, rfl, rfl, rfl⟩, ⟨E63, bxx62, (sl_eq f64 (by first | rfl | exact put_bits (by omega) (by omega))), (fr_r54.mono (by omega)), f65, np57, np59, (by first | ((have e3 := in_next hin (by omega) (by omega) (in_known ((mem_bits (by omega)).1 (by assumption)))); refine ⟨by omega, ?_, by omega, ?_, by omega, ?_⟩; all_goals first | omega | exact e3 | assumption | exact Nat.or_lt_two_pow hnow (Nat.pow_lt_pow_right (by omega) (by omega)) | exact fun q hq => hbit q (by omega) | exact or_bit hbit) | ((have e3 := in_next hin (by omega) (by omega) (in_lost (fun hc => absurd ((mem_bits (by omega)).2 hc) (by assumption)) (hbL.1 (by assumption)))); refine ⟨by omega, ?_, by omega, ?_, by omega, ?_⟩; all_goals first | omega | exact e3 | assumption | exact Nat.or_lt_two_pow hnow (Nat.pow_lt_pow_right (by omega) (by omega)) | exact fun q hq => hbit q (by omega) | exact or_bit hbit) | ((have e3 := in_next hin (by omega) (by omega) (in_new (fun hc => absurd ((mem_bits (by omega)).2 hc) (by assumption)) (fun hc => absurd (hbL.2 hc) (by assumption)) (by rw [← hbit p (Nat.le_refl p)]; exact (mem_bits (by omega)).1 (by assumption)))); refine ⟨by omega, ?_, by omega, ?_, by omega, ?_⟩; all_goals first | omega | exact e3 | assumption | exact Nat.or_lt_two_pow hnow (Nat.pow_lt_pow_right (by omega) (by omega)) | exact fun q hq => hbit q (by omega) | exact or_bit hbit) | ((have e3 := in_next hin (by omega) (by omega) (in_first (fun hc => absurd ((mem_bits (by omega)).2 hc) (by assumption)) (fun hc => absurd (hbL.2 hc) (by assumption)) (by rw [← hbit p (Nat.le_refl p)]; exact fun hc => absurd ((mem_bits (by omega)).2 hc) (by assumption)))); refine ⟨by omega, ?_, by omega, ?_, by omega, ?_⟩; all_goals first | omega | exact e3 | assumption | exact Nat.or_lt_two_pow hnow (Nat.pow_lt_pow_right (by omega) (by omega)) | exact fun q hq => hbit q (by omega) | exact or_bit hbit))⟩, by omega⟩
          ·
            refine v_exit ?_
            refine p_seqX ?_
            refine p_lpX ?_
            refine p_blkX ?_
            refine p_seqN ?_
            refine v_seq ?_
            refine v_ops ?_
            refine s_pure (.pointer (some ⟨b1, 0, none⟩)) (fun _ q => q) ?_
            refine s_pure (.pointer (some ⟨b1, 0, none⟩)) (fun _ q => q) ?_
            refine s_pure (.pointer (some ⟨b1, 3, none⟩)) (fun _ q => q) ?_
            refine s_load (.int .i64 sent) (fun _ q => bxb1.load rfl q) ?_
            refine s_pure (.int .i64 sn) (fun _ q => q) ?_
            refine s_pure (.int .i64 (sent + sn)) (fun _ q => ArithVC.mk (by omega) q) ?_
            refine s_pure (.pointer (some ⟨b1, 0, none⟩)) (fun _ q => q) ?_
            refine s_pure (.pointer (some ⟨b1, 3, none⟩)) (fun _ q => q) ?_
            refine s_stBx (.int .i64 (sent + sn)) [.int .i64 (sent + sn)] [vn, vk, .int .i64 rd, .int .i64 (sent + sn), .int .i64 d] bxb1 rfl rfl rfl rfl (by simp) (all_cons rfl all_nil) rfl (fun h66 mh66 sh66 bxx67 => ?_)
            have E68 := Eh.mod mh66 (fun b hb => by simp at hb; omega)
            refine s_nil ?_
            refine p_seqN ?_
            refine v_seq ?_
            refine v_ops ?_
            refine s_pure (.pointer (some ⟨b1, 0, none⟩)) (fun _ q => q) ?_
            refine s_pure (.pointer (some ⟨b1, 0, none⟩)) (fun _ q => q) ?_
            refine s_pure (.pointer (some ⟨b1, 2, none⟩)) (fun _ q => q) ?_
            refine s_load (.int .i64 rd) (fun _ q => bxx67.load rfl q) ?_
            refine s_pure (.int .i64 (rd + 1)) (fun _ q => ArithVC.mk (by omega) q) ?_
            refine s_pure (.pointer (some ⟨b1, 0, none⟩)) (fun _ q => q) ?_
            refine s_pure (.pointer (some ⟨b1, 2, none⟩)) (fun _ q => q) ?_
            refine s_stBx (.int .i64 (rd + 1)) [.int .i64 (rd + 1)] [vn, vk, .int .i64 (rd + 1), .int .i64 (sent + sn), .int .i64 d] bxx67 rfl rfl rfl rfl (by simp) (all_cons rfl all_nil) rfl (fun h69 mh69 sh69 bxx70 => ?_)
            have E71 := E68.mod mh69 (fun b hb => by simp at hb; omega)
            refine s_nil ?_
            refine p_seqN ?_
            refine v_seq ?_
            refine v_ops ?_
            refine s_pure (.int .i64 x12) (fun _ q => q) ?_
            refine s_pure (.bool (decide (x12 < 512))) (fun _ q => q) ?_
            refine s_nil ?_
            refine p_seqN ?_
            refine v_cond rfl (fun c72 => ?_) (fun c72 => ?_)
            ·
              refine v_ops ?_
              refine s_pure (.pointer (some ⟨b1, 0, none⟩)) (fun _ q => q) ?_
              refine s_pure (.pointer (some ⟨b1, 0, none⟩)) (fun _ q => q) ?_
              refine s_pure (.pointer (some ⟨b1, 0, none⟩)) (fun _ q => q) ?_
              refine s_pure (.pointer (some ⟨b1, 0, none⟩)) (fun _ q => q) ?_
              refine s_load vn (fun _ q => bxx70.load rfl q) ?_
              have f73 := ((s_vn.mod mh66 (fun b hb hc => np_b1_vn (by simp at hc; rw [← hc]; exact hb))).mod mh69 (fun b hb hc => np_b1_vn (by simp at hc; rw [← hc]; exact hb)))
              refine s_call [vn] rfl (spec_l1Own_ok vn (bitsL now) _ f73.toSl (by first | omega | assumption | (simp; omega))) ?_
              rintro r74 h75 ⟨_, rfl, s_r74, fr_r74, eh75⟩
              have E76 := E71.trans eh75
              have z77 := eh75.size
              have lt_r74 := s_r74.lt
              refine s_pure (.pointer (some ⟨b1, 0, none⟩)) (fun _ q => q) ?_
              refine s_pure (.pointer (some ⟨b1, 1, none⟩)) (fun _ q => q) ?_
              have f78 := (bxx70.ext eh75)
              refine s_stBx r74 [r74] [vn, r74, .int .i64 (rd + 1), .int .i64 (sent + sn), .int .i64 d] f78 rfl rfl s_r74.cellsv rfl (by simp) (all_cons s_r74.one1 all_nil) rfl (fun h79 mh79 sh79 bxx80 => ?_)
              have E81 := E76.mod mh79 (fun b hb => by simp at hb; omega)
              refine s_nil ?_
              refine p_end [] (.tuple #[]) (fun _ q => q) rfl ?_
              refine s_nil ?_
              refine p_blkN ?_
              have f82 := ((f73.ext eh75).mod mh79 (fun b hb hc => np_b1_vn (by simp at hc; rw [← hc]; exact hb)))
              have f83 := (s_r74.mod mh79 (fun b hb hc => by simp at hc; have := fr_r74 b hb; omega))
              exact p_lpN ⟨now, now, (rd + 1), (sent + sn), d, vn, r74, ⟨rfl, rfl, rfl, rfl, rfl⟩, ⟨E81, bxx80, (sl_eq f82 (by first | rfl | simp)), (fr_vn.mono (by omega)), (sl_eq f83 (by first | rfl | simp)), (fr_r74.mono (by omega)), np_b1_vn, (fun b hb hc => by have := fr_r74 b hb; have := lt_vn b hc; omega), (fun hc => by have := fr_r74 _ hc; omega), (by (have hres := in_done hin (by first | (left; omega) | (right; omega))); (have e2 : (k - (rd + 1)).toNat = (k - rd).toNat - 1 := by omega); first | ((have e : ackStep n w script ⟨arr, kn, rd, sent, dbl⟩ = ⟨now, now, rd + 1, sent + sn, d⟩ := by (unfold ackStep; simp only; rw [hres]; rw [if_pos (by omega)])); exact ⟨by (rw [e2]; exact ack_next hrun (by omega) (hlen.1 (by omega)) e), by omega, by omega, hnow, (by assumption), by omega, by omega, by omega⟩) | ((have e : ackStep n w script ⟨arr, kn, rd, sent, dbl⟩ = ⟨now, kn, rd + 1, sent + sn, d⟩ := by (unfold ackStep; simp only; rw [hres]; rw [if_neg (by omega)])); exact ⟨by (rw [e2]; exact ack_next hrun (by omega) (hlen.1 (by omega)) e), by omega, by omega, hnow, (by assumption), by omega, by omega, by omega⟩))⟩, by omega⟩
            ·
              refine v_skip ?_
              refine p_end [] (.tuple #[]) (fun _ q => q) rfl ?_
              refine s_nil ?_
              refine p_blkN ?_
              have f84 := ((s_vn.mod mh66 (fun b hb hc => np_b1_vn (by simp at hc; rw [← hc]; exact hb))).mod mh69 (fun b hb hc => np_b1_vn (by simp at hc; rw [← hc]; exact hb)))
              have f85 := ((s_vk.mod mh66 (fun b hb hc => np_b1_vk (by simp at hc; rw [← hc]; exact hb))).mod mh69 (fun b hb hc => np_b1_vk (by simp at hc; rw [← hc]; exact hb)))
              exact p_lpN ⟨now, kn, (rd + 1), (sent + sn), d, vn, vk, ⟨rfl, rfl, rfl, rfl, rfl⟩, ⟨E71, bxx70, (sl_eq f84 (by first | rfl | simp)), (fr_vn.mono (by omega)), (sl_eq f85 (by first | rfl | simp)), (fr_vk.mono (by omega)), np_b1_vn, np_vk_vn, np_b1_vk, (by (have hres := in_done hin (by first | (left; omega) | (right; omega))); (have e2 : (k - (rd + 1)).toNat = (k - rd).toNat - 1 := by omega); first | ((have e : ackStep n w script ⟨arr, kn, rd, sent, dbl⟩ = ⟨now, now, rd + 1, sent + sn, d⟩ := by (unfold ackStep; simp only; rw [hres]; rw [if_pos (by omega)])); exact ⟨by (rw [e2]; exact ack_next hrun (by omega) (hlen.1 (by omega)) e), by omega, by omega, hnow, (by assumption), by omega, by omega, by omega⟩) | ((have e : ackStep n w script ⟨arr, kn, rd, sent, dbl⟩ = ⟨now, kn, rd + 1, sent + sn, d⟩ := by (unfold ackStep; simp only; rw [hres]; rw [if_neg (by omega)])); exact ⟨by (rw [e2]; exact ack_next hrun (by omega) (hlen.1 (by omega)) e), by omega, by omega, hnow, (by assumption), by omega, by omega, by omega⟩))⟩, by omega⟩
        ·
          refine s_pass rfl ?_
          refine s_pass rfl ?_
          refine s_pass rfl ?_
          refine s_pure (.bool false) (fun _ q => q) ?_
          refine s_nil ?_
          refine p_seqN ?_
          refine v_condN rfl (by simp) ?_
          refine v_exit ?_
          refine p_seqX ?_
          refine p_lpX ?_
          refine p_blkX ?_
          refine p_seqN ?_
          refine v_seq ?_
          refine v_ops ?_
          refine s_pure (.pointer (some ⟨b1, 0, none⟩)) (fun _ q => q) ?_
          refine s_pure (.pointer (some ⟨b1, 0, none⟩)) (fun _ q => q) ?_
          refine s_pure (.pointer (some ⟨b1, 3, none⟩)) (fun _ q => q) ?_
          refine s_load (.int .i64 sent) (fun _ q => bxb1.load rfl q) ?_
          refine s_pure (.int .i64 sn) (fun _ q => q) ?_
          refine s_pure (.int .i64 (sent + sn)) (fun _ q => ArithVC.mk (by omega) q) ?_
          refine s_pure (.pointer (some ⟨b1, 0, none⟩)) (fun _ q => q) ?_
          refine s_pure (.pointer (some ⟨b1, 3, none⟩)) (fun _ q => q) ?_
          refine s_stBx (.int .i64 (sent + sn)) [.int .i64 (sent + sn)] [vn, vk, .int .i64 rd, .int .i64 (sent + sn), .int .i64 d] bxb1 rfl rfl rfl rfl (by simp) (all_cons rfl all_nil) rfl (fun h86 mh86 sh86 bxx87 => ?_)
          have E88 := Eh.mod mh86 (fun b hb => by simp at hb; omega)
          refine s_nil ?_
          refine p_seqN ?_
          refine v_seq ?_
          refine v_ops ?_
          refine s_pure (.pointer (some ⟨b1, 0, none⟩)) (fun _ q => q) ?_
          refine s_pure (.pointer (some ⟨b1, 0, none⟩)) (fun _ q => q) ?_
          refine s_pure (.pointer (some ⟨b1, 2, none⟩)) (fun _ q => q) ?_
          refine s_load (.int .i64 rd) (fun _ q => bxx87.load rfl q) ?_
          refine s_pure (.int .i64 (rd + 1)) (fun _ q => ArithVC.mk (by omega) q) ?_
          refine s_pure (.pointer (some ⟨b1, 0, none⟩)) (fun _ q => q) ?_
          refine s_pure (.pointer (some ⟨b1, 2, none⟩)) (fun _ q => q) ?_
          refine s_stBx (.int .i64 (rd + 1)) [.int .i64 (rd + 1)] [vn, vk, .int .i64 (rd + 1), .int .i64 (sent + sn), .int .i64 d] bxx87 rfl rfl rfl rfl (by simp) (all_cons rfl all_nil) rfl (fun h89 mh89 sh89 bxx90 => ?_)
          have E91 := E88.mod mh89 (fun b hb => by simp at hb; omega)
          refine s_nil ?_
          refine p_seqN ?_
          refine v_seq ?_
          refine v_ops ?_
          refine s_pure (.int .i64 x12) (fun _ q => q) ?_
          refine s_pure (.bool (decide (x12 < 512))) (fun _ q => q) ?_
          refine s_nil ?_
          refine p_seqN ?_
          refine v_cond rfl (fun c92 => ?_) (fun c92 => ?_)
          ·
            refine v_ops ?_
            refine s_pure (.pointer (some ⟨b1, 0, none⟩)) (fun _ q => q) ?_
            refine s_pure (.pointer (some ⟨b1, 0, none⟩)) (fun _ q => q) ?_
            refine s_pure (.pointer (some ⟨b1, 0, none⟩)) (fun _ q => q) ?_
            refine s_pure (.pointer (some ⟨b1, 0, none⟩)) (fun _ q => q) ?_
            refine s_load vn (fun _ q => bxx90.load rfl q) ?_
            have f93 := ((s_vn.mod mh86 (fun b hb hc => np_b1_vn (by simp at hc; rw [← hc]; exact hb))).mod mh89 (fun b hb hc => np_b1_vn (by simp at hc; rw [← hc]; exact hb)))
            refine s_call [vn] rfl (spec_l1Own_ok vn (bitsL now) _ f93.toSl (by first | omega | assumption | (simp; omega))) ?_
            rintro r94 h95 ⟨_, rfl, s_r94, fr_r94, eh95⟩
            have E96 := E91.trans eh95
            have z97 := eh95.size
            have lt_r94 := s_r94.lt
            refine s_pure (.pointer (some ⟨b1, 0, none⟩)) (fun _ q => q) ?_
            refine s_pure (.pointer (some ⟨b1, 1, none⟩)) (fun _ q => q) ?_
            have f98 := (bxx90.ext eh95)
            refine s_stBx r94 [r94] [vn, r94, .int .i64 (rd + 1), .int .i64 (sent + sn), .int .i64 d] f98 rfl rfl s_r94.cellsv rfl (by simp) (all_cons s_r94.one1 all_nil) rfl (fun h99 mh99 sh99 bxx100 => ?_)
            have E101 := E96.mod mh99 (fun b hb => by simp at hb; omega)
            refine s_nil ?_
            refine p_end [] (.tuple #[]) (fun _ q => q) rfl ?_
            refine s_nil ?_
            refine p_blkN ?_
            have f102 := ((f93.ext eh95).mod mh99 (fun b hb hc => np_b1_vn (by simp at hc; rw [← hc]; exact hb)))
            have f103 := (s_r94.mod mh99 (fun b hb hc => by simp at hc; have := fr_r94 b hb; omega))
            exact p_lpN ⟨now, now, (rd + 1), (sent + sn), d, vn, r94, ⟨rfl, rfl, rfl, rfl, rfl⟩, ⟨E101, bxx100, (sl_eq f102 (by first | rfl | simp)), (fr_vn.mono (by omega)), (sl_eq f103 (by first | rfl | simp)), (fr_r94.mono (by omega)), np_b1_vn, (fun b hb hc => by have := fr_r94 b hb; have := lt_vn b hc; omega), (fun hc => by have := fr_r94 _ hc; omega), (by (have hres := in_done hin (by first | (left; omega) | (right; omega))); (have e2 : (k - (rd + 1)).toNat = (k - rd).toNat - 1 := by omega); first | ((have e : ackStep n w script ⟨arr, kn, rd, sent, dbl⟩ = ⟨now, now, rd + 1, sent + sn, d⟩ := by (unfold ackStep; simp only; rw [hres]; rw [if_pos (by omega)])); exact ⟨by (rw [e2]; exact ack_next hrun (by omega) (hlen.1 (by omega)) e), by omega, by omega, hnow, (by assumption), by omega, by omega, by omega⟩) | ((have e : ackStep n w script ⟨arr, kn, rd, sent, dbl⟩ = ⟨now, kn, rd + 1, sent + sn, d⟩ := by (unfold ackStep; simp only; rw [hres]; rw [if_neg (by omega)])); exact ⟨by (rw [e2]; exact ack_next hrun (by omega) (hlen.1 (by omega)) e), by omega, by omega, hnow, (by assumption), by omega, by omega, by omega⟩))⟩, by omega⟩
          ·
            refine v_skip ?_
            refine p_end [] (.tuple #[]) (fun _ q => q) rfl ?_
            refine s_nil ?_
            refine p_blkN ?_
            have f104 := ((s_vn.mod mh86 (fun b hb hc => np_b1_vn (by simp at hc; rw [← hc]; exact hb))).mod mh89 (fun b hb hc => np_b1_vn (by simp at hc; rw [← hc]; exact hb)))
            have f105 := ((s_vk.mod mh86 (fun b hb hc => np_b1_vk (by simp at hc; rw [← hc]; exact hb))).mod mh89 (fun b hb hc => np_b1_vk (by simp at hc; rw [← hc]; exact hb)))
            exact p_lpN ⟨now, kn, (rd + 1), (sent + sn), d, vn, vk, ⟨rfl, rfl, rfl, rfl, rfl⟩, ⟨E91, bxx90, (sl_eq f104 (by first | rfl | simp)), (fr_vn.mono (by omega)), (sl_eq f105 (by first | rfl | simp)), (fr_vk.mono (by omega)), np_b1_vn, np_vk_vn, np_b1_vk, (by (have hres := in_done hin (by first | (left; omega) | (right; omega))); (have e2 : (k - (rd + 1)).toNat = (k - rd).toNat - 1 := by omega); first | ((have e : ackStep n w script ⟨arr, kn, rd, sent, dbl⟩ = ⟨now, now, rd + 1, sent + sn, d⟩ := by (unfold ackStep; simp only; rw [hres]; rw [if_pos (by omega)])); exact ⟨by (rw [e2]; exact ack_next hrun (by omega) (hlen.1 (by omega)) e), by omega, by omega, hnow, (by assumption), by omega, by omega, by omega⟩) | ((have e : ackStep n w script ⟨arr, kn, rd, sent, dbl⟩ = ⟨now, kn, rd + 1, sent + sn, d⟩ := by (unfold ackStep; simp only; rw [hres]; rw [if_neg (by omega)])); exact ⟨by (rw [e2]; exact ack_next hrun (by omega) (hlen.1 (by omega)) e), by omega, by omega, hnow, (by assumption), by omega, by omega, by omega⟩))⟩, by omega⟩
      ·
        refine v_skip ?_
        refine p_seqN ?_
        refine v_ops ?_
        refine s_pure (.pointer (some ⟨b1, 0, none⟩)) (fun _ q => q) ?_
        refine s_pure (.int .i64 n) (fun _ q => q) ?_
        refine s_pure (.int .i64 w) (fun _ q => q) ?_
        refine s_pure (.int .i64 0) (fun _ q => q) ?_
        refine s_inl r_spec_akState_round [.pointer (some ⟨b1, 0, none⟩), .int .i64 n, .int .i64 w, .int .i64 0] rfl ?_ rfl
        refine v_seq ?_
        refine v_ops ?_
        refine s_pure (.int .i64 0) (fun _ q => q) ?_
        refine s_nil ?_
        refine p_seqN ?_
        refine v_seq ?_
        refine v_seq ?_
        refine v_ops ?_
        refine s_pure (.int .i64 0) (fun _ q => q) ?_
        refine s_nil ?_
        refine p_seqN ?_
        refine v_block ?_
        have hL : 0 = (lostAt script rd : Int) := by first | exact lost_some hack rfl (by assumption) | exact lost_none hr0 (by omega)
        have hL2 := lost_lt hack rd
        refine v_loop5 (α := Nat) (β := Int) (γ := Int) (δ := Nat) (ε := Value) (fun p sn d now vn => [(0, .pointer (some ⟨b1, 0, none⟩)), (1, .int .i64 n), (2, .int .i64 w), (3, .int .i64 0), (8, .int .i64 sn), (9, .int .i64 (p : Int))]) (fun p sn d now vn hh => Ext h hh ∧ Bx hh b1 [vn, vk, .int .i64 rd, .int .i64 sent, .int .i64 d] 31 ∧ SlO hh vn (bitsL now) ∧ Fr h.size vn ∧ SlO hh vk (bitsL kn) ∧ b1 ∉ blks vn ∧ (∀ b ∈ blks vk, b ∉ blks vn) ∧ p ≤ n.toNat ∧ inRun w (lostAt script rd) kn arr (n.toNat - p) p sn d now = inRun w (lostAt script rd) kn arr n.toNat 0 0 dbl arr ∧ (0 ≤ sn ∧ sn ≤ w) ∧ now < 2 ^ n.toNat ∧ (dbl ≤ d ∧ d ≤ dbl + p) ∧ ∀ q, p ≤ q → now.testBit q = arr.testBit q) (fun p sn d now vn => n.toNat - p) 0 0 dbl arr va ⟨rfl, rfl, rfl, rfl, rfl, rfl⟩ ⟨Eh, bxb1, (sl_eq s_va (by simp)), (fr_va.mono (by omega)), s_vk, np_b1_va, np_vk_va, (by refine ⟨by omega, by simp, by omega, harr, by omega, fun _ _ => rfl⟩)⟩ ?_
        rintro p sn d now vn R107 h106 ⟨Eh, bxb1, s_vn, fr_vn, s_vk, np_b1_vn, np_vk_vn, ⟨hp, hin, hsn, hnow, hd, hbit⟩⟩
        have zEh := Eh.size
        have f108 := s_script.ext Eh
        have lbb1 := bxb1.lt
        have lt_vk := s_vk.lt
        have lt_vn := s_vn.lt
        have hle3 := bits_le now
        have hbL := tbi2 (p := p) hL hL2 (by omega)
        refine v_seq ?_
        refine v_seq ?_
        refine v_ops ?_
        refine s_pure (.int .i64 (p : Int)) (fun _ q => q) ?_
        refine s_pure (.int .i64 n) (fun _ q => q) ?_
        refine s_pure (.bool (decide ((p : Int) < n))) (fun _ q => q) ?_
        refine s_pure (.bool (decide ((p : Int) < n))) (fun _ q => q) ?_
        refine s_splitT rfl (fun c109 => ?_) (fun c109 => ?_)
        ·
          refine s_run rfl ?_
          refine s_pure (.int .i64 sn) (fun _ q => q) ?_
          refine s_run rfl ?_
          refine s_pure (.int .i64 w) (fun _ q => q) ?_
          refine s_run rfl ?_
          refine s_pure (.bool (decide (sn < w))) (fun _ q => q) ?_
          refine s_pure (.bool (decide (sn < w))) (fun _ q => q) ?_
          refine s_nil ?_
          refine p_seqN ?_
          refine v_cond rfl (fun c110 => ?_) (fun c110 => ?_)
          ·
            refine v_skip ?_
            refine p_seqN ?_
            refine v_seq ?_
            refine v_block ?_
            refine v_seq ?_
            refine v_seq ?_
            refine v_ops ?_
            refine s_pure (.pointer (some ⟨b1, 0, none⟩)) (fun _ q => q) ?_
            refine s_pure (.pointer (some ⟨b1, 0, none⟩)) (fun _ q => q) ?_
            refine s_pure (.pointer (some ⟨b1, 1, none⟩)) (fun _ q => q) ?_
            refine s_load vk (fun _ q => bxb1.load rfl q) ?_
            refine s_pure (.int .i64 (p : Int)) (fun _ q => q) ?_
            refine s_call [vk, .int .i64 (p : Int)] rfl (spec_l1Has_ok vk (bitsL kn) (p : Int) _ s_vk.toSl) ?_
            rintro _ h111 ⟨rfl, eh111⟩
            have E112 := Eh.trans eh111
            have z113 := eh111.size
            refine s_nil ?_
            refine p_seqN ?_
            refine v_cond rfl (fun c114 => ?_) (fun c114 => ?_)
            ·
              refine v_exit ?_
              refine p_seqX ?_
              refine p_blkX ?_
              refine p_seqN ?_
              refine v_ops ?_
              refine s_pure (.int .i64 (p : Int)) (fun _ q => q) ?_
              refine s_pure (.int .i64 ((p : Int) + 1)) (fun _ q => ArithVC.mk (by omega) q) ?_
              refine s_pure (.int .i64 ((p : Int) + 1)) (fun _ q => q) ?_
              refine s_nil ?_
              have f115 := (bxb1.ext eh111)
              have f116 := (s_vn.ext eh111)
              have f117 := (s_vk.ext eh111)
              exact p_lpN ⟨p + 1, sn, d, now, vn, ⟨rfl, rfl, rfl, rfl, rfl, rfl⟩, ⟨E112, f115, (sl_eq f116 (by first | rfl | exact put_bits (by omega) (by omega))), (fr_vn.mono (by omega)), f117, np_b1_vn, np_vk_vn, (by first | ((have e3 := in_next hin (by omega) (by omega) (in_known ((mem_bits (by omega)).1 (by assumption)))); refine ⟨by omega, ?_, by omega, ?_, by omega, ?_⟩; all_goals first | omega | exact e3 | assumption | exact Nat.or_lt_two_pow hnow (Nat.pow_lt_pow_right (by omega) (by omega)) | exact fun q hq => hbit q (by omega) | exact or_bit hbit) | ((have e3 := in_next hin (by omega) (by omega) (in_lost (fun hc => absurd ((mem_bits (by omega)).2 hc) (by assumption)) (hbL.1 (by assumption)))); refine ⟨by omega, ?_, by omega, ?_, by omega, ?_⟩; all_goals first | omega | exact e3 | assumption | exact Nat.or_lt_two_pow hnow (Nat.pow_lt_pow_right (by omega) (by omega)) | exact fun q hq => hbit q (by omega) | exact or_bit hbit) | ((have e3 := in_next hin (by omega) (by omega) (in_new (fun hc => absurd ((mem_bits (by omega)).2 hc) (by assumption)) (fun hc => absurd (hbL.2 hc) (by assumption)) (by rw [← hbit p (Nat.le_refl p)]; exact (mem_bits (by omega)).1 (by assumption)))); refine ⟨by omega, ?_, by omega, ?_, by omega, ?_⟩; all_goals first | omega | exact e3 | assumption | exact Nat.or_lt_two_pow hnow (Nat.pow_lt_pow_right (by omega) (by omega)) | exact fun q hq => hbit q (by omega) | exact or_bit hbit) | ((have e3 := in_next hin (by omega) (by omega) (in_first (fun hc => absurd ((mem_bits (by omega)).2 hc) (by assumption)) (fun hc => absurd (hbL.2 hc) (by assumption)) (by rw [← hbit p (Nat.le_refl p)]; exact fun hc => absurd ((mem_bits (by omega)).2 hc) (by assumption)))); refine ⟨by omega, ?_, by omega, ?_, by omega, ?_⟩; all_goals first | omega | exact e3 | assumption | exact Nat.or_lt_two_pow hnow (Nat.pow_lt_pow_right (by omega) (by omega)) | exact fun q hq => hbit q (by omega) | exact or_bit hbit))⟩, by omega⟩
            ·
              refine v_skip ?_
              refine p_seqN ?_
              refine v_seq ?_
              refine v_ops ?_
              refine s_pure (.int .i64 sn) (fun _ q => q) ?_
              refine s_pure (.int .i64 (sn + 1)) (fun _ q => ArithVC.mk (by omega) q) ?_
              refine s_pure (.int .i64 (sn + 1)) (fun _ q => q) ?_
              refine s_nil ?_
              refine p_seqN ?_
              refine v_seq ?_
              refine v_seq ?_
              refine v_ops ?_
              refine s_pure (.int .i64 0) (fun _ q => q) ?_
              refine s_pure (.int .i64 (p : Int)) (fun _ q => q) ?_
              refine s_pure (.int .u64 (p : Int)) (fun _ q => conv_u64 (by omega) q) ?_
              refine s_pure (.int .i64 (shrT 0 (p : Int))) (fun _ q => shr_vc (by omega) rfl q) ?_
              refine s_pure (.int .i64 (bits .and .i64 (shrT 0 (p : Int)) 1)) (fun _ q => BitsVC.mk q) ?_
              refine s_pure (.bool ((bits .and .i64 (shrT 0 (p : Int)) 1) == 1)) (fun _ q => q) ?_
              refine s_nil ?_
              refine p_seqN ?_
              refine v_cond rfl (fun c118 => ?_) (fun c118 => ?_)
              ·
                refine v_exit ?_
                refine p_seqX ?_
                refine p_blkX ?_
                refine p_seqN ?_
                refine v_ops ?_
                refine s_pure (.int .i64 (p : Int)) (fun _ q => q) ?_
                refine s_pure (.int .i64 ((p : Int) + 1)) (fun _ q => ArithVC.mk (by omega) q) ?_
                refine s_pure (.int .i64 ((p : Int) + 1)) (fun _ q => q) ?_
                refine s_nil ?_
                have f119 := (bxb1.ext eh111)
                have f120 := (s_vn.ext eh111)
                have f121 := (s_vk.ext eh111)
                exact p_lpN ⟨p + 1, (sn + 1), d, now, vn, ⟨rfl, rfl, rfl, rfl, rfl, rfl⟩, ⟨E112, f119, (sl_eq f120 (by first | rfl | exact put_bits (by omega) (by omega))), (fr_vn.mono (by omega)), f121, np_b1_vn, np_vk_vn, (by first | ((have e3 := in_next hin (by omega) (by omega) (in_known ((mem_bits (by omega)).1 (by assumption)))); refine ⟨by omega, ?_, by omega, ?_, by omega, ?_⟩; all_goals first | omega | exact e3 | assumption | exact Nat.or_lt_two_pow hnow (Nat.pow_lt_pow_right (by omega) (by omega)) | exact fun q hq => hbit q (by omega) | exact or_bit hbit) | ((have e3 := in_next hin (by omega) (by omega) (in_lost (fun hc => absurd ((mem_bits (by omega)).2 hc) (by assumption)) (hbL.1 (by assumption)))); refine ⟨by omega, ?_, by omega, ?_, by omega, ?_⟩; all_goals first | omega | exact e3 | assumption | exact Nat.or_lt_two_pow hnow (Nat.pow_lt_pow_right (by omega) (by omega)) | exact fun q hq => hbit q (by omega) | exact or_bit hbit) | ((have e3 := in_next hin (by omega) (by omega) (in_new (fun hc => absurd ((mem_bits (by omega)).2 hc) (by assumption)) (fun hc => absurd (hbL.2 hc) (by assumption)) (by rw [← hbit p (Nat.le_refl p)]; exact (mem_bits (by omega)).1 (by assumption)))); refine ⟨by omega, ?_, by omega, ?_, by omega, ?_⟩; all_goals first | omega | exact e3 | assumption | exact Nat.or_lt_two_pow hnow (Nat.pow_lt_pow_right (by omega) (by omega)) | exact fun q hq => hbit q (by omega) | exact or_bit hbit) | ((have e3 := in_next hin (by omega) (by omega) (in_first (fun hc => absurd ((mem_bits (by omega)).2 hc) (by assumption)) (fun hc => absurd (hbL.2 hc) (by assumption)) (by rw [← hbit p (Nat.le_refl p)]; exact fun hc => absurd ((mem_bits (by omega)).2 hc) (by assumption)))); refine ⟨by omega, ?_, by omega, ?_, by omega, ?_⟩; all_goals first | omega | exact e3 | assumption | exact Nat.or_lt_two_pow hnow (Nat.pow_lt_pow_right (by omega) (by omega)) | exact fun q hq => hbit q (by omega) | exact or_bit hbit))⟩, by omega⟩
              ·
                refine v_skip ?_
                refine p_seqN ?_
                refine v_seq ?_
                refine v_seq ?_
                refine v_ops ?_
                refine s_pure (.pointer (some ⟨b1, 0, none⟩)) (fun _ q => q) ?_
                refine s_pure (.pointer (some ⟨b1, 0, none⟩)) (fun _ q => q) ?_
                refine s_pure (.pointer (some ⟨b1, 0, none⟩)) (fun _ q => q) ?_
                have f122 := (bxb1.ext eh111)
                refine s_load vn (fun _ q => f122.load rfl q) ?_
                refine s_pure (.int .i64 (p : Int)) (fun _ q => q) ?_
                have f123 := (s_vn.ext eh111)
                refine s_call [vn, .int .i64 (p : Int)] rfl (spec_l1Has_ok vn (bitsL now) (p : Int) _ f123.toSl) ?_
                rintro _ h124 ⟨rfl, eh124⟩
                have E125 := E112.trans eh124
                have z126 := eh124.size
                refine s_nil ?_
                refine p_seqN ?_
                refine v_cond rfl (fun c127 => ?_) (fun c127 => ?_)
                ·
                  refine v_ops ?_
                  refine s_pure (.pointer (some ⟨b1, 0, none⟩)) (fun _ q => q) ?_
                  refine s_pure (.pointer (some ⟨b1, 0, none⟩)) (fun _ q => q) ?_
                  refine s_pure (.pointer (some ⟨b1, 4, none⟩)) (fun _ q => q) ?_
                  have f128 := (f122.ext eh124)
                  refine s_load (.int .i64 d) (fun _ q => f128.load rfl q) ?_
                  refine s_pure (.int .i64 (d + 1)) (fun _ q => ArithVC.mk (by omega) q) ?_
                  refine s_pure (.pointer (some ⟨b1, 0, none⟩)) (fun _ q => q) ?_
                  refine s_pure (.pointer (some ⟨b1, 4, none⟩)) (fun _ q => q) ?_
                  refine s_stBx (.int .i64 (d + 1)) [.int .i64 (d + 1)] [vn, vk, .int .i64 rd, .int .i64 sent, .int .i64 (d + 1)] f128 rfl rfl rfl rfl (by simp) (all_cons rfl all_nil) rfl (fun h129 mh129 sh129 bxx130 => ?_)
                  have E131 := E125.mod mh129 (fun b hb => by simp at hb; omega)
                  refine s_nil ?_
                  refine p_seqN ?_
                  refine v_ops ?_
                  refine s_pure (.pointer (some ⟨b1, 0, none⟩)) (fun _ q => q) ?_
                  refine s_pure (.pointer (some ⟨b1, 0, none⟩)) (fun _ q => q) ?_
                  refine s_pure (.pointer (some ⟨b1, 0, none⟩)) (fun _ q => q) ?_
                  refine s_pure (.pointer (some ⟨b1, 0, none⟩)) (fun _ q => q) ?_
                  refine s_load vn (fun _ q => bxx130.load rfl q) ?_
                  refine s_pure (.int .i64 (p : Int)) (fun _ q => q) ?_
                  have f132 := ((f123.ext eh124).mod mh129 (fun b hb hc => np_b1_vn (by simp at hc; rw [← hc]; exact hb)))
                  refine s_call [vn, .int .i64 (p : Int)] rfl (spec_l1Put_ok vn (bitsL now) (p : Int) _ f132 (by first | omega | assumption | (simp; omega))) ?_
                  rintro r133 h134 ⟨_, rfl, s_r133, mh134, ab_r133⟩
                  have zh134 := mh134.size
                  have E135 := E131.mod mh134 (fun b hb => by have := fr_vn b hb; omega)
                  have fr_r133 := fr_vn.app ab_r133 (by omega)
                  have np136 : b1 ∉ blks r133 := fun hc => (ab_r133 _ hc).elim np_b1_vn (fun hc => by omega)
                  have np137 : ∀ b ∈ blks vk, b ∉ blks r133 := fun b hb hc => (ab_r133 _ hc).elim ((np_vk_vn : ∀ b ∈ blks vk, b ∉ blks vn) b hb) (fun hc => by have := lt_vk b hb; omega)
                  have np138 : ∀ b ∈ blks vk, b ∉ blks r133 := fun b hb hc => (ab_r133 _ hc).elim ((np_vk_vn : ∀ b ∈ blks vk, b ∉ blks vn) b hb) (fun hc => by have := lt_vk b hb; omega)
                  have lt_r133 := s_r133.lt
                  refine s_pure (.pointer (some ⟨b1, 0, none⟩)) (fun _ q => q) ?_
                  refine s_pure (.pointer (some ⟨b1, 0, none⟩)) (fun _ q => q) ?_
                  have f139 := (bxx130.mod mh134 np_b1_vn)
                  refine s_stBx r133 [r133] [r133, vk, .int .i64 rd, .int .i64 sent, .int .i64 (d + 1)] f139 rfl rfl s_r133.cellsv rfl (by simp) (all_cons s_r133.one1 all_nil) rfl (fun h140 mh140 sh140 bxx141 => ?_)
                  have E142 := E135.mod mh140 (fun b hb => by simp at hb; omega)
                  refine s_nil ?_
                  refine p_blkN ?_
                  refine p_seqN ?_
                  refine v_ops ?_
                  refine s_pure (.int .i64 (p : Int)) (fun _ q => q) ?_
                  refine s_pure (.int .i64 ((p : Int) + 1)) (fun _ q => ArithVC.mk (by omega) q) ?_
                  refine s_pure (.int .i64 ((p : Int) + 1)) (fun _ q => q) ?_
                  refine s_nil ?_
                  have f143 := (s_r133.mod mh140 (fun b hb hc => np136 (by simp at hc; rw [← hc]; exact hb)))
                  have f144 := (((((s_vk.ext eh111).ext eh124).mod mh129 (fun b hb hc => np_b1_vk (by simp at hc; rw [← hc]; exact hb))).mod mh134 np_vk_vn).mod mh140 (fun b hb hc => np_b1_vk (by simp at hc; rw [← hc]; exact hb)))
                  exact p_lpN ⟨p + 1, (sn + 1), (d + 1), (now ||| 2 ^ p), r133, ⟨rfl, rfl, rfl, rfl, rfl, rfl⟩, ⟨E142, bxx141, (sl_eq f143 (by first | rfl | exact put_bits (by omega) (by omega))), (fr_r133.mono (by omega)), f144, np136, np138, (by first | ((have e3 := in_next hin (by omega) (by omega) (in_known ((mem_bits (by omega)).1 (by assumption)))); refine ⟨by omega, ?_, by omega, ?_, by omega, ?_⟩; all_goals first | omega | exact e3 | assumption | exact Nat.or_lt_two_pow hnow (Nat.pow_lt_pow_right (by omega) (by omega)) | exact fun q hq => hbit q (by omega) | exact or_bit hbit) | ((have e3 := in_next hin (by omega) (by omega) (in_lost (fun hc => absurd ((mem_bits (by omega)).2 hc) (by assumption)) (hbL.1 (by assumption)))); refine ⟨by omega, ?_, by omega, ?_, by omega, ?_⟩; all_goals first | omega | exact e3 | assumption | exact Nat.or_lt_two_pow hnow (Nat.pow_lt_pow_right (by omega) (by omega)) | exact fun q hq => hbit q (by omega) | exact or_bit hbit) | ((have e3 := in_next hin (by omega) (by omega) (in_new (fun hc => absurd ((mem_bits (by omega)).2 hc) (by assumption)) (fun hc => absurd (hbL.2 hc) (by assumption)) (by rw [← hbit p (Nat.le_refl p)]; exact (mem_bits (by omega)).1 (by assumption)))); refine ⟨by omega, ?_, by omega, ?_, by omega, ?_⟩; all_goals first | omega | exact e3 | assumption | exact Nat.or_lt_two_pow hnow (Nat.pow_lt_pow_right (by omega) (by omega)) | exact fun q hq => hbit q (by omega) | exact or_bit hbit) | ((have e3 := in_next hin (by omega) (by omega) (in_first (fun hc => absurd ((mem_bits (by omega)).2 hc) (by assumption)) (fun hc => absurd (hbL.2 hc) (by assumption)) (by rw [← hbit p (Nat.le_refl p)]; exact fun hc => absurd ((mem_bits (by omega)).2 hc) (by assumption)))); refine ⟨by omega, ?_, by omega, ?_, by omega, ?_⟩; all_goals first | omega | exact e3 | assumption | exact Nat.or_lt_two_pow hnow (Nat.pow_lt_pow_right (by omega) (by omega)) | exact fun q hq => hbit q (by omega) | exact or_bit hbit))⟩, by omega⟩
                ·
                  refine v_skip ?_
                  refine p_seqN ?_
                  refine v_ops ?_
                  refine s_pure (.pointer (some ⟨b1, 0, none⟩)) (fun _ q => q) ?_
                  refine s_pure (.pointer (some ⟨b1, 0, none⟩)) (fun _ q => q) ?_
                  refine s_pure (.pointer (some ⟨b1, 0, none⟩)) (fun _ q => q) ?_
                  refine s_pure (.pointer (some ⟨b1, 0, none⟩)) (fun _ q => q) ?_
                  have f145 := (f122.ext eh124)
                  refine s_load vn (fun _ q => f145.load rfl q) ?_
                  refine s_pure (.int .i64 (p : Int)) (fun _ q => q) ?_
                  have f146 := (f123.ext eh124)
                  refine s_call [vn, .int .i64 (p : Int)] rfl (spec_l1Put_ok vn (bitsL now) (p : Int) _ f146 (by first | omega | assumption | (simp; omega))) ?_
                  rintro r147 h148 ⟨_, rfl, s_r147, mh148, ab_r147⟩
                  have zh148 := mh148.size
                  have E149 := E125.mod mh148 (fun b hb => by have := fr_vn b hb; omega)
                  have fr_r147 := fr_vn.app ab_r147 (by omega)
                  have np150 : b1 ∉ blks r147 := fun hc => (ab_r147 _ hc).elim np_b1_vn (fun hc => by omega)
                  have np151 : ∀ b ∈ blks vk, b ∉ blks r147 := fun b hb hc => (ab_r147 _ hc).elim ((np_vk_vn : ∀ b ∈ blks vk, b ∉ blks vn) b hb) (fun hc => by have := lt_vk b hb; omega)
                  have np152 : ∀ b ∈ blks vk, b ∉ blks r147 := fun b hb hc => (ab_r147 _ hc).elim ((np_vk_vn : ∀ b ∈ blks vk, b ∉ blks vn) b hb) (fun hc => by have := lt_vk b hb; omega)
                  have lt_r147 := s_r147.lt
                  refine s_pure (.pointer (some ⟨b1, 0, none⟩)) (fun _ q => q) ?_
                  refine s_pure (.pointer (some ⟨b1, 0, none⟩)) (fun _ q => q) ?_
                  have f153 := (f145.mod mh148 np_b1_vn)
                  refine s_stBx r147 [r147] [r147, vk, .int .i64 rd, .int .i64 sent, .int .i64 d] f153 rfl rfl s_r147.cellsv rfl (by simp) (all_cons s_r147.one1 all_nil) rfl (fun h154 mh154 sh154 bxx155 => ?_)
                  have E156 := E149.mod mh154 (fun b hb => by simp at hb; omega)
                  refine s_nil ?_
                  refine p_blkN ?_
                  refine p_seqN ?_
                  refine v_ops ?_
                  refine s_pure (.int .i64 (p : Int)) (fun _ q => q) ?_
                  refine s_pure (.int .i64 ((p : Int) + 1)) (fun _ q => ArithVC.mk (by omega) q) ?_
                  refine s_pure (.int .i64 ((p : Int) + 1)) (fun _ q => q) ?_
                  refine s_nil ?_
                  have f157 := (s_r147.mod mh154 (fun b hb hc => np150 (by simp at hc; rw [← hc]; exact hb)))
                  have f158 := ((((s_vk.ext eh111).ext eh124).mod mh148 np_vk_vn).mod mh154 (fun b hb hc => np_b1_vk (by simp at hc; rw [← hc]; exact hb)))
                  exact p_lpN ⟨p + 1, (sn + 1), d, (now ||| 2 ^ p), r147, ⟨rfl, rfl, rfl, rfl, rfl, rfl⟩, ⟨E156, bxx155, (sl_eq f157 (by first | rfl | exact put_bits (by omega) (by omega))), (fr_r147.mono (by omega)), f158, np150, np152, (by first | ((have e3 := in_next hin (by omega) (by omega) (in_known ((mem_bits (by omega)).1 (by assumption)))); refine ⟨by omega, ?_, by omega, ?_, by omega, ?_⟩; all_goals first | omega | exact e3 | assumption | exact Nat.or_lt_two_pow hnow (Nat.pow_lt_pow_right (by omega) (by omega)) | exact fun q hq => hbit q (by omega) | exact or_bit hbit) | ((have e3 := in_next hin (by omega) (by omega) (in_lost (fun hc => absurd ((mem_bits (by omega)).2 hc) (by assumption)) (hbL.1 (by assumption)))); refine ⟨by omega, ?_, by omega, ?_, by omega, ?_⟩; all_goals first | omega | exact e3 | assumption | exact Nat.or_lt_two_pow hnow (Nat.pow_lt_pow_right (by omega) (by omega)) | exact fun q hq => hbit q (by omega) | exact or_bit hbit) | ((have e3 := in_next hin (by omega) (by omega) (in_new (fun hc => absurd ((mem_bits (by omega)).2 hc) (by assumption)) (fun hc => absurd (hbL.2 hc) (by assumption)) (by rw [← hbit p (Nat.le_refl p)]; exact (mem_bits (by omega)).1 (by assumption)))); refine ⟨by omega, ?_, by omega, ?_, by omega, ?_⟩; all_goals first | omega | exact e3 | assumption | exact Nat.or_lt_two_pow hnow (Nat.pow_lt_pow_right (by omega) (by omega)) | exact fun q hq => hbit q (by omega) | exact or_bit hbit) | ((have e3 := in_next hin (by omega) (by omega) (in_first (fun hc => absurd ((mem_bits (by omega)).2 hc) (by assumption)) (fun hc => absurd (hbL.2 hc) (by assumption)) (by rw [← hbit p (Nat.le_refl p)]; exact fun hc => absurd ((mem_bits (by omega)).2 hc) (by assumption)))); refine ⟨by omega, ?_, by omega, ?_, by omega, ?_⟩; all_goals first | omega | exact e3 | assumption | exact Nat.or_lt_two_pow hnow (Nat.pow_lt_pow_right (by omega) (by omega)) | exact fun q hq => hbit q (by omega) | exact or_bit hbit))⟩, by omega⟩
          ·
            refine v_exit ?_
            refine p_seqX ?_
            refine p_lpX ?_
            refine p_blkX ?_
            refine p_seqN ?_
            refine v_seq ?_
            refine v_ops ?_
            refine s_pure (.pointer (some ⟨b1, 0, none⟩)) (fun _ q => q) ?_
            refine s_pure (.pointer (some ⟨b1, 0, none⟩)) (fun _ q => q) ?_
            refine s_pure (.pointer (some ⟨b1, 3, none⟩)) (fun _ q => q) ?_
            refine s_load (.int .i64 sent) (fun _ q => bxb1.load rfl q) ?_
            refine s_pure (.int .i64 sn) (fun _ q => q) ?_
            refine s_pure (.int .i64 (sent + sn)) (fun _ q => ArithVC.mk (by omega) q) ?_
            refine s_pure (.pointer (some ⟨b1, 0, none⟩)) (fun _ q => q) ?_
            refine s_pure (.pointer (some ⟨b1, 3, none⟩)) (fun _ q => q) ?_
            refine s_stBx (.int .i64 (sent + sn)) [.int .i64 (sent + sn)] [vn, vk, .int .i64 rd, .int .i64 (sent + sn), .int .i64 d] bxb1 rfl rfl rfl rfl (by simp) (all_cons rfl all_nil) rfl (fun h159 mh159 sh159 bxx160 => ?_)
            have E161 := Eh.mod mh159 (fun b hb => by simp at hb; omega)
            refine s_nil ?_
            refine p_seqN ?_
            refine v_seq ?_
            refine v_ops ?_
            refine s_pure (.pointer (some ⟨b1, 0, none⟩)) (fun _ q => q) ?_
            refine s_pure (.pointer (some ⟨b1, 0, none⟩)) (fun _ q => q) ?_
            refine s_pure (.pointer (some ⟨b1, 2, none⟩)) (fun _ q => q) ?_
            refine s_load (.int .i64 rd) (fun _ q => bxx160.load rfl q) ?_
            refine s_pure (.int .i64 (rd + 1)) (fun _ q => ArithVC.mk (by omega) q) ?_
            refine s_pure (.pointer (some ⟨b1, 0, none⟩)) (fun _ q => q) ?_
            refine s_pure (.pointer (some ⟨b1, 2, none⟩)) (fun _ q => q) ?_
            refine s_stBx (.int .i64 (rd + 1)) [.int .i64 (rd + 1)] [vn, vk, .int .i64 (rd + 1), .int .i64 (sent + sn), .int .i64 d] bxx160 rfl rfl rfl rfl (by simp) (all_cons rfl all_nil) rfl (fun h162 mh162 sh162 bxx163 => ?_)
            have E164 := E161.mod mh162 (fun b hb => by simp at hb; omega)
            refine s_nil ?_
            refine p_seqN ?_
            refine v_seq ?_
            refine v_ops ?_
            refine s_pure (.int .i64 0) (fun _ q => q) ?_
            refine s_pure (.bool (decide (0 < 512))) (fun _ q => q) ?_
            refine s_nil ?_
            refine p_seqN ?_
            refine v_condY rfl (by first | assumption | omega | (simp; done) | (simp; omega) | simp_all) ?_
            refine v_ops ?_
            refine s_pure (.pointer (some ⟨b1, 0, none⟩)) (fun _ q => q) ?_
            refine s_pure (.pointer (some ⟨b1, 0, none⟩)) (fun _ q => q) ?_
            refine s_pure (.pointer (some ⟨b1, 0, none⟩)) (fun _ q => q) ?_
            refine s_pure (.pointer (some ⟨b1, 0, none⟩)) (fun _ q => q) ?_
            refine s_load vn (fun _ q => bxx163.load rfl q) ?_
            have f165 := ((s_vn.mod mh159 (fun b hb hc => np_b1_vn (by simp at hc; rw [← hc]; exact hb))).mod mh162 (fun b hb hc => np_b1_vn (by simp at hc; rw [← hc]; exact hb)))
            refine s_call [vn] rfl (spec_l1Own_ok vn (bitsL now) _ f165.toSl (by first | omega | assumption | (simp; omega))) ?_
            rintro r166 h167 ⟨_, rfl, s_r166, fr_r166, eh167⟩
            have E168 := E164.trans eh167
            have z169 := eh167.size
            have lt_r166 := s_r166.lt
            refine s_pure (.pointer (some ⟨b1, 0, none⟩)) (fun _ q => q) ?_
            refine s_pure (.pointer (some ⟨b1, 1, none⟩)) (fun _ q => q) ?_
            have f170 := (bxx163.ext eh167)
            refine s_stBx r166 [r166] [vn, r166, .int .i64 (rd + 1), .int .i64 (sent + sn), .int .i64 d] f170 rfl rfl s_r166.cellsv rfl (by simp) (all_cons s_r166.one1 all_nil) rfl (fun h171 mh171 sh171 bxx172 => ?_)
            have E173 := E168.mod mh171 (fun b hb => by simp at hb; omega)
            refine s_nil ?_
            refine p_end [] (.tuple #[]) (fun _ q => q) rfl ?_
            refine s_nil ?_
            refine p_blkN ?_
            have f174 := ((f165.ext eh167).mod mh171 (fun b hb hc => np_b1_vn (by simp at hc; rw [← hc]; exact hb)))
            have f175 := (s_r166.mod mh171 (fun b hb hc => by simp at hc; have := fr_r166 b hb; omega))
            exact p_lpN ⟨now, now, (rd + 1), (sent + sn), d, vn, r166, ⟨rfl, rfl, rfl, rfl, rfl⟩, ⟨E173, bxx172, (sl_eq f174 (by first | rfl | simp)), (fr_vn.mono (by omega)), (sl_eq f175 (by first | rfl | simp)), (fr_r166.mono (by omega)), np_b1_vn, (fun b hb hc => by have := fr_r166 b hb; have := lt_vn b hc; omega), (fun hc => by have := fr_r166 _ hc; omega), (by (have hres := in_done hin (by first | (left; omega) | (right; omega))); (have e2 : (k - (rd + 1)).toNat = (k - rd).toNat - 1 := by omega); first | ((have e : ackStep n w script ⟨arr, kn, rd, sent, dbl⟩ = ⟨now, now, rd + 1, sent + sn, d⟩ := by (unfold ackStep; simp only; rw [hres]; rw [if_pos (by omega)])); exact ⟨by (rw [e2]; exact ack_next hrun (by omega) (hlen.1 (by omega)) e), by omega, by omega, hnow, (by assumption), by omega, by omega, by omega⟩) | ((have e : ackStep n w script ⟨arr, kn, rd, sent, dbl⟩ = ⟨now, kn, rd + 1, sent + sn, d⟩ := by (unfold ackStep; simp only; rw [hres]; rw [if_neg (by omega)])); exact ⟨by (rw [e2]; exact ack_next hrun (by omega) (hlen.1 (by omega)) e), by omega, by omega, hnow, (by assumption), by omega, by omega, by omega⟩))⟩, by omega⟩
        ·
          refine s_pass rfl ?_
          refine s_pass rfl ?_
          refine s_pass rfl ?_
          refine s_pure (.bool false) (fun _ q => q) ?_
          refine s_nil ?_
          refine p_seqN ?_
          refine v_condN rfl (by simp) ?_
          refine v_exit ?_
          refine p_seqX ?_
          refine p_lpX ?_
          refine p_blkX ?_
          refine p_seqN ?_
          refine v_seq ?_
          refine v_ops ?_
          refine s_pure (.pointer (some ⟨b1, 0, none⟩)) (fun _ q => q) ?_
          refine s_pure (.pointer (some ⟨b1, 0, none⟩)) (fun _ q => q) ?_
          refine s_pure (.pointer (some ⟨b1, 3, none⟩)) (fun _ q => q) ?_
          refine s_load (.int .i64 sent) (fun _ q => bxb1.load rfl q) ?_
          refine s_pure (.int .i64 sn) (fun _ q => q) ?_
          refine s_pure (.int .i64 (sent + sn)) (fun _ q => ArithVC.mk (by omega) q) ?_
          refine s_pure (.pointer (some ⟨b1, 0, none⟩)) (fun _ q => q) ?_
          refine s_pure (.pointer (some ⟨b1, 3, none⟩)) (fun _ q => q) ?_
          refine s_stBx (.int .i64 (sent + sn)) [.int .i64 (sent + sn)] [vn, vk, .int .i64 rd, .int .i64 (sent + sn), .int .i64 d] bxb1 rfl rfl rfl rfl (by simp) (all_cons rfl all_nil) rfl (fun h176 mh176 sh176 bxx177 => ?_)
          have E178 := Eh.mod mh176 (fun b hb => by simp at hb; omega)
          refine s_nil ?_
          refine p_seqN ?_
          refine v_seq ?_
          refine v_ops ?_
          refine s_pure (.pointer (some ⟨b1, 0, none⟩)) (fun _ q => q) ?_
          refine s_pure (.pointer (some ⟨b1, 0, none⟩)) (fun _ q => q) ?_
          refine s_pure (.pointer (some ⟨b1, 2, none⟩)) (fun _ q => q) ?_
          refine s_load (.int .i64 rd) (fun _ q => bxx177.load rfl q) ?_
          refine s_pure (.int .i64 (rd + 1)) (fun _ q => ArithVC.mk (by omega) q) ?_
          refine s_pure (.pointer (some ⟨b1, 0, none⟩)) (fun _ q => q) ?_
          refine s_pure (.pointer (some ⟨b1, 2, none⟩)) (fun _ q => q) ?_
          refine s_stBx (.int .i64 (rd + 1)) [.int .i64 (rd + 1)] [vn, vk, .int .i64 (rd + 1), .int .i64 (sent + sn), .int .i64 d] bxx177 rfl rfl rfl rfl (by simp) (all_cons rfl all_nil) rfl (fun h179 mh179 sh179 bxx180 => ?_)
          have E181 := E178.mod mh179 (fun b hb => by simp at hb; omega)
          refine s_nil ?_
          refine p_seqN ?_
          refine v_seq ?_
          refine v_ops ?_
          refine s_pure (.int .i64 0) (fun _ q => q) ?_
          refine s_pure (.bool (decide (0 < 512))) (fun _ q => q) ?_
          refine s_nil ?_
          refine p_seqN ?_
          refine v_condY rfl (by first | assumption | omega | (simp; done) | (simp; omega) | simp_all) ?_
          refine v_ops ?_
          refine s_pure (.pointer (some ⟨b1, 0, none⟩)) (fun _ q => q) ?_
          refine s_pure (.pointer (some ⟨b1, 0, none⟩)) (fun _ q => q) ?_
          refine s_pure (.pointer (some ⟨b1, 0, none⟩)) (fun _ q => q) ?_
          refine s_pure (.pointer (some ⟨b1, 0, none⟩)) (fun _ q => q) ?_
          refine s_load vn (fun _ q => bxx180.load rfl q) ?_
          have f182 := ((s_vn.mod mh176 (fun b hb hc => np_b1_vn (by simp at hc; rw [← hc]; exact hb))).mod mh179 (fun b hb hc => np_b1_vn (by simp at hc; rw [← hc]; exact hb)))
          refine s_call [vn] rfl (spec_l1Own_ok vn (bitsL now) _ f182.toSl (by first | omega | assumption | (simp; omega))) ?_
          rintro r183 h184 ⟨_, rfl, s_r183, fr_r183, eh184⟩
          have E185 := E181.trans eh184
          have z186 := eh184.size
          have lt_r183 := s_r183.lt
          refine s_pure (.pointer (some ⟨b1, 0, none⟩)) (fun _ q => q) ?_
          refine s_pure (.pointer (some ⟨b1, 1, none⟩)) (fun _ q => q) ?_
          have f187 := (bxx180.ext eh184)
          refine s_stBx r183 [r183] [vn, r183, .int .i64 (rd + 1), .int .i64 (sent + sn), .int .i64 d] f187 rfl rfl s_r183.cellsv rfl (by simp) (all_cons s_r183.one1 all_nil) rfl (fun h188 mh188 sh188 bxx189 => ?_)
          have E190 := E185.mod mh188 (fun b hb => by simp at hb; omega)
          refine s_nil ?_
          refine p_end [] (.tuple #[]) (fun _ q => q) rfl ?_
          refine s_nil ?_
          refine p_blkN ?_
          have f191 := ((f182.ext eh184).mod mh188 (fun b hb hc => np_b1_vn (by simp at hc; rw [← hc]; exact hb)))
          have f192 := (s_r183.mod mh188 (fun b hb hc => by simp at hc; have := fr_r183 b hb; omega))
          exact p_lpN ⟨now, now, (rd + 1), (sent + sn), d, vn, r183, ⟨rfl, rfl, rfl, rfl, rfl⟩, ⟨E190, bxx189, (sl_eq f191 (by first | rfl | simp)), (fr_vn.mono (by omega)), (sl_eq f192 (by first | rfl | simp)), (fr_r183.mono (by omega)), np_b1_vn, (fun b hb hc => by have := fr_r183 b hb; have := lt_vn b hc; omega), (fun hc => by have := fr_r183 _ hc; omega), (by (have hres := in_done hin (by first | (left; omega) | (right; omega))); (have e2 : (k - (rd + 1)).toNat = (k - rd).toNat - 1 := by omega); first | ((have e : ackStep n w script ⟨arr, kn, rd, sent, dbl⟩ = ⟨now, now, rd + 1, sent + sn, d⟩ := by (unfold ackStep; simp only; rw [hres]; rw [if_pos (by omega)])); exact ⟨by (rw [e2]; exact ack_next hrun (by omega) (hlen.1 (by omega)) e), by omega, by omega, hnow, (by assumption), by omega, by omega, by omega⟩) | ((have e : ackStep n w script ⟨arr, kn, rd, sent, dbl⟩ = ⟨now, kn, rd + 1, sent + sn, d⟩ := by (unfold ackStep; simp only; rw [hres]; rw [if_neg (by omega)])); exact ⟨by (rw [e2]; exact ack_next hrun (by omega) (hlen.1 (by omega)) e), by omega, by omega, hnow, (by assumption), by omega, by omega, by omega⟩))⟩, by omega⟩
    ·
      refine v_exit ?_
      refine p_seqX ?_
      refine p_lpX ?_
      refine p_blkX ?_
      refine p_seqN ?_
      refine v_seq ?_
      refine v_ops ?_
      refine s_pure (.pointer (some ⟨b1, 0, none⟩)) (fun _ q => q) ?_
      refine s_pure (.pointer (some ⟨b1, 0, none⟩)) (fun _ q => q) ?_
      refine s_nil ?_
      refine p_seqN ?_
      refine v_ret ?_
      refine p_ret [.pointer (some ⟨b1, 0, none⟩)] (.pointer (some ⟨b1, 0, none⟩)) (fun _ q => q) rfl ?_
      have hq := ackRun_stop (n := n) (w := w) (sc := script) (f := (k - rd).toNat) (x := ⟨arr, kn, rd, sent, dbl⟩) (by first | (left; omega) | (right; exact Classical.byContradiction fun hc => absurd (hlen.2 hc) (by omega)))
      rw [hrun] at hq
      exact ⟨_, _, _, _, rfl, by rw [hq]; exact bxb1, Eh⟩
  ·
    refine s_pass rfl ?_
    refine s_pass rfl ?_
    refine s_pass rfl ?_
    refine s_pass rfl ?_
    refine s_pass rfl ?_
    refine s_pass rfl ?_
    refine s_pass rfl ?_
    refine s_pure (.bool false) (fun _ q => q) ?_
    refine s_nil ?_
    refine p_seqN ?_
    refine v_condN rfl (by simp) ?_
    refine v_exit ?_
    refine p_seqX ?_
    refine p_lpX ?_
    refine p_blkX ?_
    refine p_seqN ?_
    refine v_seq ?_
    refine v_ops ?_
    refine s_pure (.pointer (some ⟨b1, 0, none⟩)) (fun _ q => q) ?_
    refine s_pure (.pointer (some ⟨b1, 0, none⟩)) (fun _ q => q) ?_
    refine s_nil ?_
    refine p_seqN ?_
    refine v_ret ?_
    refine p_ret [.pointer (some ⟨b1, 0, none⟩)] (.pointer (some ⟨b1, 0, none⟩)) (fun _ q => q) rfl ?_
    have hq := ackRun_stop (n := n) (w := w) (sc := script) (f := (k - rd).toNat) (x := ⟨arr, kn, rd, sent, dbl⟩) (by first | (left; omega) | (right; exact Classical.byContradiction fun hc => absurd (hlen.2 hc) (by omega)))
    rw [hrun] at hq
    exact ⟨_, _, _, _, rfl, by rw [hq]; exact bxb1, Eh⟩

end Go.Proofs.Ytibhbphikijecaa
