/- What repeaters do along glances. Condition: none. Printed in part by a program. -/
import Derived.Test.YtpbjcaadnbeplaaRp3
namespace Go.Proofs.Ytpbjcaadnbeplaa
open Go.Vc
set_option linter.all false

def run (r : RepP) (l : List GlanceD) : RepP := l.foldl (fun r g => (gl r g).1) r
theorem run_snoc (r : RepP) (l : List GlanceD) (g : GlanceD) : run r (l ++ [g]) = (gl (run r l) g).1 := by simp [run]
theorem run_inv {r : RepP} (h : RInv r) (l : List GlanceD) : RInv (run r l) := by
  induction l generalizing r with
  | nil => exact h
  | cons g l ih => exact ih (h.gl g)
theorem run_len (r : RepP) (l : List GlanceD) : (run r l).passed.length ≤ r.passed.length + l.length := by
  induction l generalizing r with
  | nil => simp [run]
  | cons g l ih =>
    have h1 := ih (gl r g).1
    have h2 := (gl_len r g).2
    show (run (gl r g).1 l).passed.length ≤ _
    simp only [List.length_cons]; omega
abbrev rz : RepP := ⟨0, 0, 0, 0, []⟩
/-- where the run stands before each glance, and what comes of it -/
theorem run_step {r0 r : RepP} {xs : List GlanceD} {k : Nat} {x : GlanceD} (hx : xs[k]? = some x) (hr : r = run r0 (xs.take k)) : (gl r x).1 = run r0 (xs.take (k + 1)) := by
  rw [snoc_get hx, run_snoc, ← hr]
/-- the glances that were wrong -/
def wrongs (r0 : RepP) (xs : List GlanceD) : Nat := ((List.range xs.length).filter fun i => match xs[i]? with | some x => (gl (run r0 (xs.take i)) x).2 | none => false).length
theorem take_get {α : Type} {xs : List α} {k i : Nat} (h : i < k) : (xs.take k)[i]? = xs[i]? := by rw [List.getElem?_take, if_pos h]
theorem wrongs_snoc (r0 : RepP) {xs : List GlanceD} {k : Nat} {x : GlanceD} (hx : xs[k]? = some x) : wrongs r0 (xs.take (k + 1)) = wrongs r0 (xs.take k) + if (gl (run r0 (xs.take k)) x).2 then 1 else 0 := by
  have hk : k < xs.length := (List.getElem?_eq_some_iff.1 hx).1
  unfold wrongs
  have l1 : (xs.take (k + 1)).length = k + 1 := by simp; omega
  have l2 : (xs.take k).length = k := by simp; omega
  rw [l1, l2, List.range_succ, List.filter_append, List.length_append]
  congr 1
  · congr 1
    apply List.filter_congr
    intro i hi
    have hi := List.mem_range.1 hi
    rw [take_get (by omega), take_get hi, List.take_take, List.take_take, Nat.min_eq_left (by omega), Nat.min_eq_left (by omega)]
  · rw [List.filter_cons, take_get (by omega), hx, List.take_take, Nat.min_eq_left (by omega)]
    simp only [List.filter_nil]
    split <;> simp_all
theorem GlOk.len {xs : List GlanceD} (h : GlOk xs) : xs.length ≤ 80 := h.1
noncomputable def wsOut (xs : List GlanceD) : Int × Bool := if GlOk xs then ((wrongs rz xs : Int), true) else (0, false)
theorem ws_no {xs : List GlanceD} (h : ¬ GlOk xs) : wsOut xs = (0, false) := by rw [wsOut, if_neg h]
theorem wrongs_le (r0 : RepP) (xs : List GlanceD) : wrongs r0 xs ≤ xs.length := by
  unfold wrongs
  exact Nat.le_trans (List.length_filter_le _ _) (by simp)

set_option maxRecDepth 10000 in
set_option maxHeartbeats 4000000 in
theorem impl_WrongShows_ok (v_l : Value) (l : List GlanceD) (h : Heap) (s_l : Sl h v_l l) : Cn f_impl_WrongShows [v_l] h fun v h' => v = .tuple #[.int .i64 ((wsOut l).1), .bool ((wsOut l).2)] ∧ Ext h h' := by
  have lt_l := s_l.lt
  have l63_l := s_l.len63
  refine calls_of r_impl_WrongShows ?_
  refine v_seq ?_
  refine v_ops ?_
  refine s_pure (.int .i64 0) (fun _ q => q) ?_
  refine s_pure (.bool false) (fun _ q => q) ?_
  refine s_nil ?_
  refine p_seqN ?_
  refine v_seq ?_
  refine v_seq ?_
  refine v_ops ?_
  refine s_pure v_l (fun _ q => q) ?_
  refine s_call [v_l] rfl (areGlances_ok v_l l _ s_l) ?_
  rintro _ h1 ⟨rfl, eh1⟩
  have E2 := (Ext.refl h).trans eh1
  have z3 := eh1.size
  refine s_pure (.bool (!(decide (GlOk l)))) (fun _ q => q) ?_
  refine s_nil ?_
  refine p_seqN ?_
  refine v_cond rfl (fun c4 => ?_) (fun c4 => ?_)
  ·
    refine v_seq ?_
    refine v_ops ?_
    refine s_pure (.int .i64 0) (fun _ q => q) ?_
    refine s_pure (.bool false) (fun _ q => q) ?_
    refine s_nil ?_
    refine p_seqN ?_
    refine v_ret ?_
    refine p_seqR ?_
    refine p_ret [.int .i64 0, .bool false] (.tuple #[.int .i64 0, .bool false]) (fun _ q => q) rfl ?_
    have ho : wsOut l = (0, false) := by first | exact ws_no (by assumption) | (rw [take_all (by assumption)] at hw; rw [wsOut, if_pos (by assumption), hw])
    exact ⟨by first | (rw [ho]; done) | rfl, E2⟩
  ·
    have c4 := Classical.not_not.1 c4
    refine v_skip ?_
    refine p_seqN ?_
    refine v_seq ?_
    refine v_ops ?_
    refine s_new (fun h6 b5 hbb5 hzb5 eh6 bxb5 => ?_)
    have E7 := E2.trans eh6
    have z8 := eh6.size
    have lbb5 := bxb5.lt
    refine s_nil ?_
    refine p_seqN ?_
    refine v_seq ?_
    refine v_ops ?_
    refine s_pure (.int .i64 0) (fun _ q => q) ?_
    refine s_nil ?_
    refine p_seqN ?_
    refine v_seq ?_
    refine v_seq ?_
    refine v_ops ?_
    refine s_pure v_l (fun _ q => q) ?_
    refine s_pure (.int .i64 (l.length : Int)) (fun _ q => s_l.lenVC q) ?_
    refine s_pure (.int .i64 0) (fun _ q => q) ?_
    refine s_nil ?_
    refine p_seqN ?_
    refine v_block ?_
    refine v_loop4 (α := Nat) (β := RepP) (γ := Int) (δ := Value) (fun k r w v => [(4, .pointer (some ⟨b5, 0, none⟩)), (5, .int .i64 w), (13, v_l), (14, .int .i64 (l.length : Int)), (15, .int .i64 (k : Int))]) (fun k r w v hh => Ext h hh ∧ Bx hh b5 [.int .i64 r.phase, .int .i64 r.holds, .int .i64 r.again, .int .i64 r.shown, v] 25 ∧ SlO hh v r.passed ∧ Fr h.size v ∧ b5 ∉ blks v ∧ k ≤ l.length ∧ r = run rz (l.take k) ∧ w = (wrongs rz (l.take k) : Int)) (fun k r w v => l.length - k) 0 rz 0 (.slice none 0 0) ⟨rfl, rfl, rfl, rfl, rfl⟩ ⟨E7, bxb5, (sl_eq (SlX.nil (α := Int) true h6) (by simp)), (Fr.nil _), (by simp [blks, fpts]), (by exact ⟨by omega, rfl, rfl⟩)⟩ ?_
    rintro k r w v R10 h9 ⟨Eh, bxb5, s_v, fr_v, np_b5_v, ⟨hk, hr, hw⟩⟩
    have zEh := Eh.size
    have f12 := s_l.ext Eh
    have lbb5 := bxb5.lt
    have lt_v := s_v.lt
    have hi : RInv r := by rw [hr]; exact run_inv RInv.zero _
    have hl : r.passed.length ≤ l.length := by (have := run_len rz (l.take k)); rw [← hr] at this; simp at this; omega
    have ha := hi.a
    have gok := GlOk.len (by assumption : GlOk l)
    have hwl := wrongs_le rz (l.take k)
    simp only [List.length_take] at hwl
    refine v_seq ?_
    refine v_ops ?_
    refine s_pure (.bool (decide ((k : Int) < (l.length : Int)))) (fun _ q => q) ?_
    refine s_nil ?_
    refine p_seqN ?_
    refine v_seq ?_
    refine v_cond rfl (fun c13 => ?_) (fun c13 => ?_)
    ·
      refine v_skip ?_
      refine p_seqN ?_
      refine v_seq ?_
      refine v_block ?_
      refine v_seq ?_
      refine v_ops ?_
      have hk14 : k < l.length := (by first | omega | (simp; omega))
      obtain ⟨x15, hx15⟩ : ∃ x, l[k]? = some x := ⟨_, List.getElem?_eq_getElem hk14⟩
      refine s_pure (.pointer (some ⟨sblk v_l, soff v_l + k * 2, none⟩)) (fun _ q => f12.idx (k := k) rfl hk14 q) ?_
      refine s_load (.agg #[.bool x15.next, .int .i64 x15.signal]) (fun _ q => f12.loadN hx15 rfl q) ?_
      refine s_new (fun h17 b16 hbb16 hzb16 eh17 bxb16 => ?_)
      have E18 := Eh.trans eh17
      have z19 := eh17.size
      have lbb16 := bxb16.lt
      refine s_stBx (.agg #[.bool x15.next, .int .i64 x15.signal]) [.bool x15.next, .int .i64 x15.signal] [.bool x15.next, .int .i64 x15.signal] bxb16 rfl rfl rfl rfl (by simp) (all_cons rfl (all_cons rfl all_nil)) rfl (fun h20 mh20 sh20 bxx21 => ?_)
      have E22 := E18.mod mh20 (fun b hb => by simp at hb; omega)
      refine s_nil ?_
      refine p_seqN ?_
      refine v_seq ?_
      refine v_ops ?_
      have f23 := ((bxb5.ext eh17).mod mh20 (by simp; omega))
      refine s_load (.agg #[.int .i64 r.phase, .int .i64 r.holds, .int .i64 r.again, .int .i64 r.shown, v]) (fun _ q => f23.loadA rfl q) ?_
      refine s_load (.agg #[.bool x15.next, .int .i64 x15.signal]) (fun _ q => bxx21.loadA rfl q) ?_
      have f24 := ((s_v.ext eh17).mod mh20 (fun b hb hc => by simp at hc; have := lt_v b hb; omega))
      refine s_call [.agg #[.int .i64 r.phase, .int .i64 r.holds, .int .i64 r.again, .int .i64 r.shown, v], .agg #[.bool x15.next, .int .i64 x15.signal]] rfl (impl_glance_ok r v x15 _ f24 (by first | omega | assumption | (simp; omega)) (by first | omega | assumption | (simp; omega))) ?_
      rintro _ h26 ⟨r25, rfl, s_r25, mh26, ab_r25⟩
      have zh26 := mh26.size
      have E27 := E22.mod mh26 (fun b hb => by have := fr_v b hb; omega)
      have fr_r25 := fr_v.app ab_r25 (by omega)
      have np28 : b5 ∉ blks r25 := fun hc => (ab_r25 _ hc).elim np_b5_v (fun hc => by omega)
      have np29 : b16 ∉ blks r25 := fun hc => (ab_r25 _ hc).elim (fun hc => by have := lt_v _ hc; omega) (fun hc => by omega)
      have lt_r25 := s_r25.lt
      refine s_pure (.tuple #[.agg #[.int .i64 (((gl r x15).1).phase), .int .i64 (((gl r x15).1).holds), .int .i64 (((gl r x15).1).again), .int .i64 (((gl r x15).1).shown), r25], .bool ((gl r x15).2)]) (fun _ q => q) ?_
      refine s_pure (.agg #[.int .i64 (((gl r x15).1).phase), .int .i64 (((gl r x15).1).holds), .int .i64 (((gl r x15).1).again), .int .i64 (((gl r x15).1).shown), r25]) (fun _ q => q) ?_
      refine s_pure (.bool ((gl r x15).2)) (fun _ q => q) ?_
      refine s_new (fun h31 b30 hbb30 hzb30 eh31 bxb30 => ?_)
      have E32 := E27.trans eh31
      have z33 := eh31.size
      have lbb30 := bxb30.lt
      refine s_stBx (.agg #[.int .i64 (((gl r x15).1).phase), .int .i64 (((gl r x15).1).holds), .int .i64 (((gl r x15).1).again), .int .i64 (((gl r x15).1).shown), r25]) [.int .i64 (((gl r x15).1).phase), .int .i64 (((gl r x15).1).holds), .int .i64 (((gl r x15).1).again), .int .i64 (((gl r x15).1).shown), r25] [.int .i64 (((gl r x15).1).phase), .int .i64 (((gl r x15).1).holds), .int .i64 (((gl r x15).1).again), .int .i64 (((gl r x15).1).shown), r25] bxb30 rfl rfl rfl rfl (by simp) (all_cons rfl (all_cons rfl (all_cons rfl (all_cons rfl (all_cons s_r25.one1 all_nil))))) rfl (fun h34 mh34 sh34 bxx35 => ?_)
      have E36 := E32.mod mh34 (fun b hb => by simp at hb; omega)
      refine s_pure (.bool ((gl r x15).2)) (fun _ q => q) ?_
      refine s_nil ?_
      refine p_seqN ?_
      refine v_seq ?_
      refine v_seq ?_
      refine v_ops ?_
      refine s_pure (.bool ((gl r x15).2)) (fun _ q => q) ?_
      refine s_nil ?_
      refine p_seqN ?_
      refine v_cond rfl (fun c37 => ?_) (fun c37 => ?_)
      ·
        refine v_ops ?_
        refine s_pure (.int .i64 w) (fun _ q => q) ?_
        refine s_pure (.int .i64 (w + 1)) (fun _ q => ArithVC.mk (by omega) q) ?_
        refine s_pure (.int .i64 (w + 1)) (fun _ q => q) ?_
        refine s_nil ?_
        refine p_seqN ?_
        refine v_ops ?_
        refine s_load (.agg #[.int .i64 (((gl r x15).1).phase), .int .i64 (((gl r x15).1).holds), .int .i64 (((gl r x15).1).again), .int .i64 (((gl r x15).1).shown), r25]) (fun _ q => bxx35.loadA rfl q) ?_
        have f38 := (((f23.mod mh26 np_b5_v).ext eh31).mod mh34 (by simp; omega))
        refine s_stBx (.agg #[.int .i64 (((gl r x15).1).phase), .int .i64 (((gl r x15).1).holds), .int .i64 (((gl r x15).1).again), .int .i64 (((gl r x15).1).shown), r25]) [.int .i64 (((gl r x15).1).phase), .int .i64 (((gl r x15).1).holds), .int .i64 (((gl r x15).1).again), .int .i64 (((gl r x15).1).shown), r25] [.int .i64 (((gl r x15).1).phase), .int .i64 (((gl r x15).1).holds), .int .i64 (((gl r x15).1).again), .int .i64 (((gl r x15).1).shown), r25] f38 rfl rfl rfl rfl (by simp) (all_cons rfl (all_cons rfl (all_cons rfl (all_cons rfl (all_cons s_r25.one1 all_nil))))) rfl (fun h39 mh39 sh39 bxx40 => ?_)
        have E41 := E36.mod mh39 (fun b hb => by simp at hb; omega)
        refine s_nil ?_
        refine p_blkN ?_
        refine p_seqN ?_
        refine v_ops ?_
        refine s_pure (.int .i64 ((k : Int) + 1)) (fun _ q => ArithVC.mk (by omega) q) ?_
        refine s_pure (.int .i64 ((k : Int) + 1)) (fun _ q => q) ?_
        refine s_nil ?_
        have f42 := (((s_r25.ext eh31).mod mh34 (fun b hb hc => by simp at hc; have := lt_r25 b hb; omega)).mod mh39 (fun b hb hc => np28 (by simp at hc; rw [← hc]; exact hb)))
        exact p_lpN ⟨k + 1, ((gl r x15).1), (w + 1), r25, ⟨rfl, rfl, rfl, rfl, rfl⟩, ⟨E41, bxx40, (sl_eq f42 (by simp)), (fr_r25.mono (by omega)), np28, (by exact ⟨by omega, run_step (by assumption) hr, by rw [wrongs_snoc rz (by assumption), ← hr, hw]; first | (rw [if_pos (by assumption)]; rfl) | (rw [if_neg (by assumption)]; rfl)⟩)⟩, by omega⟩
      ·
        refine v_skip ?_
        refine p_seqN ?_
        refine v_ops ?_
        refine s_load (.agg #[.int .i64 (((gl r x15).1).phase), .int .i64 (((gl r x15).1).holds), .int .i64 (((gl r x15).1).again), .int .i64 (((gl r x15).1).shown), r25]) (fun _ q => bxx35.loadA rfl q) ?_
        have f43 := (((f23.mod mh26 np_b5_v).ext eh31).mod mh34 (by simp; omega))
        refine s_stBx (.agg #[.int .i64 (((gl r x15).1).phase), .int .i64 (((gl r x15).1).holds), .int .i64 (((gl r x15).1).again), .int .i64 (((gl r x15).1).shown), r25]) [.int .i64 (((gl r x15).1).phase), .int .i64 (((gl r x15).1).holds), .int .i64 (((gl r x15).1).again), .int .i64 (((gl r x15).1).shown), r25] [.int .i64 (((gl r x15).1).phase), .int .i64 (((gl r x15).1).holds), .int .i64 (((gl r x15).1).again), .int .i64 (((gl r x15).1).shown), r25] f43 rfl rfl rfl rfl (by simp) (all_cons rfl (all_cons rfl (all_cons rfl (all_cons rfl (all_cons s_r25.one1 all_nil))))) rfl (fun h44 mh44 sh44 bxx45 => ?_)
        have E46 := E36.mod mh44 (fun b hb => by simp at hb; omega)
        refine s_nil ?_
        refine p_blkN ?_
        refine p_seqN ?_
        refine v_ops ?_
        refine s_pure (.int .i64 ((k : Int) + 1)) (fun _ q => ArithVC.mk (by omega) q) ?_
        refine s_pure (.int .i64 ((k : Int) + 1)) (fun _ q => q) ?_
        refine s_nil ?_
        have f47 := (((s_r25.ext eh31).mod mh34 (fun b hb hc => by simp at hc; have := lt_r25 b hb; omega)).mod mh44 (fun b hb hc => np28 (by simp at hc; rw [← hc]; exact hb)))
        exact p_lpN ⟨k + 1, ((gl r x15).1), w, r25, ⟨rfl, rfl, rfl, rfl, rfl⟩, ⟨E46, bxx45, (sl_eq f47 (by simp)), (fr_r25.mono (by omega)), np28, (by exact ⟨by omega, run_step (by assumption) hr, by rw [wrongs_snoc rz (by assumption), ← hr, hw]; first | (rw [if_pos (by assumption)]; rfl) | (rw [if_neg (by assumption)]; rfl)⟩)⟩, by omega⟩
    ·
      refine v_exit ?_
      refine p_seqX ?_
      refine p_lpX ?_
      refine p_blkX ?_
      refine p_seqN ?_
      refine v_seq ?_
      refine v_ops ?_
      refine s_pure (.int .i64 w) (fun _ q => q) ?_
      refine s_pure (.int .i64 w) (fun _ q => q) ?_
      refine s_pure (.bool true) (fun _ q => q) ?_
      refine s_nil ?_
      refine p_seqN ?_
      refine v_ret ?_
      refine p_ret [.int .i64 w, .bool true] (.tuple #[.int .i64 w, .bool true]) (fun _ q => q) rfl ?_
      have ho : wsOut l = (w, true) := by first | exact ws_no (by assumption) | (rw [take_all (by assumption)] at hw; rw [wsOut, if_pos (by assumption), hw])
      exact ⟨by first | (rw [ho]; done) | rfl, Eh⟩


/-- what the specification counts -/
theorem gl_wrong {r : RepP} (hi : RInv r) (g : GlanceD) : (gl r g).2 = true ↔ ((gl r g).1.again > r.again ∨ ((gl r g).1.phase = 2 ∧ r.phase ≠ 2)) := by
  have h1 := hi.z
  have h2 := hi.a
  unfold gl
  repeat' split
  all_goals simp_all
  all_goals omega
def shown (r0 : RepP) (xs : List GlanceD) : List Int := (List.range xs.length).map fun i => (run r0 (xs.take (i + 1))).shown
theorem shown_snoc (r0 : RepP) {xs : List GlanceD} {k : Nat} {x : GlanceD} (hx : xs[k]? = some x) : shown r0 (xs.take (k + 1)) = shown r0 (xs.take k) ++ [(gl (run r0 (xs.take k)) x).1.shown] := by
  have hk : k < xs.length := (List.getElem?_eq_some_iff.1 hx).1
  unfold shown
  have l1 : (xs.take (k + 1)).length = k + 1 := by simp; omega
  have l2 : (xs.take k).length = k := by simp; omega
  rw [l1, l2, List.range_succ, List.map_append]
  congr 1
  · apply List.map_congr_left
    intro i hi
    have hi := List.mem_range.1 hi
    rw [List.take_take, List.take_take, Nat.min_eq_left (by omega), Nat.min_eq_left (by omega)]
  · simp only [List.map_cons, List.map_nil]
    rw [List.take_take, Nat.min_eq_left (by omega), snoc_get hx, run_snoc]
theorem shown_len (r0 : RepP) (xs : List GlanceD) : (shown r0 xs).length = xs.length := by simp [shown]
noncomputable def saOut (xs : List GlanceD) : List Int × Bool := if GlOk xs then (shown rz xs, true) else ([], false)
theorem sa_no {xs : List GlanceD} (h : ¬ GlOk xs) : saOut xs = ([], false) := by rw [saOut, if_neg h]
/-- the test of the program -/
def chg (a b : RepP) : Bool := a.phase != b.phase || a.holds != b.holds || a.again != b.again || a.shown != b.shown || a.passed.length != b.passed.length
def useful (r0 : RepP) (xs : List GlanceD) : List Int := ((List.range xs.length).filter fun i => match xs[i]? with | some x => chg (gl (run r0 (xs.take i)) x).1 (run r0 (xs.take i)) | none => false).map fun (i : Nat) => (i : Int)
theorem useful_snoc (r0 : RepP) {xs : List GlanceD} {k : Nat} {x : GlanceD} (hx : xs[k]? = some x) : useful r0 (xs.take (k + 1)) = useful r0 (xs.take k) ++ if chg (gl (run r0 (xs.take k)) x).1 (run r0 (xs.take k)) then [(k : Int)] else [] := by
  have hk : k < xs.length := (List.getElem?_eq_some_iff.1 hx).1
  unfold useful
  have l1 : (xs.take (k + 1)).length = k + 1 := by simp; omega
  have l2 : (xs.take k).length = k := by simp; omega
  rw [l1, l2, List.range_succ, List.filter_append, List.map_append]
  congr 1
  · congr 1
    apply List.filter_congr
    intro i hi
    have hi := List.mem_range.1 hi
    rw [take_get (by omega), take_get hi, List.take_take, List.take_take, Nat.min_eq_left (by omega), Nat.min_eq_left (by omega)]
  · rw [List.filter_cons, take_get (by omega), hx, List.take_take, Nat.min_eq_left (by omega)]
    simp only [List.filter_nil]
    split <;> simp_all
theorem useful_len (r0 : RepP) (xs : List GlanceD) : (useful r0 xs).length ≤ xs.length := by
  unfold useful
  rw [List.length_map]
  exact Nat.le_trans (List.length_filter_le _ _) (by simp)
noncomputable def ugOut (xs : List GlanceD) : List Int × Bool := if GlOk xs then (useful rz xs, true) else ([], false)
theorem ug_no {xs : List GlanceD} (h : ¬ GlOk xs) : ugOut xs = ([], false) := by rw [ugOut, if_neg h]

theorem spec_rpNew_ok  (h : Heap)  : Cn f_spec_rpNew [] h fun v h' => ∃ r0 : Value, v = .agg #[.int .i64 rz.phase, .int .i64 rz.holds, .int .i64 rz.again, .int .i64 rz.shown, r0] ∧ SlO h' r0 rz.passed ∧ Fr h.size r0 ∧ Ext h h' := by
  refine calls_of r_spec_rpNew ?_
  refine v_seq ?_
  refine v_ops ?_
  refine s_new (fun h2 b1 hbb1 hzb1 eh2 bxb1 => ?_)
  have E3 := (Ext.refl h).trans eh2
  have z4 := eh2.size
  have lbb1 := bxb1.lt
  refine s_nil ?_
  refine p_seqN ?_
  refine v_seq ?_
  refine v_ops ?_
  refine s_pure (.agg #[.int .i64 0, .int .i64 0, .int .i64 0, .int .i64 0, .slice none 0 0]) (fun _ q => w_build (seg_nil q)) ?_
  refine s_stBx (.agg #[.int .i64 0, .int .i64 0, .int .i64 0, .int .i64 0, .slice none 0 0]) [.int .i64 0, .int .i64 0, .int .i64 0, .int .i64 0, .slice none 0 0] [.int .i64 0, .int .i64 0, .int .i64 0, .int .i64 0, .slice none 0 0] bxb1 rfl rfl rfl rfl (by simp) (all_cons rfl (all_cons rfl (all_cons rfl (all_cons rfl (all_cons rfl all_nil))))) rfl (fun h5 mh5 sh5 bxx6 => ?_)
  have E7 := E3.mod mh5 (fun b hb => by simp at hb; omega)
  refine s_nil ?_
  refine p_seqN ?_
  refine v_ret ?_
  refine p_ret [.agg #[.int .i64 0, .int .i64 0, .int .i64 0, .int .i64 0, .slice none 0 0]] (.agg #[.int .i64 0, .int .i64 0, .int .i64 0, .int .i64 0, .slice none 0 0]) (fun _ q => (bxx6.loadA rfl q)) rfl ?_
  have ho : rz = ⟨0, 0, 0, 0, []⟩ := by rfl
  exact ⟨(.slice none 0 0), by first | (rw [ho]; done) | rfl, sl_eq (SlX.nil (α := Int) true _) (congrArg (fun o => o.passed) ho).symm, Fr.nil _, E7⟩

set_option maxRecDepth 10000 in
set_option maxHeartbeats 4000000 in
theorem spec_WrongShows_ok (v_l : Value) (l : List GlanceD) (h : Heap) (s_l : Sl h v_l l) : Cn f_spec_WrongShows [v_l] h fun v h' => v = .tuple #[.int .i64 ((wsOut l).1), .bool ((wsOut l).2)] ∧ Ext h h' := by
  have lt_l := s_l.lt
  have l63_l := s_l.len63
  refine calls_of r_spec_WrongShows ?_
  refine v_seq ?_
  refine v_ops ?_
  refine s_pure (.int .i64 0) (fun _ q => q) ?_
  refine s_pure (.bool false) (fun _ q => q) ?_
  refine s_nil ?_
  refine p_seqN ?_
  refine v_seq ?_
  refine v_seq ?_
  refine v_ops ?_
  refine s_pure v_l (fun _ q => q) ?_
  refine s_call [v_l] rfl (rpGlances_ok v_l l _ s_l) ?_
  rintro _ h1 ⟨rfl, eh1⟩
  have E2 := (Ext.refl h).trans eh1
  have z3 := eh1.size
  refine s_pure (.bool (!(decide (GlOk l)))) (fun _ q => q) ?_
  refine s_nil ?_
  refine p_seqN ?_
  refine v_cond rfl (fun c4 => ?_) (fun c4 => ?_)
  ·
    refine v_seq ?_
    refine v_ops ?_
    refine s_pure (.int .i64 0) (fun _ q => q) ?_
    refine s_pure (.bool false) (fun _ q => q) ?_
    refine s_nil ?_
    refine p_seqN ?_
    refine v_ret ?_
    refine p_seqR ?_
    refine p_ret [.int .i64 0, .bool false] (.tuple #[.int .i64 0, .bool false]) (fun _ q => q) rfl ?_
    have ho : wsOut l = (0, false) := by first | exact ws_no (by assumption) | (rw [take_all (by assumption)] at hw; rw [wsOut, if_pos (by assumption), hw])
    exact ⟨by first | (rw [ho]; done) | rfl, E2⟩
  ·
    have c4 := Classical.not_not.1 c4
    refine v_skip ?_
    refine p_seqN ?_
    refine v_seq ?_
    refine v_ops ?_
    refine s_pure (.int .i64 0) (fun _ q => q) ?_
    refine s_nil ?_
    refine p_seqN ?_
    refine v_seq ?_
    refine v_ops ?_
    refine s_call [] rfl (spec_rpNew_ok  _ ) ?_
    rintro _ h6 ⟨r5, rfl, s_r5, fr_r5, eh6⟩
    have E7 := E2.trans eh6
    have z8 := eh6.size
    have lt_r5 := s_r5.lt
    refine s_new (fun h10 b9 hbb9 hzb9 eh10 bxb9 => ?_)
    have E11 := E7.trans eh10
    have z12 := eh10.size
    have lbb9 := bxb9.lt
    refine s_stBx (.agg #[.int .i64 rz.phase, .int .i64 rz.holds, .int .i64 rz.again, .int .i64 rz.shown, r5]) [.int .i64 rz.phase, .int .i64 rz.holds, .int .i64 rz.again, .int .i64 rz.shown, r5] [.int .i64 rz.phase, .int .i64 rz.holds, .int .i64 rz.again, .int .i64 rz.shown, r5] bxb9 rfl rfl rfl rfl (by simp) (all_cons rfl (all_cons rfl (all_cons rfl (all_cons rfl (all_cons s_r5.one1 all_nil))))) rfl (fun h13 mh13 sh13 bxx14 => ?_)
    have E15 := E11.mod mh13 (fun b hb => by simp at hb; omega)
    refine s_nil ?_
    refine p_seqN ?_
    refine v_seq ?_
    refine v_seq ?_
    refine v_ops ?_
    refine s_pure v_l (fun _ q => q) ?_
    refine s_pure (.int .i64 (l.length : Int)) (fun _ q => s_l.lenVC q) ?_
    refine s_pure (.int .i64 0) (fun _ q => q) ?_
    refine s_nil ?_
    refine p_seqN ?_
    refine v_block ?_
    have f17 := ((s_r5.ext eh10).mod mh13 (fun b hb hc => by simp at hc; have := lt_r5 b hb; omega))
    refine v_loop4 (α := Nat) (β := RepP) (γ := Int) (δ := Value) (fun k r w v => [(4, .int .i64 w), (5, .pointer (some ⟨b9, 0, none⟩)), (13, v_l), (14, .int .i64 (l.length : Int)), (15, .int .i64 (k : Int))]) (fun k r w v hh => Ext h hh ∧ Bx hh b9 [.int .i64 r.phase, .int .i64 r.holds, .int .i64 r.again, .int .i64 r.shown, v] 25 ∧ SlO hh v r.passed ∧ Fr h.size v ∧ b9 ∉ blks v ∧ k ≤ l.length ∧ r = run rz (l.take k) ∧ w = (wrongs rz (l.take k) : Int)) (fun k r w v => l.length - k) 0 rz 0 r5 ⟨rfl, rfl, rfl, rfl, rfl⟩ ⟨E15, bxx14, (sl_eq f17 (by simp)), (fr_r5.mono (by omega)), (fun hc => by have := lt_r5 _ hc; omega), (by exact ⟨by omega, rfl, rfl⟩)⟩ ?_
    rintro k r w v R18 h16 ⟨Eh, bxb9, s_v, fr_v, np_b9_v, ⟨hk, hr, hw⟩⟩
    have zEh := Eh.size
    have f20 := s_l.ext Eh
    have lbb9 := bxb9.lt
    have lt_v := s_v.lt
    have hi : RInv r := by rw [hr]; exact run_inv RInv.zero _
    have hl : r.passed.length ≤ l.length := by (have := run_len rz (l.take k)); rw [← hr] at this; simp at this; omega
    have ha := hi.a
    have gok := GlOk.len (by assumption : GlOk l)
    have hwl := wrongs_le rz (l.take k)
    simp only [List.length_take] at hwl
    refine v_seq ?_
    refine v_ops ?_
    refine s_pure (.bool (decide ((k : Int) < (l.length : Int)))) (fun _ q => q) ?_
    refine s_nil ?_
    refine p_seqN ?_
    refine v_seq ?_
    refine v_cond rfl (fun c21 => ?_) (fun c21 => ?_)
    ·
      refine v_skip ?_
      refine p_seqN ?_
      refine v_seq ?_
      refine v_block ?_
      refine v_seq ?_
      refine v_ops ?_
      have hk22 : k < l.length := (by first | omega | (simp; omega))
      obtain ⟨x23, hx23⟩ : ∃ x, l[k]? = some x := ⟨_, List.getElem?_eq_getElem hk22⟩
      refine s_pure (.pointer (some ⟨sblk v_l, soff v_l + k * 2, none⟩)) (fun _ q => f20.idx (k := k) rfl hk22 q) ?_
      refine s_load (.agg #[.bool x23.next, .int .i64 x23.signal]) (fun _ q => f20.loadN hx23 rfl q) ?_
      refine s_new (fun h25 b24 hbb24 hzb24 eh25 bxb24 => ?_)
      have E26 := Eh.trans eh25
      have z27 := eh25.size
      have lbb24 := bxb24.lt
      refine s_stBx (.agg #[.bool x23.next, .int .i64 x23.signal]) [.bool x23.next, .int .i64 x23.signal] [.bool x23.next, .int .i64 x23.signal] bxb24 rfl rfl rfl rfl (by simp) (all_cons rfl (all_cons rfl all_nil)) rfl (fun h28 mh28 sh28 bxx29 => ?_)
      have E30 := E26.mod mh28 (fun b hb => by simp at hb; omega)
      refine s_nil ?_
      refine p_seqN ?_
      refine v_seq ?_
      refine v_ops ?_
      have f31 := ((bxb9.ext eh25).mod mh28 (by simp; omega))
      refine s_load (.agg #[.int .i64 r.phase, .int .i64 r.holds, .int .i64 r.again, .int .i64 r.shown, v]) (fun _ q => f31.loadA rfl q) ?_
      refine s_load (.agg #[.bool x23.next, .int .i64 x23.signal]) (fun _ q => bxx29.loadA rfl q) ?_
      have f32 := ((s_v.ext eh25).mod mh28 (fun b hb hc => by simp at hc; have := lt_v b hb; omega))
      refine s_call [.agg #[.int .i64 r.phase, .int .i64 r.holds, .int .i64 r.again, .int .i64 r.shown, v], .agg #[.bool x23.next, .int .i64 x23.signal]] rfl (spec_rpStep_ok r v x23 _ f32.toSl (by first | omega | assumption | (simp; omega)) (by first | omega | assumption | (simp; omega))) ?_
      rintro _ h34 ⟨r33, rfl, s_r33, fr_r33, eh34⟩
      have E35 := E30.trans eh34
      have z36 := eh34.size
      have lt_r33 := s_r33.lt
      refine s_new (fun h38 b37 hbb37 hzb37 eh38 bxb37 => ?_)
      have E39 := E35.trans eh38
      have z40 := eh38.size
      have lbb37 := bxb37.lt
      refine s_stBx (.agg #[.int .i64 (((gl r x23).1).phase), .int .i64 (((gl r x23).1).holds), .int .i64 (((gl r x23).1).again), .int .i64 (((gl r x23).1).shown), r33]) [.int .i64 (((gl r x23).1).phase), .int .i64 (((gl r x23).1).holds), .int .i64 (((gl r x23).1).again), .int .i64 (((gl r x23).1).shown), r33] [.int .i64 (((gl r x23).1).phase), .int .i64 (((gl r x23).1).holds), .int .i64 (((gl r x23).1).again), .int .i64 (((gl r x23).1).shown), r33] bxb37 rfl rfl rfl rfl (by simp) (all_cons rfl (all_cons rfl (all_cons rfl (all_cons rfl (all_cons s_r33.one1 all_nil))))) rfl (fun h41 mh41 sh41 bxx42 => ?_)
      have E43 := E39.mod mh41 (fun b hb => by simp at hb; omega)
      refine s_nil ?_
      refine p_seqN ?_
      refine v_seq ?_
      refine v_seq ?_
      refine v_ops ?_
      refine s_pure (.pointer (some ⟨b37, 2, none⟩)) (fun _ q => q) ?_
      refine s_load (.int .i64 (((gl r x23).1).again)) (fun _ q => bxx42.load rfl q) ?_
      refine s_pure (.pointer (some ⟨b9, 2, none⟩)) (fun _ q => q) ?_
      have f44 := (((f31.ext eh34).ext eh38).mod mh41 (by simp; omega))
      refine s_load (.int .i64 r.again) (fun _ q => f44.load rfl q) ?_
      refine s_pure (.bool (decide (((gl r x23).1).again > r.again))) (fun _ q => q) ?_
      refine s_pure (.bool (decide (((gl r x23).1).again > r.again))) (fun _ q => q) ?_
      refine s_splitT rfl (fun c45 => ?_) (fun c45 => ?_)
      ·
        refine s_pass rfl ?_
        refine s_pass rfl ?_
        refine s_pass rfl ?_
        refine s_pass rfl ?_
        refine s_splitU rfl ?_
        refine s_passU rfl ?_
        refine s_passU rfl ?_
        refine s_passU rfl ?_
        refine s_pass rfl ?_
        refine s_pure (.bool true) (fun _ q => q) ?_
        refine s_nil ?_
        refine p_seqN ?_
        refine v_condY rfl rfl ?_
        refine v_ops ?_
        refine s_pure (.int .i64 w) (fun _ q => q) ?_
        refine s_pure (.int .i64 (w + 1)) (fun _ q => ArithVC.mk (by omega) q) ?_
        refine s_pure (.int .i64 (w + 1)) (fun _ q => q) ?_
        refine s_nil ?_
        refine p_seqN ?_
        refine v_ops ?_
        refine s_load (.agg #[.int .i64 (((gl r x23).1).phase), .int .i64 (((gl r x23).1).holds), .int .i64 (((gl r x23).1).again), .int .i64 (((gl r x23).1).shown), r33]) (fun _ q => bxx42.loadA rfl q) ?_
        refine s_stBx (.agg #[.int .i64 (((gl r x23).1).phase), .int .i64 (((gl r x23).1).holds), .int .i64 (((gl r x23).1).again), .int .i64 (((gl r x23).1).shown), r33]) [.int .i64 (((gl r x23).1).phase), .int .i64 (((gl r x23).1).holds), .int .i64 (((gl r x23).1).again), .int .i64 (((gl r x23).1).shown), r33] [.int .i64 (((gl r x23).1).phase), .int .i64 (((gl r x23).1).holds), .int .i64 (((gl r x23).1).again), .int .i64 (((gl r x23).1).shown), r33] f44 rfl rfl rfl rfl (by simp) (all_cons rfl (all_cons rfl (all_cons rfl (all_cons rfl (all_cons s_r33.one1 all_nil))))) rfl (fun h46 mh46 sh46 bxx47 => ?_)
        have E48 := E43.mod mh46 (fun b hb => by simp at hb; omega)
        refine s_nil ?_
        refine p_blkN ?_
        refine p_seqN ?_
        refine v_ops ?_
        refine s_pure (.int .i64 ((k : Int) + 1)) (fun _ q => ArithVC.mk (by omega) q) ?_
        refine s_pure (.int .i64 ((k : Int) + 1)) (fun _ q => q) ?_
        refine s_nil ?_
        have f49 := (((s_r33.ext eh38).mod mh41 (fun b hb hc => by simp at hc; have := lt_r33 b hb; omega)).mod mh46 (fun b hb hc => by simp at hc; have := fr_r33 b hb; omega))
        exact p_lpN ⟨k + 1, ((gl r x23).1), (w + 1), r33, ⟨rfl, rfl, rfl, rfl, rfl⟩, ⟨E48, bxx47, (sl_eq f49 (by simp)), (fr_r33.mono (by omega)), (fun hc => by have := fr_r33 _ hc; omega), (by exact ⟨by omega, run_step (by assumption) hr, by rw [wrongs_snoc rz (by assumption), ← hr, hw]; (have gw := gl_wrong hi x23); first | (rw [if_pos (gw.2 (by omega))]; rfl) | (rw [if_neg (fun hc => by (have := gw.1 hc); omega)]; rfl)⟩)⟩, by omega⟩
      ·
        refine s_run rfl ?_
        refine s_pure (.pointer (some ⟨b37, 0, none⟩)) (fun _ q => q) ?_
        refine s_run rfl ?_
        refine s_load (.int .i64 (((gl r x23).1).phase)) (fun _ q => bxx42.load rfl q) ?_
        refine s_run rfl ?_
        refine s_pure (.bool (((gl r x23).1).phase == 2)) (fun _ q => q) ?_
        refine s_run rfl ?_
        refine s_pure (.bool (((gl r x23).1).phase == 2)) (fun _ q => q) ?_
        refine s_splitT rfl (fun c50 => ?_) (fun c50 => ?_)
        ·
          refine s_run rfl ?_
          refine s_pure (.pointer (some ⟨b9, 0, none⟩)) (fun _ q => q) ?_
          refine s_run rfl ?_
          refine s_load (.int .i64 r.phase) (fun _ q => f44.load rfl q) ?_
          refine s_run rfl ?_
          refine s_pure (.bool (r.phase != 2)) (fun _ q => q) ?_
          refine s_run rfl ?_
          refine s_pure (.bool (r.phase != 2)) (fun _ q => q) ?_
          refine s_pure (.bool (r.phase != 2)) (fun _ q => q) ?_
          refine s_nil ?_
          refine p_seqN ?_
          refine v_cond rfl (fun c51 => ?_) (fun c51 => ?_)
          ·
            refine v_ops ?_
            refine s_pure (.int .i64 w) (fun _ q => q) ?_
            refine s_pure (.int .i64 (w + 1)) (fun _ q => ArithVC.mk (by omega) q) ?_
            refine s_pure (.int .i64 (w + 1)) (fun _ q => q) ?_
            refine s_nil ?_
            refine p_seqN ?_
            refine v_ops ?_
            refine s_load (.agg #[.int .i64 (((gl r x23).1).phase), .int .i64 (((gl r x23).1).holds), .int .i64 (((gl r x23).1).again), .int .i64 (((gl r x23).1).shown), r33]) (fun _ q => bxx42.loadA rfl q) ?_
            refine s_stBx (.agg #[.int .i64 (((gl r x23).1).phase), .int .i64 (((gl r x23).1).holds), .int .i64 (((gl r x23).1).again), .int .i64 (((gl r x23).1).shown), r33]) [.int .i64 (((gl r x23).1).phase), .int .i64 (((gl r x23).1).holds), .int .i64 (((gl r x23).1).again), .int .i64 (((gl r x23).1).shown), r33] [.int .i64 (((gl r x23).1).phase), .int .i64 (((gl r x23).1).holds), .int .i64 (((gl r x23).1).again), .int .i64 (((gl r x23).1).shown), r33] f44 rfl rfl rfl rfl (by simp) (all_cons rfl (all_cons rfl (all_cons rfl (all_cons rfl (all_cons s_r33.one1 all_nil))))) rfl (fun h52 mh52 sh52 bxx53 => ?_)
            have E54 := E43.mod mh52 (fun b hb => by simp at hb; omega)
            refine s_nil ?_
            refine p_blkN ?_
            refine p_seqN ?_
            refine v_ops ?_
            refine s_pure (.int .i64 ((k : Int) + 1)) (fun _ q => ArithVC.mk (by omega) q) ?_
            refine s_pure (.int .i64 ((k : Int) + 1)) (fun _ q => q) ?_
            refine s_nil ?_
            have f55 := (((s_r33.ext eh38).mod mh41 (fun b hb hc => by simp at hc; have := lt_r33 b hb; omega)).mod mh52 (fun b hb hc => by simp at hc; have := fr_r33 b hb; omega))
            exact p_lpN ⟨k + 1, ((gl r x23).1), (w + 1), r33, ⟨rfl, rfl, rfl, rfl, rfl⟩, ⟨E54, bxx53, (sl_eq f55 (by simp)), (fr_r33.mono (by omega)), (fun hc => by have := fr_r33 _ hc; omega), (by exact ⟨by omega, run_step (by assumption) hr, by rw [wrongs_snoc rz (by assumption), ← hr, hw]; (have gw := gl_wrong hi x23); first | (rw [if_pos (gw.2 (by omega))]; rfl) | (rw [if_neg (fun hc => by (have := gw.1 hc); omega)]; rfl)⟩)⟩, by omega⟩
          ·
            have c51 := Classical.not_not.1 c51
            refine v_skip ?_
            refine p_seqN ?_
            refine v_ops ?_
            refine s_load (.agg #[.int .i64 (((gl r x23).1).phase), .int .i64 (((gl r x23).1).holds), .int .i64 (((gl r x23).1).again), .int .i64 (((gl r x23).1).shown), r33]) (fun _ q => bxx42.loadA rfl q) ?_
            refine s_stBx (.agg #[.int .i64 (((gl r x23).1).phase), .int .i64 (((gl r x23).1).holds), .int .i64 (((gl r x23).1).again), .int .i64 (((gl r x23).1).shown), r33]) [.int .i64 (((gl r x23).1).phase), .int .i64 (((gl r x23).1).holds), .int .i64 (((gl r x23).1).again), .int .i64 (((gl r x23).1).shown), r33] [.int .i64 (((gl r x23).1).phase), .int .i64 (((gl r x23).1).holds), .int .i64 (((gl r x23).1).again), .int .i64 (((gl r x23).1).shown), r33] f44 rfl rfl rfl rfl (by simp) (all_cons rfl (all_cons rfl (all_cons rfl (all_cons rfl (all_cons s_r33.one1 all_nil))))) rfl (fun h56 mh56 sh56 bxx57 => ?_)
            have E58 := E43.mod mh56 (fun b hb => by simp at hb; omega)
            refine s_nil ?_
            refine p_blkN ?_
            refine p_seqN ?_
            refine v_ops ?_
            refine s_pure (.int .i64 ((k : Int) + 1)) (fun _ q => ArithVC.mk (by omega) q) ?_
            refine s_pure (.int .i64 ((k : Int) + 1)) (fun _ q => q) ?_
            refine s_nil ?_
            have f59 := (((s_r33.ext eh38).mod mh41 (fun b hb hc => by simp at hc; have := lt_r33 b hb; omega)).mod mh56 (fun b hb hc => by simp at hc; have := fr_r33 b hb; omega))
            exact p_lpN ⟨k + 1, ((gl r x23).1), w, r33, ⟨rfl, rfl, rfl, rfl, rfl⟩, ⟨E58, bxx57, (sl_eq f59 (by simp)), (fr_r33.mono (by omega)), (fun hc => by have := fr_r33 _ hc; omega), (by exact ⟨by omega, run_step (by assumption) hr, by rw [wrongs_snoc rz (by assumption), ← hr, hw]; (have gw := gl_wrong hi x23); first | (rw [if_pos (gw.2 (by omega))]; rfl) | (rw [if_neg (fun hc => by (have := gw.1 hc); omega)]; rfl)⟩)⟩, by omega⟩
        ·
          refine s_pass rfl ?_
          refine s_pass rfl ?_
          refine s_pass rfl ?_
          refine s_run rfl ?_
          refine s_pure (.bool false) (fun _ q => q) ?_
          refine s_pure (.bool false) (fun _ q => q) ?_
          refine s_nil ?_
          refine p_seqN ?_
          refine v_condN rfl (by simp) ?_
          refine v_skip ?_
          refine p_seqN ?_
          refine v_ops ?_
          refine s_load (.agg #[.int .i64 (((gl r x23).1).phase), .int .i64 (((gl r x23).1).holds), .int .i64 (((gl r x23).1).again), .int .i64 (((gl r x23).1).shown), r33]) (fun _ q => bxx42.loadA rfl q) ?_
          refine s_stBx (.agg #[.int .i64 (((gl r x23).1).phase), .int .i64 (((gl r x23).1).holds), .int .i64 (((gl r x23).1).again), .int .i64 (((gl r x23).1).shown), r33]) [.int .i64 (((gl r x23).1).phase), .int .i64 (((gl r x23).1).holds), .int .i64 (((gl r x23).1).again), .int .i64 (((gl r x23).1).shown), r33] [.int .i64 (((gl r x23).1).phase), .int .i64 (((gl r x23).1).holds), .int .i64 (((gl r x23).1).again), .int .i64 (((gl r x23).1).shown), r33] f44 rfl rfl rfl rfl (by simp) (all_cons rfl (all_cons rfl (all_cons rfl (all_cons rfl (all_cons s_r33.one1 all_nil))))) rfl (fun h60 mh60 sh60 bxx61 => ?_)
          have E62 := E43.mod mh60 (fun b hb => by simp at hb; omega)
          refine s_nil ?_
          refine p_blkN ?_
          refine p_seqN ?_
          refine v_ops ?_
          refine s_pure (.int .i64 ((k : Int) + 1)) (fun _ q => ArithVC.mk (by omega) q) ?_
          refine s_pure (.int .i64 ((k : Int) + 1)) (fun _ q => q) ?_
          refine s_nil ?_
          have f63 := (((s_r33.ext eh38).mod mh41 (fun b hb hc => by simp at hc; have := lt_r33 b hb; omega)).mod mh60 (fun b hb hc => by simp at hc; have := fr_r33 b hb; omega))
          exact p_lpN ⟨k + 1, ((gl r x23).1), w, r33, ⟨rfl, rfl, rfl, rfl, rfl⟩, ⟨E62, bxx61, (sl_eq f63 (by simp)), (fr_r33.mono (by omega)), (fun hc => by have := fr_r33 _ hc; omega), (by exact ⟨by omega, run_step (by assumption) hr, by rw [wrongs_snoc rz (by assumption), ← hr, hw]; (have gw := gl_wrong hi x23); first | (rw [if_pos (gw.2 (by omega))]; rfl) | (rw [if_neg (fun hc => by (have := gw.1 hc); omega)]; rfl)⟩)⟩, by omega⟩
    ·
      refine v_exit ?_
      refine p_seqX ?_
      refine p_lpX ?_
      refine p_blkX ?_
      refine p_seqN ?_
      refine v_seq ?_
      refine v_ops ?_
      refine s_pure (.int .i64 w) (fun _ q => q) ?_
      refine s_pure (.int .i64 w) (fun _ q => q) ?_
      refine s_pure (.bool true) (fun _ q => q) ?_
      refine s_nil ?_
      refine p_seqN ?_
      refine v_ret ?_
      refine p_ret [.int .i64 w, .bool true] (.tuple #[.int .i64 w, .bool true]) (fun _ q => q) rfl ?_
      have ho : wsOut l = (w, true) := by first | exact ws_no (by assumption) | (rw [take_all (by assumption)] at hw; rw [wsOut, if_pos (by assumption), hw])
      exact ⟨by first | (rw [ho]; done) | rfl, Eh⟩

end Go.Proofs.Ytpbjcaadnbeplaa

