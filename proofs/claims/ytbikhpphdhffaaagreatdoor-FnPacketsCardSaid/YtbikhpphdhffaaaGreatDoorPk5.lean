/- Packets without doubles; conflicts. Condition: none. Printed in part by a program. -/
import Derived.Test.YtbikhpphdhffaaaGreatDoorPk4
namespace Go.Proofs.YtbikhpphdhffaaaGreatDoor
open Go.Vc
set_option linter.all false

theorem take_done {α : Type} {xs ys : List α} {k : Nat} (h : xs.take k = ys.take k) (hk : ¬ (k : Int) < (xs.length : Int)) (hl : (xs.length : Int) = (ys.length : Int)) : xs = ys := by
  rw [take_all hk, take_all (by omega)] at h; exact h
theorem pkp_ext {a b : PkP} : a = b ↔ a.message = b.message ∧ a.part = b.part ∧ a.parts = b.parts ∧ a.signals = b.signals := by
  cases a; cases b; simp
def clash (a b : PkP) : Prop := a.message = b.message ∧ (a.parts ≠ b.parts ∨ (a.part = b.part ∧ a.signals ≠ b.signals))
instance (a b : PkP) : Decidable (clash a b) := inferInstanceAs (Decidable (_ ∧ _))
def wdStep (out : List PkP) (p : PkP) : List PkP := if out.any (fun q => decide (p = q)) then out else out ++ [p]
def wd (l : List PkP) : List PkP := l.foldl wdStep []
theorem wd_snoc (l : List PkP) (p : PkP) : wd (l ++ [p]) = wdStep (wd l) p := by simp [wd]
theorem wd_len (l : List PkP) : (wd l).length ≤ l.length := by
  have : ∀ (l out : List PkP), (l.foldl wdStep out).length ≤ out.length + l.length := by
    intro l
    induction l with
    | nil => intro out; simp
    | cons p l ih =>
      intro out
      have := ih (wdStep out p)
      have h2 : (wdStep out p).length ≤ out.length + 1 := by unfold wdStep; split <;> simp
      simp only [List.foldl_cons, List.length_cons]; omega
  simpa [wd] using this l []
noncomputable def wdOut (l : List PkP) : List PkP × Bool := if PksOk l then (wd l, true) else ([], false)
theorem wd_no {l : List PkP} (h : ¬ PksOk l) : wdOut l = ([], false) := by rw [wdOut, if_neg h]
theorem wd_skip {ps l : List Pk} {k : Nat} {x : Pk} (hps : ps.map Pk.p = wd ((l.map Pk.p).take k)) (hx : l[k]? = some x) (h : ps.any (fun y => decide (x.p = y.p)) = true) : ps.map Pk.p = wd ((l.map Pk.p).take (k + 1)) := by
  rw [snoc_get (map_get hx), wd_snoc, ← hps, wdStep, if_pos (by rw [List.any_map]; exact h)]
theorem wd_add {ps l : List Pk} {k : Nat} {x e : Pk} (hps : ps.map Pk.p = wd ((l.map Pk.p).take k)) (hx : l[k]? = some x) (he : e.p = x.p) (h : ¬ ps.any (fun y => decide (x.p = y.p)) = true) : (ps ++ [e]).map Pk.p = wd ((l.map Pk.p).take (k + 1)) := by
  rw [snoc_get (map_get hx), wd_snoc, ← hps, wdStep, if_neg (by rw [List.any_map]; exact h), List.map_append, ← he]; rfl
theorem wd_yes {ps l : List Pk} {k : Nat} (hps : ps.map Pk.p = wd ((l.map Pk.p).take k)) (hk : ¬ (k : Int) < (l.length : Int)) (h : PksOk (l.map Pk.p)) : wdOut (l.map Pk.p) = (ps.map Pk.p, true) := by
  rw [take_all (by simpa using hk)] at hps
  rw [wdOut, if_pos h, hps]
theorem any_snoc {α : Type} {l : List α} {k : Nat} {x : α} {p : α → Bool} (hx : l[k]? = some x) : (l.take (k + 1)).any p = ((l.take k).any p || p x) := by
  rw [snoc_get hx, List.any_append]; simp

theorem slices_Equal_Lint_int_ok (v_a : Value) (a : List Int) (v_b : Value) (b : List Int) (h : Heap) (s_a : Sl h v_a a) (s_b : Sl h v_b b) : Cn f_slices_Equal_Lint_int [v_a, v_b] h fun v h' => v = .bool (decide (a = b)) ∧ Ext h h' := by
  have lt_a := s_a.lt
  have l63_a := s_a.len63
  have lt_b := s_b.lt
  have l63_b := s_b.len63
  refine calls_of r_slices_Equal_Lint_int ?_
  refine v_seq ?_
  refine v_ops ?_
  refine s_pure (.bool false) (fun _ q => q) ?_
  refine s_nil ?_
  refine p_seqN ?_
  refine v_seq ?_
  refine v_seq ?_
  refine v_ops ?_
  refine s_pure v_a (fun _ q => q) ?_
  refine s_pure (.int .i64 (a.length : Int)) (fun _ q => s_a.lenVC q) ?_
  refine s_pure v_b (fun _ q => q) ?_
  refine s_pure (.int .i64 (b.length : Int)) (fun _ q => s_b.lenVC q) ?_
  refine s_pure (.bool ((a.length : Int) != (b.length : Int))) (fun _ q => q) ?_
  refine s_nil ?_
  refine p_seqN ?_
  refine v_cond rfl (fun c1 => ?_) (fun c1 => ?_)
  ·
    refine v_seq ?_
    refine v_ops ?_
    refine s_pure (.bool false) (fun _ q => q) ?_
    refine s_nil ?_
    refine p_seqN ?_
    refine v_ret ?_
    refine p_seqR ?_
    refine p_ret [.bool false] (.bool false) (fun _ q => q) rfl ?_
    have ho : decide (a = b) = false := by simp only [decide_eq_true_eq, decide_eq_false_iff_not]; first | (intro hab; subst hab; omega) | exact get_ne (by assumption) (by assumption) (by assumption) | exact take_done hab (by assumption) (by omega)
    exact ⟨by first | (rw [ho]; done) | rfl, (Ext.refl h)⟩
  ·
    have c1 := Classical.not_not.1 c1
    refine v_skip ?_
    refine p_seqN ?_
    refine v_seq ?_
    refine v_seq ?_
    refine v_ops ?_
    refine s_pure v_a (fun _ q => q) ?_
    refine s_pure (.int .i64 (a.length : Int)) (fun _ q => s_a.lenVC q) ?_
    refine s_pure (.int .i64 0) (fun _ q => q) ?_
    refine s_nil ?_
    refine p_seqN ?_
    refine v_block ?_
    refine v_loop1 (α := Nat) (fun k => [(0, v_a), (1, v_b), (12, .int .i64 (a.length : Int)), (13, .int .i64 (k : Int))]) (fun k hh => Ext h hh ∧ k ≤ a.length ∧ a.take k = b.take k) (fun k => a.length - k) 0 ⟨rfl, rfl, rfl, rfl⟩ ⟨(Ext.refl h), (by simp)⟩ ?_
    rintro k R3 h2 ⟨Eh, ⟨hk, hab⟩⟩
    have zEh := Eh.size
    have f5 := s_a.ext Eh
    have f6 := s_b.ext Eh
    refine v_seq ?_
    refine v_ops ?_
    refine s_pure (.bool (decide ((k : Int) < (a.length : Int)))) (fun _ q => q) ?_
    refine s_nil ?_
    refine p_seqN ?_
    refine v_seq ?_
    refine v_cond rfl (fun c7 => ?_) (fun c7 => ?_)
    ·
      refine v_skip ?_
      refine p_seqN ?_
      refine v_seq ?_
      refine v_block ?_
      refine v_seq ?_
      refine v_ops ?_
      refine s_pure (.int .i64 (k : Int)) (fun _ q => q) ?_
      refine s_pure (.int .i64 (k : Int)) (fun _ q => q) ?_
      refine s_nil ?_
      refine p_seqN ?_
      refine v_seq ?_
      refine v_ops ?_
      refine s_pure v_a (fun _ q => q) ?_
      refine s_pure (.int .i64 (k : Int)) (fun _ q => q) ?_
      have hk8 : k < a.length := (by first | omega | (simp; omega))
      obtain ⟨x9, hx9⟩ : ∃ x, a[k]? = some x := ⟨_, List.getElem?_eq_getElem hk8⟩
      refine s_pure (.pointer (some ⟨sblk v_a, soff v_a + k * 1, none⟩)) (fun _ q => f5.idx (k := k) rfl hk8 q) ?_
      refine s_pure v_b (fun _ q => q) ?_
      refine s_pure (.int .i64 (k : Int)) (fun _ q => q) ?_
      have hk10 : k < b.length := (by first | omega | (simp; omega))
      obtain ⟨x11, hx11⟩ : ∃ x, b[k]? = some x := ⟨_, List.getElem?_eq_getElem hk10⟩
      refine s_pure (.pointer (some ⟨sblk v_b, soff v_b + k * 1, none⟩)) (fun _ q => f6.idx (k := k) rfl hk10 q) ?_
      refine s_load (.int .i64 x9) (fun _ q => f5.load1 hx9 rfl q) ?_
      refine s_load (.int .i64 x11) (fun _ q => f6.load1 hx11 rfl q) ?_
      refine s_pure (.bool (x9 != x11)) (fun _ q => q) ?_
      refine s_nil ?_
      refine p_seqN ?_
      refine v_cond rfl (fun c12 => ?_) (fun c12 => ?_)
      ·
        refine v_seq ?_
        refine v_ops ?_
        refine s_pure (.bool false) (fun _ q => q) ?_
        refine s_nil ?_
        refine p_seqN ?_
        refine v_ret ?_
        refine p_blkR ?_
        refine p_seqR ?_
        refine p_lpR ?_
        refine p_blkR ?_
        refine p_seqR ?_
        refine p_ret [.bool false] (.bool false) (fun _ q => q) rfl ?_
        have ho : decide (a = b) = false := by simp only [decide_eq_true_eq, decide_eq_false_iff_not]; first | (intro hab; subst hab; omega) | exact get_ne (by assumption) (by assumption) (by assumption) | exact take_done hab (by assumption) (by omega)
        exact ⟨by first | (rw [ho]; done) | rfl, Eh⟩
      ·
        have c12 := Classical.not_not.1 c12
        refine v_skip ?_
        refine p_blkN ?_
        refine p_seqN ?_
        refine v_ops ?_
        refine s_pure (.int .i64 ((k : Int) + 1)) (fun _ q => ArithVC.mk (by omega) q) ?_
        refine s_pure (.int .i64 ((k : Int) + 1)) (fun _ q => q) ?_
        refine s_nil ?_
        exact p_lpN ⟨k + 1, ⟨rfl, rfl, rfl, rfl⟩, ⟨Eh, (by exact ⟨by omega, take_ext hab (by assumption) (by assumption) (by assumption)⟩)⟩, by omega⟩
    ·
      refine v_exit ?_
      refine p_seqX ?_
      refine p_lpX ?_
      refine p_blkX ?_
      refine p_seqN ?_
      refine v_seq ?_
      refine v_ops ?_
      refine s_pure (.bool true) (fun _ q => q) ?_
      refine s_nil ?_
      refine p_seqN ?_
      refine v_ret ?_
      refine p_ret [.bool true] (.bool true) (fun _ q => q) rfl ?_
      have ho : decide (a = b) = true := by simp only [decide_eq_true_eq, decide_eq_false_iff_not]; first | (intro hab; subst hab; omega) | exact get_ne (by assumption) (by assumption) (by assumption) | exact take_done hab (by assumption) (by omega)
      exact ⟨by first | (rw [ho]; done) | rfl, Eh⟩

theorem spec_l1Same_ok (v_a : Value) (a : List Int) (v_b : Value) (b : List Int) (h : Heap) (s_a : Sl h v_a a) (s_b : Sl h v_b b) : Cn f_spec_l1Same [v_a, v_b] h fun v h' => v = .bool (decide (a = b)) ∧ Ext h h' := by
  have lt_a := s_a.lt
  have l63_a := s_a.len63
  have lt_b := s_b.lt
  have l63_b := s_b.len63
  refine calls_of r_spec_l1Same ?_
  refine v_seq ?_
  refine v_ops ?_
  refine s_pure (.bool false) (fun _ q => q) ?_
  refine s_nil ?_
  refine p_seqN ?_
  refine v_seq ?_
  refine v_seq ?_
  refine v_ops ?_
  refine s_pure v_a (fun _ q => q) ?_
  refine s_pure (.int .i64 (a.length : Int)) (fun _ q => s_a.lenVC q) ?_
  refine s_pure v_b (fun _ q => q) ?_
  refine s_pure (.int .i64 (b.length : Int)) (fun _ q => s_b.lenVC q) ?_
  refine s_pure (.bool ((a.length : Int) != (b.length : Int))) (fun _ q => q) ?_
  refine s_nil ?_
  refine p_seqN ?_
  refine v_cond rfl (fun c1 => ?_) (fun c1 => ?_)
  ·
    refine v_seq ?_
    refine v_ops ?_
    refine s_pure (.bool false) (fun _ q => q) ?_
    refine s_nil ?_
    refine p_seqN ?_
    refine v_ret ?_
    refine p_seqR ?_
    refine p_ret [.bool false] (.bool false) (fun _ q => q) rfl ?_
    have ho : decide (a = b) = false := by simp only [decide_eq_true_eq, decide_eq_false_iff_not]; first | (intro hab; subst hab; omega) | exact get_ne (by assumption) (by assumption) (by assumption) | exact take_done hab (by assumption) (by omega)
    exact ⟨by first | (rw [ho]; done) | rfl, (Ext.refl h)⟩
  ·
    have c1 := Classical.not_not.1 c1
    refine v_skip ?_
    refine p_seqN ?_
    refine v_seq ?_
    refine v_seq ?_
    refine v_ops ?_
    refine s_pure v_a (fun _ q => q) ?_
    refine s_pure (.int .i64 (a.length : Int)) (fun _ q => s_a.lenVC q) ?_
    refine s_pure (.int .i64 0) (fun _ q => q) ?_
    refine s_nil ?_
    refine p_seqN ?_
    refine v_block ?_
    refine v_loop1 (α := Nat) (fun k => [(0, v_a), (1, v_b), (12, .int .i64 (a.length : Int)), (13, .int .i64 (k : Int))]) (fun k hh => Ext h hh ∧ k ≤ a.length ∧ a.take k = b.take k) (fun k => a.length - k) 0 ⟨rfl, rfl, rfl, rfl⟩ ⟨(Ext.refl h), (by simp)⟩ ?_
    rintro k R3 h2 ⟨Eh, ⟨hk, hab⟩⟩
    have zEh := Eh.size
    have f5 := s_a.ext Eh
    have f6 := s_b.ext Eh
    refine v_seq ?_
    refine v_ops ?_
    refine s_pure (.bool (decide ((k : Int) < (a.length : Int)))) (fun _ q => q) ?_
    refine s_nil ?_
    refine p_seqN ?_
    refine v_seq ?_
    refine v_cond rfl (fun c7 => ?_) (fun c7 => ?_)
    ·
      refine v_skip ?_
      refine p_seqN ?_
      refine v_seq ?_
      refine v_block ?_
      refine v_seq ?_
      refine v_ops ?_
      refine s_pure (.int .i64 (k : Int)) (fun _ q => q) ?_
      refine s_pure (.int .i64 (k : Int)) (fun _ q => q) ?_
      refine s_nil ?_
      refine p_seqN ?_
      refine v_seq ?_
      refine v_ops ?_
      refine s_pure v_a (fun _ q => q) ?_
      refine s_pure (.int .i64 (k : Int)) (fun _ q => q) ?_
      have hk8 : k < a.length := (by first | omega | (simp; omega))
      obtain ⟨x9, hx9⟩ : ∃ x, a[k]? = some x := ⟨_, List.getElem?_eq_getElem hk8⟩
      refine s_pure (.pointer (some ⟨sblk v_a, soff v_a + k * 1, none⟩)) (fun _ q => f5.idx (k := k) rfl hk8 q) ?_
      refine s_pure v_b (fun _ q => q) ?_
      refine s_pure (.int .i64 (k : Int)) (fun _ q => q) ?_
      have hk10 : k < b.length := (by first | omega | (simp; omega))
      obtain ⟨x11, hx11⟩ : ∃ x, b[k]? = some x := ⟨_, List.getElem?_eq_getElem hk10⟩
      refine s_pure (.pointer (some ⟨sblk v_b, soff v_b + k * 1, none⟩)) (fun _ q => f6.idx (k := k) rfl hk10 q) ?_
      refine s_load (.int .i64 x9) (fun _ q => f5.load1 hx9 rfl q) ?_
      refine s_load (.int .i64 x11) (fun _ q => f6.load1 hx11 rfl q) ?_
      refine s_pure (.bool (x9 != x11)) (fun _ q => q) ?_
      refine s_nil ?_
      refine p_seqN ?_
      refine v_cond rfl (fun c12 => ?_) (fun c12 => ?_)
      ·
        refine v_seq ?_
        refine v_ops ?_
        refine s_pure (.bool false) (fun _ q => q) ?_
        refine s_nil ?_
        refine p_seqN ?_
        refine v_ret ?_
        refine p_blkR ?_
        refine p_seqR ?_
        refine p_lpR ?_
        refine p_blkR ?_
        refine p_seqR ?_
        refine p_ret [.bool false] (.bool false) (fun _ q => q) rfl ?_
        have ho : decide (a = b) = false := by simp only [decide_eq_true_eq, decide_eq_false_iff_not]; first | (intro hab; subst hab; omega) | exact get_ne (by assumption) (by assumption) (by assumption) | exact take_done hab (by assumption) (by omega)
        exact ⟨by first | (rw [ho]; done) | rfl, Eh⟩
      ·
        have c12 := Classical.not_not.1 c12
        refine v_skip ?_
        refine p_blkN ?_
        refine p_seqN ?_
        refine v_ops ?_
        refine s_pure (.int .i64 ((k : Int) + 1)) (fun _ q => ArithVC.mk (by omega) q) ?_
        refine s_pure (.int .i64 ((k : Int) + 1)) (fun _ q => q) ?_
        refine s_nil ?_
        exact p_lpN ⟨k + 1, ⟨rfl, rfl, rfl, rfl⟩, ⟨Eh, (by exact ⟨by omega, take_ext hab (by assumption) (by assumption) (by assumption)⟩)⟩, by omega⟩
    ·
      refine v_exit ?_
      refine p_seqX ?_
      refine p_lpX ?_
      refine p_blkX ?_
      refine p_seqN ?_
      refine v_seq ?_
      refine v_ops ?_
      refine s_pure (.bool true) (fun _ q => q) ?_
      refine s_nil ?_
      refine p_seqN ?_
      refine v_ret ?_
      refine p_ret [.bool true] (.bool true) (fun _ q => q) rfl ?_
      have ho : decide (a = b) = true := by simp only [decide_eq_true_eq, decide_eq_false_iff_not]; first | (intro hab; subst hab; omega) | exact get_ne (by assumption) (by assumption) (by assumption) | exact take_done hab (by assumption) (by omega)
      exact ⟨by first | (rw [ho]; done) | rfl, Eh⟩

set_option maxRecDepth 10000 in
set_option maxHeartbeats 4000000 in
theorem impl_inConflict_ok (a : PkP) (v_a_signals : Value) (b : PkP) (v_b_signals : Value) (h : Heap) (s_a_signals : Sl h v_a_signals a.signals) (s_b_signals : Sl h v_b_signals b.signals) : Cn f_impl_inConflict [.agg #[.int .i64 a.message, .int .i64 a.part, .int .i64 a.parts, v_a_signals], .agg #[.int .i64 b.message, .int .i64 b.part, .int .i64 b.parts, v_b_signals]] h fun v h' => v = .bool (decide (clash a b)) ∧ Ext h h' := by
  have lt_a_signals := s_a_signals.lt
  have l63_a_signals := s_a_signals.len63
  have lt_b_signals := s_b_signals.lt
  have l63_b_signals := s_b_signals.len63
  refine calls_of r_impl_inConflict ?_
  refine v_seq ?_
  refine v_ops ?_
  refine s_box [.int .i64 a.message, .int .i64 a.part, .int .i64 a.parts, v_a_signals] rfl (fun h2 b1 hbb1 hzb1 eh2 bxb1 => ?_)
  have E3 := (Ext.refl h).trans eh2
  have z4 := eh2.size
  have lbb1 := bxb1.lt
  refine s_box [.int .i64 b.message, .int .i64 b.part, .int .i64 b.parts, v_b_signals] rfl (fun h6 b5 hbb5 hzb5 eh6 bxb5 => ?_)
  have E7 := E3.trans eh6
  have z8 := eh6.size
  have lbb5 := bxb5.lt
  refine s_pure (.bool false) (fun _ q => q) ?_
  refine s_nil ?_
  refine p_seqN ?_
  refine v_seq ?_
  refine v_ops ?_
  refine s_pure (.pointer (some ⟨b1, 0, none⟩)) (fun _ q => q) ?_
  have f9 := (bxb1.ext eh6)
  refine s_load (.int .i64 a.message) (fun _ q => f9.load rfl q) ?_
  refine s_pure (.pointer (some ⟨b5, 0, none⟩)) (fun _ q => q) ?_
  refine s_load (.int .i64 b.message) (fun _ q => bxb5.load rfl q) ?_
  refine s_pure (.bool (a.message == b.message)) (fun _ q => q) ?_
  refine s_pure (.bool (a.message == b.message)) (fun _ q => q) ?_
  refine s_splitT rfl (fun c10 => ?_) (fun c10 => ?_)
  ·
    refine s_run rfl ?_
    refine s_pure (.pointer (some ⟨b1, 2, none⟩)) (fun _ q => q) ?_
    refine s_run rfl ?_
    refine s_load (.int .i64 a.parts) (fun _ q => f9.load rfl q) ?_
    refine s_run rfl ?_
    refine s_pure (.pointer (some ⟨b5, 2, none⟩)) (fun _ q => q) ?_
    refine s_run rfl ?_
    refine s_load (.int .i64 b.parts) (fun _ q => bxb5.load rfl q) ?_
    refine s_run rfl ?_
    refine s_pure (.bool (a.parts != b.parts)) (fun _ q => q) ?_
    refine s_run rfl ?_
    refine s_pure (.bool (a.parts != b.parts)) (fun _ q => q) ?_
    refine s_splitT rfl (fun c11 => ?_) (fun c11 => ?_)
    ·
      refine s_pass rfl ?_
      refine s_pass rfl ?_
      refine s_pass rfl ?_
      refine s_pass rfl ?_
      refine s_pass rfl ?_
      refine s_pass rfl ?_
      refine s_splitU rfl ?_
      refine s_passU rfl ?_
      refine s_passU rfl ?_
      refine s_passU rfl ?_
      refine s_passU rfl ?_
      refine s_passU rfl ?_
      refine s_passU rfl ?_
      refine s_pass rfl ?_
      refine s_run rfl ?_
      refine s_pure (.bool true) (fun _ q => q) ?_
      refine s_pure (.bool true) (fun _ q => q) ?_
      refine s_pure (.bool true) (fun _ q => q) ?_
      refine s_nil ?_
      refine p_seqN ?_
      refine v_ret ?_
      refine p_ret [.bool true] (.bool true) (fun _ q => q) rfl ?_
      have ho : decide (clash a b) = true := by simp only [clash]; simp [*]
      exact ⟨by first | (rw [ho]; done) | rfl, E7⟩
    ·
      have c11 := Classical.not_not.1 c11
      refine s_run rfl ?_
      refine s_pure (.pointer (some ⟨b1, 1, none⟩)) (fun _ q => q) ?_
      refine s_run rfl ?_
      refine s_load (.int .i64 a.part) (fun _ q => f9.load rfl q) ?_
      refine s_run rfl ?_
      refine s_pure (.pointer (some ⟨b5, 1, none⟩)) (fun _ q => q) ?_
      refine s_run rfl ?_
      refine s_load (.int .i64 b.part) (fun _ q => bxb5.load rfl q) ?_
      refine s_run rfl ?_
      refine s_pure (.bool (a.part == b.part)) (fun _ q => q) ?_
      refine s_run rfl ?_
      refine s_pure (.bool (a.part == b.part)) (fun _ q => q) ?_
      refine s_splitT rfl (fun c12 => ?_) (fun c12 => ?_)
      ·
        refine s_run rfl ?_
        refine s_pure (.pointer (some ⟨b1, 3, none⟩)) (fun _ q => q) ?_
        refine s_run rfl ?_
        refine s_load v_a_signals (fun _ q => f9.load rfl q) ?_
        refine s_run rfl ?_
        refine s_pure (.pointer (some ⟨b5, 3, none⟩)) (fun _ q => q) ?_
        refine s_run rfl ?_
        refine s_load v_b_signals (fun _ q => bxb5.load rfl q) ?_
        refine s_run rfl ?_
        have f13 := ((s_a_signals.ext eh2).ext eh6)
        have f14 := ((s_b_signals.ext eh2).ext eh6)
        refine s_call [v_a_signals, v_b_signals] rfl (slices_Equal_Lint_int_ok v_a_signals a.signals v_b_signals b.signals _ f13 f14) ?_
        rintro _ h15 ⟨rfl, eh15⟩
        have E16 := E7.trans eh15
        have z17 := eh15.size
        refine s_run rfl ?_
        refine s_pure (.bool (!decide (a.signals = b.signals))) (fun _ q => q) ?_
        refine s_run rfl ?_
        refine s_pure (.bool (!decide (a.signals = b.signals))) (fun _ q => q) ?_
        refine s_run rfl ?_
        refine s_pure (.bool (!decide (a.signals = b.signals))) (fun _ q => q) ?_
        refine s_pure (.bool (!decide (a.signals = b.signals))) (fun _ q => q) ?_
        refine s_pure (.bool (!decide (a.signals = b.signals))) (fun _ q => q) ?_
        refine s_nil ?_
        refine p_seqN ?_
        refine v_ret ?_
        refine p_ret [.bool (!decide (a.signals = b.signals))] (.bool (!decide (a.signals = b.signals))) (fun _ q => q) rfl ?_
        have ho : decide (clash a b) = (!decide (a.signals = b.signals)) := by simp only [clash]; simp [*]
        exact ⟨by first | (rw [ho]; done) | rfl, E16⟩
      ·
        refine s_pass rfl ?_
        refine s_pass rfl ?_
        refine s_pass rfl ?_
        refine s_pass rfl ?_
        refine s_pass rfl ?_
        refine s_pass rfl ?_
        refine s_run rfl ?_
        refine s_pure (.bool false) (fun _ q => q) ?_
        refine s_run rfl ?_
        refine s_pure (.bool false) (fun _ q => q) ?_
        refine s_pure (.bool false) (fun _ q => q) ?_
        refine s_pure (.bool false) (fun _ q => q) ?_
        refine s_nil ?_
        refine p_seqN ?_
        refine v_ret ?_
        refine p_ret [.bool false] (.bool false) (fun _ q => q) rfl ?_
        have ho : decide (clash a b) = false := by simp only [clash]; simp [*]
        exact ⟨by first | (rw [ho]; done) | rfl, E7⟩
  ·
    refine s_pass rfl ?_
    refine s_pass rfl ?_
    refine s_pass rfl ?_
    refine s_pass rfl ?_
    refine s_pass rfl ?_
    refine s_pass rfl ?_
    refine s_splitU rfl ?_
    refine s_passU rfl ?_
    refine s_passU rfl ?_
    refine s_passU rfl ?_
    refine s_passU rfl ?_
    refine s_passU rfl ?_
    refine s_passU rfl ?_
    refine s_splitU rfl ?_
    refine s_passU rfl ?_
    refine s_passU rfl ?_
    refine s_passU rfl ?_
    refine s_passU rfl ?_
    refine s_passU rfl ?_
    refine s_passU rfl ?_
    refine s_passU rfl ?_
    refine s_pass rfl ?_
    refine s_pure (.bool false) (fun _ q => q) ?_
    refine s_pure (.bool false) (fun _ q => q) ?_
    refine s_nil ?_
    refine p_seqN ?_
    refine v_ret ?_
    refine p_ret [.bool false] (.bool false) (fun _ q => q) rfl ?_
    have ho : decide (clash a b) = false := by simp only [clash]; simp [*]
    exact ⟨by first | (rw [ho]; done) | rfl, E7⟩

set_option maxRecDepth 10000 in
set_option maxHeartbeats 4000000 in
theorem spec_pkClash_ok (a : PkP) (v_a_signals : Value) (b : PkP) (v_b_signals : Value) (h : Heap) (s_a_signals : Sl h v_a_signals a.signals) (s_b_signals : Sl h v_b_signals b.signals) : Cn f_spec_pkClash [.agg #[.int .i64 a.message, .int .i64 a.part, .int .i64 a.parts, v_a_signals], .agg #[.int .i64 b.message, .int .i64 b.part, .int .i64 b.parts, v_b_signals]] h fun v h' => v = .bool (decide (clash a b)) ∧ Ext h h' := by
  have lt_a_signals := s_a_signals.lt
  have l63_a_signals := s_a_signals.len63
  have lt_b_signals := s_b_signals.lt
  have l63_b_signals := s_b_signals.len63
  refine calls_of r_spec_pkClash ?_
  refine v_seq ?_
  refine v_ops ?_
  refine s_box [.int .i64 a.message, .int .i64 a.part, .int .i64 a.parts, v_a_signals] rfl (fun h2 b1 hbb1 hzb1 eh2 bxb1 => ?_)
  have E3 := (Ext.refl h).trans eh2
  have z4 := eh2.size
  have lbb1 := bxb1.lt
  refine s_box [.int .i64 b.message, .int .i64 b.part, .int .i64 b.parts, v_b_signals] rfl (fun h6 b5 hbb5 hzb5 eh6 bxb5 => ?_)
  have E7 := E3.trans eh6
  have z8 := eh6.size
  have lbb5 := bxb5.lt
  refine s_pure (.bool false) (fun _ q => q) ?_
  refine s_nil ?_
  refine p_seqN ?_
  refine v_seq ?_
  refine v_ops ?_
  refine s_pure (.pointer (some ⟨b1, 0, none⟩)) (fun _ q => q) ?_
  have f9 := (bxb1.ext eh6)
  refine s_load (.int .i64 a.message) (fun _ q => f9.load rfl q) ?_
  refine s_pure (.pointer (some ⟨b5, 0, none⟩)) (fun _ q => q) ?_
  refine s_load (.int .i64 b.message) (fun _ q => bxb5.load rfl q) ?_
  refine s_pure (.bool (a.message == b.message)) (fun _ q => q) ?_
  refine s_pure (.bool (a.message == b.message)) (fun _ q => q) ?_
  refine s_splitT rfl (fun c10 => ?_) (fun c10 => ?_)
  ·
    refine s_run rfl ?_
    refine s_pure (.pointer (some ⟨b1, 2, none⟩)) (fun _ q => q) ?_
    refine s_run rfl ?_
    refine s_load (.int .i64 a.parts) (fun _ q => f9.load rfl q) ?_
    refine s_run rfl ?_
    refine s_pure (.pointer (some ⟨b5, 2, none⟩)) (fun _ q => q) ?_
    refine s_run rfl ?_
    refine s_load (.int .i64 b.parts) (fun _ q => bxb5.load rfl q) ?_
    refine s_run rfl ?_
    refine s_pure (.bool (a.parts != b.parts)) (fun _ q => q) ?_
    refine s_run rfl ?_
    refine s_pure (.bool (a.parts != b.parts)) (fun _ q => q) ?_
    refine s_splitT rfl (fun c11 => ?_) (fun c11 => ?_)
    ·
      refine s_pass rfl ?_
      refine s_pass rfl ?_
      refine s_pass rfl ?_
      refine s_pass rfl ?_
      refine s_pass rfl ?_
      refine s_pass rfl ?_
      refine s_splitU rfl ?_
      refine s_passU rfl ?_
      refine s_passU rfl ?_
      refine s_passU rfl ?_
      refine s_passU rfl ?_
      refine s_passU rfl ?_
      refine s_passU rfl ?_
      refine s_pass rfl ?_
      refine s_run rfl ?_
      refine s_pure (.bool true) (fun _ q => q) ?_
      refine s_pure (.bool true) (fun _ q => q) ?_
      refine s_pure (.bool true) (fun _ q => q) ?_
      refine s_nil ?_
      refine p_seqN ?_
      refine v_ret ?_
      refine p_ret [.bool true] (.bool true) (fun _ q => q) rfl ?_
      have ho : decide (clash a b) = true := by simp only [clash]; simp [*]
      exact ⟨by first | (rw [ho]; done) | rfl, E7⟩
    ·
      have c11 := Classical.not_not.1 c11
      refine s_run rfl ?_
      refine s_pure (.pointer (some ⟨b1, 1, none⟩)) (fun _ q => q) ?_
      refine s_run rfl ?_
      refine s_load (.int .i64 a.part) (fun _ q => f9.load rfl q) ?_
      refine s_run rfl ?_
      refine s_pure (.pointer (some ⟨b5, 1, none⟩)) (fun _ q => q) ?_
      refine s_run rfl ?_
      refine s_load (.int .i64 b.part) (fun _ q => bxb5.load rfl q) ?_
      refine s_run rfl ?_
      refine s_pure (.bool (a.part == b.part)) (fun _ q => q) ?_
      refine s_run rfl ?_
      refine s_pure (.bool (a.part == b.part)) (fun _ q => q) ?_
      refine s_splitT rfl (fun c12 => ?_) (fun c12 => ?_)
      ·
        refine s_run rfl ?_
        refine s_pure (.pointer (some ⟨b1, 3, none⟩)) (fun _ q => q) ?_
        refine s_run rfl ?_
        refine s_load v_a_signals (fun _ q => f9.load rfl q) ?_
        refine s_run rfl ?_
        refine s_pure (.pointer (some ⟨b5, 3, none⟩)) (fun _ q => q) ?_
        refine s_run rfl ?_
        refine s_load v_b_signals (fun _ q => bxb5.load rfl q) ?_
        refine s_run rfl ?_
        have f13 := ((s_a_signals.ext eh2).ext eh6)
        have f14 := ((s_b_signals.ext eh2).ext eh6)
        refine s_call [v_a_signals, v_b_signals] rfl (spec_l1Same_ok v_a_signals a.signals v_b_signals b.signals _ f13 f14) ?_
        rintro _ h15 ⟨rfl, eh15⟩
        have E16 := E7.trans eh15
        have z17 := eh15.size
        refine s_run rfl ?_
        refine s_pure (.bool (!decide (a.signals = b.signals))) (fun _ q => q) ?_
        refine s_run rfl ?_
        refine s_pure (.bool (!decide (a.signals = b.signals))) (fun _ q => q) ?_
        refine s_run rfl ?_
        refine s_pure (.bool (!decide (a.signals = b.signals))) (fun _ q => q) ?_
        refine s_pure (.bool (!decide (a.signals = b.signals))) (fun _ q => q) ?_
        refine s_pure (.bool (!decide (a.signals = b.signals))) (fun _ q => q) ?_
        refine s_nil ?_
        refine p_seqN ?_
        refine v_ret ?_
        refine p_ret [.bool (!decide (a.signals = b.signals))] (.bool (!decide (a.signals = b.signals))) (fun _ q => q) rfl ?_
        have ho : decide (clash a b) = (!decide (a.signals = b.signals)) := by simp only [clash]; simp [*]
        exact ⟨by first | (rw [ho]; done) | rfl, E16⟩
      ·
        refine s_pass rfl ?_
        refine s_pass rfl ?_
        refine s_pass rfl ?_
        refine s_pass rfl ?_
        refine s_pass rfl ?_
        refine s_pass rfl ?_
        refine s_run rfl ?_
        refine s_pure (.bool false) (fun _ q => q) ?_
        refine s_run rfl ?_
        refine s_pure (.bool false) (fun _ q => q) ?_
        refine s_pure (.bool false) (fun _ q => q) ?_
        refine s_pure (.bool false) (fun _ q => q) ?_
        refine s_nil ?_
        refine p_seqN ?_
        refine v_ret ?_
        refine p_ret [.bool false] (.bool false) (fun _ q => q) rfl ?_
        have ho : decide (clash a b) = false := by simp only [clash]; simp [*]
        exact ⟨by first | (rw [ho]; done) | rfl, E7⟩
  ·
    refine s_pass rfl ?_
    refine s_pass rfl ?_
    refine s_pass rfl ?_
    refine s_pass rfl ?_
    refine s_pass rfl ?_
    refine s_pass rfl ?_
    refine s_splitU rfl ?_
    refine s_passU rfl ?_
    refine s_passU rfl ?_
    refine s_passU rfl ?_
    refine s_passU rfl ?_
    refine s_passU rfl ?_
    refine s_passU rfl ?_
    refine s_splitU rfl ?_
    refine s_passU rfl ?_
    refine s_passU rfl ?_
    refine s_passU rfl ?_
    refine s_passU rfl ?_
    refine s_passU rfl ?_
    refine s_passU rfl ?_
    refine s_passU rfl ?_
    refine s_pass rfl ?_
    refine s_pure (.bool false) (fun _ q => q) ?_
    refine s_pure (.bool false) (fun _ q => q) ?_
    refine s_nil ?_
    refine p_seqN ?_
    refine v_ret ?_
    refine p_ret [.bool false] (.bool false) (fun _ q => q) rfl ?_
    have ho : decide (clash a b) = false := by simp only [clash]; simp [*]
    exact ⟨by first | (rw [ho]; done) | rfl, E7⟩

theorem spec_pkOwn_ok (p : PkP) (v_p_signals : Value) (h : Heap) (s_p_signals : Sl h v_p_signals p.signals) (bl : p.signals.length ≤ 2000000) : Cn f_spec_pkOwn [.agg #[.int .i64 p.message, .int .i64 p.part, .int .i64 p.parts, v_p_signals]] h fun v h' => ∃ r0 : Value, v = .agg #[.int .i64 p.message, .int .i64 p.part, .int .i64 p.parts, r0] ∧ SlO h' r0 p.signals ∧ Fr h.size r0 ∧ Ext h h' := by
  have lt_p_signals := s_p_signals.lt
  have l63_p_signals := s_p_signals.len63
  refine calls_of r_spec_pkOwn ?_
  refine v_seq ?_
  refine v_ops ?_
  refine s_box [.int .i64 p.message, .int .i64 p.part, .int .i64 p.parts, v_p_signals] rfl (fun h2 b1 hbb1 hzb1 eh2 bxb1 => ?_)
  have E3 := (Ext.refl h).trans eh2
  have z4 := eh2.size
  have lbb1 := bxb1.lt
  refine s_new (fun h6 b5 hbb5 hzb5 eh6 bxb5 => ?_)
  have E7 := E3.trans eh6
  have z8 := eh6.size
  have lbb5 := bxb5.lt
  refine s_nil ?_
  refine p_seqN ?_
  refine v_seq ?_
  refine v_ops ?_
  refine s_pure (.pointer (some ⟨b1, 3, none⟩)) (fun _ q => q) ?_
  have f9 := (bxb1.ext eh6)
  refine s_load v_p_signals (fun _ q => f9.load rfl q) ?_
  have f10 := ((s_p_signals.ext eh2).ext eh6)
  refine s_call [v_p_signals] rfl (spec_l1Own_ok v_p_signals p.signals _ f10 (by first | omega | assumption | (simp; omega))) ?_
  rintro r11 h12 ⟨_, rfl, s_r11, fr_r11, eh12⟩
  have E13 := E7.trans eh12
  have z14 := eh12.size
  have lt_r11 := s_r11.lt
  refine s_pure (.pointer (some ⟨b1, 3, none⟩)) (fun _ q => q) ?_
  have f15 := (f9.ext eh12)
  refine s_stBx r11 [r11] [.int .i64 p.message, .int .i64 p.part, .int .i64 p.parts, r11] f15 rfl rfl s_r11.cellsv rfl (by simp) (all_cons s_r11.one1 all_nil) rfl (fun h16 mh16 sh16 bxx17 => ?_)
  have E18 := E13.mod mh16 (fun b hb => by simp at hb; omega)
  refine s_nil ?_
  refine p_seqN ?_
  refine v_seq ?_
  refine v_ops ?_
  refine s_load (.agg #[.int .i64 p.message, .int .i64 p.part, .int .i64 p.parts, r11]) (fun _ q => bxx17.loadA rfl q) ?_
  have f19 := ((bxb5.ext eh12).mod mh16 (by simp; omega))
  refine s_stBx (.agg #[.int .i64 p.message, .int .i64 p.part, .int .i64 p.parts, r11]) [.int .i64 p.message, .int .i64 p.part, .int .i64 p.parts, r11] [.int .i64 p.message, .int .i64 p.part, .int .i64 p.parts, r11] f19 rfl rfl rfl rfl (by simp) (all_cons rfl (all_cons rfl (all_cons rfl (all_cons s_r11.one1 all_nil)))) rfl (fun h20 mh20 sh20 bxx21 => ?_)
  have E22 := E18.mod mh20 (fun b hb => by simp at hb; omega)
  refine s_nil ?_
  refine p_seqN ?_
  refine v_ret ?_
  refine p_ret [.agg #[.int .i64 p.message, .int .i64 p.part, .int .i64 p.parts, r11]] (.agg #[.int .i64 p.message, .int .i64 p.part, .int .i64 p.parts, r11]) (fun _ q => (bxx21.loadA rfl q)) rfl ?_
  have ho : p = ⟨p.message, p.part, p.parts, p.signals⟩ := by rfl
  have f23 := ((s_r11.mod mh16 (fun b hb hc => by simp at hc; have := fr_r11 b hb; omega)).mod mh20 (fun b hb hc => by simp at hc; have := fr_r11 b hb; omega))
  exact ⟨r11, by first | (rw [ho]; done) | rfl, sl_eq f23 (congrArg (fun o => o.signals) ho).symm, fr_r11.mono (by omega), E22⟩


theorem wd_sub (l : List PkP) : ∀ p ∈ wd l, p ∈ l := by
  have : ∀ (l out : List PkP), ∀ p ∈ l.foldl wdStep out, p ∈ out ∨ p ∈ l := by
    intro l
    induction l with
    | nil => intro out p hp; exact .inl hp
    | cons q l ih =>
      intro out p hp
      rcases ih (wdStep out q) p hp with h | h
      · unfold wdStep at h
        split at h
        · exact .inl h
        · rcases List.mem_append.1 h with h | h
          · exact .inl h
          · obtain rfl := List.mem_singleton.1 h; exact .inr (List.mem_cons_self ..)
      · exact .inr (List.mem_cons_of_mem _ h)
  intro p hp
  exact (this l [] p hp).resolve_left (by simp)
theorem szD_le {l : List PkP} {n : Nat} (hl : l.length ≤ n) (h : ∀ p ∈ l, p.signals.length ≤ 8) : szD l ≤ 11 * n := by
  have : szD l ≤ 11 * l.length := by
    clear hl
    induction l with
    | nil => simp [szD]
    | cons p l ih =>
      have h1 := ih (fun p hp => h p (List.mem_cons_of_mem _ hp))
      have h2 := h p (List.mem_cons_self ..)
      simp only [szD, List.length_cons, List.map_cons, List.sum_cons] at *; omega
  omega
theorem pksok_sig {l : List PkP} (h : PksOk l) : ∀ p ∈ l, p.signals.length ≤ 8 := fun p hp => by have := (h.2 p hp).2.2.2.1; omega
theorem wd_sz (l : List PkP) : szD (wdOut l).1 ≤ 440 := by
  unfold wdOut
  split
  · rename_i c
    exact szD_le (n := 40) (Nat.le_trans (wd_len l) c.1) (fun p hp => pksok_sig c p (wd_sub l p hp))
  · simp [szD]
/-- the pairs of i with those behind it, up to j -/
def cfPart (l : List PkP) (i : Nat) (p : PkP) (j : Nat) : List (List Int) := ((List.range j).filter fun k => decide (i < k) && match l[k]? with | some q => decide (clash p q) | none => false).map fun (k : Nat) => [(i : Int), (k : Int)]
def cfRow (l : List PkP) (i : Nat) : List (List Int) := match l[i]? with | some p => cfPart l i p l.length | none => []
def cf (l : List PkP) (n : Nat) : List (List Int) := (List.range n).flatMap (cfRow l)
theorem cf_succ (l : List PkP) (n : Nat) {p : PkP} (h : l[n]? = some p) : cf l (n + 1) = cf l n ++ cfPart l n p l.length := by
  unfold cf
  rw [List.range_succ, List.flatMap_append]
  simp [cfRow, h]
theorem cfPart_zero (l : List PkP) (i : Nat) (p : PkP) : cfPart l i p (i + 1) = [] := by
  unfold cfPart
  rw [List.map_eq_nil_iff, List.filter_eq_nil_iff]
  intro k hk
  have := List.mem_range.1 hk
  simp; omega
theorem cfPart_yes {l : List PkP} {i j : Nat} {p q : PkP} (hj : i < j) (hq : l[j]? = some q) (h : clash p q) : cfPart l i p (j + 1) = cfPart l i p j ++ [[(i : Int), (j : Int)]] := by
  unfold cfPart
  rw [List.range_succ, List.filter_append, List.map_append]
  simp [hj, hq, h]
theorem cfPart_no {l : List PkP} {i j : Nat} {p q : PkP} (hj : i < j) (hq : l[j]? = some q) (h : ¬ clash p q) : cfPart l i p (j + 1) = cfPart l i p j := by
  unfold cfPart
  rw [List.range_succ, List.filter_append, List.map_append]
  simp [hj, hq, h]
theorem cfPart_len (l : List PkP) (i : Nat) (p : PkP) (j : Nat) : (cfPart l i p j).length ≤ j := by
  unfold cfPart
  rw [List.length_map]
  exact Nat.le_trans (List.length_filter_le _ _) (by simp)
theorem cf_len (l : List PkP) (n : Nat) : (cf l n).length ≤ n * l.length := by
  induction n with
  | zero => simp [cf]
  | succ n ih =>
    unfold cf at *
    rw [List.range_succ, List.flatMap_append, List.length_append, Nat.add_mul]
    have : (List.flatMap (cfRow l) [n]).length ≤ l.length := by
      simp only [List.flatMap_cons, List.flatMap_nil, List.append_nil, cfRow]
      split
      · exact cfPart_len _ _ _ _
      · simp
    omega
noncomputable def cfOut (l : List PkP) : List (List Int) × Bool := if PksOk l then (cf l l.length, true) else ([], false)
theorem cf_no {l : List PkP} (h : ¬ PksOk l) : cfOut l = ([], false) := by rw [cfOut, if_neg h]
theorem cf_yes {l : List PkP} {k : Nat} {r : List (List Int)} (hr : r = cf l k) (hk : k = l.length) (h : PksOk l) : cfOut l = (r, true) := by
  rw [cfOut, if_pos h, hr, hk]
theorem cf_two (l : List PkP) (n : Nat) : ∀ r ∈ cf l n, r.length = 2 := by
  intro r hr
  unfold cf at hr
  obtain ⟨i, _, hi⟩ := List.mem_flatMap.1 hr
  unfold cfRow at hi
  split at hi
  · unfold cfPart at hi
    obtain ⟨k, _, rfl⟩ := List.mem_map.1 hi
    rfl
  · simp at hi
theorem szRD_two {l : List (List Int)} (h : ∀ r ∈ l, r.length = 2) : szRD l = 2 * l.length := by
  induction l with
  | nil => rfl
  | cons r l ih =>
    have h1 := ih (fun r hr => h r (List.mem_cons_of_mem _ hr))
    have h2 := h r (List.mem_cons_self ..)
    simp only [szRD, List.map_cons, List.sum_cons, List.length_cons] at *; omega
theorem cf_sz (l : List PkP) : szRD (cfOut l).1 ≤ 3200 := by
  unfold cfOut
  split
  · rename_i c
    simp only
    rw [szRD_two (cf_two l l.length)]
    have h1 := cf_len l l.length
    have h2 : l.length * l.length ≤ 40 * 40 := Nat.mul_le_mul c.1 c.1
    omega
  · simp [szRD]

end Go.Proofs.YtbikhpphdhffaaaGreatDoor
