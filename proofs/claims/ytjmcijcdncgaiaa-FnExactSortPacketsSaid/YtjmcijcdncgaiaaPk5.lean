/- Packets without doubles; conflicts. Condition: none. Printed in part by a program. -/
import Derived.Test.YtjmcijcdncgaiaaPk4
namespace Go.Proofs.Ytjmcijcdncgaiaa
open Go.Vc
set_option linter.all false

theorem take_done {α : Type} {xs ys : List α} {k : Nat} (h : xs.take k = ys.take k) (hk : ¬ (k : Int) < (xs.length : Int)) (hl : (xs.length : Int) = (ys.length : Int)) : xs = ys := by
  rw [take_all hk, take_all (by omega)] at h; exact h
theorem pkp_ext {a b : PkP} : a = b ↔ a.message = b.message ∧ a.part = b.part ∧ a.parts = b.parts ∧ a.signals = b.signals := by
  cases a; cases b; simp
def clash (a b : PkP) : Prop := a.message = b.message ∧ (a.parts ≠ b.parts ∨ (a.part = b.part ∧ a.signals ≠ b.signals))
instance (a b : PkP) : Decidable (clash a b) := inferInstanceAs (Decidable (_ ∧ _))
def wdStep (out : List PkP) (p : PkP) : List PkP := if out.any (fun q => decide (p = q)) then out else out ++ [p]
def wd (l : List PkP) : List PkP := l.foldl wdStep []
theorem wd_snoc (l : List PkP) (p : PkP) : wd (l ++ [p]) = wdStep (wd l) p := by simp [wd]
theorem wd_len (l : List PkP) : (wd l).length ≤ l.length := by
  have : ∀ (l out : List PkP), (l.foldl wdStep out).length ≤ out.length + l.length := by
    intro l
    induction l with
    | nil => intro out; simp
    | cons p l ih =>
      intro out
      have := ih (wdStep out p)
      have h2 : (wdStep out p).length ≤ out.length + 1 := by unfold wdStep; split <;> simp
      simp only [List.foldl_cons, List.length_cons]; omega
  simpa [wd] using this l []
noncomputable def wdOut (l : List PkP) : List PkP × Bool := if PksOk l then (wd l, true) else ([], false)
theorem wd_no {l : List PkP} (h : ¬ PksOk l) : wdOut l = ([], false) := by rw [wdOut, if_neg h]
theorem wd_skip {ps l : List Pk} {k : Nat} {x : Pk} (hps : ps.map Pk.p = wd ((l.map Pk.p).take k)) (hx : l[k]? = some x) (h : ps.any (fun y => decide (x.p = y.p)) = true) : ps.map Pk.p = wd ((l.map Pk.p).take (k + 1)) := by
  rw [snoc_get (map_get hx), wd_snoc, ← hps, wdStep, if_pos (by rw [List.any_map]; exact h)]
theorem wd_add {ps l : List Pk} {k : Nat} {x e : Pk} (hps : ps.map Pk.p = wd ((l.map Pk.p).take k)) (hx : l[k]? = some x) (he : e.p = x.p) (h : ¬ ps.any (fun y => decide (x.p = y.p)) = true) : (ps ++ [e]).map Pk.p = wd ((l.map Pk.p).take (k + 1)) := by
  rw [snoc_get (map_get hx), wd_snoc, ← hps, wdStep, if_neg (by rw [List.any_map]; exact h), List.map_append, ← he]; rfl
theorem wd_yes {ps l : List Pk} {k : Nat} (hps : ps.map Pk.p = wd ((l.map Pk.p).take k)) (hk : ¬ (k : Int) < (l.length : Int)) (h : PksOk (l.map Pk.p)) : wdOut (l.map Pk.p) = (ps.map Pk.p, true) := by
  rw [take_all (by simpa using hk)] at hps
  rw [wdOut, if_pos h, hps]
theorem any_snoc {α : Type} {l : List α} {k : Nat} {x : α} {p : α → Bool} (hx : l[k]? = some x) : (l.take (k + 1)).any p = ((l.take k).any p || p x) := by
  rw [snoc_get hx, List.any_append]; simp

theorem slices_Equal_Lint_int_ok (v_a : Value) (a : List Int) (v_b : Value) (b : List Int) (h : Heap) (s_a : Sl h v_a a) (s_b : Sl h v_b b) : Cn f_slices_Equal_Lint_int [v_a, v_b] h fun v h' => v = .bool (decide (a = b)) ∧ Ext h h' := by
  have lt_a := s_a.lt
  have l63_a := s_a.len63
  have lt_b := s_b.lt
  have l63_b := s_b.len63
  refine calls_of r_slices_Equal_Lint_int ?_
  refine v_seq ?_
  refine v_ops ?_
  refine s_pure (.bool false) (fun _ q => q) ?_
  refine s_nil ?_
  refine p_seqN ?_
  refine v_seq ?_
  refine v_seq ?_
  refine v_ops ?_
  refine s_pure v_a (fun _ q => q) ?_
  refine s_pure (.int .i64 (a.length : Int)) (fun _ q => s_a.lenVC q) ?_
  refine s_pure v_b (fun _ q => q) ?_
  refine s_pure (.int .i64 (b.length : Int)) (fun _ q => s_b.lenVC q) ?_
  refine s_pure (.bool ((a.length : Int) != (b.length : Int))) (fun _ q => q) ?_
  refine s_nil ?_
  refine p_seqN ?_
  refine v_cond rfl (fun c1 => ?_) (fun c1 => ?_)
  ·
    refine v_seq ?_
    refine v_ops ?_
    refine s_pure (.bool false) (fun _ q => q) ?_
    refine s_nil ?_
    refine p_seqN ?_
    refine v_ret ?_
    refine p_seqR ?_
    refine p_ret [.bool false] (.bool false) (fun _ q => q) rfl ?_
    have ho : decide (a = b) = false := by simp only [decide_eq_true_eq, decide_eq_false_iff_not]; first | (intro hab; subst hab; omega) | exact get_ne (by assumption) (by assumption) (by assumption) | exact take_done hab (by assumption) (by omega)
    exact ⟨by first | (rw [ho]; done) | rfl, (Ext.refl h)⟩
  ·
    have c1 := Classical.not_not.1 c1
    refine v_skip ?_
    refine p_seqN ?_
    refine v_seq ?_
    refine v_seq ?_
    refine v_ops ?_
    refine s_pure v_a (fun _ q => q) ?_
    refine s_pure (.int .i64 (a.length : Int)) (fun _ q => s_a.lenVC q) ?_
    refine s_pure (.int .i64 0) (fun _ q => q) ?_
    refine s_nil ?_
    refine p_seqN ?_
    refine v_block ?_
    refine v_loop1 (α := Nat) (fun k => [(0, v_a), (1, v_b), (12, .int .i64 (a.length : Int)), (13, .int .i64 (k : Int))]) (fun k hh => Ext h hh ∧ k ≤ a.length ∧ a.take k = b.take k) (fun k => a.length - k) 0 ⟨rfl, rfl, rfl, rfl⟩ ⟨(Ext.refl h), (by simp)⟩ ?_
    rintro k R3 h2 ⟨Eh, ⟨hk, hab⟩⟩
    have zEh := Eh.size
    have f4 := s_a.ext Eh
    have f5 := s_b.ext Eh
    refine v_seq ?_
    refine v_ops ?_
    refine s_pure (.bool (decide ((k : Int) < (a.length : Int)))) (fun _ q => q) ?_
    refine s_nil ?_
    refine p_seqN ?_
    refine v_seq ?_
    refine v_cond rfl (fun c6 => ?_) (fun c6 => ?_)
    ·
      refine v_skip ?_
      refine p_seqN ?_
      refine v_seq ?_
      refine v_block ?_
      refine v_seq ?_
      refine v_ops ?_
      refine s_pure (.int .i64 (k : Int)) (fun _ q => q) ?_
      refine s_pure (.int .i64 (k : Int)) (fun _ q => q) ?_
      refine s_nil ?_
      refine p_seqN ?_
      refine v_seq ?_
      refine v_ops ?_
      refine s_pure v_a (fun _ q => q) ?_
      refine s_pure (.int .i64 (k : Int)) (fun _ q => q) ?_
      have hk7 : k < a.length := (by first | omega | (simp; omega))
      obtain ⟨x8, hx8⟩ : ∃ x, a[k]? = some x := ⟨_, List.getElem?_eq_getElem hk7⟩
      refine s_pure (.pointer (some ⟨sblk v_a, soff v_a + k * 1, none⟩)) (fun _ q => f4.idx (k := k) rfl hk7 q) ?_
      refine s_pure v_b (fun _ q => q) ?_
      refine s_pure (.int .i64 (k : Int)) (fun _ q => q) ?_
      have hk9 : k < b.length := (by first | omega | (simp; omega))
      obtain ⟨x10, hx10⟩ : ∃ x, b[k]? = some x := ⟨_, List.getElem?_eq_getElem hk9⟩
      refine s_pure (.pointer (some ⟨sblk v_b, soff v_b + k * 1, none⟩)) (fun _ q => f5.idx (k := k) rfl hk9 q) ?_
      refine s_load (.int .i64 x8) (fun _ q => f4.load1 hx8 rfl q) ?_
      refine s_load (.int .i64 x10) (fun _ q => f5.load1 hx10 rfl q) ?_
      refine s_pure (.bool (x8 != x10)) (fun _ q => q) ?_
      refine s_nil ?_
      refine p_seqN ?_
      refine v_cond rfl (fun c11 => ?_) (fun c11 => ?_)
      ·
        refine v_seq ?_
        refine v_ops ?_
        refine s_pure (.bool false) (fun _ q => q) ?_
        refine s_nil ?_
        refine p_seqN ?_
        refine v_ret ?_
        refine p_blkR ?_
        refine p_seqR ?_
        refine p_lpR ?_
        refine p_blkR ?_
        refine p_seqR ?_
        refine p_ret [.bool false] (.bool false) (fun _ q => q) rfl ?_
        have ho : decide (a = b) = false := by simp only [decide_eq_true_eq, decide_eq_false_iff_not]; first | (intro hab; subst hab; omega) | exact get_ne (by assumption) (by assumption) (by assumption) | exact take_done hab (by assumption) (by omega)
        exact ⟨by first | (rw [ho]; done) | rfl, Eh⟩
      ·
        have c11 := Classical.not_not.1 c11
        refine v_skip ?_
        refine p_blkN ?_
        refine p_seqN ?_
        refine v_ops ?_
        refine s_pure (.int .i64 ((k : Int) + 1)) (fun _ q => ArithVC.mk (by omega) q) ?_
        refine s_pure (.int .i64 ((k : Int) + 1)) (fun _ q => q) ?_
        refine s_nil ?_
        exact p_lpN ⟨k + 1, ⟨rfl, rfl, rfl, rfl⟩, ⟨Eh, (by exact ⟨by omega, take_ext hab (by assumption) (by assumption) (by assumption)⟩)⟩, by omega⟩
    ·
      refine v_exit ?_
      refine p_seqX ?_
      refine p_lpX ?_
      refine p_blkX ?_
      refine p_seqN ?_
      refine v_seq ?_
      refine v_ops ?_
      refine s_pure (.bool true) (fun _ q => q) ?_
      refine s_nil ?_
      refine p_seqN ?_
      refine v_ret ?_
      refine p_ret [.bool true] (.bool true) (fun _ q => q) rfl ?_
      have ho : decide (a = b) = true := by simp only [decide_eq_true_eq, decide_eq_false_iff_not]; first | (intro hab; subst hab; omega) | exact get_ne (by assumption) (by assumption) (by assumption) | exact take_done hab (by assumption) (by omega)
      exact ⟨by first | (rw [ho]; done) | rfl, Eh⟩

theorem spec_l1Same_ok (v_a : Value) (a : List Int) (v_b : Value) (b : List Int) (h : Heap) (s_a : Sl h v_a a) (s_b : Sl h v_b b) : Cn f_spec_l1Same [v_a, v_b] h fun v h' => v = .bool (decide (a = b)) ∧ Ext h h' := by
  have lt_a := s_a.lt
  have l63_a := s_a.len63
  have lt_b := s_b.lt
  have l63_b := s_b.len63
  refine calls_of r_spec_l1Same ?_
  refine v_seq ?_
  refine v_ops ?_
  refine s_pure (.bool false) (fun _ q => q) ?_
  refine s_nil ?_
  refine p_seqN ?_
  refine v_seq ?_
  refine v_seq ?_
  refine v_ops ?_
  refine s_pure v_a (fun _ q => q) ?_
  refine s_pure (.int .i64 (a.length : Int)) (fun _ q => s_a.lenVC q) ?_
  refine s_pure v_b (fun _ q => q) ?_
  refine s_pure (.int .i64 (b.length : Int)) (fun _ q => s_b.lenVC q) ?_
  refine s_pure (.bool ((a.length : Int) != (b.length : Int))) (fun _ q => q) ?_
  refine s_nil ?_
  refine p_seqN ?_
  refine v_cond rfl (fun c1 => ?_) (fun c1 => ?_)
  ·
    refine v_seq ?_
    refine v_ops ?_
    refine s_pure (.bool false) (fun _ q => q) ?_
    refine s_nil ?_
    refine p_seqN ?_
    refine v_ret ?_
    refine p_seqR ?_
    refine p_ret [.bool false] (.bool false) (fun _ q => q) rfl ?_
    have ho : decide (a = b) = false := by simp only [decide_eq_true_eq, decide_eq_false_iff_not]; first | (intro hab; subst hab; omega) | exact get_ne (by assumption) (by assumption) (by assumption) | exact take_done hab (by assumption) (by omega)
    exact ⟨by first | (rw [ho]; done) | rfl, (Ext.refl h)⟩
  ·
    have c1 := Classical.not_not.1 c1
    refine v_skip ?_
    refine p_seqN ?_
    refine v_seq ?_
    refine v_seq ?_
    refine v_ops ?_
    refine s_pure v_a (fun _ q => q) ?_
    refine s_pure (.int .i64 (a.length : Int)) (fun _ q => s_a.lenVC q) ?_
    refine s_pure (.int .i64 0) (fun _ q => q) ?_
    refine s_nil ?_
    refine p_seqN ?_
    refine v_block ?_
    refine v_loop1 (α := Nat) (fun k => [(0, v_a), (1, v_b), (12, .int .i64 (a.length : Int)), (13, .int .i64 (k : Int))]) (fun k hh => Ext h hh ∧ k ≤ a.length ∧ a.take k = b.take k) (fun k => a.length - k) 0 ⟨rfl, rfl, rfl, rfl⟩ ⟨(Ext.refl h), (by simp)⟩ ?_
    rintro k R3 h2 ⟨Eh, ⟨hk, hab⟩⟩
    have zEh := Eh.size
    have f4 := s_a.ext Eh
    have f5 := s_b.ext Eh
    refine v_seq ?_
    refine v_ops ?_
    refine s_pure (.bool (decide ((k : Int) < (a.length : Int)))) (fun _ q => q) ?_
    refine s_nil ?_
    refine p_seqN ?_
    refine v_seq ?_
    refine v_cond rfl (fun c6 => ?_) (fun c6 => ?_)
    ·
      refine v_skip ?_
      refine p_seqN ?_
      refine v_seq ?_
      refine v_block ?_
      refine v_seq ?_
      refine v_ops ?_
      refine s_pure (.int .i64 (k : Int)) (fun _ q => q) ?_
      refine s_pure (.int .i64 (k : Int)) (fun _ q => q) ?_
      refine s_nil ?_
      refine p_seqN ?_
      refine v_seq ?_
      refine v_ops ?_
      refine s_pure v_a (fun _ q => q) ?_
      refine s_pure (.int .i64 (k : Int)) (fun _ q => q) ?_
      have hk7 : k < a.length := (by first | omega | (simp; omega))
      obtain ⟨x8, hx8⟩ : ∃ x, a[k]? = some x := ⟨_, List.getElem?_eq_getElem hk7⟩
      refine s_pure (.pointer (some ⟨sblk v_a, soff v_a + k * 1, none⟩)) (fun _ q => f4.idx (k := k) rfl hk7 q) ?_
      refine s_pure v_b (fun _ q => q) ?_
      refine s_pure (.int .i64 (k : Int)) (fun _ q => q) ?_
      have hk9 : k < b.length := (by first | omega | (simp; omega))
      obtain ⟨x10, hx10⟩ : ∃ x, b[k]? = some x := ⟨_, List.getElem?_eq_getElem hk9⟩
      refine s_pure (.pointer (some ⟨sblk v_b, soff v_b + k * 1, none⟩)) (fun _ q => f5.idx (k := k) rfl hk9 q) ?_
      refine s_load (.int .i64 x8) (fun _ q => f4.load1 hx8 rfl q) ?_
      refine s_load (.int .i64 x10) (fun _ q => f5.load1 hx10 rfl q) ?_
      refine s_pure (.bool (x8 != x10)) (fun _ q => q) ?_
      refine s_nil ?_
      refine p_seqN ?_
      refine v_cond rfl (fun c11 => ?_) (fun c11 => ?_)
      ·
        refine v_seq ?_
        refine v_ops ?_
        refine s_pure (.bool false) (fun _ q => q) ?_
        refine s_nil ?_
        refine p_seqN ?_
        refine v_ret ?_
        refine p_blkR ?_
        refine p_seqR ?_
        refine p_lpR ?_
        refine p_blkR ?_
        refine p_seqR ?_
        refine p_ret [.bool false] (.bool false) (fun _ q => q) rfl ?_
        have ho : decide (a = b) = false := by simp only [decide_eq_true_eq, decide_eq_false_iff_not]; first | (intro hab; subst hab; omega) | exact get_ne (by assumption) (by assumption) (by assumption) | exact take_done hab (by assumption) (by omega)
        exact ⟨by first | (rw [ho]; done) | rfl, Eh⟩
      ·
        have c11 := Classical.not_not.1 c11
        refine v_skip ?_
        refine p_blkN ?_
        refine p_seqN ?_
        refine v_ops ?_
        refine s_pure (.int .i64 ((k : Int) + 1)) (fun _ q => ArithVC.mk (by omega) q) ?_
        refine s_pure (.int .i64 ((k : Int) + 1)) (fun _ q => q) ?_
        refine s_nil ?_
        exact p_lpN ⟨k + 1, ⟨rfl, rfl, rfl, rfl⟩, ⟨Eh, (by exact ⟨by omega, take_ext hab (by assumption) (by assumption) (by assumption)⟩)⟩, by omega⟩
    ·
      refine v_exit ?_
      refine p_seqX ?_
      refine p_lpX ?_
      refine p_blkX ?_
      refine p_seqN ?_
      refine v_seq ?_
      refine v_ops ?_
      refine s_pure (.bool true) (fun _ q => q) ?_
      refine s_nil ?_
      refine p_seqN ?_
      refine v_ret ?_
      refine p_ret [.bool true] (.bool true) (fun _ q => q) rfl ?_
      have ho : decide (a = b) = true := by simp only [decide_eq_true_eq, decide_eq_false_iff_not]; first | (intro hab; subst hab; omega) | exact get_ne (by assumption) (by assumption) (by assumption) | exact take_done hab (by assumption) (by omega)
      exact ⟨by first | (rw [ho]; done) | rfl, Eh⟩

theorem impl_samePacket_ok (a : PkP) (v_a_signals : Value) (b : PkP) (v_b_signals : Value) (h : Heap) (s_a_signals : Sl h v_a_signals a.signals) (s_b_signals : Sl h v_b_signals b.signals) : Cn f_impl_samePacket [.agg #[.int .i64 a.message, .int .i64 a.part, .int .i64 a.parts, v_a_signals], .agg #[.int .i64 b.message, .int .i64 b.part, .int .i64 b.parts, v_b_signals]] h fun v h' => v = .bool (decide (a = b)) ∧ Ext h h' := by
  have lt_a_signals := s_a_signals.lt
  have l63_a_signals := s_a_signals.len63
  have lt_b_signals := s_b_signals.lt
  have l63_b_signals := s_b_signals.len63
  refine calls_of r_impl_samePacket ?_
  refine v_seq ?_
  refine v_ops ?_
  refine s_box [.int .i64 a.message, .int .i64 a.part, .int .i64 a.parts, v_a_signals] rfl (fun h2 b1 hbb1 hzb1 eh2 bxb1 => ?_)
  have E3 := (Ext.refl h).trans eh2
  have z4 := eh2.size
  have lbb1 := bxb1.lt
  refine s_box [.int .i64 b.message, .int .i64 b.part, .int .i64 b.parts, v_b_signals] rfl (fun h6 b5 hbb5 hzb5 eh6 bxb5 => ?_)
  have E7 := E3.trans eh6
  have z8 := eh6.size
  have lbb5 := bxb5.lt
  refine s_pure (.bool false) (fun _ q => q) ?_
  refine s_nil ?_
  refine p_seqN ?_
  refine v_seq ?_
  refine v_ops ?_
  refine s_pure (.pointer (some ⟨b1, 0, none⟩)) (fun _ q => q) ?_
  have f9 := (bxb1.ext eh6)
  refine s_load (.int .i64 a.message) (fun _ q => f9.load rfl q) ?_
  refine s_pure (.pointer (some ⟨b5, 0, none⟩)) (fun _ q => q) ?_
  refine s_load (.int .i64 b.message) (fun _ q => bxb5.load rfl q) ?_
  refine s_pure (.bool (a.message == b.message)) (fun _ q => q) ?_
  refine s_pure (.bool (a.message == b.message)) (fun _ q => q) ?_
  refine s_splitT rfl (fun c10 => ?_) (fun c10 => ?_)
  ·
    refine s_run rfl ?_
    refine s_pure (.pointer (some ⟨b1, 1, none⟩)) (fun _ q => q) ?_
    refine s_run rfl ?_
    refine s_load (.int .i64 a.part) (fun _ q => f9.load rfl q) ?_
    refine s_run rfl ?_
    refine s_pure (.pointer (some ⟨b5, 1, none⟩)) (fun _ q => q) ?_
    refine s_run rfl ?_
    refine s_load (.int .i64 b.part) (fun _ q => bxb5.load rfl q) ?_
    refine s_run rfl ?_
    refine s_pure (.bool (a.part == b.part)) (fun _ q => q) ?_
    refine s_pure (.bool (a.part == b.part)) (fun _ q => q) ?_
    refine s_pure (.bool (a.part == b.part)) (fun _ q => q) ?_
    refine s_splitT rfl (fun c11 => ?_) (fun c11 => ?_)
    ·
      refine s_run rfl ?_
      refine s_pure (.pointer (some ⟨b1, 2, none⟩)) (fun _ q => q) ?_
      refine s_run rfl ?_
      refine s_load (.int .i64 a.parts) (fun _ q => f9.load rfl q) ?_
      refine s_run rfl ?_
      refine s_pure (.pointer (some ⟨b5, 2, none⟩)) (fun _ q => q) ?_
      refine s_run rfl ?_
      refine s_load (.int .i64 b.parts) (fun _ q => bxb5.load rfl q) ?_
      refine s_run rfl ?_
      refine s_pure (.bool (a.parts == b.parts)) (fun _ q => q) ?_
      refine s_pure (.bool (a.parts == b.parts)) (fun _ q => q) ?_
      refine s_pure (.bool (a.parts == b.parts)) (fun _ q => q) ?_
      refine s_splitT rfl (fun c12 => ?_) (fun c12 => ?_)
      ·
        refine s_run rfl ?_
        refine s_pure (.pointer (some ⟨b1, 3, none⟩)) (fun _ q => q) ?_
        refine s_run rfl ?_
        refine s_load v_a_signals (fun _ q => f9.load rfl q) ?_
        refine s_run rfl ?_
        refine s_pure (.pointer (some ⟨b5, 3, none⟩)) (fun _ q => q) ?_
        refine s_run rfl ?_
        refine s_load v_b_signals (fun _ q => bxb5.load rfl q) ?_
        refine s_run rfl ?_
        have f13 := ((s_a_signals.ext eh2).ext eh6)
        have f14 := ((s_b_signals.ext eh2).ext eh6)
        refine s_call [v_a_signals, v_b_signals] rfl (slices_Equal_Lint_int_ok v_a_signals a.signals v_b_signals b.signals _ f13 f14) ?_
        rintro _ h15 ⟨rfl, eh15⟩
        have E16 := E7.trans eh15
        have z17 := eh15.size
        refine s_pure (.bool (decide (a.signals = b.signals))) (fun _ q => q) ?_
        refine s_pure (.bool (decide (a.signals = b.signals))) (fun _ q => q) ?_
        refine s_nil ?_
        refine p_seqN ?_
        refine v_ret ?_
        refine p_ret [.bool (decide (a.signals = b.signals))] (.bool (decide (a.signals = b.signals))) (fun _ q => q) rfl ?_
        have ho : decide (a = b) = decide (a.signals = b.signals) := by simp only [pkp_ext]; simp [*]
        exact ⟨by first | (rw [ho]; done) | rfl, E16⟩
      ·
        refine s_pass rfl ?_
        refine s_pass rfl ?_
        refine s_pass rfl ?_
        refine s_pass rfl ?_
        refine s_pass rfl ?_
        refine s_pure (.bool false) (fun _ q => q) ?_
        refine s_pure (.bool false) (fun _ q => q) ?_
        refine s_nil ?_
        refine p_seqN ?_
        refine v_ret ?_
        refine p_ret [.bool false] (.bool false) (fun _ q => q) rfl ?_
        have ho : decide (a = b) = false := by simp only [pkp_ext]; simp [*]
        exact ⟨by first | (rw [ho]; done) | rfl, E7⟩
    ·
      refine s_pass rfl ?_
      refine s_pass rfl ?_
      refine s_pass rfl ?_
      refine s_pass rfl ?_
      refine s_pass rfl ?_
      refine s_pure (.bool false) (fun _ q => q) ?_
      refine s_pure (.bool false) (fun _ q => q) ?_
      refine s_splitN rfl (by simp) ?_
      refine s_pass rfl ?_
      refine s_pass rfl ?_
      refine s_pass rfl ?_
      refine s_pass rfl ?_
      refine s_pass rfl ?_
      refine s_pure (.bool false) (fun _ q => q) ?_
      refine s_pure (.bool false) (fun _ q => q) ?_
      refine s_nil ?_
      refine p_seqN ?_
      refine v_ret ?_
      refine p_ret [.bool false] (.bool false) (fun _ q => q) rfl ?_
      have ho : decide (a = b) = false := by simp only [pkp_ext]; simp [*]
      exact ⟨by first | (rw [ho]; done) | rfl, E7⟩
  ·
    refine s_pass rfl ?_
    refine s_pass rfl ?_
    refine s_pass rfl ?_
    refine s_pass rfl ?_
    refine s_pass rfl ?_
    refine s_pure (.bool false) (fun _ q => q) ?_
    refine s_pure (.bool false) (fun _ q => q) ?_
    refine s_splitN rfl (by simp) ?_
    refine s_pass rfl ?_
    refine s_pass rfl ?_
    refine s_pass rfl ?_
    refine s_pass rfl ?_
    refine s_pass rfl ?_
    refine s_pure (.bool false) (fun _ q => q) ?_
    refine s_pure (.bool false) (fun _ q => q) ?_
    refine s_splitN rfl (by simp) ?_
    refine s_pass rfl ?_
    refine s_pass rfl ?_
    refine s_pass rfl ?_
    refine s_pass rfl ?_
    refine s_pass rfl ?_
    refine s_pure (.bool false) (fun _ q => q) ?_
    refine s_pure (.bool false) (fun _ q => q) ?_
    refine s_nil ?_
    refine p_seqN ?_
    refine v_ret ?_
    refine p_ret [.bool false] (.bool false) (fun _ q => q) rfl ?_
    have ho : decide (a = b) = false := by simp only [pkp_ext]; simp [*]
    exact ⟨by first | (rw [ho]; done) | rfl, E7⟩

theorem spec_pkSame_ok (a : PkP) (v_a_signals : Value) (b : PkP) (v_b_signals : Value) (h : Heap) (s_a_signals : Sl h v_a_signals a.signals) (s_b_signals : Sl h v_b_signals b.signals) : Cn f_spec_pkSame [.agg #[.int .i64 a.message, .int .i64 a.part, .int .i64 a.parts, v_a_signals], .agg #[.int .i64 b.message, .int .i64 b.part, .int .i64 b.parts, v_b_signals]] h fun v h' => v = .bool (decide (a = b)) ∧ Ext h h' := by
  have lt_a_signals := s_a_signals.lt
  have l63_a_signals := s_a_signals.len63
  have lt_b_signals := s_b_signals.lt
  have l63_b_signals := s_b_signals.len63
  refine calls_of r_spec_pkSame ?_
  refine v_seq ?_
  refine v_ops ?_
  refine s_box [.int .i64 a.message, .int .i64 a.part, .int .i64 a.parts, v_a_signals] rfl (fun h2 b1 hbb1 hzb1 eh2 bxb1 => ?_)
  have E3 := (Ext.refl h).trans eh2
  have z4 := eh2.size
  have lbb1 := bxb1.lt
  refine s_box [.int .i64 b.message, .int .i64 b.part, .int .i64 b.parts, v_b_signals] rfl (fun h6 b5 hbb5 hzb5 eh6 bxb5 => ?_)
  have E7 := E3.trans eh6
  have z8 := eh6.size
  have lbb5 := bxb5.lt
  refine s_pure (.bool false) (fun _ q => q) ?_
  refine s_nil ?_
  refine p_seqN ?_
  refine v_seq ?_
  refine v_ops ?_
  refine s_pure (.pointer (some ⟨b1, 0, none⟩)) (fun _ q => q) ?_
  have f9 := (bxb1.ext eh6)
  refine s_load (.int .i64 a.message) (fun _ q => f9.load rfl q) ?_
  refine s_pure (.pointer (some ⟨b5, 0, none⟩)) (fun _ q => q) ?_
  refine s_load (.int .i64 b.message) (fun _ q => bxb5.load rfl q) ?_
  refine s_pure (.bool (a.message == b.message)) (fun _ q => q) ?_
  refine s_pure (.bool (a.message == b.message)) (fun _ q => q) ?_
  refine s_splitT rfl (fun c10 => ?_) (fun c10 => ?_)
  ·
    refine s_run rfl ?_
    refine s_pure (.pointer (some ⟨b1, 1, none⟩)) (fun _ q => q) ?_
    refine s_run rfl ?_
    refine s_load (.int .i64 a.part) (fun _ q => f9.load rfl q) ?_
    refine s_run rfl ?_
    refine s_pure (.pointer (some ⟨b5, 1, none⟩)) (fun _ q => q) ?_
    refine s_run rfl ?_
    refine s_load (.int .i64 b.part) (fun _ q => bxb5.load rfl q) ?_
    refine s_run rfl ?_
    refine s_pure (.bool (a.part == b.part)) (fun _ q => q) ?_
    refine s_pure (.bool (a.part == b.part)) (fun _ q => q) ?_
    refine s_pure (.bool (a.part == b.part)) (fun _ q => q) ?_
    refine s_splitT rfl (fun c11 => ?_) (fun c11 => ?_)
    ·
      refine s_run rfl ?_
      refine s_pure (.pointer (some ⟨b1, 2, none⟩)) (fun _ q => q) ?_
      refine s_run rfl ?_
      refine s_load (.int .i64 a.parts) (fun _ q => f9.load rfl q) ?_
      refine s_run rfl ?_
      refine s_pure (.pointer (some ⟨b5, 2, none⟩)) (fun _ q => q) ?_
      refine s_run rfl ?_
      refine s_load (.int .i64 b.parts) (fun _ q => bxb5.load rfl q) ?_
      refine s_run rfl ?_
      refine s_pure (.bool (a.parts == b.parts)) (fun _ q => q) ?_
      refine s_pure (.bool (a.parts == b.parts)) (fun _ q => q) ?_
      refine s_pure (.bool (a.parts == b.parts)) (fun _ q => q) ?_
      refine s_splitT rfl (fun c12 => ?_) (fun c12 => ?_)
      ·
        refine s_run rfl ?_
        refine s_pure (.pointer (some ⟨b1, 3, none⟩)) (fun _ q => q) ?_
        refine s_run rfl ?_
        refine s_load v_a_signals (fun _ q => f9.load rfl q) ?_
        refine s_run rfl ?_
        refine s_pure (.pointer (some ⟨b5, 3, none⟩)) (fun _ q => q) ?_
        refine s_run rfl ?_
        refine s_load v_b_signals (fun _ q => bxb5.load rfl q) ?_
        refine s_run rfl ?_
        have f13 := ((s_a_signals.ext eh2).ext eh6)
        have f14 := ((s_b_signals.ext eh2).ext eh6)
        refine s_call [v_a_signals, v_b_signals] rfl (spec_l1Same_ok v_a_signals a.signals v_b_signals b.signals _ f13 f14) ?_
        rintro _ h15 ⟨rfl, eh15⟩
        have E16 := E7.trans eh15
        have z17 := eh15.size
        refine s_pure (.bool (decide (a.signals = b.signals))) (fun _ q => q) ?_
        refine s_pure (.bool (decide (a.signals = b.signals))) (fun _ q => q) ?_
        refine s_nil ?_
        refine p_seqN ?_
        refine v_ret ?_
        refine p_ret [.bool (decide (a.signals = b.signals))] (.bool (decide (a.signals = b.signals))) (fun _ q => q) rfl ?_
        have ho : decide (a = b) = decide (a.signals = b.signals) := by simp only [pkp_ext]; simp [*]
        exact ⟨by first | (rw [ho]; done) | rfl, E16⟩
      ·
        refine s_pass rfl ?_
        refine s_pass rfl ?_
        refine s_pass rfl ?_
        refine s_pass rfl ?_
        refine s_pass rfl ?_
        refine s_pure (.bool false) (fun _ q => q) ?_
        refine s_pure (.bool false) (fun _ q => q) ?_
        refine s_nil ?_
        refine p_seqN ?_
        refine v_ret ?_
        refine p_ret [.bool false] (.bool false) (fun _ q => q) rfl ?_
        have ho : decide (a = b) = false := by simp only [pkp_ext]; simp [*]
        exact ⟨by first | (rw [ho]; done) | rfl, E7⟩
    ·
      refine s_pass rfl ?_
      refine s_pass rfl ?_
      refine s_pass rfl ?_
      refine s_pass rfl ?_
      refine s_pass rfl ?_
      refine s_pure (.bool false) (fun _ q => q) ?_
      refine s_pure (.bool false) (fun _ q => q) ?_
      refine s_splitN rfl (by simp) ?_
      refine s_pass rfl ?_
      refine s_pass rfl ?_
      refine s_pass rfl ?_
      refine s_pass rfl ?_
      refine s_pass rfl ?_
      refine s_pure (.bool false) (fun _ q => q) ?_
      refine s_pure (.bool false) (fun _ q => q) ?_
      refine s_nil ?_
      refine p_seqN ?_
      refine v_ret ?_
      refine p_ret [.bool false] (.bool false) (fun _ q => q) rfl ?_
      have ho : decide (a = b) = false := by simp only [pkp_ext]; simp [*]
      exact ⟨by first | (rw [ho]; done) | rfl, E7⟩
  ·
    refine s_pass rfl ?_
    refine s_pass rfl ?_
    refine s_pass rfl ?_
    refine s_pass rfl ?_
    refine s_pass rfl ?_
    refine s_pure (.bool false) (fun _ q => q) ?_
    refine s_pure (.bool false) (fun _ q => q) ?_
    refine s_splitN rfl (by simp) ?_
    refine s_pass rfl ?_
    refine s_pass rfl ?_
    refine s_pass rfl ?_
    refine s_pass rfl ?_
    refine s_pass rfl ?_
    refine s_pure (.bool false) (fun _ q => q) ?_
    refine s_pure (.bool false) (fun _ q => q) ?_
    refine s_splitN rfl (by simp) ?_
    refine s_pass rfl ?_
    refine s_pass rfl ?_
    refine s_pass rfl ?_
    refine s_pass rfl ?_
    refine s_pass rfl ?_
    refine s_pure (.bool false) (fun _ q => q) ?_
    refine s_pure (.bool false) (fun _ q => q) ?_
    refine s_nil ?_
    refine p_seqN ?_
    refine v_ret ?_
    refine p_ret [.bool false] (.bool false) (fun _ q => q) rfl ?_
    have ho : decide (a = b) = false := by simp only [pkp_ext]; simp [*]
    exact ⟨by first | (rw [ho]; done) | rfl, E7⟩

set_option maxRecDepth 10000 in
set_option maxHeartbeats 4000000 in
theorem impl_inConflict_ok (a : PkP) (v_a_signals : Value) (b : PkP) (v_b_signals : Value) (h : Heap) (s_a_signals : Sl h v_a_signals a.signals) (s_b_signals : Sl h v_b_signals b.signals) : Cn f_impl_inConflict [.agg #[.int .i64 a.message, .int .i64 a.part, .int .i64 a.parts, v_a_signals], .agg #[.int .i64 b.message, .int .i64 b.part, .int .i64 b.parts, v_b_signals]] h fun v h' => v = .bool (decide (clash a b)) ∧ Ext h h' := by
  have lt_a_signals := s_a_signals.lt
  have l63_a_signals := s_a_signals.len63
  have lt_b_signals := s_b_signals.lt
  have l63_b_signals := s_b_signals.len63
  refine calls_of r_impl_inConflict ?_
  refine v_seq ?_
  refine v_ops ?_
  refine s_box [.int .i64 a.message, .int .i64 a.part, .int .i64 a.parts, v_a_signals] rfl (fun h2 b1 hbb1 hzb1 eh2 bxb1 => ?_)
  have E3 := (Ext.refl h).trans eh2
  have z4 := eh2.size
  have lbb1 := bxb1.lt
  refine s_box [.int .i64 b.message, .int .i64 b.part, .int .i64 b.parts, v_b_signals] rfl (fun h6 b5 hbb5 hzb5 eh6 bxb5 => ?_)
  have E7 := E3.trans eh6
  have z8 := eh6.size
  have lbb5 := bxb5.lt
  refine s_pure (.bool false) (fun _ q => q) ?_
  refine s_nil ?_
  refine p_seqN ?_
  refine v_seq ?_
  refine v_ops ?_
  refine s_pure (.pointer (some ⟨b1, 0, none⟩)) (fun _ q => q) ?_
  have f9 := (bxb1.ext eh6)
  refine s_load (.int .i64 a.message) (fun _ q => f9.load rfl q) ?_
  refine s_pure (.pointer (some ⟨b5, 0, none⟩)) (fun _ q => q) ?_
  refine s_load (.int .i64 b.message) (fun _ q => bxb5.load rfl q) ?_
  refine s_pure (.bool (a.message == b.message)) (fun _ q => q) ?_
  refine s_pure (.bool (a.message == b.message)) (fun _ q => q) ?_
  refine s_splitT rfl (fun c10 => ?_) (fun c10 => ?_)
  ·
    refine s_run rfl ?_
    refine s_pure (.pointer (some ⟨b1, 2, none⟩)) (fun _ q => q) ?_
    refine s_run rfl ?_
    refine s_load (.int .i64 a.parts) (fun _ q => f9.load rfl q) ?_
    refine s_run rfl ?_
    refine s_pure (.pointer (some ⟨b5, 2, none⟩)) (fun _ q => q) ?_
    refine s_run rfl ?_
    refine s_load (.int .i64 b.parts) (fun _ q => bxb5.load rfl q) ?_
    refine s_run rfl ?_
    refine s_pure (.bool (a.parts != b.parts)) (fun _ q => q) ?_
    refine s_run rfl ?_
    refine s_pure (.bool (a.parts != b.parts)) (fun _ q => q) ?_
    refine s_splitT rfl (fun c11 => ?_) (fun c11 => ?_)
    ·
      refine s_pass rfl ?_
      refine s_pass rfl ?_
      refine s_pass rfl ?_
      refine s_pass rfl ?_
      refine s_pass rfl ?_
      refine s_pass rfl ?_
      refine s_splitU rfl ?_
      refine s_passU rfl ?_
      refine s_passU rfl ?_
      refine s_passU rfl ?_
      refine s_passU rfl ?_
      refine s_passU rfl ?_
      refine s_passU rfl ?_
      refine s_pass rfl ?_
      refine s_run rfl ?_
      refine s_pure (.bool true) (fun _ q => q) ?_
      refine s_pure (.bool true) (fun _ q => q) ?_
      refine s_pure (.bool true) (fun _ q => q) ?_
      refine s_nil ?_
      refine p_seqN ?_
      refine v_ret ?_
      refine p_ret [.bool true] (.bool true) (fun _ q => q) rfl ?_
      have ho : decide (clash a b) = true := by simp only [clash]; simp [*]
      exact ⟨by first | (rw [ho]; done) | rfl, E7⟩
    ·
      have c11 := Classical.not_not.1 c11
      refine s_run rfl ?_
      refine s_pure (.pointer (some ⟨b1, 1, none⟩)) (fun _ q => q) ?_
      refine s_run rfl ?_
      refine s_load (.int .i64 a.part) (fun _ q => f9.load rfl q) ?_
      refine s_run rfl ?_
      refine s_pure (.pointer (some ⟨b5, 1, none⟩)) (fun _ q => q) ?_
      refine s_run rfl ?_
      refine s_load (.int .i64 b.part) (fun _ q => bxb5.load rfl q) ?_
      refine s_run rfl ?_
      refine s_pure (.bool (a.part == b.part)) (fun _ q => q) ?_
      refine s_run rfl ?_
      refine s_pure (.bool (a.part == b.part)) (fun _ q => q) ?_
      refine s_splitT rfl (fun c12 => ?_) (fun c12 => ?_)
      ·
        refine s_run rfl ?_
        refine s_pure (.pointer (some ⟨b1, 3, none⟩)) (fun _ q => q) ?_
        refine s_run rfl ?_
        refine s_load v_a_signals (fun _ q => f9.load rfl q) ?_
        refine s_run rfl ?_
        refine s_pure (.pointer (some ⟨b5, 3, none⟩)) (fun _ q => q) ?_
        refine s_run rfl ?_
        refine s_load v_b_signals (fun _ q => bxb5.load rfl q) ?_
        refine s_run rfl ?_
        have f13 := ((s_a_signals.ext eh2).ext eh6)
        have f14 := ((s_b_signals.ext eh2).ext eh6)
        refine s_call [v_a_signals, v_b_signals] rfl (slices_Equal_Lint_int_ok v_a_signals a.signals v_b_signals b.signals _ f13 f14) ?_
        rintro _ h15 ⟨rfl, eh15⟩
        have E16 := E7.trans eh15
        have z17 := eh15.size
        refine s_run rfl ?_
        refine s_pure (.bool (!decide (a.signals = b.signals))) (fun _ q => q) ?_
        refine s_run rfl ?_
        refine s_pure (.bool (!decide (a.signals = b.signals))) (fun _ q => q) ?_
        refine s_run rfl ?_
        refine s_pure (.bool (!decide (a.signals = b.signals))) (fun _ q => q) ?_
        refine s_pure (.bool (!decide (a.signals = b.signals))) (fun _ q => q) ?_
        refine s_pure (.bool (!decide (a.signals = b.signals))) (fun _ q => q) ?_
        refine s_nil ?_
        refine p_seqN ?_
        refine v_ret ?_
        refine p_ret [.bool (!decide (a.signals = b.signals))] (.bool (!decide (a.signals = b.signals))) (fun _ q => q) rfl ?_
        have ho : decide (clash a b) = (!decide (a.signals = b.signals)) := by simp only [clash]; simp [*]
        exact ⟨by first | (rw [ho]; done) | rfl, E16⟩
      ·
        refine s_pass rfl ?_
        refine s_pass rfl ?_
        refine s_pass rfl ?_
        refine s_pass rfl ?_
        refine s_pass rfl ?_
        refine s_pass rfl ?_
        refine s_run rfl ?_
        refine s_pure (.bool false) (fun _ q => q) ?_
        refine s_run rfl ?_
        refine s_pure (.bool false) (fun _ q => q) ?_
        refine s_pure (.bool false) (fun _ q => q) ?_
        refine s_pure (.bool false) (fun _ q => q) ?_
        refine s_nil ?_
        refine p_seqN ?_
        refine v_ret ?_
        refine p_ret [.bool false] (.bool false) (fun _ q => q) rfl ?_
        have ho : decide (clash a b) = false := by simp only [clash]; simp [*]
        exact ⟨by first | (rw [ho]; done) | rfl, E7⟩
  ·
    refine s_pass rfl ?_
    refine s_pass rfl ?_
    refine s_pass rfl ?_
    refine s_pass rfl ?_
    refine s_pass rfl ?_
    refine s_pass rfl ?_
    refine s_splitU rfl ?_
    refine s_passU rfl ?_
    refine s_passU rfl ?_
    refine s_passU rfl ?_
    refine s_passU rfl ?_
    refine s_passU rfl ?_
    refine s_passU rfl ?_
    refine s_splitU rfl ?_
    refine s_passU rfl ?_
    refine s_passU rfl ?_
    refine s_passU rfl ?_
    refine s_passU rfl ?_
    refine s_passU rfl ?_
    refine s_passU rfl ?_
    refine s_passU rfl ?_
    refine s_pass rfl ?_
    refine s_pure (.bool false) (fun _ q => q) ?_
    refine s_pure (.bool false) (fun _ q => q) ?_
    refine s_nil ?_
    refine p_seqN ?_
    refine v_ret ?_
    refine p_ret [.bool false] (.bool false) (fun _ q => q) rfl ?_
    have ho : decide (clash a b) = false := by simp only [clash]; simp [*]
    exact ⟨by first | (rw [ho]; done) | rfl, E7⟩

set_option maxRecDepth 10000 in
set_option maxHeartbeats 4000000 in
theorem spec_pkClash_ok (a : PkP) (v_a_signals : Value) (b : PkP) (v_b_signals : Value) (h : Heap) (s_a_signals : Sl h v_a_signals a.signals) (s_b_signals : Sl h v_b_signals b.signals) : Cn f_spec_pkClash [.agg #[.int .i64 a.message, .int .i64 a.part, .int .i64 a.parts, v_a_signals], .agg #[.int .i64 b.message, .int .i64 b.part, .int .i64 b.parts, v_b_signals]] h fun v h' => v = .bool (decide (clash a b)) ∧ Ext h h' := by
  have lt_a_signals := s_a_signals.lt
  have l63_a_signals := s_a_signals.len63
  have lt_b_signals := s_b_signals.lt
  have l63_b_signals := s_b_signals.len63
  refine calls_of r_spec_pkClash ?_
  refine v_seq ?_
  refine v_ops ?_
  refine s_box [.int .i64 a.message, .int .i64 a.part, .int .i64 a.parts, v_a_signals] rfl (fun h2 b1 hbb1 hzb1 eh2 bxb1 => ?_)
  have E3 := (Ext.refl h).trans eh2
  have z4 := eh2.size
  have lbb1 := bxb1.lt
  refine s_box [.int .i64 b.message, .int .i64 b.part, .int .i64 b.parts, v_b_signals] rfl (fun h6 b5 hbb5 hzb5 eh6 bxb5 => ?_)
  have E7 := E3.trans eh6
  have z8 := eh6.size
  have lbb5 := bxb5.lt
  refine s_pure (.bool false) (fun _ q => q) ?_
  refine s_nil ?_
  refine p_seqN ?_
  refine v_seq ?_
  refine v_ops ?_
  refine s_pure (.pointer (some ⟨b1, 0, none⟩)) (fun _ q => q) ?_
  have f9 := (bxb1.ext eh6)
  refine s_load (.int .i64 a.message) (fun _ q => f9.load rfl q) ?_
  refine s_pure (.pointer (some ⟨b5, 0, none⟩)) (fun _ q => q) ?_
  refine s_load (.int .i64 b.message) (fun _ q => bxb5.load rfl q) ?_
  refine s_pure (.bool (a.message == b.message)) (fun _ q => q) ?_
  refine s_pure (.bool (a.message == b.message)) (fun _ q => q) ?_
  refine s_splitT rfl (fun c10 => ?_) (fun c10 => ?_)
  ·
    refine s_run rfl ?_
    refine s_pure (.pointer (some ⟨b1, 2, none⟩)) (fun _ q => q) ?_
    refine s_run rfl ?_
    refine s_load (.int .i64 a.parts) (fun _ q => f9.load rfl q) ?_
    refine s_run rfl ?_
    refine s_pure (.pointer (some ⟨b5, 2, none⟩)) (fun _ q => q) ?_
    refine s_run rfl ?_
    refine s_load (.int .i64 b.parts) (fun _ q => bxb5.load rfl q) ?_
    refine s_run rfl ?_
    refine s_pure (.bool (a.parts != b.parts)) (fun _ q => q) ?_
    refine s_run rfl ?_
    refine s_pure (.bool (a.parts != b.parts)) (fun _ q => q) ?_
    refine s_splitT rfl (fun c11 => ?_) (fun c11 => ?_)
    ·
      refine s_pass rfl ?_
      refine s_pass rfl ?_
      refine s_pass rfl ?_
      refine s_pass rfl ?_
      refine s_pass rfl ?_
      refine s_pass rfl ?_
      refine s_splitU rfl ?_
      refine s_passU rfl ?_
      refine s_passU rfl ?_
      refine s_passU rfl ?_
      refine s_passU rfl ?_
      refine s_passU rfl ?_
      refine s_passU rfl ?_
      refine s_pass rfl ?_
      refine s_run rfl ?_
      refine s_pure (.bool true) (fun _ q => q) ?_
      refine s_pure (.bool true) (fun _ q => q) ?_
      refine s_pure (.bool true) (fun _ q => q) ?_
      refine s_nil ?_
      refine p_seqN ?_
      refine v_ret ?_
      refine p_ret [.bool true] (.bool true) (fun _ q => q) rfl ?_
      have ho : decide (clash a b) = true := by simp only [clash]; simp [*]
      exact ⟨by first | (rw [ho]; done) | rfl, E7⟩
    ·
      have c11 := Classical.not_not.1 c11
      refine s_run rfl ?_
      refine s_pure (.pointer (some ⟨b1, 1, none⟩)) (fun _ q => q) ?_
      refine s_run rfl ?_
      refine s_load (.int .i64 a.part) (fun _ q => f9.load rfl q) ?_
      refine s_run rfl ?_
      refine s_pure (.pointer (some ⟨b5, 1, none⟩)) (fun _ q => q) ?_
      refine s_run rfl ?_
      refine s_load (.int .i64 b.part) (fun _ q => bxb5.load rfl q) ?_
      refine s_run rfl ?_
      refine s_pure (.bool (a.part == b.part)) (fun _ q => q) ?_
      refine s_run rfl ?_
      refine s_pure (.bool (a.part == b.part)) (fun _ q => q) ?_
      refine s_splitT rfl (fun c12 => ?_) (fun c12 => ?_)
      ·
        refine s_run rfl ?_
        refine s_pure (.pointer (some ⟨b1, 3, none⟩)) (fun _ q => q) ?_
        refine s_run rfl ?_
        refine s_load v_a_signals (fun _ q => f9.load rfl q) ?_
        refine s_run rfl ?_
        refine s_pure (.pointer (some ⟨b5, 3, none⟩)) (fun _ q => q) ?_
        refine s_run rfl ?_
        refine s_load v_b_signals (fun _ q => bxb5.load rfl q) ?_
        refine s_run rfl ?_
        have f13 := ((s_a_signals.ext eh2).ext eh6)
        have f14 := ((s_b_signals.ext eh2).ext eh6)
        refine s_call [v_a_signals, v_b_signals] rfl (spec_l1Same_ok v_a_signals a.signals v_b_signals b.signals _ f13 f14) ?_
        rintro _ h15 ⟨rfl, eh15⟩
        have E16 := E7.trans eh15
        have z17 := eh15.size
        refine s_run rfl ?_
        refine s_pure (.bool (!decide (a.signals = b.signals))) (fun _ q => q) ?_
        refine s_run rfl ?_
        refine s_pure (.bool (!decide (a.signals = b.signals))) (fun _ q => q) ?_
        refine s_run rfl ?_
        refine s_pure (.bool (!decide (a.signals = b.signals))) (fun _ q => q) ?_
        refine s_pure (.bool (!decide (a.signals = b.signals))) (fun _ q => q) ?_
        refine s_pure (.bool (!decide (a.signals = b.signals))) (fun _ q => q) ?_
        refine s_nil ?_
        refine p_seqN ?_
        refine v_ret ?_
        refine p_ret [.bool (!decide (a.signals = b.signals))] (.bool (!decide (a.signals = b.signals))) (fun _ q => q) rfl ?_
        have ho : decide (clash a b) = (!decide (a.signals = b.signals)) := by simp only [clash]; simp [*]
        exact ⟨by first | (rw [ho]; done) | rfl, E16⟩
      ·
        refine s_pass rfl ?_
        refine s_pass rfl ?_
        refine s_pass rfl ?_
        refine s_pass rfl ?_
        refine s_pass rfl ?_
        refine s_pass rfl ?_
        refine s_run rfl ?_
        refine s_pure (.bool false) (fun _ q => q) ?_
        refine s_run rfl ?_
        refine s_pure (.bool false) (fun _ q => q) ?_
        refine s_pure (.bool false) (fun _ q => q) ?_
        refine s_pure (.bool false) (fun _ q => q) ?_
        refine s_nil ?_
        refine p_seqN ?_
        refine v_ret ?_
        refine p_ret [.bool false] (.bool false) (fun _ q => q) rfl ?_
        have ho : decide (clash a b) = false := by simp only [clash]; simp [*]
        exact ⟨by first | (rw [ho]; done) | rfl, E7⟩
  ·
    refine s_pass rfl ?_
    refine s_pass rfl ?_
    refine s_pass rfl ?_
    refine s_pass rfl ?_
    refine s_pass rfl ?_
    refine s_pass rfl ?_
    refine s_splitU rfl ?_
    refine s_passU rfl ?_
    refine s_passU rfl ?_
    refine s_passU rfl ?_
    refine s_passU rfl ?_
    refine s_passU rfl ?_
    refine s_passU rfl ?_
    refine s_splitU rfl ?_
    refine s_passU rfl ?_
    refine s_passU rfl ?_
    refine s_passU rfl ?_
    refine s_passU rfl ?_
    refine s_passU rfl ?_
    refine s_passU rfl ?_
    refine s_passU rfl ?_
    refine s_pass rfl ?_
    refine s_pure (.bool false) (fun _ q => q) ?_
    refine s_pure (.bool false) (fun _ q => q) ?_
    refine s_nil ?_
    refine p_seqN ?_
    refine v_ret ?_
    refine p_ret [.bool false] (.bool false) (fun _ q => q) rfl ?_
    have ho : decide (clash a b) = false := by simp only [clash]; simp [*]
    exact ⟨by first | (rw [ho]; done) | rfl, E7⟩

theorem impl_clonePacket_ok (p : PkP) (v_p_signals : Value) (h : Heap) (s_p_signals : Sl h v_p_signals p.signals) (bl : p.signals.length ≤ 2000000) : Cn f_impl_clonePacket [.agg #[.int .i64 p.message, .int .i64 p.part, .int .i64 p.parts, v_p_signals]] h fun v h' => ∃ r0 : Value, v = .agg #[.int .i64 p.message, .int .i64 p.part, .int .i64 p.parts, r0] ∧ SlO h' r0 p.signals ∧ Fr h.size r0 ∧ Ext h h' := by
  have lt_p_signals := s_p_signals.lt
  have l63_p_signals := s_p_signals.len63
  refine calls_of r_impl_clonePacket ?_
  refine v_seq ?_
  refine v_ops ?_
  refine s_box [.int .i64 p.message, .int .i64 p.part, .int .i64 p.parts, v_p_signals] rfl (fun h2 b1 hbb1 hzb1 eh2 bxb1 => ?_)
  have E3 := (Ext.refl h).trans eh2
  have z4 := eh2.size
  have lbb1 := bxb1.lt
  refine s_new (fun h6 b5 hbb5 hzb5 eh6 bxb5 => ?_)
  have E7 := E3.trans eh6
  have z8 := eh6.size
  have lbb5 := bxb5.lt
  refine s_nil ?_
  refine p_seqN ?_
  refine v_seq ?_
  refine v_ops ?_
  refine s_pure (.pointer (some ⟨b1, 3, none⟩)) (fun _ q => q) ?_
  have f9 := (bxb1.ext eh6)
  refine s_load v_p_signals (fun _ q => f9.load rfl q) ?_
  have f10 := ((s_p_signals.ext eh2).ext eh6)
  refine s_call [v_p_signals] rfl (slices_Clone_Lint_int_ok v_p_signals p.signals _ f10 (by first | omega | assumption | (simp; omega))) ?_
  rintro r11 h12 ⟨_, rfl, s_r11, fr_r11, eh12⟩
  have E13 := E7.trans eh12
  have z14 := eh12.size
  have lt_r11 := s_r11.lt
  refine s_pure (.pointer (some ⟨b1, 3, none⟩)) (fun _ q => q) ?_
  have f15 := (f9.ext eh12)
  refine s_stBx r11 [r11] [.int .i64 p.message, .int .i64 p.part, .int .i64 p.parts, r11] f15 rfl rfl s_r11.cellsv rfl (by simp) (all_cons s_r11.one1 all_nil) rfl (fun h16 mh16 sh16 bxx17 => ?_)
  have E18 := E13.mod mh16 (fun b hb => by simp at hb; omega)
  refine s_nil ?_
  refine p_seqN ?_
  refine v_seq ?_
  refine v_ops ?_
  refine s_load (.agg #[.int .i64 p.message, .int .i64 p.part, .int .i64 p.parts, r11]) (fun _ q => bxx17.loadA rfl q) ?_
  have f19 := ((bxb5.ext eh12).mod mh16 (by simp; omega))
  refine s_stBx (.agg #[.int .i64 p.message, .int .i64 p.part, .int .i64 p.parts, r11]) [.int .i64 p.message, .int .i64 p.part, .int .i64 p.parts, r11] [.int .i64 p.message, .int .i64 p.part, .int .i64 p.parts, r11] f19 rfl rfl rfl rfl (by simp) (all_cons rfl (all_cons rfl (all_cons rfl (all_cons s_r11.one1 all_nil)))) rfl (fun h20 mh20 sh20 bxx21 => ?_)
  have E22 := E18.mod mh20 (fun b hb => by simp at hb; omega)
  refine s_nil ?_
  refine p_seqN ?_
  refine v_ret ?_
  refine p_ret [.agg #[.int .i64 p.message, .int .i64 p.part, .int .i64 p.parts, r11]] (.agg #[.int .i64 p.message, .int .i64 p.part, .int .i64 p.parts, r11]) (fun _ q => (bxx21.loadA rfl q)) rfl ?_
  have ho : p = ⟨p.message, p.part, p.parts, p.signals⟩ := by rfl
  have f23 := ((s_r11.mod mh16 (fun b hb hc => by simp at hc; have := fr_r11 b hb; omega)).mod mh20 (fun b hb hc => by simp at hc; have := fr_r11 b hb; omega))
  exact ⟨r11, by first | (rw [ho]; done) | rfl, sl_eq f23 (congrArg (fun o => o.signals) ho).symm, fr_r11.mono (by omega), E22⟩

theorem spec_pkOwn_ok (p : PkP) (v_p_signals : Value) (h : Heap) (s_p_signals : Sl h v_p_signals p.signals) (bl : p.signals.length ≤ 2000000) : Cn f_spec_pkOwn [.agg #[.int .i64 p.message, .int .i64 p.part, .int .i64 p.parts, v_p_signals]] h fun v h' => ∃ r0 : Value, v = .agg #[.int .i64 p.message, .int .i64 p.part, .int .i64 p.parts, r0] ∧ SlO h' r0 p.signals ∧ Fr h.size r0 ∧ Ext h h' := by
  have lt_p_signals := s_p_signals.lt
  have l63_p_signals := s_p_signals.len63
  refine calls_of r_spec_pkOwn ?_
  refine v_seq ?_
  refine v_ops ?_
  refine s_box [.int .i64 p.message, .int .i64 p.part, .int .i64 p.parts, v_p_signals] rfl (fun h2 b1 hbb1 hzb1 eh2 bxb1 => ?_)
  have E3 := (Ext.refl h).trans eh2
  have z4 := eh2.size
  have lbb1 := bxb1.lt
  refine s_new (fun h6 b5 hbb5 hzb5 eh6 bxb5 => ?_)
  have E7 := E3.trans eh6
  have z8 := eh6.size
  have lbb5 := bxb5.lt
  refine s_nil ?_
  refine p_seqN ?_
  refine v_seq ?_
  refine v_ops ?_
  refine s_pure (.pointer (some ⟨b1, 3, none⟩)) (fun _ q => q) ?_
  have f9 := (bxb1.ext eh6)
  refine s_load v_p_signals (fun _ q => f9.load rfl q) ?_
  have f10 := ((s_p_signals.ext eh2).ext eh6)
  refine s_call [v_p_signals] rfl (spec_l1Own_ok v_p_signals p.signals _ f10 (by first | omega | assumption | (simp; omega))) ?_
  rintro r11 h12 ⟨_, rfl, s_r11, fr_r11, eh12⟩
  have E13 := E7.trans eh12
  have z14 := eh12.size
  have lt_r11 := s_r11.lt
  refine s_pure (.pointer (some ⟨b1, 3, none⟩)) (fun _ q => q) ?_
  have f15 := (f9.ext eh12)
  refine s_stBx r11 [r11] [.int .i64 p.message, .int .i64 p.part, .int .i64 p.parts, r11] f15 rfl rfl s_r11.cellsv rfl (by simp) (all_cons s_r11.one1 all_nil) rfl (fun h16 mh16 sh16 bxx17 => ?_)
  have E18 := E13.mod mh16 (fun b hb => by simp at hb; omega)
  refine s_nil ?_
  refine p_seqN ?_
  refine v_seq ?_
  refine v_ops ?_
  refine s_load (.agg #[.int .i64 p.message, .int .i64 p.part, .int .i64 p.parts, r11]) (fun _ q => bxx17.loadA rfl q) ?_
  have f19 := ((bxb5.ext eh12).mod mh16 (by simp; omega))
  refine s_stBx (.agg #[.int .i64 p.message, .int .i64 p.part, .int .i64 p.parts, r11]) [.int .i64 p.message, .int .i64 p.part, .int .i64 p.parts, r11] [.int .i64 p.message, .int .i64 p.part, .int .i64 p.parts, r11] f19 rfl rfl rfl rfl (by simp) (all_cons rfl (all_cons rfl (all_cons rfl (all_cons s_r11.one1 all_nil)))) rfl (fun h20 mh20 sh20 bxx21 => ?_)
  have E22 := E18.mod mh20 (fun b hb => by simp at hb; omega)
  refine s_nil ?_
  refine p_seqN ?_
  refine v_ret ?_
  refine p_ret [.agg #[.int .i64 p.message, .int .i64 p.part, .int .i64 p.parts, r11]] (.agg #[.int .i64 p.message, .int .i64 p.part, .int .i64 p.parts, r11]) (fun _ q => (bxx21.loadA rfl q)) rfl ?_
  have ho : p = ⟨p.message, p.part, p.parts, p.signals⟩ := by rfl
  have f23 := ((s_r11.mod mh16 (fun b hb hc => by simp at hc; have := fr_r11 b hb; omega)).mod mh20 (fun b hb hc => by simp at hc; have := fr_r11 b hb; omega))
  exact ⟨r11, by first | (rw [ho]; done) | rfl, sl_eq f23 (congrArg (fun o => o.signals) ho).symm, fr_r11.mono (by omega), E22⟩

theorem impl_WithoutDoubles_1_ok (q : PkP) (v_q_signals : Value) (p : PkP) (v_p_signals : Value) (p_p : Nat) (t_p : TypeId) (h : Heap) (s_q_signals : Sl h v_q_signals q.signals) (s_p_signals : Sl h v_p_signals p.signals) (bx_p : Bx h p_p [.int .i64 p.message, .int .i64 p.part, .int .i64 p.parts, v_p_signals] t_p) : Cn f_impl_WithoutDoubles_1 [.agg #[.int .i64 q.message, .int .i64 q.part, .int .i64 q.parts, v_q_signals], .pointer (some ⟨p_p, 0, none⟩)] h fun v h' => v = .bool (decide (p = q)) ∧ Ext h h' := by
  have lt_q_signals := s_q_signals.lt
  have l63_q_signals := s_q_signals.len63
  have lt_p_signals := s_p_signals.lt
  have l63_p_signals := s_p_signals.len63
  have lbx_p := bx_p.lt
  refine calls_of r_impl_WithoutDoubles_1 ?_
  refine v_seq ?_
  refine v_ops ?_
  refine s_box [.int .i64 q.message, .int .i64 q.part, .int .i64 q.parts, v_q_signals] rfl (fun h2 b1 hbb1 hzb1 eh2 bxb1 => ?_)
  have E3 := (Ext.refl h).trans eh2
  have z4 := eh2.size
  have lbb1 := bxb1.lt
  refine s_pure (.bool false) (fun _ q => q) ?_
  refine s_nil ?_
  refine p_seqN ?_
  refine v_seq ?_
  refine v_ops ?_
  have f5 := (bx_p.ext eh2)
  refine s_load (.agg #[.int .i64 p.message, .int .i64 p.part, .int .i64 p.parts, v_p_signals]) (fun _ q => f5.loadA rfl q) ?_
  refine s_load (.agg #[.int .i64 q.message, .int .i64 q.part, .int .i64 q.parts, v_q_signals]) (fun _ q => bxb1.loadA rfl q) ?_
  have f6 := (s_p_signals.ext eh2)
  have f7 := (s_q_signals.ext eh2)
  refine s_call [.agg #[.int .i64 p.message, .int .i64 p.part, .int .i64 p.parts, v_p_signals], .agg #[.int .i64 q.message, .int .i64 q.part, .int .i64 q.parts, v_q_signals]] rfl (impl_samePacket_ok p v_p_signals q v_q_signals _ f6 f7) ?_
  rintro _ h8 ⟨rfl, eh8⟩
  have E9 := E3.trans eh8
  have z10 := eh8.size
  refine s_pure (.bool (decide (p = q))) (fun _ q => q) ?_
  refine s_nil ?_
  refine p_seqN ?_
  refine v_ret ?_
  refine p_ret [.bool (decide (p = q))] (.bool (decide (p = q))) (fun _ q => q) rfl ?_
  have ho : decide (p = q) = decide (p = q) := by rfl
  exact ⟨by first | (rw [ho]; done) | rfl, E9⟩

set_option maxRecDepth 10000 in
set_option maxHeartbeats 4000000 in
theorem impl_WithoutDoubles_ok (v_l : Value) (l : List Pk) (d_l : List (PkP)) (h : Heap) (s_l : Sl h v_l l) (in_l : ∀ p ∈ l, Sl h p.sv.v p.sig) (hd_l : l.map Pk.p = d_l) : Cn f_impl_WithoutDoubles [v_l] h fun v h' => ∃ r0 : Value, ∃ qr0 : List Pk, v = .tuple #[r0, .bool ((wdOut d_l).2)] ∧ DeepO h' r0 qr0 h.size ∧ qr0.map Pk.p = (wdOut d_l).1 ∧ Ext h h' := by
  subst hd_l
  have lt_l := s_l.lt
  have l63_l := s_l.len63
  have inlt_l := fun p hp => (in_l p hp).lt
  refine calls_of r_impl_WithoutDoubles ?_
  refine v_seq ?_
  refine v_ops ?_
  refine s_pure (.slice none 0 0) (fun _ q => q) ?_
  refine s_pure (.bool false) (fun _ q => q) ?_
  refine s_nil ?_
  refine p_seqN ?_
  refine v_seq ?_
  refine v_seq ?_
  refine v_ops ?_
  refine s_pure v_l (fun _ q => q) ?_
  refine s_call [v_l] rfl (impl_ArePackets_ok v_l l (l.map Pk.p) _ s_l in_l rfl) ?_
  rintro _ h1 ⟨rfl, eh1⟩
  have E2 := (Ext.refl h).trans eh1
  have z3 := eh1.size
  refine s_pure (.bool (!decide (PksOk (l.map Pk.p)))) (fun _ q => q) ?_
  refine s_nil ?_
  refine p_seqN ?_
  refine v_cond rfl (fun c4 => ?_) (fun c4 => ?_)
  ·
    refine v_seq ?_
    refine v_ops ?_
    refine s_pure (.slice none 0 0) (fun _ q => q) ?_
    refine s_pure (.bool false) (fun _ q => q) ?_
    refine s_nil ?_
    refine p_seqN ?_
    refine v_ret ?_
    refine p_seqR ?_
    refine p_ret [.slice none 0 0, .bool false] (.tuple #[.slice none 0 0, .bool false]) (fun _ q => q) rfl ?_
    have ho : wdOut (l.map Pk.p) = ([], false) := by first | exact wd_no (by assumption) | exact wd_yes hps (by assumption) (by assumption)
    exact ⟨(.slice none 0 0), [], by first | (rw [ho]; done) | rfl, DeepO.nil _ _, (congrArg (fun o => o.1) ho).symm, E2⟩
  ·
    have c4 := Classical.not_not.1 c4
    refine v_skip ?_
    refine p_seqN ?_
    refine v_seq ?_
    refine v_ops ?_
    refine s_pure (.slice none 0 0) (fun _ q => q) ?_
    refine s_nil ?_
    refine p_seqN ?_
    refine v_seq ?_
    refine v_seq ?_
    refine v_ops ?_
    refine s_pure v_l (fun _ q => q) ?_
    refine s_pure (.int .i64 (l.length : Int)) (fun _ q => s_l.lenVC q) ?_
    refine s_pure (.int .i64 0) (fun _ q => q) ?_
    refine s_nil ?_
    refine p_seqN ?_
    refine v_block ?_
    refine v_loop3 (α := Nat) (β := List Pk) (γ := Value) (fun k ps o => [(4, o), (10, v_l), (11, .int .i64 (l.length : Int)), (12, .int .i64 (k : Int))]) (fun k ps o hh => Ext h hh ∧ DeepO hh o ps h.size ∧ k ≤ l.length ∧ ps.map Pk.p = wd ((l.map Pk.p).take k)) (fun k ps o => l.length - k) 0 [] (.slice none 0 0) ⟨rfl, rfl, rfl, rfl⟩ ⟨E2, (DeepO.nil _ _), (by simp [wd])⟩ ?_
    rintro k ps o R6 h5 ⟨Eh, s_o, ⟨hk, hps⟩⟩
    have zEh := Eh.size
    have f7 := s_l.ext Eh
    have in8 := fun p hp => (in_l p hp).ext Eh
    have lt_o := s_o.lt
    have fr_o := s_o.fr
    have hpl : ps.length ≤ 40 := by (have h1 := congrArg List.length hps); (have h2 := wd_len ((l.map Pk.p).take k)); simp only [List.length_map, List.length_take] at h1 h2; (have h3 := (by assumption : PksOk (l.map Pk.p)).1); simp only [List.length_map] at h3; omega
    refine v_seq ?_
    refine v_ops ?_
    refine s_pure (.bool (decide ((k : Int) < (l.length : Int)))) (fun _ q => q) ?_
    refine s_nil ?_
    refine p_seqN ?_
    refine v_seq ?_
    refine v_cond rfl (fun c9 => ?_) (fun c9 => ?_)
    ·
      refine v_skip ?_
      refine p_seqN ?_
      refine v_seq ?_
      refine v_block ?_
      refine v_seq ?_
      refine v_ops ?_
      have hk10 : k < l.length := (by first | omega | (simp; omega))
      obtain ⟨x11, hx11⟩ : ∃ x, l[k]? = some x := ⟨_, List.getElem?_eq_getElem hk10⟩
      refine s_pure (.pointer (some ⟨sblk v_l, soff v_l + k * 4, none⟩)) (fun _ q => f7.idx (k := k) rfl hk10 q) ?_
      have s12 := in8 x11 (List.mem_of_getElem? hx11)
      refine s_load (.agg #[.int .i64 x11.message, .int .i64 x11.part, .int .i64 x11.parts, x11.sv.v]) (fun _ q => f7.loadN hx11 rfl q) ?_
      refine s_new (fun h14 b13 hbb13 hzb13 eh14 bxb13 => ?_)
      have E15 := Eh.trans eh14
      have z16 := eh14.size
      have lbb13 := bxb13.lt
      refine s_stBx (.agg #[.int .i64 x11.message, .int .i64 x11.part, .int .i64 x11.parts, x11.sv.v]) [.int .i64 x11.message, .int .i64 x11.part, .int .i64 x11.parts, x11.sv.v] [.int .i64 x11.message, .int .i64 x11.part, .int .i64 x11.parts, x11.sv.v] bxb13 rfl rfl rfl rfl (by simp) (all_cons rfl (all_cons rfl (all_cons rfl (all_cons s12.one1 all_nil)))) rfl (fun h17 mh17 sh17 bxx18 => ?_)
      have E19 := E15.mod mh17 (fun b hb => by simp at hb; omega)
      refine s_nil ?_
      refine p_seqN ?_
      refine v_seq ?_
      refine v_ops ?_
      refine s_pure o (fun _ q => q) ?_
      refine s_pure (.func (.func 60) #[] #[.pointer (some ⟨b13, 0, none⟩)]) (fun _ q => q) ?_
      have f20 := ((s_o.ext eh14).mod mh17 (fun b hb hc => by simp at hc; have := lt_o b hb; omega))
      have f21 := ((s12.ext eh14).mod mh17 (fun b hb hc => by simp at hc; have := (inlt_l x11 (List.mem_of_getElem? hx11)) b hb; omega))
      refine s_call [o, .func (.func 60) #[] #[.pointer (some ⟨b13, 0, none⟩)]] rfl (slices_ContainsFunc_Limpl_Packet_impl_Packet_ok o ps 60 #[] #[.pointer (some ⟨b13, 0, none⟩)] (fun x : Pk => decide ((Pk.p x11) = x.p)) _ f20.row.toSl f20.insL (fun x hx h2 e2 => impl_WithoutDoubles_1_ok x.p x.sv.v (Pk.p x11) x11.sv.v b13 27 h2 ((f20.insL x hx).ext e2) (f21.ext e2) (bxx18.ext e2))) ?_
      rintro _ h22 ⟨rfl, eh22⟩
      have E23 := E19.trans eh22
      have z24 := eh22.size
      refine s_pure (.bool (!(ps.any (fun x : Pk => decide ((Pk.p x11) = x.p))))) (fun _ q => q) ?_
      refine s_nil ?_
      refine p_seqN ?_
      refine v_cond rfl (fun c25 => ?_) (fun c25 => ?_)
      ·
        refine v_ops ?_
        refine s_pure o (fun _ q => q) ?_
        have f26 := (bxx18.ext eh22)
        refine s_load (.agg #[.int .i64 x11.message, .int .i64 x11.part, .int .i64 x11.parts, x11.sv.v]) (fun _ q => f26.loadA rfl q) ?_
        have f27 := (f21.ext eh22)
        refine s_call [.agg #[.int .i64 x11.message, .int .i64 x11.part, .int .i64 x11.parts, x11.sv.v]] rfl (impl_clonePacket_ok (Pk.p x11) x11.sv.v _ f27 (by (have h3 := (by assumption : PksOk (l.map Pk.p)).2 _ (List.mem_map_of_mem (List.mem_of_getElem? (by assumption : l[k]? = some _)))); (have h4 := h3.2.2.2.1); simp only at h4 ⊢; omega)) ?_
        rintro _ h29 ⟨r28, rfl, s_r28, fr_r28, eh29⟩
        have E30 := E23.trans eh29
        have z31 := eh29.size
        have lt_r28 := s_r28.lt
        obtain ⟨sv32, rfl⟩ := s_r28.sv
        refine s_row (α := Pk) [(⟨(Pk.p x11).message, (Pk.p x11).part, (Pk.p x11).parts, sv32, (Pk.p x11).signals⟩ : Pk)] (fun _ q => seg_agg rfl rfl (seg_nil q)) rfl (by simp [maxLen]) (fun r33 h34 eh34 zh34 s_r33 fr_r33 => ?_)
        have E35 := E30.trans eh34
        have z36 := eh34.size
        have lt_r33 := s_r33.lt
        have f39 := (s_r28.ext eh34)
        have f40 := (((f20.ext eh22).ext eh29).ext eh34)
        refine s_app f40.row s_r33 rfl rfl rfl (by simp [maxLen]; omega) (by simp; omega) (fun r37 h38 mh38 zh38 s_r37 ab_r37 => ?_)
        have D_r37 := DeepO.snoc (e := (⟨(Pk.p x11).message, (Pk.p x11).part, (Pk.p x11).parts, sv32, (Pk.p x11).signals⟩ : Pk)) f40 f39 (fr_r28.mono (by omega)) (fun b hb hc => by have := fr_r28 b hb; have := lt_o b hc; omega) (by omega) mh38 s_r37 ab_r37
        have E41 := E35.mod mh38 (fun b hb => by have := (fun b hb => fr_o b (mem_fpts.2 (.inl hb))) b hb; omega)
        have lt_r37 := D_r37.lt
        have fr_r37 := D_r37.fr
        have np42a : ∀ b ∈ blks v_l, b ∉ fpts o ps := (fun b hb hc => by have := lt_l b hb; have := fr_o b hc; omega)
        have np42b : ∀ b ∈ blks v_l, b ∉ blks sv32.v := (fun b hb hc => by have := lt_l b hb; have := fr_r28 b hc; omega)
        have np42 : ∀ b ∈ blks v_l, b ∉ fpts r37 (ps ++ [(⟨(Pk.p x11).message, (Pk.p x11).part, (Pk.p x11).parts, sv32, (Pk.p x11).signals⟩ : Pk)]) := fun b hb => DeepO.snocOut ab_r37 (np42a b hb) (np42b b hb) (by have := lt_l b hb; omega)
        have np43a : ∀ b ∈ blks x11.sv.v, b ∉ fpts o ps := (fun b hb hc => by have := (inlt_l x11 (List.mem_of_getElem? hx11)) b hb; have := fr_o b hc; omega)
        have np43b : ∀ b ∈ blks x11.sv.v, b ∉ blks sv32.v := (fun b hb hc => by have := (inlt_l x11 (List.mem_of_getElem? hx11)) b hb; have := fr_r28 b hc; omega)
        have np43 : ∀ b ∈ blks x11.sv.v, b ∉ fpts r37 (ps ++ [(⟨(Pk.p x11).message, (Pk.p x11).part, (Pk.p x11).parts, sv32, (Pk.p x11).signals⟩ : Pk)]) := fun b hb => DeepO.snocOut ab_r37 (np43a b hb) (np43b b hb) (by have := (inlt_l x11 (List.mem_of_getElem? hx11)) b hb; omega)
        have np44 : b13 ∉ fpts r37 (ps ++ [(⟨(Pk.p x11).message, (Pk.p x11).part, (Pk.p x11).parts, sv32, (Pk.p x11).signals⟩ : Pk)]) := DeepO.snocOut ab_r37 (fun hc => by have := lt_o _ hc; omega) (fun hc => by have := fr_r28 _ hc; omega) (by omega)
        refine s_pure r37 (fun _ q => q) ?_
        refine s_nil ?_
        refine p_blkN ?_
        refine p_seqN ?_
        refine v_ops ?_
        refine s_pure (.int .i64 ((k : Int) + 1)) (fun _ q => ArithVC.mk (by omega) q) ?_
        refine s_pure (.int .i64 ((k : Int) + 1)) (fun _ q => q) ?_
        refine s_nil ?_
        exact p_lpN ⟨k + 1, (ps ++ [(⟨(Pk.p x11).message, (Pk.p x11).part, (Pk.p x11).parts, sv32, (Pk.p x11).signals⟩ : Pk)]), r37, ⟨rfl, rfl, rfl, rfl⟩, ⟨E41, (D_r37.mono (by omega)), (by first | exact ⟨by omega, wd_skip hps (by assumption) (by first | assumption | simp_all)⟩ | exact ⟨by omega, wd_add (x := x11) hps (by assumption) rfl (by first | assumption | simp_all)⟩)⟩, by omega⟩
      ·
        have c25 := Classical.not_not.1 c25
        refine v_skip ?_
        refine p_blkN ?_
        refine p_seqN ?_
        refine v_ops ?_
        refine s_pure (.int .i64 ((k : Int) + 1)) (fun _ q => ArithVC.mk (by omega) q) ?_
        refine s_pure (.int .i64 ((k : Int) + 1)) (fun _ q => q) ?_
        refine s_nil ?_
        have f45 := (f20.ext eh22)
        exact p_lpN ⟨k + 1, ps, o, ⟨rfl, rfl, rfl, rfl⟩, ⟨E23, (f45.mono (by omega)), (by first | exact ⟨by omega, wd_skip hps (by assumption) (by first | assumption | simp_all)⟩ | exact ⟨by omega, wd_add (x := x11) hps (by assumption) rfl (by first | assumption | simp_all)⟩)⟩, by omega⟩
    ·
      refine v_exit ?_
      refine p_seqX ?_
      refine p_lpX ?_
      refine p_blkX ?_
      refine p_seqN ?_
      refine v_seq ?_
      refine v_ops ?_
      refine s_pure o (fun _ q => q) ?_
      refine s_pure o (fun _ q => q) ?_
      refine s_pure (.bool true) (fun _ q => q) ?_
      refine s_nil ?_
      refine p_seqN ?_
      refine v_ret ?_
      refine p_ret [o, .bool true] (.tuple #[o, .bool true]) (fun _ q => q) rfl ?_
      have ho : wdOut (l.map Pk.p) = ((ps.map Pk.p), true) := by first | exact wd_no (by assumption) | exact wd_yes hps (by assumption) (by assumption)
      exact ⟨o, ps, by first | (rw [ho]; done) | rfl, (s_o.mono (by omega)), (congrArg (fun o => o.1) ho).symm, Eh⟩

set_option maxRecDepth 10000 in
set_option maxHeartbeats 4000000 in
theorem spec_WithoutDoubles_ok (v_l : Value) (l : List Pk) (d_l : List (PkP)) (h : Heap) (s_l : Sl h v_l l) (in_l : ∀ p ∈ l, Sl h p.sv.v p.sig) (hd_l : l.map Pk.p = d_l) : Cn f_spec_WithoutDoubles [v_l] h fun v h' => ∃ r0 : Value, ∃ qr0 : List Pk, v = .tuple #[r0, .bool ((wdOut d_l).2)] ∧ DeepO h' r0 qr0 h.size ∧ qr0.map Pk.p = (wdOut d_l).1 ∧ Ext h h' := by
  subst hd_l
  have lt_l := s_l.lt
  have l63_l := s_l.len63
  have inlt_l := fun p hp => (in_l p hp).lt
  refine calls_of r_spec_WithoutDoubles ?_
  refine v_seq ?_
  refine v_ops ?_
  refine s_pure (.slice none 0 0) (fun _ q => q) ?_
  refine s_pure (.bool false) (fun _ q => q) ?_
  refine s_nil ?_
  refine p_seqN ?_
  refine v_seq ?_
  refine v_seq ?_
  refine v_ops ?_
  refine s_pure v_l (fun _ q => q) ?_
  refine s_call [v_l] rfl (spec_pkAll_ok v_l l (l.map Pk.p) _ s_l in_l rfl) ?_
  rintro _ h1 ⟨rfl, eh1⟩
  have E2 := (Ext.refl h).trans eh1
  have z3 := eh1.size
  refine s_pure (.bool (!decide (PksOk (l.map Pk.p)))) (fun _ q => q) ?_
  refine s_nil ?_
  refine p_seqN ?_
  refine v_cond rfl (fun c4 => ?_) (fun c4 => ?_)
  ·
    refine v_seq ?_
    refine v_ops ?_
    refine s_pure (.slice none 0 0) (fun _ q => q) ?_
    refine s_pure (.bool false) (fun _ q => q) ?_
    refine s_nil ?_
    refine p_seqN ?_
    refine v_ret ?_
    refine p_seqR ?_
    refine p_ret [.slice none 0 0, .bool false] (.tuple #[.slice none 0 0, .bool false]) (fun _ q => q) rfl ?_
    have ho : wdOut (l.map Pk.p) = ([], false) := by first | exact wd_no (by assumption) | exact wd_yes hps (by assumption) (by assumption)
    exact ⟨(.slice none 0 0), [], by first | (rw [ho]; done) | rfl, DeepO.nil _ _, (congrArg (fun o => o.1) ho).symm, E2⟩
  ·
    have c4 := Classical.not_not.1 c4
    refine v_skip ?_
    refine p_seqN ?_
    refine v_seq ?_
    refine v_ops ?_
    refine s_pure (.slice none 0 0) (fun _ q => q) ?_
    refine s_nil ?_
    refine p_seqN ?_
    refine v_seq ?_
    refine v_seq ?_
    refine v_ops ?_
    refine s_pure v_l (fun _ q => q) ?_
    refine s_pure (.int .i64 (l.length : Int)) (fun _ q => s_l.lenVC q) ?_
    refine s_pure (.int .i64 0) (fun _ q => q) ?_
    refine s_nil ?_
    refine p_seqN ?_
    refine v_block ?_
    refine v_loop3 (α := Nat) (β := List Pk) (γ := Value) (fun k ps o => [(4, o), (13, v_l), (14, .int .i64 (l.length : Int)), (15, .int .i64 (k : Int))]) (fun k ps o hh => Ext h hh ∧ DeepO hh o ps h.size ∧ k ≤ l.length ∧ ps.map Pk.p = wd ((l.map Pk.p).take k)) (fun k ps o => l.length - k) 0 [] (.slice none 0 0) ⟨rfl, rfl, rfl, rfl⟩ ⟨E2, (DeepO.nil _ _), (by simp [wd])⟩ ?_
    rintro k ps o R6 h5 ⟨Eh, s_o, ⟨hk, hps⟩⟩
    have zEh := Eh.size
    have f7 := s_l.ext Eh
    have in8 := fun p hp => (in_l p hp).ext Eh
    have lt_o := s_o.lt
    have fr_o := s_o.fr
    have hpl : ps.length ≤ 40 := by (have h1 := congrArg List.length hps); (have h2 := wd_len ((l.map Pk.p).take k)); simp only [List.length_map, List.length_take] at h1 h2; (have h3 := (by assumption : PksOk (l.map Pk.p)).1); simp only [List.length_map] at h3; omega
    refine v_seq ?_
    refine v_ops ?_
    refine s_pure (.bool (decide ((k : Int) < (l.length : Int)))) (fun _ q => q) ?_
    refine s_nil ?_
    refine p_seqN ?_
    refine v_seq ?_
    refine v_cond rfl (fun c9 => ?_) (fun c9 => ?_)
    ·
      refine v_skip ?_
      refine p_seqN ?_
      refine v_seq ?_
      refine v_block ?_
      refine v_seq ?_
      refine v_ops ?_
      have hk10 : k < l.length := (by first | omega | (simp; omega))
      obtain ⟨x11, hx11⟩ : ∃ x, l[k]? = some x := ⟨_, List.getElem?_eq_getElem hk10⟩
      refine s_pure (.pointer (some ⟨sblk v_l, soff v_l + k * 4, none⟩)) (fun _ q => f7.idx (k := k) rfl hk10 q) ?_
      have s12 := in8 x11 (List.mem_of_getElem? hx11)
      refine s_load (.agg #[.int .i64 x11.message, .int .i64 x11.part, .int .i64 x11.parts, x11.sv.v]) (fun _ q => f7.loadN hx11 rfl q) ?_
      refine s_new (fun h14 b13 hbb13 hzb13 eh14 bxb13 => ?_)
      have E15 := Eh.trans eh14
      have z16 := eh14.size
      have lbb13 := bxb13.lt
      refine s_stBx (.agg #[.int .i64 x11.message, .int .i64 x11.part, .int .i64 x11.parts, x11.sv.v]) [.int .i64 x11.message, .int .i64 x11.part, .int .i64 x11.parts, x11.sv.v] [.int .i64 x11.message, .int .i64 x11.part, .int .i64 x11.parts, x11.sv.v] bxb13 rfl rfl rfl rfl (by simp) (all_cons rfl (all_cons rfl (all_cons rfl (all_cons s12.one1 all_nil)))) rfl (fun h17 mh17 sh17 bxx18 => ?_)
      have E19 := E15.mod mh17 (fun b hb => by simp at hb; omega)
      refine s_nil ?_
      refine p_seqN ?_
      refine v_seq ?_
      refine v_ops ?_
      refine s_pure (.bool false) (fun _ q => q) ?_
      refine s_nil ?_
      refine p_seqN ?_
      refine v_seq ?_
      refine v_seq ?_
      refine v_ops ?_
      refine s_pure o (fun _ q => q) ?_
      refine s_pure (.int .i64 (ps.length : Int)) (fun _ q => s_o.row.lenVC q) ?_
      refine s_pure (.int .i64 0) (fun _ q => q) ?_
      refine s_nil ?_
      refine p_seqN ?_
      refine v_block ?_
      have nk21 : b13 ∉ fpts o ps := (fun hc => by have := lt_o _ hc; omega)
      have f22 := ((s_o.ext eh14).mod mh17 (fun b hb hc => by simp at hc; have := lt_o b hb; omega))
      refine v_loop2 (α := Nat) (β := Bool) (fun j db => [(4, o), (6, .pointer (some ⟨b13, 0, none⟩)), (7, .bool db), (13, v_l), (14, .int .i64 (l.length : Int)), (15, .int .i64 (k : Int)), (19, o), (20, .int .i64 (ps.length : Int)), (21, .int .i64 (j : Int))]) (fun j db hh => Ext h hh ∧ Bx hh b13 [.int .i64 x11.message, .int .i64 x11.part, .int .i64 x11.parts, x11.sv.v] 27 ∧ DeepO hh o ps h.size ∧ j ≤ ps.length ∧ db = (ps.take j).any (fun y => decide (x11.p = y.p))) (fun j db => ps.length - j) 0 false ⟨rfl, rfl, rfl, rfl, rfl, rfl, rfl, rfl, rfl⟩ ⟨E19, bxx18, (f22.mono (by omega)), (by simp)⟩ ?_
      rintro j db R23 h20 ⟨Eh, bxb13, s_o, ⟨hj, hdb⟩⟩
      have zEh := Eh.size
      have f24 := s_l.ext Eh
      have in25 := fun p hp => (in_l p hp).ext Eh
      have lbb13 := bxb13.lt
      have s26 := in25 x11 (List.mem_of_getElem? hx11)
      refine v_seq ?_
      refine v_ops ?_
      refine s_pure (.bool (decide ((j : Int) < (ps.length : Int)))) (fun _ q => q) ?_
      refine s_nil ?_
      refine p_seqN ?_
      refine v_seq ?_
      refine v_cond rfl (fun c27 => ?_) (fun c27 => ?_)
      ·
        refine v_skip ?_
        refine p_seqN ?_
        refine v_seq ?_
        refine v_block ?_
        refine v_seq ?_
        refine v_ops ?_
        have hk28 : j < ps.length := (by first | omega | (simp; omega))
        obtain ⟨x29, hx29⟩ : ∃ x, ps[j]? = some x := ⟨_, List.getElem?_eq_getElem hk28⟩
        refine s_pure (.pointer (some ⟨sblk o, soff o + j * 4, none⟩)) (fun _ q => s_o.row.idx (k := j) rfl hk28 q) ?_
        have s30 := s_o.insL x29 (List.mem_of_getElem? hx29)
        refine s_load (.agg #[.int .i64 x29.message, .int .i64 x29.part, .int .i64 x29.parts, x29.sv.v]) (fun _ q => s_o.row.loadN hx29 rfl q) ?_
        refine s_new (fun h32 b31 hbb31 hzb31 eh32 bxb31 => ?_)
        have E33 := Eh.trans eh32
        have z34 := eh32.size
        have lbb31 := bxb31.lt
        refine s_stBx (.agg #[.int .i64 x29.message, .int .i64 x29.part, .int .i64 x29.parts, x29.sv.v]) [.int .i64 x29.message, .int .i64 x29.part, .int .i64 x29.parts, x29.sv.v] [.int .i64 x29.message, .int .i64 x29.part, .int .i64 x29.parts, x29.sv.v] bxb31 rfl rfl rfl rfl (by simp) (all_cons rfl (all_cons rfl (all_cons rfl (all_cons s30.one1 all_nil)))) rfl (fun h35 mh35 sh35 bxx36 => ?_)
        have E37 := E33.mod mh35 (fun b hb => by simp at hb; omega)
        refine s_nil ?_
        refine p_seqN ?_
        refine v_ops ?_
        refine s_pure (.bool db) (fun _ q => q) ?_
        refine s_pure (.bool db) (fun _ q => q) ?_
        refine s_splitT rfl (fun c38 => ?_) (fun c38 => ?_)
        ·
          refine s_pass rfl ?_
          refine s_pass rfl ?_
          refine s_pass rfl ?_
          refine s_pure (.bool true) (fun _ q => q) ?_
          refine s_pure (.bool true) (fun _ q => q) ?_
          refine s_nil ?_
          refine p_blkN ?_
          refine p_seqN ?_
          refine v_ops ?_
          refine s_pure (.int .i64 ((j : Int) + 1)) (fun _ q => ArithVC.mk (by omega) q) ?_
          refine s_pure (.int .i64 ((j : Int) + 1)) (fun _ q => q) ?_
          refine s_nil ?_
          have f39 := ((bxb13.ext eh32).mod mh35 (by simp; omega))
          have f40 := ((s_o.ext eh32).mod mh35 (fun b hb hc => by simp at hc; have := lt_o b hb; omega))
          exact p_lpN ⟨j + 1, true, ⟨rfl, rfl, rfl, rfl, rfl, rfl, rfl, rfl, rfl⟩, ⟨E37, f39, (f40.mono (by omega)), (by exact ⟨by omega, by rw [any_snoc (by assumption), ← hdb]; first | (rw [(by assumption : db = true)]; rfl) | (rw [Bool.eq_false_iff.2 (by assumption : ¬ db = true)]; rfl)⟩)⟩, by omega⟩
        ·
          refine s_run rfl ?_
          have f41 := ((bxb13.ext eh32).mod mh35 (by simp; omega))
          refine s_load (.agg #[.int .i64 x11.message, .int .i64 x11.part, .int .i64 x11.parts, x11.sv.v]) (fun _ q => f41.loadA rfl q) ?_
          refine s_run rfl ?_
          refine s_load (.agg #[.int .i64 x29.message, .int .i64 x29.part, .int .i64 x29.parts, x29.sv.v]) (fun _ q => bxx36.loadA rfl q) ?_
          refine s_run rfl ?_
          have f42 := ((s26.ext eh32).mod mh35 (fun b hb hc => by simp at hc; have := (inlt_l x11 (List.mem_of_getElem? hx11)) b hb; omega))
          have f43 := ((s30.ext eh32).mod mh35 (fun b hb hc => by simp at hc; have := (fun b hb => lt_o b (mem_fpts.2 (.inr ⟨x29, List.mem_of_getElem? hx29, hb⟩))) b hb; omega))
          refine s_call [.agg #[.int .i64 x11.message, .int .i64 x11.part, .int .i64 x11.parts, x11.sv.v], .agg #[.int .i64 x29.message, .int .i64 x29.part, .int .i64 x29.parts, x29.sv.v]] rfl (spec_pkSame_ok (Pk.p x11) x11.sv.v (Pk.p x29) x29.sv.v _ f42 f43) ?_
          rintro _ h44 ⟨rfl, eh44⟩
          have E45 := E37.trans eh44
          have z46 := eh44.size
          refine s_pure (.bool (decide ((Pk.p x11) = (Pk.p x29)))) (fun _ q => q) ?_
          refine s_pure (.bool (decide ((Pk.p x11) = (Pk.p x29)))) (fun _ q => q) ?_
          refine s_nil ?_
          refine p_blkN ?_
          refine p_seqN ?_
          refine v_ops ?_
          refine s_pure (.int .i64 ((j : Int) + 1)) (fun _ q => ArithVC.mk (by omega) q) ?_
          refine s_pure (.int .i64 ((j : Int) + 1)) (fun _ q => q) ?_
          refine s_nil ?_
          have f47 := (f41.ext eh44)
          have f48 := (((s_o.ext eh32).mod mh35 (fun b hb hc => by simp at hc; have := lt_o b hb; omega)).ext eh44)
          exact p_lpN ⟨j + 1, decide ((Pk.p x11) = (Pk.p x29)), ⟨rfl, rfl, rfl, rfl, rfl, rfl, rfl, rfl, rfl⟩, ⟨E45, f47, (f48.mono (by omega)), (by exact ⟨by omega, by rw [any_snoc (by assumption), ← hdb]; first | (rw [(by assumption : db = true)]; rfl) | (rw [Bool.eq_false_iff.2 (by assumption : ¬ db = true)]; rfl)⟩)⟩, by omega⟩
      ·
        refine v_exit ?_
        refine p_seqX ?_
        refine p_lpX ?_
        refine p_blkX ?_
        refine p_seqN ?_
        refine v_seq ?_
        refine v_ops ?_
        refine s_pure (.bool db) (fun _ q => q) ?_
        refine s_pure (.bool (!db)) (fun _ q => q) ?_
        refine s_nil ?_
        refine p_seqN ?_
        refine v_cond rfl (fun c49 => ?_) (fun c49 => ?_)
        ·
          refine v_ops ?_
          refine s_pure o (fun _ q => q) ?_
          refine s_load (.agg #[.int .i64 x11.message, .int .i64 x11.part, .int .i64 x11.parts, x11.sv.v]) (fun _ q => bxb13.loadA rfl q) ?_
          refine s_call [.agg #[.int .i64 x11.message, .int .i64 x11.part, .int .i64 x11.parts, x11.sv.v]] rfl (spec_pkOwn_ok (Pk.p x11) x11.sv.v _ s26 (by (have h3 := (by assumption : PksOk (l.map Pk.p)).2 _ (List.mem_map_of_mem (List.mem_of_getElem? (by assumption : l[k]? = some _)))); (have h4 := h3.2.2.2.1); simp only at h4 ⊢; omega)) ?_
          rintro _ h51 ⟨r50, rfl, s_r50, fr_r50, eh51⟩
          have E52 := Eh.trans eh51
          have z53 := eh51.size
          have lt_r50 := s_r50.lt
          obtain ⟨sv54, rfl⟩ := s_r50.sv
          refine s_row (α := Pk) [(⟨(Pk.p x11).message, (Pk.p x11).part, (Pk.p x11).parts, sv54, (Pk.p x11).signals⟩ : Pk)] (fun _ q => seg_agg rfl rfl (seg_nil q)) rfl (by simp [maxLen]) (fun r55 h56 eh56 zh56 s_r55 fr_r55 => ?_)
          have E57 := E52.trans eh56
          have z58 := eh56.size
          have lt_r55 := s_r55.lt
          have f61 := (s_r50.ext eh56)
          have f62 := ((s_o.ext eh51).ext eh56)
          refine s_app f62.row s_r55 rfl rfl rfl (by simp [maxLen]; omega) (by simp; omega) (fun r59 h60 mh60 zh60 s_r59 ab_r59 => ?_)
          have D_r59 := DeepO.snoc (e := (⟨(Pk.p x11).message, (Pk.p x11).part, (Pk.p x11).parts, sv54, (Pk.p x11).signals⟩ : Pk)) f62 f61 (fr_r50.mono (by omega)) (fun b hb hc => by have := fr_r50 b hb; have := lt_o b hc; omega) (by omega) mh60 s_r59 ab_r59
          have E63 := E57.mod mh60 (fun b hb => by have := (fun b hb => fr_o b (mem_fpts.2 (.inl hb))) b hb; omega)
          have lt_r59 := D_r59.lt
          have fr_r59 := D_r59.fr
          have np64a : ∀ b ∈ blks v_l, b ∉ fpts o ps := (fun b hb hc => by have := lt_l b hb; have := fr_o b hc; omega)
          have np64b : ∀ b ∈ blks v_l, b ∉ blks sv54.v := (fun b hb hc => by have := lt_l b hb; have := fr_r50 b hc; omega)
          have np64 : ∀ b ∈ blks v_l, b ∉ fpts r59 (ps ++ [(⟨(Pk.p x11).message, (Pk.p x11).part, (Pk.p x11).parts, sv54, (Pk.p x11).signals⟩ : Pk)]) := fun b hb => DeepO.snocOut ab_r59 (np64a b hb) (np64b b hb) (by have := lt_l b hb; omega)
          have np65 : b13 ∉ fpts r59 (ps ++ [(⟨(Pk.p x11).message, (Pk.p x11).part, (Pk.p x11).parts, sv54, (Pk.p x11).signals⟩ : Pk)]) := DeepO.snocOut ab_r59 nk21 (fun hc => by have := fr_r50 _ hc; omega) (by omega)
          have np66a : ∀ b ∈ blks x11.sv.v, b ∉ fpts o ps := (fun b hb hc => by have := (inlt_l x11 (List.mem_of_getElem? hx11)) b hb; have := fr_o b hc; omega)
          have np66b : ∀ b ∈ blks x11.sv.v, b ∉ blks sv54.v := (fun b hb hc => by have := (inlt_l x11 (List.mem_of_getElem? hx11)) b hb; have := fr_r50 b hc; omega)
          have np66 : ∀ b ∈ blks x11.sv.v, b ∉ fpts r59 (ps ++ [(⟨(Pk.p x11).message, (Pk.p x11).part, (Pk.p x11).parts, sv54, (Pk.p x11).signals⟩ : Pk)]) := fun b hb => DeepO.snocOut ab_r59 (np66a b hb) (np66b b hb) (by have := (inlt_l x11 (List.mem_of_getElem? hx11)) b hb; omega)
          refine s_pure r59 (fun _ q => q) ?_
          refine s_nil ?_
          refine p_blkN ?_
          refine p_seqN ?_
          refine v_ops ?_
          refine s_pure (.int .i64 ((k : Int) + 1)) (fun _ q => ArithVC.mk (by omega) q) ?_
          refine s_pure (.int .i64 ((k : Int) + 1)) (fun _ q => q) ?_
          refine s_nil ?_
          exact p_lpN ⟨k + 1, (ps ++ [(⟨(Pk.p x11).message, (Pk.p x11).part, (Pk.p x11).parts, sv54, (Pk.p x11).signals⟩ : Pk)]), r59, ⟨rfl, rfl, rfl, rfl⟩, ⟨E63, (D_r59.mono (by omega)), (by (rw [take_all (by assumption)] at hdb); first | exact ⟨by omega, wd_skip hps (by assumption) (by rw [← hdb]; first | assumption | simp_all)⟩ | exact ⟨by omega, wd_add (x := x11) hps (by assumption) rfl (by rw [← hdb]; first | assumption | simp_all)⟩)⟩, by omega⟩
        ·
          have c49 := Classical.not_not.1 c49
          refine v_skip ?_
          refine p_blkN ?_
          refine p_seqN ?_
          refine v_ops ?_
          refine s_pure (.int .i64 ((k : Int) + 1)) (fun _ q => ArithVC.mk (by omega) q) ?_
          refine s_pure (.int .i64 ((k : Int) + 1)) (fun _ q => q) ?_
          refine s_nil ?_
          exact p_lpN ⟨k + 1, ps, o, ⟨rfl, rfl, rfl, rfl⟩, ⟨Eh, (s_o.mono (by omega)), (by (rw [take_all (by assumption)] at hdb); first | exact ⟨by omega, wd_skip hps (by assumption) (by rw [← hdb]; first | assumption | simp_all)⟩ | exact ⟨by omega, wd_add (x := x11) hps (by assumption) rfl (by rw [← hdb]; first | assumption | simp_all)⟩)⟩, by omega⟩
    ·
      refine v_exit ?_
      refine p_seqX ?_
      refine p_lpX ?_
      refine p_blkX ?_
      refine p_seqN ?_
      refine v_seq ?_
      refine v_ops ?_
      refine s_pure o (fun _ q => q) ?_
      refine s_pure o (fun _ q => q) ?_
      refine s_pure (.bool true) (fun _ q => q) ?_
      refine s_nil ?_
      refine p_seqN ?_
      refine v_ret ?_
      refine p_ret [o, .bool true] (.tuple #[o, .bool true]) (fun _ q => q) rfl ?_
      have ho : wdOut (l.map Pk.p) = ((ps.map Pk.p), true) := by first | exact wd_no (by assumption) | exact wd_yes hps (by assumption) (by assumption)
      exact ⟨o, ps, by first | (rw [ho]; done) | rfl, (s_o.mono (by omega)), (congrArg (fun o => o.1) ho).symm, Eh⟩


theorem wd_sub (l : List PkP) : ∀ p ∈ wd l, p ∈ l := by
  have : ∀ (l out : List PkP), ∀ p ∈ l.foldl wdStep out, p ∈ out ∨ p ∈ l := by
    intro l
    induction l with
    | nil => intro out p hp; exact .inl hp
    | cons q l ih =>
      intro out p hp
      rcases ih (wdStep out q) p hp with h | h
      · unfold wdStep at h
        split at h
        · exact .inl h
        · rcases List.mem_append.1 h with h | h
          · exact .inl h
          · obtain rfl := List.mem_singleton.1 h; exact .inr (List.mem_cons_self ..)
      · exact .inr (List.mem_cons_of_mem _ h)
  intro p hp
  exact (this l [] p hp).resolve_left (by simp)
theorem szD_le {l : List PkP} {n : Nat} (hl : l.length ≤ n) (h : ∀ p ∈ l, p.signals.length ≤ 8) : szD l ≤ 11 * n := by
  have : szD l ≤ 11 * l.length := by
    clear hl
    induction l with
    | nil => simp [szD]
    | cons p l ih =>
      have h1 := ih (fun p hp => h p (List.mem_cons_of_mem _ hp))
      have h2 := h p (List.mem_cons_self ..)
      simp only [szD, List.length_cons, List.map_cons, List.sum_cons] at *; omega
  omega
theorem pksok_sig {l : List PkP} (h : PksOk l) : ∀ p ∈ l, p.signals.length ≤ 8 := fun p hp => by have := (h.2 p hp).2.2.2.1; omega
theorem wd_sz (l : List PkP) : szD (wdOut l).1 ≤ 440 := by
  unfold wdOut
  split
  · rename_i c
    exact szD_le (n := 40) (Nat.le_trans (wd_len l) c.1) (fun p hp => pksok_sig c p (wd_sub l p hp))
  · simp [szD]
/-- the pairs of i with those behind it, up to j -/
def cfPart (l : List PkP) (i : Nat) (p : PkP) (j : Nat) : List (List Int) := ((List.range j).filter fun k => decide (i < k) && match l[k]? with | some q => decide (clash p q) | none => false).map fun (k : Nat) => [(i : Int), (k : Int)]
def cfRow (l : List PkP) (i : Nat) : List (List Int) := match l[i]? with | some p => cfPart l i p l.length | none => []
def cf (l : List PkP) (n : Nat) : List (List Int) := (List.range n).flatMap (cfRow l)
theorem cf_succ (l : List PkP) (n : Nat) {p : PkP} (h : l[n]? = some p) : cf l (n + 1) = cf l n ++ cfPart l n p l.length := by
  unfold cf
  rw [List.range_succ, List.flatMap_append]
  simp [cfRow, h]
theorem cfPart_zero (l : List PkP) (i : Nat) (p : PkP) : cfPart l i p (i + 1) = [] := by
  unfold cfPart
  rw [List.map_eq_nil_iff, List.filter_eq_nil_iff]
  intro k hk
  have := List.mem_range.1 hk
  simp; omega
theorem cfPart_yes {l : List PkP} {i j : Nat} {p q : PkP} (hj : i < j) (hq : l[j]? = some q) (h : clash p q) : cfPart l i p (j + 1) = cfPart l i p j ++ [[(i : Int), (j : Int)]] := by
  unfold cfPart
  rw [List.range_succ, List.filter_append, List.map_append]
  simp [hj, hq, h]
theorem cfPart_no {l : List PkP} {i j : Nat} {p q : PkP} (hj : i < j) (hq : l[j]? = some q) (h : ¬ clash p q) : cfPart l i p (j + 1) = cfPart l i p j := by
  unfold cfPart
  rw [List.range_succ, List.filter_append, List.map_append]
  simp [hj, hq, h]
theorem cfPart_len (l : List PkP) (i : Nat) (p : PkP) (j : Nat) : (cfPart l i p j).length ≤ j := by
  unfold cfPart
  rw [List.length_map]
  exact Nat.le_trans (List.length_filter_le _ _) (by simp)
theorem cf_len (l : List PkP) (n : Nat) : (cf l n).length ≤ n * l.length := by
  induction n with
  | zero => simp [cf]
  | succ n ih =>
    unfold cf at *
    rw [List.range_succ, List.flatMap_append, List.length_append, Nat.add_mul]
    have : (List.flatMap (cfRow l) [n]).length ≤ l.length := by
      simp only [List.flatMap_cons, List.flatMap_nil, List.append_nil, cfRow]
      split
      · exact cfPart_len _ _ _ _
      · simp
    omega
noncomputable def cfOut (l : List PkP) : List (List Int) × Bool := if PksOk l then (cf l l.length, true) else ([], false)
theorem cf_no {l : List PkP} (h : ¬ PksOk l) : cfOut l = ([], false) := by rw [cfOut, if_neg h]
theorem cf_yes {l : List PkP} {k : Nat} {r : List (List Int)} (hr : r = cf l k) (hk : k = l.length) (h : PksOk l) : cfOut l = (r, true) := by
  rw [cfOut, if_pos h, hr, hk]
theorem cf_two (l : List PkP) (n : Nat) : ∀ r ∈ cf l n, r.length = 2 := by
  intro r hr
  unfold cf at hr
  obtain ⟨i, _, hi⟩ := List.mem_flatMap.1 hr
  unfold cfRow at hi
  split at hi
  · unfold cfPart at hi
    obtain ⟨k, _, rfl⟩ := List.mem_map.1 hi
    rfl
  · simp at hi
theorem szRD_two {l : List (List Int)} (h : ∀ r ∈ l, r.length = 2) : szRD l = 2 * l.length := by
  induction l with
  | nil => rfl
  | cons r l ih =>
    have h1 := ih (fun r hr => h r (List.mem_cons_of_mem _ hr))
    have h2 := h r (List.mem_cons_self ..)
    simp only [szRD, List.map_cons, List.sum_cons, List.length_cons] at *; omega
theorem cf_sz (l : List PkP) : szRD (cfOut l).1 ≤ 3200 := by
  unfold cfOut
  split
  · rename_i c
    simp only
    rw [szRD_two (cf_two l l.length)]
    have h1 := cf_len l l.length
    have h2 : l.length * l.length ≤ 40 * 40 := Nat.mul_le_mul c.1 c.1
    omega
  · simp [szRD]

set_option maxRecDepth 10000 in
set_option maxHeartbeats 4000000 in
theorem impl_ConflictsIn_ok (v_l : Value) (l : List Pk) (d_l : List (PkP)) (h : Heap) (s_l : Sl h v_l l) (in_l : ∀ p ∈ l, Sl h p.sv.v p.sig) (hd_l : l.map Pk.p = d_l) : Cn f_impl_ConflictsIn [v_l] h fun v h' => ∃ r0 : Value, ∃ qr0 : List RowI, v = .tuple #[r0, .bool ((cfOut d_l).2)] ∧ DeepO h' r0 qr0 h.size ∧ qr0.map RowI.sig = (cfOut d_l).1 ∧ Ext h h' := by
  subst hd_l
  have lt_l := s_l.lt
  have l63_l := s_l.len63
  have inlt_l := fun p hp => (in_l p hp).lt
  refine calls_of r_impl_ConflictsIn ?_
  refine v_seq ?_
  refine v_ops ?_
  refine s_pure (.slice none 0 0) (fun _ q => q) ?_
  refine s_pure (.bool false) (fun _ q => q) ?_
  refine s_nil ?_
  refine p_seqN ?_
  refine v_seq ?_
  refine v_seq ?_
  refine v_ops ?_
  refine s_pure v_l (fun _ q => q) ?_
  refine s_call [v_l] rfl (impl_ArePackets_ok v_l l (l.map Pk.p) _ s_l in_l rfl) ?_
  rintro _ h1 ⟨rfl, eh1⟩
  have E2 := (Ext.refl h).trans eh1
  have z3 := eh1.size
  refine s_pure (.bool (!decide (PksOk (l.map Pk.p)))) (fun _ q => q) ?_
  refine s_nil ?_
  refine p_seqN ?_
  refine v_cond rfl (fun c4 => ?_) (fun c4 => ?_)
  ·
    refine v_seq ?_
    refine v_ops ?_
    refine s_pure (.slice none 0 0) (fun _ q => q) ?_
    refine s_pure (.bool false) (fun _ q => q) ?_
    refine s_nil ?_
    refine p_seqN ?_
    refine v_ret ?_
    refine p_seqR ?_
    refine p_ret [.slice none 0 0, .bool false] (.tuple #[.slice none 0 0, .bool false]) (fun _ q => q) rfl ?_
    have ho : cfOut (l.map Pk.p) = ([], false) := by first | exact cf_no (by assumption) | exact cf_yes hps (by simp; omega) (by assumption)
    exact ⟨(.slice none 0 0), [], by first | (rw [ho]; done) | rfl, DeepO.nil _ _, (congrArg (fun o => o.1) ho).symm, E2⟩
  ·
    have c4 := Classical.not_not.1 c4
    refine v_skip ?_
    refine p_seqN ?_
    refine v_seq ?_
    refine v_ops ?_
    refine s_pure (.slice none 0 0) (fun _ q => q) ?_
    refine s_nil ?_
    refine p_seqN ?_
    refine v_seq ?_
    refine v_seq ?_
    refine v_ops ?_
    refine s_pure v_l (fun _ q => q) ?_
    refine s_pure (.int .i64 (l.length : Int)) (fun _ q => s_l.lenVC q) ?_
    refine s_pure (.int .i64 0) (fun _ q => q) ?_
    refine s_nil ?_
    refine p_seqN ?_
    refine v_block ?_
    refine v_loop3 (α := Nat) (β := List RowI) (γ := Value) (fun k ps o => [(0, v_l), (4, o), (11, .int .i64 (l.length : Int)), (12, .int .i64 (k : Int))]) (fun k ps o hh => Ext h hh ∧ DeepO hh o ps h.size ∧ k ≤ l.length ∧ ps.map RowI.sig = cf (l.map Pk.p) k) (fun k ps o => l.length - k) 0 [] (.slice none 0 0) ⟨rfl, rfl, rfl, rfl⟩ ⟨E2, (DeepO.nil _ _), (by simp [cf])⟩ ?_
    rintro k ps o R6 h5 ⟨Eh, s_o, ⟨hk, hps⟩⟩
    have zEh := Eh.size
    have f7 := s_l.ext Eh
    have in8 := fun p hp => (in_l p hp).ext Eh
    have lt_o := s_o.lt
    have fr_o := s_o.fr
    have l40 : l.length ≤ 40 := by (have h3 := (by assumption : PksOk (l.map Pk.p)).1); simpa using h3
    refine v_seq ?_
    refine v_ops ?_
    refine s_pure (.bool (decide ((k : Int) < (l.length : Int)))) (fun _ q => q) ?_
    refine s_nil ?_
    refine p_seqN ?_
    refine v_seq ?_
    refine v_cond rfl (fun c9 => ?_) (fun c9 => ?_)
    ·
      refine v_skip ?_
      refine p_seqN ?_
      refine v_seq ?_
      refine v_block ?_
      refine v_seq ?_
      refine v_ops ?_
      refine s_pure (.int .i64 (k : Int)) (fun _ q => q) ?_
      refine s_pure (.int .i64 (k : Int)) (fun _ q => q) ?_
      refine s_nil ?_
      refine p_seqN ?_
      refine v_seq ?_
      refine v_ops ?_
      refine s_pure (.int .i64 (k : Int)) (fun _ q => q) ?_
      refine s_pure (.int .i64 ((k : Int) + 1)) (fun _ q => ArithVC.mk (by omega) q) ?_
      refine s_pure (.int .i64 ((k : Int) + 1)) (fun _ q => q) ?_
      refine s_nil ?_
      refine p_seqN ?_
      refine v_block ?_
      refine v_loop3 (α := Nat) (β := List RowI) (γ := Value) (fun j qs u => [(0, v_l), (4, u), (5, .int .i64 (k : Int)), (6, .int .i64 (j : Int)), (11, .int .i64 (l.length : Int)), (12, .int .i64 (k : Int))]) (fun j qs u hh => Ext h hh ∧ DeepO hh u qs h.size ∧ k < j ∧ j ≤ l.length ∧ ∀ p, l[k]? = some p → qs.map RowI.sig = cf (l.map Pk.p) k ++ cfPart (l.map Pk.p) k p.p j) (fun j qs u => l.length - j) (k + 1) ps o ⟨rfl, rfl, rfl, rfl, rfl, rfl⟩ ⟨Eh, (s_o.mono (by omega)), (by exact ⟨by omega, by omega, fun p hp => by rw [cfPart_zero, hps, List.append_nil]⟩)⟩ ?_
      rintro j qs u R11 h10 ⟨Eh, s_u, ⟨hkj, hj, hqs⟩⟩
      have zEh := Eh.size
      have f12 := s_l.ext Eh
      have in13 := fun p hp => (in_l p hp).ext Eh
      have lt_u := s_u.lt
      have fr_u := s_u.fr
      have qlen : qs.length ≤ 2000 := by (obtain ⟨p, hp⟩ : ∃ p, l[k]? = some p := ⟨_, List.getElem?_eq_getElem (by omega)⟩); (have h1 := congrArg List.length (hqs p hp)); (have h2 := cf_len (l.map Pk.p) k); (have h3 := cfPart_len (l.map Pk.p) k p.p j); simp only [List.length_map, List.length_append] at h1 h2; (have h4 : k * l.length ≤ 40 * 40 := Nat.mul_le_mul (by omega) (by omega)); omega
      refine v_seq ?_
      refine v_seq ?_
      refine v_ops ?_
      refine s_pure (.int .i64 (j : Int)) (fun _ q => q) ?_
      refine s_pure v_l (fun _ q => q) ?_
      refine s_pure (.int .i64 (l.length : Int)) (fun _ q => f12.lenVC q) ?_
      refine s_pure (.bool (decide ((j : Int) < (l.length : Int)))) (fun _ q => q) ?_
      refine s_nil ?_
      refine p_seqN ?_
      refine v_cond rfl (fun c14 => ?_) (fun c14 => ?_)
      ·
        refine v_skip ?_
        refine p_seqN ?_
        refine v_seq ?_
        refine v_block ?_
        refine v_seq ?_
        refine v_drawF ?_
        refine d_pureT v_l (fun _ q => q) ?_
        refine d_pureT (.int .i64 (k : Int)) (fun _ q => q) ?_
        have hk15 : k < l.length := (by first | omega | (simp; omega))
        obtain ⟨x16, hx16⟩ : ∃ x, l[k]? = some x := ⟨_, List.getElem?_eq_getElem hk15⟩
        refine d_pureT (.pointer (some ⟨sblk v_l, soff v_l + k * 4, none⟩)) (fun _ q => f12.idx (k := k) rfl hk15 q) ?_
        refine d_pureT v_l (fun _ q => q) ?_
        refine d_pureT (.int .i64 (j : Int)) (fun _ q => q) ?_
        have hk17 : j < l.length := (by first | omega | (simp; omega))
        obtain ⟨x18, hx18⟩ : ∃ x, l[j]? = some x := ⟨_, List.getElem?_eq_getElem hk17⟩
        refine d_pureT (.pointer (some ⟨sblk v_l, soff v_l + j * 4, none⟩)) (fun _ q => f12.idx (k := j) rfl hk17 q) ?_
        have s19 := in13 x16 (List.mem_of_getElem? hx16)
        refine d_loadO (.agg #[.int .i64 x16.message, .int .i64 x16.part, .int .i64 x16.parts, x16.sv.v]) (fun _ q => f12.loadN hx16 rfl q) ?_
        have s20 := in13 x18 (List.mem_of_getElem? hx18)
        refine d_loadO (.agg #[.int .i64 x18.message, .int .i64 x18.part, .int .i64 x18.parts, x18.sv.v]) (fun _ q => f12.loadN hx18 rfl q) ?_
        refine d_eff ?_
        refine s_call [.agg #[.int .i64 x16.message, .int .i64 x16.part, .int .i64 x16.parts, x16.sv.v], .agg #[.int .i64 x18.message, .int .i64 x18.part, .int .i64 x18.parts, x18.sv.v]] rfl (impl_inConflict_ok (Pk.p x16) x16.sv.v (Pk.p x18) x18.sv.v _ s19 s20) ?_
        rintro _ h21 ⟨rfl, eh21⟩
        have E22 := Eh.trans eh21
        have z23 := eh21.size
        have G24 := eh21
        refine s_nil ⟨fun hl => (by cases hl), ?_⟩
        refine d_done ?_
        refine p_seqN ?_
        refine v_cond rfl (fun c25 => ?_) (fun c25 => ?_)
        ·
          refine v_ops ?_
          refine s_pure u (fun _ q => q) ?_
          refine s_pure (.int .i64 (k : Int)) (fun _ q => q) ?_
          refine s_pure (.int .i64 (j : Int)) (fun _ q => q) ?_
          refine s_row (α := Int) [(k : Int), (j : Int)] (fun _ q => seg_i rfl (seg_i rfl (seg_nil q))) rfl (by simp [maxLen]) (fun r26 h27 eh27 zh27 s_r26 fr_r26 => ?_)
          have E28 := E22.trans eh27
          have z29 := eh27.size
          have lt_r26 := s_r26.lt
          obtain ⟨sv30, rfl⟩ := s_r26.sv
          refine s_row (α := RowI) [(⟨sv30, [(k : Int), (j : Int)]⟩ : RowI)] (fun _ q => seg_sl s_r26 rfl (seg_nil q)) rfl (by simp [maxLen]) (fun r31 h32 eh32 zh32 s_r31 fr_r31 => ?_)
          have E33 := E28.trans eh32
          have z34 := eh32.size
          have lt_r31 := s_r31.lt
          have f37 := (s_r26.ext eh32)
          have f38 := (((s_u.ext eh21).ext eh27).ext eh32)
          refine s_app f38.row s_r31 rfl rfl rfl (by simp [maxLen]; omega) (by simp; omega) (fun r35 h36 mh36 zh36 s_r35 ab_r35 => ?_)
          have D_r35 := DeepO.snoc (e := (⟨sv30, [(k : Int), (j : Int)]⟩ : RowI)) f38 f37 (fr_r26.mono (by omega)) (fun b hb hc => by have := fr_r26 b hb; have := lt_u b hc; omega) (by omega) mh36 s_r35 ab_r35
          have E39 := E33.mod mh36 (fun b hb => by have := (fun b hb => fr_u b (mem_fpts.2 (.inl hb))) b hb; omega)
          have lt_r35 := D_r35.lt
          have fr_r35 := D_r35.fr
          have np40a : ∀ b ∈ blks v_l, b ∉ fpts u qs := (fun b hb hc => by have := lt_l b hb; have := fr_u b hc; omega)
          have np40b : ∀ b ∈ blks v_l, b ∉ blks sv30.v := (fun b hb hc => by have := lt_l b hb; have := fr_r26 b hc; omega)
          have np40 : ∀ b ∈ blks v_l, b ∉ fpts r35 (qs ++ [(⟨sv30, [(k : Int), (j : Int)]⟩ : RowI)]) := fun b hb => DeepO.snocOut ab_r35 (np40a b hb) (np40b b hb) (by have := lt_l b hb; omega)
          have np41a : ∀ b ∈ blks x16.sv.v, b ∉ fpts u qs := (fun b hb hc => by have := (inlt_l x16 (List.mem_of_getElem? hx16)) b hb; have := fr_u b hc; omega)
          have np41b : ∀ b ∈ blks x16.sv.v, b ∉ blks sv30.v := (fun b hb hc => by have := (inlt_l x16 (List.mem_of_getElem? hx16)) b hb; have := fr_r26 b hc; omega)
          have np41 : ∀ b ∈ blks x16.sv.v, b ∉ fpts r35 (qs ++ [(⟨sv30, [(k : Int), (j : Int)]⟩ : RowI)]) := fun b hb => DeepO.snocOut ab_r35 (np41a b hb) (np41b b hb) (by have := (inlt_l x16 (List.mem_of_getElem? hx16)) b hb; omega)
          have np42a : ∀ b ∈ blks x18.sv.v, b ∉ fpts u qs := (fun b hb hc => by have := (inlt_l x18 (List.mem_of_getElem? hx18)) b hb; have := fr_u b hc; omega)
          have np42b : ∀ b ∈ blks x18.sv.v, b ∉ blks sv30.v := (fun b hb hc => by have := (inlt_l x18 (List.mem_of_getElem? hx18)) b hb; have := fr_r26 b hc; omega)
          have np42 : ∀ b ∈ blks x18.sv.v, b ∉ fpts r35 (qs ++ [(⟨sv30, [(k : Int), (j : Int)]⟩ : RowI)]) := fun b hb => DeepO.snocOut ab_r35 (np42a b hb) (np42b b hb) (by have := (inlt_l x18 (List.mem_of_getElem? hx18)) b hb; omega)
          refine s_pure r35 (fun _ q => q) ?_
          refine s_nil ?_
          refine p_blkN ?_
          refine p_seqN ?_
          refine v_ops ?_
          refine s_pure (.int .i64 (j : Int)) (fun _ q => q) ?_
          refine s_pure (.int .i64 ((j : Int) + 1)) (fun _ q => ArithVC.mk (by omega) q) ?_
          refine s_pure (.int .i64 ((j : Int) + 1)) (fun _ q => q) ?_
          refine s_nil ?_
          exact p_lpN ⟨j + 1, (qs ++ [(⟨sv30, [(k : Int), (j : Int)]⟩ : RowI)]), r35, ⟨rfl, rfl, rfl, rfl, rfl, rfl⟩, ⟨E39, (D_r35.mono (by omega)), (by first | exact ⟨by omega, by omega, fun p hp => by (obtain rfl := Option.some.inj (hp.symm.trans (by assumption : l[k]? = some x16))); rw [List.map_append, hqs _ hp, cfPart_yes hkj (map_get (by assumption)) (by assumption), List.append_assoc]; rfl⟩ | exact ⟨by omega, by omega, fun p hp => by (obtain rfl := Option.some.inj (hp.symm.trans (by assumption : l[k]? = some x16))); rw [hqs _ hp, cfPart_no hkj (map_get (by assumption)) (by assumption)]⟩)⟩, by omega⟩
        ·
          refine v_skip ?_
          refine p_blkN ?_
          refine p_seqN ?_
          refine v_ops ?_
          refine s_pure (.int .i64 (j : Int)) (fun _ q => q) ?_
          refine s_pure (.int .i64 ((j : Int) + 1)) (fun _ q => ArithVC.mk (by omega) q) ?_
          refine s_pure (.int .i64 ((j : Int) + 1)) (fun _ q => q) ?_
          refine s_nil ?_
          have f43 := (s_u.ext eh21)
          exact p_lpN ⟨j + 1, qs, u, ⟨rfl, rfl, rfl, rfl, rfl, rfl⟩, ⟨E22, (f43.mono (by omega)), (by first | exact ⟨by omega, by omega, fun p hp => by (obtain rfl := Option.some.inj (hp.symm.trans (by assumption : l[k]? = some x16))); rw [List.map_append, hqs _ hp, cfPart_yes hkj (map_get (by assumption)) (by assumption), List.append_assoc]; rfl⟩ | exact ⟨by omega, by omega, fun p hp => by (obtain rfl := Option.some.inj (hp.symm.trans (by assumption : l[k]? = some x16))); rw [hqs _ hp, cfPart_no hkj (map_get (by assumption)) (by assumption)]⟩)⟩, by omega⟩
      ·
        refine v_exit ?_
        refine p_seqX ?_
        refine p_lpX ?_
        refine p_blkX ?_
        refine p_blkN ?_
        refine p_seqN ?_
        refine v_ops ?_
        refine s_pure (.int .i64 ((k : Int) + 1)) (fun _ q => ArithVC.mk (by omega) q) ?_
        refine s_pure (.int .i64 ((k : Int) + 1)) (fun _ q => q) ?_
        refine s_nil ?_
        exact p_lpN ⟨k + 1, qs, u, ⟨rfl, rfl, rfl, rfl⟩, ⟨Eh, (s_u.mono (by omega)), (by (obtain ⟨p, hp⟩ : ∃ p, l[k]? = some p := ⟨_, List.getElem?_eq_getElem (by omega)⟩); exact ⟨by omega, by rw [cf_succ _ _ (map_get hp), hqs p hp]; congr 2; simp; omega⟩)⟩, by omega⟩
    ·
      refine v_exit ?_
      refine p_seqX ?_
      refine p_lpX ?_
      refine p_blkX ?_
      refine p_seqN ?_
      refine v_seq ?_
      refine v_ops ?_
      refine s_pure o (fun _ q => q) ?_
      refine s_pure o (fun _ q => q) ?_
      refine s_pure (.bool true) (fun _ q => q) ?_
      refine s_nil ?_
      refine p_seqN ?_
      refine v_ret ?_
      refine p_ret [o, .bool true] (.tuple #[o, .bool true]) (fun _ q => q) rfl ?_
      have ho : cfOut (l.map Pk.p) = ((ps.map RowI.sig), true) := by first | exact cf_no (by assumption) | exact cf_yes hps (by simp; omega) (by assumption)
      exact ⟨o, ps, by first | (rw [ho]; done) | rfl, (s_o.mono (by omega)), (congrArg (fun o => o.1) ho).symm, Eh⟩

set_option maxRecDepth 10000 in
set_option maxHeartbeats 4000000 in
theorem spec_ConflictsIn_ok (v_l : Value) (l : List Pk) (d_l : List (PkP)) (h : Heap) (s_l : Sl h v_l l) (in_l : ∀ p ∈ l, Sl h p.sv.v p.sig) (hd_l : l.map Pk.p = d_l) : Cn f_spec_ConflictsIn [v_l] h fun v h' => ∃ r0 : Value, ∃ qr0 : List RowI, v = .tuple #[r0, .bool ((cfOut d_l).2)] ∧ DeepO h' r0 qr0 h.size ∧ qr0.map RowI.sig = (cfOut d_l).1 ∧ Ext h h' := by
  subst hd_l
  have lt_l := s_l.lt
  have l63_l := s_l.len63
  have inlt_l := fun p hp => (in_l p hp).lt
  refine calls_of r_spec_ConflictsIn ?_
  refine v_seq ?_
  refine v_ops ?_
  refine s_pure (.slice none 0 0) (fun _ q => q) ?_
  refine s_pure (.bool false) (fun _ q => q) ?_
  refine s_nil ?_
  refine p_seqN ?_
  refine v_seq ?_
  refine v_seq ?_
  refine v_ops ?_
  refine s_pure v_l (fun _ q => q) ?_
  refine s_call [v_l] rfl (spec_pkAll_ok v_l l (l.map Pk.p) _ s_l in_l rfl) ?_
  rintro _ h1 ⟨rfl, eh1⟩
  have E2 := (Ext.refl h).trans eh1
  have z3 := eh1.size
  refine s_pure (.bool (!decide (PksOk (l.map Pk.p)))) (fun _ q => q) ?_
  refine s_nil ?_
  refine p_seqN ?_
  refine v_cond rfl (fun c4 => ?_) (fun c4 => ?_)
  ·
    refine v_seq ?_
    refine v_ops ?_
    refine s_pure (.slice none 0 0) (fun _ q => q) ?_
    refine s_pure (.bool false) (fun _ q => q) ?_
    refine s_nil ?_
    refine p_seqN ?_
    refine v_ret ?_
    refine p_seqR ?_
    refine p_ret [.slice none 0 0, .bool false] (.tuple #[.slice none 0 0, .bool false]) (fun _ q => q) rfl ?_
    have ho : cfOut (l.map Pk.p) = ([], false) := by first | exact cf_no (by assumption) | exact cf_yes hps (by simp; omega) (by assumption)
    exact ⟨(.slice none 0 0), [], by first | (rw [ho]; done) | rfl, DeepO.nil _ _, (congrArg (fun o => o.1) ho).symm, E2⟩
  ·
    have c4 := Classical.not_not.1 c4
    refine v_skip ?_
    refine p_seqN ?_
    refine v_seq ?_
    refine v_ops ?_
    refine s_pure (.slice none 0 0) (fun _ q => q) ?_
    refine s_nil ?_
    refine p_seqN ?_
    refine v_seq ?_
    refine v_seq ?_
    refine v_ops ?_
    refine s_pure v_l (fun _ q => q) ?_
    refine s_pure (.int .i64 (l.length : Int)) (fun _ q => s_l.lenVC q) ?_
    refine s_pure (.int .i64 0) (fun _ q => q) ?_
    refine s_nil ?_
    refine p_seqN ?_
    refine v_block ?_
    refine v_loop3 (α := Nat) (β := List RowI) (γ := Value) (fun k ps o => [(0, v_l), (4, o), (11, v_l), (12, .int .i64 (l.length : Int)), (13, .int .i64 (k : Int))]) (fun k ps o hh => Ext h hh ∧ DeepO hh o ps h.size ∧ k ≤ l.length ∧ ps.map RowI.sig = cf (l.map Pk.p) k) (fun k ps o => l.length - k) 0 [] (.slice none 0 0) ⟨rfl, rfl, rfl, rfl, rfl⟩ ⟨E2, (DeepO.nil _ _), (by simp [cf])⟩ ?_
    rintro k ps o R6 h5 ⟨Eh, s_o, ⟨hk, hps⟩⟩
    have zEh := Eh.size
    have f7 := s_l.ext Eh
    have in8 := fun p hp => (in_l p hp).ext Eh
    have lt_o := s_o.lt
    have fr_o := s_o.fr
    have l40 : l.length ≤ 40 := by (have h3 := (by assumption : PksOk (l.map Pk.p)).1); simpa using h3
    refine v_seq ?_
    refine v_ops ?_
    refine s_pure (.bool (decide ((k : Int) < (l.length : Int)))) (fun _ q => q) ?_
    refine s_nil ?_
    refine p_seqN ?_
    refine v_seq ?_
    refine v_cond rfl (fun c9 => ?_) (fun c9 => ?_)
    ·
      refine v_skip ?_
      refine p_seqN ?_
      refine v_seq ?_
      refine v_block ?_
      refine v_seq ?_
      refine v_ops ?_
      refine s_pure (.int .i64 (k : Int)) (fun _ q => q) ?_
      have hk10 : k < l.length := (by first | omega | (simp; omega))
      obtain ⟨x11, hx11⟩ : ∃ x, l[k]? = some x := ⟨_, List.getElem?_eq_getElem hk10⟩
      refine s_pure (.pointer (some ⟨sblk v_l, soff v_l + k * 4, none⟩)) (fun _ q => f7.idx (k := k) rfl hk10 q) ?_
      have s12 := in8 x11 (List.mem_of_getElem? hx11)
      refine s_load (.agg #[.int .i64 x11.message, .int .i64 x11.part, .int .i64 x11.parts, x11.sv.v]) (fun _ q => f7.loadN hx11 rfl q) ?_
      refine s_new (fun h14 b13 hbb13 hzb13 eh14 bxb13 => ?_)
      have E15 := Eh.trans eh14
      have z16 := eh14.size
      have lbb13 := bxb13.lt
      refine s_pure (.int .i64 (k : Int)) (fun _ q => q) ?_
      refine s_stBx (.agg #[.int .i64 x11.message, .int .i64 x11.part, .int .i64 x11.parts, x11.sv.v]) [.int .i64 x11.message, .int .i64 x11.part, .int .i64 x11.parts, x11.sv.v] [.int .i64 x11.message, .int .i64 x11.part, .int .i64 x11.parts, x11.sv.v] bxb13 rfl rfl rfl rfl (by simp) (all_cons rfl (all_cons rfl (all_cons rfl (all_cons s12.one1 all_nil)))) rfl (fun h17 mh17 sh17 bxx18 => ?_)
      have E19 := E15.mod mh17 (fun b hb => by simp at hb; omega)
      refine s_nil ?_
      refine p_seqN ?_
      refine v_seq ?_
      refine v_ops ?_
      refine s_pure (.int .i64 (k : Int)) (fun _ q => q) ?_
      refine s_pure (.int .i64 ((k : Int) + 1)) (fun _ q => ArithVC.mk (by omega) q) ?_
      refine s_pure (.int .i64 ((k : Int) + 1)) (fun _ q => q) ?_
      refine s_nil ?_
      refine p_seqN ?_
      refine v_block ?_
      have f21 := ((s_o.ext eh14).mod mh17 (fun b hb hc => by simp at hc; have := lt_o b hb; omega))
      refine v_loop3 (α := Nat) (β := List RowI) (γ := Value) (fun j qs u => [(0, v_l), (4, u), (5, .int .i64 (k : Int)), (6, .pointer (some ⟨b13, 0, none⟩)), (7, .int .i64 (j : Int)), (11, v_l), (12, .int .i64 (l.length : Int)), (13, .int .i64 (k : Int))]) (fun j qs u hh => Ext h hh ∧ Bx hh b13 [.int .i64 x11.message, .int .i64 x11.part, .int .i64 x11.parts, x11.sv.v] 27 ∧ DeepO hh u qs h.size ∧ b13 ∉ fpts u qs ∧ k < j ∧ j ≤ l.length ∧ ∀ p, l[k]? = some p → qs.map RowI.sig = cf (l.map Pk.p) k ++ cfPart (l.map Pk.p) k p.p j) (fun j qs u => l.length - j) (k + 1) ps o ⟨rfl, rfl, rfl, rfl, rfl, rfl, rfl, rfl⟩ ⟨E19, bxx18, (f21.mono (by omega)), (fun hc => by have := lt_o _ hc; omega), (by exact ⟨by omega, by omega, fun p hp => by rw [cfPart_zero, hps, List.append_nil]⟩)⟩ ?_
      rintro j qs u R22 h20 ⟨Eh, bxb13, s_u, np_b13_u, ⟨hkj, hj, hqs⟩⟩
      have zEh := Eh.size
      have f23 := s_l.ext Eh
      have in24 := fun p hp => (in_l p hp).ext Eh
      have lbb13 := bxb13.lt
      have lt_u := s_u.lt
      have fr_u := s_u.fr
      have s25 := in24 x11 (List.mem_of_getElem? hx11)
      have qlen : qs.length ≤ 2000 := by (obtain ⟨p, hp⟩ : ∃ p, l[k]? = some p := ⟨_, List.getElem?_eq_getElem (by omega)⟩); (have h1 := congrArg List.length (hqs p hp)); (have h2 := cf_len (l.map Pk.p) k); (have h3 := cfPart_len (l.map Pk.p) k p.p j); simp only [List.length_map, List.length_append] at h1 h2; (have h4 : k * l.length ≤ 40 * 40 := Nat.mul_le_mul (by omega) (by omega)); omega
      refine v_seq ?_
      refine v_seq ?_
      refine v_ops ?_
      refine s_pure (.int .i64 (j : Int)) (fun _ q => q) ?_
      refine s_pure v_l (fun _ q => q) ?_
      refine s_pure (.int .i64 (l.length : Int)) (fun _ q => f23.lenVC q) ?_
      refine s_pure (.bool (decide ((j : Int) < (l.length : Int)))) (fun _ q => q) ?_
      refine s_nil ?_
      refine p_seqN ?_
      refine v_cond rfl (fun c26 => ?_) (fun c26 => ?_)
      ·
        refine v_skip ?_
        refine p_seqN ?_
        refine v_seq ?_
        refine v_block ?_
        refine v_seq ?_
        refine v_drawF ?_
        refine d_pureT v_l (fun _ q => q) ?_
        refine d_pureT (.int .i64 (j : Int)) (fun _ q => q) ?_
        have hk27 : j < l.length := (by first | omega | (simp; omega))
        obtain ⟨x28, hx28⟩ : ∃ x, l[j]? = some x := ⟨_, List.getElem?_eq_getElem hk27⟩
        refine d_pureT (.pointer (some ⟨sblk v_l, soff v_l + j * 4, none⟩)) (fun _ q => f23.idx (k := j) rfl hk27 q) ?_
        refine d_loadO (.agg #[.int .i64 x11.message, .int .i64 x11.part, .int .i64 x11.parts, x11.sv.v]) (fun _ q => bxb13.loadA rfl q) ?_
        have s29 := in24 x28 (List.mem_of_getElem? hx28)
        refine d_loadO (.agg #[.int .i64 x28.message, .int .i64 x28.part, .int .i64 x28.parts, x28.sv.v]) (fun _ q => f23.loadN hx28 rfl q) ?_
        refine d_eff ?_
        refine s_call [.agg #[.int .i64 x11.message, .int .i64 x11.part, .int .i64 x11.parts, x11.sv.v], .agg #[.int .i64 x28.message, .int .i64 x28.part, .int .i64 x28.parts, x28.sv.v]] rfl (spec_pkClash_ok (Pk.p x11) x11.sv.v (Pk.p x28) x28.sv.v _ s25 s29) ?_
        rintro _ h30 ⟨rfl, eh30⟩
        have E31 := Eh.trans eh30
        have z32 := eh30.size
        have G33 := eh30
        refine s_nil ⟨fun hl => (by cases hl), ?_⟩
        refine d_done ?_
        refine p_seqN ?_
        refine v_cond rfl (fun c34 => ?_) (fun c34 => ?_)
        ·
          refine v_ops ?_
          refine s_pure u (fun _ q => q) ?_
          refine s_pure (.int .i64 (k : Int)) (fun _ q => q) ?_
          refine s_pure (.int .i64 (j : Int)) (fun _ q => q) ?_
          refine s_row (α := Int) [(k : Int), (j : Int)] (fun _ q => seg_i rfl (seg_i rfl (seg_nil q))) rfl (by simp [maxLen]) (fun r35 h36 eh36 zh36 s_r35 fr_r35 => ?_)
          have E37 := E31.trans eh36
          have z38 := eh36.size
          have lt_r35 := s_r35.lt
          obtain ⟨sv39, rfl⟩ := s_r35.sv
          refine s_row (α := RowI) [(⟨sv39, [(k : Int), (j : Int)]⟩ : RowI)] (fun _ q => seg_sl s_r35 rfl (seg_nil q)) rfl (by simp [maxLen]) (fun r40 h41 eh41 zh41 s_r40 fr_r40 => ?_)
          have E42 := E37.trans eh41
          have z43 := eh41.size
          have lt_r40 := s_r40.lt
          have f46 := (s_r35.ext eh41)
          have f47 := (((s_u.ext eh30).ext eh36).ext eh41)
          refine s_app f47.row s_r40 rfl rfl rfl (by simp [maxLen]; omega) (by simp; omega) (fun r44 h45 mh45 zh45 s_r44 ab_r44 => ?_)
          have D_r44 := DeepO.snoc (e := (⟨sv39, [(k : Int), (j : Int)]⟩ : RowI)) f47 f46 (fr_r35.mono (by omega)) (fun b hb hc => by have := fr_r35 b hb; have := lt_u b hc; omega) (by omega) mh45 s_r44 ab_r44
          have E48 := E42.mod mh45 (fun b hb => by have := (fun b hb => fr_u b (mem_fpts.2 (.inl hb))) b hb; omega)
          have lt_r44 := D_r44.lt
          have fr_r44 := D_r44.fr
          have np49a : ∀ b ∈ blks v_l, b ∉ fpts u qs := (fun b hb hc => by have := lt_l b hb; have := fr_u b hc; omega)
          have np49b : ∀ b ∈ blks v_l, b ∉ blks sv39.v := (fun b hb hc => by have := lt_l b hb; have := fr_r35 b hc; omega)
          have np49 : ∀ b ∈ blks v_l, b ∉ fpts r44 (qs ++ [(⟨sv39, [(k : Int), (j : Int)]⟩ : RowI)]) := fun b hb => DeepO.snocOut ab_r44 (np49a b hb) (np49b b hb) (by have := lt_l b hb; omega)
          have np50 : b13 ∉ fpts r44 (qs ++ [(⟨sv39, [(k : Int), (j : Int)]⟩ : RowI)]) := DeepO.snocOut ab_r44 np_b13_u (fun hc => by have := fr_r35 _ hc; omega) (by omega)
          have np51a : ∀ b ∈ blks x11.sv.v, b ∉ fpts u qs := (fun b hb hc => by have := (inlt_l x11 (List.mem_of_getElem? hx11)) b hb; have := fr_u b hc; omega)
          have np51b : ∀ b ∈ blks x11.sv.v, b ∉ blks sv39.v := (fun b hb hc => by have := (inlt_l x11 (List.mem_of_getElem? hx11)) b hb; have := fr_r35 b hc; omega)
          have np51 : ∀ b ∈ blks x11.sv.v, b ∉ fpts r44 (qs ++ [(⟨sv39, [(k : Int), (j : Int)]⟩ : RowI)]) := fun b hb => DeepO.snocOut ab_r44 (np51a b hb) (np51b b hb) (by have := (inlt_l x11 (List.mem_of_getElem? hx11)) b hb; omega)
          have np52a : ∀ b ∈ blks x28.sv.v, b ∉ fpts u qs := (fun b hb hc => by have := (inlt_l x28 (List.mem_of_getElem? hx28)) b hb; have := fr_u b hc; omega)
          have np52b : ∀ b ∈ blks x28.sv.v, b ∉ blks sv39.v := (fun b hb hc => by have := (inlt_l x28 (List.mem_of_getElem? hx28)) b hb; have := fr_r35 b hc; omega)
          have np52 : ∀ b ∈ blks x28.sv.v, b ∉ fpts r44 (qs ++ [(⟨sv39, [(k : Int), (j : Int)]⟩ : RowI)]) := fun b hb => DeepO.snocOut ab_r44 (np52a b hb) (np52b b hb) (by have := (inlt_l x28 (List.mem_of_getElem? hx28)) b hb; omega)
          refine s_pure r44 (fun _ q => q) ?_
          refine s_nil ?_
          refine p_blkN ?_
          refine p_seqN ?_
          refine v_ops ?_
          refine s_pure (.int .i64 (j : Int)) (fun _ q => q) ?_
          refine s_pure (.int .i64 ((j : Int) + 1)) (fun _ q => ArithVC.mk (by omega) q) ?_
          refine s_pure (.int .i64 ((j : Int) + 1)) (fun _ q => q) ?_
          refine s_nil ?_
          have f53 := ((((bxb13.ext eh30).ext eh36).ext eh41).mod mh45 (fun hc => np_b13_u (mem_fpts.2 (.inl hc))))
          exact p_lpN ⟨j + 1, (qs ++ [(⟨sv39, [(k : Int), (j : Int)]⟩ : RowI)]), r44, ⟨rfl, rfl, rfl, rfl, rfl, rfl, rfl, rfl⟩, ⟨E48, f53, (D_r44.mono (by omega)), np50, (by first | exact ⟨by omega, by omega, fun p hp => by (obtain rfl := Option.some.inj (hp.symm.trans (by assumption : l[k]? = some x11))); rw [List.map_append, hqs _ hp, cfPart_yes hkj (map_get (by assumption)) (by assumption), List.append_assoc]; rfl⟩ | exact ⟨by omega, by omega, fun p hp => by (obtain rfl := Option.some.inj (hp.symm.trans (by assumption : l[k]? = some x11))); rw [hqs _ hp, cfPart_no hkj (map_get (by assumption)) (by assumption)]⟩)⟩, by omega⟩
        ·
          refine v_skip ?_
          refine p_blkN ?_
          refine p_seqN ?_
          refine v_ops ?_
          refine s_pure (.int .i64 (j : Int)) (fun _ q => q) ?_
          refine s_pure (.int .i64 ((j : Int) + 1)) (fun _ q => ArithVC.mk (by omega) q) ?_
          refine s_pure (.int .i64 ((j : Int) + 1)) (fun _ q => q) ?_
          refine s_nil ?_
          have f54 := (bxb13.ext eh30)
          have f55 := (s_u.ext eh30)
          exact p_lpN ⟨j + 1, qs, u, ⟨rfl, rfl, rfl, rfl, rfl, rfl, rfl, rfl⟩, ⟨E31, f54, (f55.mono (by omega)), np_b13_u, (by first | exact ⟨by omega, by omega, fun p hp => by (obtain rfl := Option.some.inj (hp.symm.trans (by assumption : l[k]? = some x11))); rw [List.map_append, hqs _ hp, cfPart_yes hkj (map_get (by assumption)) (by assumption), List.append_assoc]; rfl⟩ | exact ⟨by omega, by omega, fun p hp => by (obtain rfl := Option.some.inj (hp.symm.trans (by assumption : l[k]? = some x11))); rw [hqs _ hp, cfPart_no hkj (map_get (by assumption)) (by assumption)]⟩)⟩, by omega⟩
      ·
        refine v_exit ?_
        refine p_seqX ?_
        refine p_lpX ?_
        refine p_blkX ?_
        refine p_blkN ?_
        refine p_seqN ?_
        refine v_ops ?_
        refine s_pure (.int .i64 ((k : Int) + 1)) (fun _ q => ArithVC.mk (by omega) q) ?_
        refine s_pure (.int .i64 ((k : Int) + 1)) (fun _ q => q) ?_
        refine s_nil ?_
        exact p_lpN ⟨k + 1, qs, u, ⟨rfl, rfl, rfl, rfl, rfl⟩, ⟨Eh, (s_u.mono (by omega)), (by (obtain ⟨p, hp⟩ : ∃ p, l[k]? = some p := ⟨_, List.getElem?_eq_getElem (by omega)⟩); exact ⟨by omega, by rw [cf_succ _ _ (map_get hp), hqs p hp]; congr 2; simp; omega⟩)⟩, by omega⟩
    ·
      refine v_exit ?_
      refine p_seqX ?_
      refine p_lpX ?_
      refine p_blkX ?_
      refine p_seqN ?_
      refine v_seq ?_
      refine v_ops ?_
      refine s_pure o (fun _ q => q) ?_
      refine s_pure o (fun _ q => q) ?_
      refine s_pure (.bool true) (fun _ q => q) ?_
      refine s_nil ?_
      refine p_seqN ?_
      refine v_ret ?_
      refine p_ret [o, .bool true] (.tuple #[o, .bool true]) (fun _ q => q) rfl ?_
      have ho : cfOut (l.map Pk.p) = ((ps.map RowI.sig), true) := by first | exact cf_no (by assumption) | exact cf_yes hps (by simp; omega) (by assumption)
      exact ⟨o, ps, by first | (rw [ho]; done) | rfl, (s_o.mono (by omega)), (congrArg (fun o => o.1) ho).symm, Eh⟩

end Go.Proofs.Ytjmcijcdncgaiaa
