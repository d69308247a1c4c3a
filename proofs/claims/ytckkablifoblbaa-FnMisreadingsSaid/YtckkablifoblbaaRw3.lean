/- The laws' helpers on rows of rows of numbers. Condition: none. Printed in part by a program. -/
import Derived.Test.YtckkablifoblbaaLn10
import Derived.Test.YtckkablifoblbaaSzI
namespace Go.Proofs.Ytckkablifoblbaa
open Go.Vc
set_option linter.all false

theorem map_take {α β : Type} (f : α → β) (l : List α) (k : Nat) : (l.take k).map f = (l.map f).take k := List.map_take
theorem map_get {α β : Type} {f : α → β} {l : List α} {k : Nat} {x : α} (h : l[k]? = some x) : (l.map f)[k]? = some (f x) := by simp [h]
theorem take_ext {α : Type} {xs ys : List α} {k : Nat} {x y : α} (h : xs.take k = ys.take k) (hx : xs[k]? = some x) (hy : ys[k]? = some y) (e : x = y) : xs.take (k + 1) = ys.take (k + 1) := by
  rw [snoc_get hx, snoc_get hy, h, e]
theorem get_ne {α : Type} {xs ys : List α} {k : Nat} {x y : α} (hx : xs[k]? = some x) (hy : ys[k]? = some y) (e : ¬ x = y) : ¬ xs = ys := by
  intro h; subst h; rw [hx] at hy; exact e (Option.some.inj hy)

/-- what marking leaves behind -/
def mkR : Int → List RowI → List RowI
  | _, [] => []
  | k, p :: ps => ⟨p.sv, upto k p.sig.length⟩ :: mkR (k + p.sig.length) ps
def szR (ps : List RowI) : Nat := (ps.map fun p => p.sig.length).sum
def szRD (l : List (List Int)) : Nat := (l.map List.length).sum
theorem szR_eq (ps : List RowI) : szR ps = szRD (ps.map RowI.sig) := by simp [szR, szRD, Function.comp_def]
theorem szR_snoc (ps : List RowI) (p : RowI) : szR (ps ++ [p]) = szR ps + p.sig.length := by simp [szR]
theorem szR_take (ps : List RowI) {i : Nat} {p : RowI} (h : ps[i]? = some p) : szR (ps.take (i + 1)) = szR (ps.take i) + p.sig.length := by
  rw [snoc_get h, szR_snoc]
theorem szR_le (ps : List RowI) (k : Nat) : szR (ps.take k) ≤ szR ps := by
  have h : szR ps = szR (ps.take k) + szR (ps.drop k) := by
    unfold szR; rw [← List.sum_append, ← List.map_append, List.take_append_drop]
  omega
theorem sigR_le {ps : List RowI} {k : Nat} {p : RowI} (h : ps[k]? = some p) : p.sig.length + szR (ps.take k) ≤ szR ps := by
  have := szR_le ps (k + 1)
  rw [szR_take ps h] at this; omega
theorem mkR_len (k : Int) (ps : List RowI) : (mkR k ps).length = ps.length := by
  induction ps generalizing k with
  | nil => rfl
  | cons p ps ih => simp [mkR, ih]
theorem mkR_get (k : Int) (ps : List RowI) (i : Nat) (p : RowI) (h : ps[i]? = some p) : (mkR k ps)[i]? = some ⟨p.sv, upto (k + szR (ps.take i)) p.sig.length⟩ := by
  induction ps generalizing k i with
  | nil => simp at h
  | cons q ps ih =>
    cases i with
    | zero => simp at h; subst h; simp [mkR, szR]
    | succ i =>
      simp only [mkR, List.getElem?_cons_succ, List.take_succ_cons]
      rw [ih _ i (by simpa using h)]
      have : k + (q.sig.length : Int) + (szR (ps.take i) : Int) = k + (szR (q :: ps.take i) : Int) := by simp [szR]; omega
      rw [this]
theorem mkR_snoc (k : Int) (l : List RowI) (p : RowI) : mkR k (l ++ [p]) = mkR k l ++ [⟨p.sv, upto (k + szR l) p.sig.length⟩] := by
  induction l generalizing k with
  | nil => simp [mkR, szR]
  | cons q l ih =>
    simp only [List.cons_append, mkR]
    rw [ih]
    have : k + (q.sig.length : Int) + (szR l : Int) = k + (szR (q :: l) : Int) := by simp [szR]; omega
    rw [this]
theorem mkR_step (k : Int) (ps : List RowI) (i : Nat) (p : RowI) (h : ps[i]? = some p) : (mkR k (ps.take i) ++ ps.drop i).set i ⟨p.sv, upto (k + szR (ps.take i)) p.sig.length⟩ = mkR k (ps.take (i + 1)) ++ ps.drop (i + 1) := by
  have hi : i < ps.length := (List.getElem?_eq_some_iff.1 h).1
  have hl : (mkR k (ps.take i)).length = i := by rw [mkR_len]; simp; omega
  rw [List.set_append_right _ _ (by omega), hl, Nat.sub_self, List.drop_eq_getElem_cons hi, List.set_cons_zero, snoc_get h, mkR_snoc, List.append_assoc]; rfl
theorem mkR_at {ps a : List RowI} {n : Int} {k : Nat} {x p : RowI} (hps : ps = mkR n (a.take k) ++ a.drop k) (hp : a[k]? = some p) (hx : ps[k]? = some x) : x = p := by
  have hk : k < a.length := (List.getElem?_eq_some_iff.1 hp).1
  rw [hps, List.getElem?_append_right (by rw [mkR_len]; simp; omega), mkR_len] at hx
  have : k - (a.take k).length = 0 := by simp; omega
  rw [this, List.getElem?_drop, Nat.add_zero, hp] at hx
  exact (Option.some.inj hx).symm
theorem heldR_el {a ps : List RowI} {k0 : Int} {k : Nat} {x p : RowI} (ha : a = mkR k0 ps) (hp : ps[k]? = some p) (hx : a[k]? = some x) : x.sig = upto (k0 + szR (ps.take k)) p.sig.length ∧ x.sig.length = p.sig.length := by
  rw [ha, mkR_get k0 ps k p hp] at hx
  obtain rfl := Option.some.inj hx
  exact ⟨rfl, upto_length _ _⟩
theorem heldR_sig {a ps : List RowI} {k0 m : Int} {k : Nat} {x : RowI} (ha : a = mkR k0 ps) (hm : m = k0 + szR (ps.take k)) (hx : a[k]? = some x) (hk : k < ps.length) : x.sig = upto m x.sig.length := by
  have := heldR_el ha (List.getElem?_eq_getElem hk) hx
  rw [this.2, hm]; exact this.1
theorem heldR_len {a ps : List RowI} {k0 : Int} {k : Nat} {x : RowI} (ha : a = mkR k0 ps) (hx : a[k]? = some x) : x.sig.length ≤ szR ps := by
  have hk : k < ps.length := by have := (List.getElem?_eq_some_iff.1 hx).1; rw [ha, mkR_len] at this; exact this
  have := heldR_el ha (List.getElem?_eq_getElem hk) hx
  have h2 := sigR_le (List.getElem?_eq_getElem hk)
  omega

theorem eqIntSS_ok (v_a : Value) (a : List RowI) (v_b : Value) (b : List RowI) (h : Heap) (s_a : Sl h v_a a) (in_a : ∀ p ∈ a, Sl h p.sv.v p.sig) (s_b : Sl h v_b b) (in_b : ∀ p ∈ b, Sl h p.sv.v p.sig) : Cn f_laws_eqIntSS [v_a, v_b] h fun v h' => v = .bool (decide (a.map RowI.sig = b.map RowI.sig)) ∧ Ext h h' := by
  have lt_a := s_a.lt
  have l63_a := s_a.len63
  have inlt_a := fun p hp => (in_a p hp).lt
  have lt_b := s_b.lt
  have l63_b := s_b.len63
  have inlt_b := fun p hp => (in_b p hp).lt
  refine calls_of r_laws_eqIntSS ?_
  refine v_seq ?_
  refine v_ops ?_
  refine s_pure (.bool false) (fun _ q => q) ?_
  refine s_nil ?_
  refine p_seqN ?_
  refine v_seq ?_
  refine v_seq ?_
  refine v_ops ?_
  refine s_pure v_a (fun _ q => q) ?_
  refine s_pure (.int .i64 (a.length : Int)) (fun _ q => s_a.lenVC q) ?_
  refine s_pure v_b (fun _ q => q) ?_
  refine s_pure (.int .i64 (b.length : Int)) (fun _ q => s_b.lenVC q) ?_
  refine s_pure (.bool ((a.length : Int) != (b.length : Int))) (fun _ q => q) ?_
  refine s_nil ?_
  refine p_seqN ?_
  refine v_cond rfl (fun c1 => ?_) (fun c1 => ?_)
  ·
    refine v_seq ?_
    refine v_ops ?_
    refine s_pure (.bool false) (fun _ q => q) ?_
    refine s_nil ?_
    refine p_seqN ?_
    refine v_ret ?_
    refine p_seqR ?_
    refine p_ret [.bool false] (.bool false) (fun _ q => q) rfl ?_
    have ho : decide (a.map RowI.sig = b.map RowI.sig) = false := by simp only [decide_eq_true_eq, decide_eq_false_iff_not]; first | (intro hab; (have := congrArg List.length hab); simp at this; omega) | exact get_ne (map_get (by assumption)) (map_get (by assumption)) (by assumption) | (rw [← map_take, ← map_take, take_all (by assumption), take_all (by omega)] at hab; exact hab)
    exact ⟨by first | (rw [ho]; done) | rfl, (Ext.refl h)⟩
  ·
    have c1 := Classical.not_not.1 c1
    refine v_skip ?_
    refine p_seqN ?_
    refine v_seq ?_
    refine v_seq ?_
    refine v_ops ?_
    refine s_pure (.int .i64 0) (fun _ q => q) ?_
    refine s_nil ?_
    refine p_seqN ?_
    refine v_block ?_
    refine v_loop1 (α := Nat) (fun k => [(0, v_a), (1, v_b), (5, .int .i64 (k : Int))]) (fun k hh => Ext h hh ∧ k ≤ a.length ∧ (a.map RowI.sig).take k = (b.map RowI.sig).take k) (fun k => a.length - k) 0 ⟨rfl, rfl, rfl⟩ ⟨(Ext.refl h), (by simp)⟩ ?_
    rintro k R3 h2 ⟨Eh, ⟨hk, hab⟩⟩
    have zEh := Eh.size
    have f4 := s_a.ext Eh
    have in5 := fun p hp => (in_a p hp).ext Eh
    have f6 := s_b.ext Eh
    have in7 := fun p hp => (in_b p hp).ext Eh
    refine v_seq ?_
    refine v_seq ?_
    refine v_ops ?_
    refine s_pure (.int .i64 (k : Int)) (fun _ q => q) ?_
    refine s_pure v_a (fun _ q => q) ?_
    refine s_pure (.int .i64 (a.length : Int)) (fun _ q => f4.lenVC q) ?_
    refine s_pure (.bool (decide ((k : Int) < (a.length : Int)))) (fun _ q => q) ?_
    refine s_nil ?_
    refine p_seqN ?_
    refine v_cond rfl (fun c8 => ?_) (fun c8 => ?_)
    ·
      refine v_skip ?_
      refine p_seqN ?_
      refine v_seq ?_
      refine v_block ?_
      refine v_seq ?_
      refine v_drawF ?_
      refine d_pureT v_a (fun _ q => q) ?_
      refine d_pureT (.int .i64 (k : Int)) (fun _ q => q) ?_
      have hk9 : k < a.length := (by first | omega | (simp; omega))
      obtain ⟨x10, hx10⟩ : ∃ x, a[k]? = some x := ⟨_, List.getElem?_eq_getElem hk9⟩
      refine d_pureT (.pointer (some ⟨sblk v_a, soff v_a + k * 1, none⟩)) (fun _ q => f4.idx (k := k) rfl hk9 q) ?_
      refine d_pureT v_b (fun _ q => q) ?_
      refine d_pureT (.int .i64 (k : Int)) (fun _ q => q) ?_
      have hk11 : k < b.length := (by first | omega | (simp; omega))
      obtain ⟨x12, hx12⟩ : ∃ x, b[k]? = some x := ⟨_, List.getElem?_eq_getElem hk11⟩
      refine d_pureT (.pointer (some ⟨sblk v_b, soff v_b + k * 1, none⟩)) (fun _ q => f6.idx (k := k) rfl hk11 q) ?_
      have s13 := in5 x10 (List.mem_of_getElem? hx10)
      refine d_loadO x10.sv.v (fun _ q => f4.load1 hx10 rfl q) ?_
      have s14 := in7 x12 (List.mem_of_getElem? hx12)
      refine d_loadO x12.sv.v (fun _ q => f6.load1 hx12 rfl q) ?_
      refine d_eff ?_
      refine s_callS [x10.sv.v, x12.sv.v] (.bool (decide (x10.sig = x12.sig))) rfl (eqIntS_ok x10.sv.v x12.sv.v x10.sig x12.sig _ s13 s14) ?_
      refine s_nil ⟨fun hl => (by cases hl), ?_⟩
      refine d_pureT (.bool (!(decide (x10.sig = x12.sig)))) (fun _ q => q) ?_
      refine d_done ?_
      refine p_seqN ?_
      refine v_cond rfl (fun c16 => ?_) (fun c16 => ?_)
      ·
        refine v_seq ?_
        refine v_ops ?_
        refine s_pure (.bool false) (fun _ q => q) ?_
        refine s_nil ?_
        refine p_seqN ?_
        refine v_ret ?_
        refine p_blkR ?_
        refine p_seqR ?_
        refine p_lpR ?_
        refine p_blkR ?_
        refine p_seqR ?_
        refine p_ret [.bool false] (.bool false) (fun _ q => q) rfl ?_
        have ho : decide (a.map RowI.sig = b.map RowI.sig) = false := by simp only [decide_eq_true_eq, decide_eq_false_iff_not]; first | (intro hab; (have := congrArg List.length hab); simp at this; omega) | exact get_ne (map_get (by assumption)) (map_get (by assumption)) (by assumption) | (rw [← map_take, ← map_take, take_all (by assumption), take_all (by omega)] at hab; exact hab)
        exact ⟨by first | (rw [ho]; done) | rfl, Eh⟩
      ·
        have c16 := Classical.not_not.1 c16
        refine v_skip ?_
        refine p_blkN ?_
        refine p_seqN ?_
        refine v_ops ?_
        refine s_pure (.int .i64 (k : Int)) (fun _ q => q) ?_
        refine s_pure (.int .i64 ((k : Int) + 1)) (fun _ q => ArithVC.mk (by omega) q) ?_
        refine s_pure (.int .i64 ((k : Int) + 1)) (fun _ q => q) ?_
        refine s_nil ?_
        exact p_lpN ⟨k + 1, ⟨rfl, rfl, rfl⟩, ⟨Eh, (by exact ⟨by omega, take_ext hab (map_get (by assumption)) (map_get (by assumption)) (by assumption)⟩)⟩, by omega⟩
    ·
      refine v_exit ?_
      refine p_seqX ?_
      refine p_lpX ?_
      refine p_blkX ?_
      refine p_seqN ?_
      refine v_seq ?_
      refine v_ops ?_
      refine s_pure (.bool true) (fun _ q => q) ?_
      refine s_nil ?_
      refine p_seqN ?_
      refine v_ret ?_
      refine p_ret [.bool true] (.bool true) (fun _ q => q) rfl ?_
      have ho : decide (a.map RowI.sig = b.map RowI.sig) = true := by simp only [decide_eq_true_eq, decide_eq_false_iff_not]; first | (intro hab; (have := congrArg List.length hab); simp at this; omega) | exact get_ne (map_get (by assumption)) (map_get (by assumption)) (by assumption) | (rw [← map_take, ← map_take, take_all (by assumption), take_all (by omega)] at hab; exact hab)
      exact ⟨by first | (rw [ho]; done) | rfl, Eh⟩

theorem markIntSS_ok (v_a : Value) (a : List RowI) (lo_a : Nat) (n : Int) (h : Heap) (D_a : DeepO h v_a a lo_a) (h0 : 0 ≤ n) (h1 : n ≤ 288230376151711744) (hb : szR a ≤ 288230376151711744) : Cn f_laws_markIntSS [v_a, .int .i64 n] h fun v h' => v = .int .i64 (n + (szR a : Int)) ∧ DeepO h' v_a (mkR n a) lo_a ∧ Mod (fpts v_a a) h h' ∧ h.size ≤ h'.size := by
  have lt_a := D_a.lt
  have fr_a := D_a.fr
  have l63_a := D_a.row.len63
  refine calls_of r_laws_markIntSS ?_
  refine v_seq ?_
  refine v_ops ?_
  refine s_pure (.int .i64 0) (fun _ q => q) ?_
  refine s_nil ?_
  refine p_seqN ?_
  refine v_seq ?_
  refine v_seq ?_
  refine v_ops ?_
  refine s_pure (.int .i64 0) (fun _ q => q) ?_
  refine s_nil ?_
  refine p_seqN ?_
  refine v_block ?_
  refine v_loop3 (α := Nat) (β := Int) (γ := List RowI) (fun k m ps => [(0, v_a), (1, .int .i64 m), (5, .int .i64 (k : Int))]) (fun k m ps hh => Mod (fpts v_a a) h hh ∧ DeepO hh v_a ps lo_a ∧ fpts v_a ps = fpts v_a a ∧ k ≤ a.length ∧ ps = mkR n (a.take k) ++ a.drop k ∧ m = n + (szR (a.take k) : Int)) (fun k m ps => a.length - k) 0 n a ⟨rfl, rfl, rfl⟩ ⟨(Mod.refl (fpts v_a a) h), D_a, rfl, (by refine ⟨by omega, by simp [mkR], by simp [szR]⟩)⟩ ?_
  rintro k m ps R2 h1 ⟨Eh, s_a, fp_a, ⟨hk, hps, hm⟩⟩
  have zEh := Eh.size
  have lt_a := s_a.lt
  have fr_a := s_a.fr
  have ba_a : ∀ b ∈ fpts v_a ps, b ∈ fpts v_a a ∨ h.size ≤ b := fun b hb => Or.inl (by rw [← fp_a]; exact hb)
  have hsz := szR_le a k
  have hpl : ps.length = a.length := by rw [hps, List.length_append, mkR_len]; simp; omega
  refine v_seq ?_
  refine v_seq ?_
  refine v_ops ?_
  refine s_pure (.int .i64 (k : Int)) (fun _ q => q) ?_
  refine s_pure v_a (fun _ q => q) ?_
  refine s_pure (.int .i64 (ps.length : Int)) (fun _ q => s_a.row.lenVC q) ?_
  refine s_pure (.bool (decide ((k : Int) < (ps.length : Int)))) (fun _ q => q) ?_
  refine s_nil ?_
  refine p_seqN ?_
  refine v_cond rfl (fun c3 => ?_) (fun c3 => ?_)
  ·
    refine v_skip ?_
    refine p_seqN ?_
    refine v_seq ?_
    refine v_block ?_
    refine v_ops ?_
    refine s_pure v_a (fun _ q => q) ?_
    refine s_pure (.int .i64 (k : Int)) (fun _ q => q) ?_
    have hk4 : k < ps.length := (by first | omega | (simp; omega))
    obtain ⟨x5, hx5⟩ : ∃ x, ps[k]? = some x := ⟨_, List.getElem?_eq_getElem hk4⟩
    refine s_pure (.pointer (some ⟨sblk v_a, soff v_a + k * 1, none⟩)) (fun _ q => s_a.row.idx (k := k) rfl hk4 q) ?_
    have s6 := s_a.insL x5 (List.mem_of_getElem? hx5)
    refine s_load x5.sv.v (fun _ q => s_a.row.load1 hx5 rfl q) ?_
    refine s_pure (.int .i64 m) (fun _ q => q) ?_
    refine s_call [x5.sv.v, .int .i64 m] rfl (markIntS_ok x5.sv.v x5.sig m _ (s_a.ins x5 (List.mem_of_getElem? hx5)) (by omega) (by omega) (by (obtain ⟨p, hp⟩ : ∃ p, a[k]? = some p := ⟨_, List.getElem?_eq_getElem (by omega)⟩); (have h5 := mkR_at hps hp (by assumption : ps[k]? = some _)); (have h6 := sigR_le hp); simp_all; omega)) ?_
    rintro _ h7 ⟨rfl, mk8, mh7, zh7⟩
    have D9 := DeepO.turnIn (e' := (⟨x5.sv, upto m x5.sig.length⟩ : RowI)) s_a hx5 rfl rfl mh7 mk8
    have E10 := Eh.new mh7 (fun b hb => ba_a b (mem_fpts.2 (.inr ⟨x5, List.mem_of_getElem? hx5, hb⟩)))
    have fp11 : fpts v_a (ps.set k (⟨x5.sv, upto m x5.sig.length⟩ : RowI)) = fpts v_a a := (fpts_set (e' := (⟨x5.sv, upto m x5.sig.length⟩ : RowI)) hx5 rfl).trans fp_a
    have bafp11 : ∀ b ∈ fpts v_a (ps.set k (⟨x5.sv, upto m x5.sig.length⟩ : RowI)), b ∈ fpts v_a a ∨ h.size ≤ b := fun b hb => Or.inl (by rw [← fp11]; exact hb)
    have ltD9 := D9.lt
    have frD9 := D9.fr
    refine s_pure (.int .i64 (m + (x5.sig.length : Int))) (fun _ q => q) ?_
    refine s_nil ?_
    refine p_blkN ?_
    refine p_seqN ?_
    refine v_ops ?_
    refine s_pure (.int .i64 (k : Int)) (fun _ q => q) ?_
    refine s_pure (.int .i64 ((k : Int) + 1)) (fun _ q => ArithVC.mk (by omega) q) ?_
    refine s_pure (.int .i64 ((k : Int) + 1)) (fun _ q => q) ?_
    refine s_nil ?_
    exact p_lpN ⟨k + 1, (m + (x5.sig.length : Int)), (ps.set k (⟨x5.sv, upto m x5.sig.length⟩ : RowI)), ⟨rfl, rfl, rfl⟩, ⟨E10, D9, fp11, (by obtain ⟨p, hp⟩ : ∃ p, a[k]? = some p := ⟨_, List.getElem?_eq_getElem (by omega)⟩; (have ht := szR_take a hp); subst_vars; (have h5 := mkR_at rfl hp (by assumption : (mkR n (a.take k) ++ a.drop k)[k]? = some _)); subst h5; (have hq := mkR_step n a k _ hp); exact ⟨by omega, hq, by (first | omega | (dsimp only; omega))⟩)⟩, by omega⟩
  ·
    refine v_exit ?_
    refine p_seqX ?_
    refine p_lpX ?_
    refine p_blkX ?_
    refine p_seqN ?_
    refine v_seq ?_
    refine v_ops ?_
    refine s_pure (.int .i64 m) (fun _ q => q) ?_
    refine s_pure (.int .i64 m) (fun _ q => q) ?_
    refine s_nil ?_
    refine p_seqN ?_
    refine v_ret ?_
    refine p_ret [.int .i64 m] (.int .i64 m) (fun _ q => q) rfl ?_
    have hk2 : k = a.length := by omega
    subst hk2
    rw [List.take_length] at hm hps
    rw [List.drop_length, List.append_nil] at hps
    subst hps
    exact ⟨by rw [hm], s_a, Eh, Eh.size⟩

end Go.Proofs.Ytckkablifoblbaa
