/- The laws' helpers on rows of packets. Condition: none. Printed in part by a program. -/
import Derived.Test.YtjmcijcdncgaiaaPk1
import Derived.Test.YtjmcijcdncgaiaaDeep2
namespace Go.Proofs.Ytjmcijcdncgaiaa
open Go.Vc
set_option linter.all false

structure Pk where
  message : Int
  part : Int
  parts : Int
  sv : SV
  sig : List Int
instance : Enc Pk := ⟨4, fun p => [.int .i64 p.message, .int .i64 p.part, .int .i64 p.parts, .slice p.sv.a p.sv.n p.sv.c], fun _ => rfl, by decide, fun a u h => by simp at h; rcases h with rfl | rfl | rfl | rfl <;> rfl⟩
instance : Inn Pk Int := ⟨Pk.sv, Pk.sig⟩
abbrev Pk.p (p : Pk) : PkP := ⟨p.message, p.part, p.parts, p.sig⟩
def sigs (ps : List Pk) : Nat := (ps.map fun p => p.sig.length).sum
theorem sigs_snoc (ps : List Pk) (p : Pk) : sigs (ps ++ [p]) = sigs ps + p.sig.length := by simp [sigs]
theorem sigs_take (ps : List Pk) (k : Nat) : sigs (ps.take k) ≤ sigs ps := by
  have h : sigs ps = sigs (ps.take k) + sigs (ps.drop k) := by
    unfold sigs; rw [← List.sum_append, ← List.map_append, List.take_append_drop]
  omega
theorem sig_le {ps : List Pk} {k : Nat} {p : Pk} (h : ps[k]? = some p) : p.sig.length + sigs (ps.take k) ≤ sigs ps := by
  have := sigs_take ps (k + 1)
  rw [snoc_get h, sigs_snoc] at this; omega
theorem pkp_eq {a b : Pk} : a.p = b.p ↔ a.message = b.message ∧ a.part = b.part ∧ a.parts = b.parts ∧ a.sig = b.sig := by simp [Pk.p]
theorem map_take {α β : Type} (f : α → β) (l : List α) (k : Nat) : (l.take k).map f = (l.map f).take k := List.map_take
theorem map_get {α β : Type} {f : α → β} {l : List α} {k : Nat} {x : α} (h : l[k]? = some x) : (l.map f)[k]? = some (f x) := by simp [h]
theorem take_ext {α : Type} {xs ys : List α} {k : Nat} {x y : α} (h : xs.take k = ys.take k) (hx : xs[k]? = some x) (hy : ys[k]? = some y) (e : x = y) : xs.take (k + 1) = ys.take (k + 1) := by
  rw [snoc_get hx, snoc_get hy, h, e]
theorem get_ne {α : Type} {xs ys : List α} {k : Nat} {x y : α} (hx : xs[k]? = some x) (hy : ys[k]? = some y) (e : ¬ x = y) : ¬ xs = ys := by
  intro h; subst h; rw [hx] at hy; exact e (Option.some.inj hy)
/-- what marking leaves behind -/
def mkP : Int → List Pk → List Pk
  | _, [] => []
  | k, p :: ps => ⟨k, k + 1, k + 1 + 1, p.sv, upto (k + 1 + 1 + 1) p.sig.length⟩ :: mkP (k + 1 + 1 + 1 + p.sig.length) ps
def szP (ps : List Pk) : Nat := 3 * ps.length + sigs ps
theorem mkP_len (k : Int) (ps : List Pk) : (mkP k ps).length = ps.length := by
  induction ps generalizing k with
  | nil => rfl
  | cons p ps ih => simp [mkP, ih]
theorem mkP_get (k : Int) (ps : List Pk) (i : Nat) (p : Pk) (h : ps[i]? = some p) : (mkP k ps)[i]? = some ⟨k + szP (ps.take i), k + szP (ps.take i) + 1, k + szP (ps.take i) + 1 + 1, p.sv, upto (k + szP (ps.take i) + 1 + 1 + 1) p.sig.length⟩ := by
  induction ps generalizing k i with
  | nil => simp at h
  | cons q ps ih =>
    cases i with
    | zero => simp at h; subst h; simp [mkP, szP, sigs]
    | succ i =>
      simp only [mkP, List.getElem?_cons_succ, List.take_succ_cons]
      rw [ih _ i (by simpa using h)]
      have : k + 1 + 1 + 1 + (q.sig.length : Int) + (szP (ps.take i) : Int) = k + (szP (q :: ps.take i) : Int) := by simp [szP, sigs]; omega
      rw [this]
theorem mkP_step (k : Int) (ps : List Pk) (i : Nat) (p : Pk) (h : ps[i]? = some p) : (mkP k (ps.take i) ++ ps.drop i).set i ⟨k + szP (ps.take i), k + szP (ps.take i) + 1, k + szP (ps.take i) + 1 + 1, p.sv, upto (k + szP (ps.take i) + 1 + 1 + 1) p.sig.length⟩ = mkP k (ps.take (i + 1)) ++ ps.drop (i + 1) := by
  have hi : i < ps.length := (List.getElem?_eq_some_iff.1 h).1
  have hl : (mkP k (ps.take i)).length = i := by rw [mkP_len]; simp; omega
  rw [List.set_append_right _ _ (by omega), hl, Nat.sub_self, List.drop_eq_getElem_cons hi, List.set_cons_zero]
  have : mkP k (ps.take (i + 1)) = mkP k (ps.take i) ++ [⟨k + szP (ps.take i), k + szP (ps.take i) + 1, k + szP (ps.take i) + 1 + 1, p.sv, upto (k + szP (ps.take i) + 1 + 1 + 1) p.sig.length⟩] := by
    rw [snoc_get h]
    generalize ps.take i = l
    clear hl
    induction l generalizing k with
    | nil => simp [mkP, szP, sigs]
    | cons q l ih =>
      simp only [List.cons_append, mkP]
      rw [ih]
      have : k + 1 + 1 + 1 + (q.sig.length : Int) + (szP l : Int) = k + (szP (q :: l) : Int) := by simp [szP, sigs]; omega
      rw [this]
  rw [this, List.append_assoc]; rfl
theorem szP_take (ps : List Pk) {i : Nat} {p : Pk} (h : ps[i]? = some p) : szP (ps.take (i + 1)) = szP (ps.take i) + 3 + p.sig.length := by
  rw [snoc_get h]; simp [szP, sigs_snoc]; omega
theorem held_el {a ps : List Pk} {k0 : Int} {k : Nat} {x p : Pk} (ha : a = mkP k0 ps) (hp : ps[k]? = some p) (hx : a[k]? = some x) : x.message = k0 + szP (ps.take k) ∧ x.part = k0 + szP (ps.take k) + 1 ∧ x.parts = k0 + szP (ps.take k) + 1 + 1 ∧ x.sig = upto (k0 + szP (ps.take k) + 1 + 1 + 1) p.sig.length ∧ x.sig.length = p.sig.length := by
  rw [ha, mkP_get k0 ps k p hp] at hx
  obtain rfl := Option.some.inj hx
  exact ⟨rfl, rfl, rfl, rfl, upto_length _ _⟩
theorem held_nums {a ps : List Pk} {k0 m : Int} {k : Nat} {x : Pk} (ha : a = mkP k0 ps) (hm : m = k0 + szP (ps.take k)) (hx : a[k]? = some x) (hk : k < ps.length) : x.message = m ∧ x.part = m + 1 ∧ x.parts = m + 1 + 1 := by
  have := held_el ha (List.getElem?_eq_getElem hk) hx
  exact ⟨by omega, by omega, by omega⟩
theorem held_sig {a ps : List Pk} {k0 m : Int} {k : Nat} {x : Pk} (ha : a = mkP k0 ps) (hm : m = k0 + szP (ps.take k)) (hx : a[k]? = some x) (hk : k < ps.length) : x.sig = upto (m + 1 + 1 + 1) x.sig.length := by
  have := held_el ha (List.getElem?_eq_getElem hk) hx
  rw [this.2.2.2.2, hm]; exact this.2.2.2.1
theorem held_len {a ps : List Pk} {k0 : Int} {k : Nat} {x : Pk} (ha : a = mkP k0 ps) (hx : a[k]? = some x) : x.sig.length ≤ szP ps := by
  have hk : k < ps.length := by have := (List.getElem?_eq_some_iff.1 hx).1; rw [ha, mkP_len] at this; exact this
  have := held_el ha (List.getElem?_eq_getElem hk) hx
  have h2 := sig_le (List.getElem?_eq_getElem hk)
  simp only [szP]; omega
theorem mk_at {ps a : List Pk} {n : Int} {k : Nat} {x p : Pk} (hps : ps = mkP n (a.take k) ++ a.drop k) (hp : a[k]? = some p) (hx : ps[k]? = some x) : x = p := by
  have hk : k < a.length := (List.getElem?_eq_some_iff.1 hp).1
  rw [hps, List.getElem?_append_right (by rw [mkP_len]; simp; omega), mkP_len] at hx
  have : k - (a.take k).length = 0 := by simp; omega
  rw [this, List.getElem?_drop, Nat.add_zero, hp] at hx
  exact (Option.some.inj hx).symm
theorem szP_le (ps : List Pk) (i : Nat) : szP (ps.take i) ≤ szP ps := by
  have := sigs_take ps i
  simp [szP]; omega

theorem szPacketS_ok (v_a : Value) (a : List Pk) (n : Int) (h : Heap) (s_a : Sl h v_a a) (in_a : ∀ p ∈ a, Sl h p.sv.v p.sig) (h0 : 0 ≤ n) (h1 : n ≤ 1048576) : Cn f_laws_szPacketS [v_a, .int .i64 n] h fun v h' => ∃ m : Int, v = .int .i64 m ∧ Ext h h' ∧ (0 ≤ m → m = n - (a.length : Int) - (sigs a : Int)) ∧ m ≤ n := by
  have lt_a := s_a.lt
  have l63_a := s_a.len63
  have inlt_a := fun p hp => (in_a p hp).lt
  refine calls_of r_laws_szPacketS ?_
  refine v_seq ?_
  refine v_ops ?_
  refine s_pure (.int .i64 0) (fun _ q => q) ?_
  refine s_nil ?_
  refine p_seqN ?_
  refine v_seq ?_
  refine v_ops ?_
  refine s_pure (.int .i64 n) (fun _ q => q) ?_
  refine s_pure v_a (fun _ q => q) ?_
  refine s_pure (.int .i64 (a.length : Int)) (fun _ q => s_a.lenVC q) ?_
  refine s_pure (.int .i64 (n - (a.length : Int))) (fun _ q => ArithVC.mk (by omega) q) ?_
  refine s_pure (.int .i64 (n - (a.length : Int))) (fun _ q => q) ?_
  refine s_nil ?_
  refine p_seqN ?_
  refine v_seq ?_
  refine v_seq ?_
  refine v_ops ?_
  refine s_pure (.int .i64 (n - (a.length : Int))) (fun _ q => q) ?_
  refine s_pure (.bool (decide ((n - (a.length : Int)) < 0))) (fun _ q => q) ?_
  refine s_nil ?_
  refine p_seqN ?_
  refine v_cond rfl (fun c1 => ?_) (fun c1 => ?_)
  ·
    refine v_seq ?_
    refine v_ops ?_
    refine s_pure (.int .i64 (-1)) (fun _ q => q) ?_
    refine s_nil ?_
    refine p_seqN ?_
    refine v_ret ?_
    refine p_seqR ?_
    refine p_ret [.int .i64 (-1)] (.int .i64 (-1)) (fun _ q => q) rfl ?_
    exact ⟨_, rfl, (Ext.refl h), by omega, by omega⟩
  ·
    refine v_skip ?_
    refine p_seqN ?_
    refine v_seq ?_
    refine v_seq ?_
    refine v_ops ?_
    refine s_pure (.int .i64 0) (fun _ q => q) ?_
    refine s_nil ?_
    refine p_seqN ?_
    refine v_block ?_
    refine v_loop2 (α := Nat) (β := Int) (fun k m => [(0, v_a), (1, .int .i64 m), (5, .int .i64 (k : Int))]) (fun k m hh => Ext h hh ∧ k ≤ a.length ∧ 0 ≤ m ∧ m = n - (a.length : Int) - (sigs (a.take k) : Int)) (fun k m => a.length - k) 0 (n - (a.length : Int)) ⟨rfl, rfl, rfl⟩ ⟨(Ext.refl h), (by refine ⟨by omega, by omega, by simp [sigs]⟩)⟩ ?_
    rintro k m R3 h2 ⟨Eh, ⟨hk, hm0, hm⟩⟩
    have zEh := Eh.size
    have f4 := s_a.ext Eh
    have in5 := fun p hp => (in_a p hp).ext Eh
    refine v_seq ?_
    refine v_seq ?_
    refine v_ops ?_
    refine s_pure (.int .i64 (k : Int)) (fun _ q => q) ?_
    refine s_pure v_a (fun _ q => q) ?_
    refine s_pure (.int .i64 (a.length : Int)) (fun _ q => f4.lenVC q) ?_
    refine s_pure (.bool (decide ((k : Int) < (a.length : Int)))) (fun _ q => q) ?_
    refine s_nil ?_
    refine p_seqN ?_
    refine v_cond rfl (fun c6 => ?_) (fun c6 => ?_)
    ·
      refine v_skip ?_
      refine p_seqN ?_
      refine v_seq ?_
      refine v_block ?_
      refine v_seq ?_
      refine v_ops ?_
      refine s_pure v_a (fun _ q => q) ?_
      refine s_pure (.int .i64 (k : Int)) (fun _ q => q) ?_
      have hk7 : k < a.length := (by first | omega | (simp; omega))
      obtain ⟨x8, hx8⟩ : ∃ x, a[k]? = some x := ⟨_, List.getElem?_eq_getElem hk7⟩
      refine s_pure (.pointer (some ⟨sblk v_a, soff v_a + k * 4, none⟩)) (fun _ q => f4.idx (k := k) rfl hk7 q) ?_
      have s9 := in5 x8 (List.mem_of_getElem? hx8)
      refine s_load (.agg #[.int .i64 x8.message, .int .i64 x8.part, .int .i64 x8.parts, x8.sv.v]) (fun _ q => f4.loadN hx8 rfl q) ?_
      refine s_pure (.int .i64 m) (fun _ q => q) ?_
      refine s_call [.agg #[.int .i64 x8.message, .int .i64 x8.part, .int .i64 x8.parts, x8.sv.v], .int .i64 m] rfl (szPacket_ok x8.message x8.part x8.parts x8.sv.v x8.sig m _ s9 (by omega) (by omega)) ?_
      rintro _ h10 ⟨n11, rfl, eh10, hmn11, hkn11⟩
      have E12 := Eh.trans eh10
      have z13 := eh10.size
      refine s_pure (.int .i64 n11) (fun _ q => q) ?_
      refine s_nil ?_
      refine p_seqN ?_
      refine v_seq ?_
      refine v_ops ?_
      refine s_pure (.int .i64 n11) (fun _ q => q) ?_
      refine s_pure (.bool (decide (n11 < 0))) (fun _ q => q) ?_
      refine s_nil ?_
      refine p_seqN ?_
      refine v_cond rfl (fun c14 => ?_) (fun c14 => ?_)
      ·
        refine v_seq ?_
        refine v_ops ?_
        refine s_pure (.int .i64 (-1)) (fun _ q => q) ?_
        refine s_nil ?_
        refine p_seqN ?_
        refine v_ret ?_
        refine p_blkR ?_
        refine p_seqR ?_
        refine p_lpR ?_
        refine p_blkR ?_
        refine p_seqR ?_
        refine p_ret [.int .i64 (-1)] (.int .i64 (-1)) (fun _ q => q) rfl ?_
        exact ⟨_, rfl, E12, by omega, by omega⟩
      ·
        refine v_skip ?_
        refine p_blkN ?_
        refine p_seqN ?_
        refine v_ops ?_
        refine s_pure (.int .i64 (k : Int)) (fun _ q => q) ?_
        refine s_pure (.int .i64 ((k : Int) + 1)) (fun _ q => ArithVC.mk (by omega) q) ?_
        refine s_pure (.int .i64 ((k : Int) + 1)) (fun _ q => q) ?_
        refine s_nil ?_
        exact p_lpN ⟨k + 1, n11, ⟨rfl, rfl, rfl⟩, ⟨E12, (by (have hs := sigs_snoc (a.take k) x8); rw [← snoc_get (by assumption)] at hs; exact ⟨by omega, by omega, by omega⟩)⟩, by omega⟩
    ·
      refine v_exit ?_
      refine p_seqX ?_
      refine p_lpX ?_
      refine p_blkX ?_
      refine p_seqN ?_
      refine v_seq ?_
      refine v_ops ?_
      refine s_pure (.int .i64 m) (fun _ q => q) ?_
      refine s_pure (.int .i64 m) (fun _ q => q) ?_
      refine s_nil ?_
      refine p_seqN ?_
      refine v_ret ?_
      refine p_ret [.int .i64 m] (.int .i64 m) (fun _ q => q) rfl ?_
      rw [take_all (by assumption)] at hm; exact ⟨_, rfl, Eh, by omega, by omega⟩

theorem eqPacketS_ok (v_a : Value) (a : List Pk) (v_b : Value) (b : List Pk) (h : Heap) (s_a : Sl h v_a a) (in_a : ∀ p ∈ a, Sl h p.sv.v p.sig) (s_b : Sl h v_b b) (in_b : ∀ p ∈ b, Sl h p.sv.v p.sig) : Cn f_laws_eqPacketS [v_a, v_b] h fun v h' => v = .bool (decide (a.map Pk.p = b.map Pk.p)) ∧ Ext h h' := by
  have lt_a := s_a.lt
  have l63_a := s_a.len63
  have inlt_a := fun p hp => (in_a p hp).lt
  have lt_b := s_b.lt
  have l63_b := s_b.len63
  have inlt_b := fun p hp => (in_b p hp).lt
  refine calls_of r_laws_eqPacketS ?_
  refine v_seq ?_
  refine v_ops ?_
  refine s_pure (.bool false) (fun _ q => q) ?_
  refine s_nil ?_
  refine p_seqN ?_
  refine v_seq ?_
  refine v_seq ?_
  refine v_ops ?_
  refine s_pure v_a (fun _ q => q) ?_
  refine s_pure (.int .i64 (a.length : Int)) (fun _ q => s_a.lenVC q) ?_
  refine s_pure v_b (fun _ q => q) ?_
  refine s_pure (.int .i64 (b.length : Int)) (fun _ q => s_b.lenVC q) ?_
  refine s_pure (.bool ((a.length : Int) != (b.length : Int))) (fun _ q => q) ?_
  refine s_nil ?_
  refine p_seqN ?_
  refine v_cond rfl (fun c1 => ?_) (fun c1 => ?_)
  ·
    refine v_seq ?_
    refine v_ops ?_
    refine s_pure (.bool false) (fun _ q => q) ?_
    refine s_nil ?_
    refine p_seqN ?_
    refine v_ret ?_
    refine p_seqR ?_
    refine p_ret [.bool false] (.bool false) (fun _ q => q) rfl ?_
    have ho : decide (a.map Pk.p = b.map Pk.p) = false := by simp only [decide_eq_true_eq, decide_eq_false_iff_not]; first | (intro hab; (have := congrArg List.length hab); simp at this; omega) | exact get_ne (map_get (by assumption)) (map_get (by assumption)) (fun hc => absurd (pkp_eq.1 hc) (by assumption)) | (rw [← map_take, ← map_take, take_all (by assumption), take_all (by omega)] at hab; exact hab)
    exact ⟨by first | (rw [ho]; done) | rfl, (Ext.refl h)⟩
  ·
    have c1 := Classical.not_not.1 c1
    refine v_skip ?_
    refine p_seqN ?_
    refine v_seq ?_
    refine v_seq ?_
    refine v_ops ?_
    refine s_pure (.int .i64 0) (fun _ q => q) ?_
    refine s_nil ?_
    refine p_seqN ?_
    refine v_block ?_
    refine v_loop1 (α := Nat) (fun k => [(0, v_a), (1, v_b), (5, .int .i64 (k : Int))]) (fun k hh => Ext h hh ∧ k ≤ a.length ∧ (a.map Pk.p).take k = (b.map Pk.p).take k) (fun k => a.length - k) 0 ⟨rfl, rfl, rfl⟩ ⟨(Ext.refl h), (by simp)⟩ ?_
    rintro k R3 h2 ⟨Eh, ⟨hk, hab⟩⟩
    have zEh := Eh.size
    have f4 := s_a.ext Eh
    have in5 := fun p hp => (in_a p hp).ext Eh
    have f6 := s_b.ext Eh
    have in7 := fun p hp => (in_b p hp).ext Eh
    refine v_seq ?_
    refine v_seq ?_
    refine v_ops ?_
    refine s_pure (.int .i64 (k : Int)) (fun _ q => q) ?_
    refine s_pure v_a (fun _ q => q) ?_
    refine s_pure (.int .i64 (a.length : Int)) (fun _ q => f4.lenVC q) ?_
    refine s_pure (.bool (decide ((k : Int) < (a.length : Int)))) (fun _ q => q) ?_
    refine s_nil ?_
    refine p_seqN ?_
    refine v_cond rfl (fun c8 => ?_) (fun c8 => ?_)
    ·
      refine v_skip ?_
      refine p_seqN ?_
      refine v_seq ?_
      refine v_block ?_
      refine v_seq ?_
      refine v_drawF ?_
      refine d_pureT v_a (fun _ q => q) ?_
      refine d_pureT (.int .i64 (k : Int)) (fun _ q => q) ?_
      have hk9 : k < a.length := (by first | omega | (simp; omega))
      obtain ⟨x10, hx10⟩ : ∃ x, a[k]? = some x := ⟨_, List.getElem?_eq_getElem hk9⟩
      refine d_pureT (.pointer (some ⟨sblk v_a, soff v_a + k * 4, none⟩)) (fun _ q => f4.idx (k := k) rfl hk9 q) ?_
      refine d_pureT v_b (fun _ q => q) ?_
      refine d_pureT (.int .i64 (k : Int)) (fun _ q => q) ?_
      have hk11 : k < b.length := (by first | omega | (simp; omega))
      obtain ⟨x12, hx12⟩ : ∃ x, b[k]? = some x := ⟨_, List.getElem?_eq_getElem hk11⟩
      refine d_pureT (.pointer (some ⟨sblk v_b, soff v_b + k * 4, none⟩)) (fun _ q => f6.idx (k := k) rfl hk11 q) ?_
      have s13 := in5 x10 (List.mem_of_getElem? hx10)
      refine d_loadO (.agg #[.int .i64 x10.message, .int .i64 x10.part, .int .i64 x10.parts, x10.sv.v]) (fun _ q => f4.loadN hx10 rfl q) ?_
      have s14 := in7 x12 (List.mem_of_getElem? hx12)
      refine d_loadO (.agg #[.int .i64 x12.message, .int .i64 x12.part, .int .i64 x12.parts, x12.sv.v]) (fun _ q => f6.loadN hx12 rfl q) ?_
      refine d_eff ?_
      refine s_call [.agg #[.int .i64 x10.message, .int .i64 x10.part, .int .i64 x10.parts, x10.sv.v], .agg #[.int .i64 x12.message, .int .i64 x12.part, .int .i64 x12.parts, x12.sv.v]] rfl (eqPacket_ok x10.message x10.part x10.parts x10.sv.v x10.sig x12.message x12.part x12.parts x12.sv.v x12.sig _ s13 s14) ?_
      rintro _ h15 ⟨rfl, eh15⟩
      have E16 := Eh.trans eh15
      have z17 := eh15.size
      have G18 := eh15
      refine s_nil ⟨fun hl => (by cases hl), ?_⟩
      refine d_pureT (.bool (!(decide (x10.message = x12.message ∧ x10.part = x12.part ∧ x10.parts = x12.parts ∧ x10.sig = x12.sig)))) (fun _ q => q) ?_
      refine d_done ?_
      refine p_seqN ?_
      refine v_cond rfl (fun c19 => ?_) (fun c19 => ?_)
      ·
        refine v_seq ?_
        refine v_ops ?_
        refine s_pure (.bool false) (fun _ q => q) ?_
        refine s_nil ?_
        refine p_seqN ?_
        refine v_ret ?_
        refine p_blkR ?_
        refine p_seqR ?_
        refine p_lpR ?_
        refine p_blkR ?_
        refine p_seqR ?_
        refine p_ret [.bool false] (.bool false) (fun _ q => q) rfl ?_
        have ho : decide (a.map Pk.p = b.map Pk.p) = false := by simp only [decide_eq_true_eq, decide_eq_false_iff_not]; first | (intro hab; (have := congrArg List.length hab); simp at this; omega) | exact get_ne (map_get (by assumption)) (map_get (by assumption)) (fun hc => absurd (pkp_eq.1 hc) (by assumption)) | (rw [← map_take, ← map_take, take_all (by assumption), take_all (by omega)] at hab; exact hab)
        exact ⟨by first | (rw [ho]; done) | rfl, E16⟩
      ·
        have c19 := Classical.not_not.1 c19
        refine v_skip ?_
        refine p_blkN ?_
        refine p_seqN ?_
        refine v_ops ?_
        refine s_pure (.int .i64 (k : Int)) (fun _ q => q) ?_
        refine s_pure (.int .i64 ((k : Int) + 1)) (fun _ q => ArithVC.mk (by omega) q) ?_
        refine s_pure (.int .i64 ((k : Int) + 1)) (fun _ q => q) ?_
        refine s_nil ?_
        exact p_lpN ⟨k + 1, ⟨rfl, rfl, rfl⟩, ⟨E16, (by exact ⟨by omega, take_ext hab (map_get (by assumption)) (map_get (by assumption)) (pkp_eq.2 (by assumption))⟩)⟩, by omega⟩
    ·
      refine v_exit ?_
      refine p_seqX ?_
      refine p_lpX ?_
      refine p_blkX ?_
      refine p_seqN ?_
      refine v_seq ?_
      refine v_ops ?_
      refine s_pure (.bool true) (fun _ q => q) ?_
      refine s_nil ?_
      refine p_seqN ?_
      refine v_ret ?_
      refine p_ret [.bool true] (.bool true) (fun _ q => q) rfl ?_
      have ho : decide (a.map Pk.p = b.map Pk.p) = true := by simp only [decide_eq_true_eq, decide_eq_false_iff_not]; first | (intro hab; (have := congrArg List.length hab); simp at this; omega) | exact get_ne (map_get (by assumption)) (map_get (by assumption)) (fun hc => absurd (pkp_eq.1 hc) (by assumption)) | (rw [← map_take, ← map_take, take_all (by assumption), take_all (by omega)] at hab; exact hab)
      exact ⟨by first | (rw [ho]; done) | rfl, Eh⟩


theorem set_take {α : Type} {xs ys : List α} {k : Nat} {x y : α} (h : xs.take k = ys.take k) (hk : k < xs.length) (hy : ys[k]? = some y) (e : x = y) : (xs.set k x).take (k + 1) = ys.take (k + 1) := by
  refine take_ext (x := x) (y := y) ?_ (List.getElem?_set_self hk) hy e
  rw [List.take_set_of_le (Nat.le_refl k)]; exact h

theorem toPacketS_ok (v_a : Value) (a : List Pk) (h : Heap) (s_a : Sl h v_a a) (in_a : ∀ p ∈ a, Sl h p.sv.v p.sig) (hb : sigs a ≤ 1048576) (hb2 : a.length ≤ 1048576) : Cn f_laws_toPacketS [v_a] h fun v h' => ∃ r0 : Value, ∃ qr0 : List Pk, v = r0 ∧ DeepO h' r0 qr0 h.size ∧ qr0.map Pk.p = a.map Pk.p ∧ Ext h h' := by
  have lt_a := s_a.lt
  have l63_a := s_a.len63
  have inlt_a := fun p hp => (in_a p hp).lt
  refine calls_of r_laws_toPacketS ?_
  refine v_seq ?_
  refine v_ops ?_
  refine s_pure (.slice none 0 0) (fun _ q => q) ?_
  refine s_nil ?_
  refine p_seqN ?_
  refine v_seq ?_
  refine v_ops ?_
  refine s_pure v_a (fun _ q => q) ?_
  refine s_pure (.int .i64 (a.length : Int)) (fun _ q => s_a.lenVC q) ?_
  refine s_mk (α := Pk) a.length (⟨0, 0, 0, SV.nil, []⟩ : Pk) rfl rfl rfl rfl rfl rfl (by simp [maxLen]; omega) (by omega) (fun r1 h2 eh2 zh2 s_r1 fr_r1 => ?_)
  have E3 := (Ext.refl h).trans eh2
  have z4 := eh2.size
  have lt_r1 := s_r1.lt
  refine s_pure r1 (fun _ q => q) ?_
  refine s_nil ?_
  refine p_seqN ?_
  refine v_seq ?_
  refine v_seq ?_
  refine v_ops ?_
  refine s_pure (.int .i64 0) (fun _ q => q) ?_
  refine s_nil ?_
  refine p_seqN ?_
  refine v_block ?_
  have D_r1 := DeepO.made (γ := Pk) (z := ⟨0, 0, 0, SV.nil, []⟩) rfl rfl s_r1 fr_r1
  have lt_r1d := D_r1.lt
  have fr_r1d := D_r1.fr
  refine v_loop3 (α := Nat) (β := List Pk) (γ := Value) (fun k ps o => [(0, v_a), (3, o), (4, .int .i64 (k : Int))]) (fun k ps o hh => Ext h hh ∧ DeepO hh o ps h.size ∧ k ≤ a.length ∧ ps.length = a.length ∧ (ps.map Pk.p).take k = (a.map Pk.p).take k) (fun k ps o => a.length - k) 0 (List.replicate a.length (⟨0, 0, 0, SV.nil, []⟩ : Pk)) r1 ⟨rfl, rfl, rfl⟩ ⟨E3, (D_r1.mono (by omega)), (by simp)⟩ ?_
  rintro k ps o R6 h5 ⟨Eh, s_o, ⟨hk, hpl, hps⟩⟩
  have zEh := Eh.size
  have f7 := s_a.ext Eh
  have in8 := fun p hp => (in_a p hp).ext Eh
  have lt_o := s_o.lt
  have fr_o := s_o.fr
  refine v_seq ?_
  refine v_seq ?_
  refine v_ops ?_
  refine s_pure (.int .i64 (k : Int)) (fun _ q => q) ?_
  refine s_pure v_a (fun _ q => q) ?_
  refine s_pure (.int .i64 (a.length : Int)) (fun _ q => f7.lenVC q) ?_
  refine s_pure (.bool (decide ((k : Int) < (a.length : Int)))) (fun _ q => q) ?_
  refine s_nil ?_
  refine p_seqN ?_
  refine v_cond rfl (fun c9 => ?_) (fun c9 => ?_)
  ·
    refine v_skip ?_
    refine p_seqN ?_
    refine v_seq ?_
    refine v_block ?_
    refine v_ops ?_
    refine s_pure o (fun _ q => q) ?_
    refine s_pure (.int .i64 (k : Int)) (fun _ q => q) ?_
    refine s_pure v_a (fun _ q => q) ?_
    refine s_pure (.int .i64 (k : Int)) (fun _ q => q) ?_
    have hk10 : k < a.length := (by first | omega | (simp; omega))
    obtain ⟨x11, hx11⟩ : ∃ x, a[k]? = some x := ⟨_, List.getElem?_eq_getElem hk10⟩
    refine s_pure (.pointer (some ⟨sblk v_a, soff v_a + k * 4, none⟩)) (fun _ q => f7.idx (k := k) rfl hk10 q) ?_
    have s12 := in8 x11 (List.mem_of_getElem? hx11)
    refine s_load (.agg #[.int .i64 x11.message, .int .i64 x11.part, .int .i64 x11.parts, x11.sv.v]) (fun _ q => f7.loadN hx11 rfl q) ?_
    refine s_call [.agg #[.int .i64 x11.message, .int .i64 x11.part, .int .i64 x11.parts, x11.sv.v]] rfl (toPacket_ok x11.message x11.part x11.parts x11.sv.v x11.sig _ s12 (by have := sig_le (by assumption : a[_]? = some x11); omega)) ?_
    rintro _ h13 ⟨r14, rfl, s_r14, eh13, fr_r14⟩
    have E15 := Eh.trans eh13
    have z16 := eh13.size
    have lt_r14 := s_r14.lt
    have f17 := (s_o.ext eh13)
    have hk18 : k < ps.length := (by first | omega | (simp; omega))
    obtain ⟨x19, hx19⟩ : ∃ x, ps[k]? = some x := ⟨_, List.getElem?_eq_getElem hk18⟩
    refine s_pure (.pointer (some ⟨sblk o, soff o + k * 4, none⟩)) (fun _ q => f17.row.idx (k := k) rfl hk18 q) ?_
    obtain ⟨sv22, rfl⟩ := s_r14.sv
    refine s_stSl (k := k) (j := 0) (⟨x11.message, x11.part, x11.parts, sv22, x11.sig⟩ : Pk) (.agg #[.int .i64 x11.message, .int .i64 x11.part, .int .i64 x11.parts, sv22.v]) [.int .i64 x11.message, .int .i64 x11.part, .int .i64 x11.parts, sv22.v] f17.row rfl rfl rfl rfl rfl hx19 (Nat.le_of_ble_eq_true rfl) rfl (all_cons rfl (all_cons rfl (all_cons rfl (all_cons s_r14.one1 all_nil)))) (fun h20 mh20 sh20 s21 => ?_)
    have D23 := DeepO.set (e := (⟨x11.message, x11.part, x11.parts, sv22, x11.sig⟩ : Pk)) (k := k) f17 s_r14 (fr_r14.mono (by omega)) (fun b hb hc => by have := fr_r14 b hb; have := lt_o b hc; omega) mh20 s21
    have E24 := E15.mod mh20 (fun b hb => by have := (fun b hb => fr_o b (mem_fpts.2 (.inl hb))) b hb; omega)
    have ltD23 := D23.lt
    have frD23 := D23.fr
    refine s_nil ?_
    refine p_blkN ?_
    refine p_seqN ?_
    refine v_ops ?_
    refine s_pure (.int .i64 (k : Int)) (fun _ q => q) ?_
    refine s_pure (.int .i64 ((k : Int) + 1)) (fun _ q => ArithVC.mk (by omega) q) ?_
    refine s_pure (.int .i64 ((k : Int) + 1)) (fun _ q => q) ?_
    refine s_nil ?_
    exact p_lpN ⟨k + 1, (ps.set k (⟨x11.message, x11.part, x11.parts, sv22, x11.sig⟩ : Pk)), o, ⟨rfl, rfl, rfl⟩, ⟨E24, (D23.mono (by omega)), (by exact ⟨by omega, by simpa using hpl, by rw [List.map_set]; exact set_take hps (by simp; omega) (map_get (by assumption)) (by rfl)⟩)⟩, by omega⟩
  ·
    refine v_exit ?_
    refine p_seqX ?_
    refine p_lpX ?_
    refine p_blkX ?_
    refine p_seqN ?_
    refine v_seq ?_
    refine v_ops ?_
    refine s_pure o (fun _ q => q) ?_
    refine s_pure o (fun _ q => q) ?_
    refine s_nil ?_
    refine p_seqN ?_
    refine v_ret ?_
    refine p_ret [o] o (fun _ q => q) rfl ?_
    have ho : a.map Pk.p = (ps.map Pk.p) := by (rw [List.take_of_length_le (by simp; omega), List.take_of_length_le (by simp; omega)] at hps); exact hps.symm
    exact ⟨o, ps, by first | (rw [ho]; done) | rfl, (s_o.mono (by omega)), (congrArg (fun o => o) ho).symm, Eh⟩

set_option maxRecDepth 10000 in
set_option maxHeartbeats 4000000 in
theorem heldPacketS_ok (v_a : Value) (a : List Pk) (n : Int) (h : Heap) (s_a : Sl h v_a a) (in_a : ∀ p ∈ a, Sl h p.sv.v p.sig) (ps : List Pk) (k0 : Int) (ha : a = mkP k0 ps) (hn : n = k0) (h0 : 0 ≤ k0) (h1 : k0 ≤ 288230376151711744) (hb : szP ps ≤ 288230376151711744) : Cn f_laws_heldPacketS [v_a, .int .i64 n] h fun v h' => v = .int .i64 (k0 + (szP ps : Int)) ∧ Ext h h' := by
  have lt_a := s_a.lt
  have l63_a := s_a.len63
  have inlt_a := fun p hp => (in_a p hp).lt
  have hal : a.length = ps.length := by rw [ha, mkP_len]
  refine calls_of r_laws_heldPacketS ?_
  refine v_seq ?_
  refine v_ops ?_
  refine s_pure (.int .i64 0) (fun _ q => q) ?_
  refine s_nil ?_
  refine p_seqN ?_
  refine v_seq ?_
  refine v_seq ?_
  refine v_ops ?_
  refine s_pure (.int .i64 0) (fun _ q => q) ?_
  refine s_nil ?_
  refine p_seqN ?_
  refine v_block ?_
  refine v_loop2 (α := Nat) (β := Int) (fun k m => [(0, v_a), (1, .int .i64 m), (5, .int .i64 (k : Int))]) (fun k m hh => Ext h hh ∧ k ≤ a.length ∧ m = k0 + (szP (ps.take k) : Int)) (fun k m => a.length - k) 0 n ⟨rfl, rfl, rfl⟩ ⟨(Ext.refl h), (by refine ⟨by omega, by simp [szP, sigs, hn]⟩)⟩ ?_
  rintro k m R2 h1 ⟨Eh, ⟨hk, hm⟩⟩
  have zEh := Eh.size
  have f3 := s_a.ext Eh
  have in4 := fun p hp => (in_a p hp).ext Eh
  have hsz := szP_le ps k
  refine v_seq ?_
  refine v_seq ?_
  refine v_ops ?_
  refine s_pure (.int .i64 (k : Int)) (fun _ q => q) ?_
  refine s_pure v_a (fun _ q => q) ?_
  refine s_pure (.int .i64 (a.length : Int)) (fun _ q => f3.lenVC q) ?_
  refine s_pure (.bool (decide ((k : Int) < (a.length : Int)))) (fun _ q => q) ?_
  refine s_nil ?_
  refine p_seqN ?_
  refine v_cond rfl (fun c5 => ?_) (fun c5 => ?_)
  ·
    refine v_skip ?_
    refine p_seqN ?_
    refine v_seq ?_
    refine v_block ?_
    refine v_seq ?_
    refine v_seq ?_
    refine v_ops ?_
    refine s_pure v_a (fun _ q => q) ?_
    refine s_pure (.int .i64 (k : Int)) (fun _ q => q) ?_
    have hk6 : k < a.length := (by first | omega | (simp; omega))
    obtain ⟨x7, hx7⟩ : ∃ x, a[k]? = some x := ⟨_, List.getElem?_eq_getElem hk6⟩
    refine s_pure (.pointer (some ⟨sblk v_a, soff v_a + k * 4, none⟩)) (fun _ q => f3.idx (k := k) rfl hk6 q) ?_
    refine s_pure (.pointer (some ⟨sblk v_a, soff v_a + k * 4, none⟩)) (fun _ q => q) ?_
    have s8 := in4 x7 (List.mem_of_getElem? hx7)
    refine s_load (.int .i64 x7.message) (fun _ q => f3.load hx7 (j := 0) rfl rfl q) ?_
    refine s_pure (.int .i64 m) (fun _ q => q) ?_
    refine s_pure (.bool (x7.message != m)) (fun _ q => q) ?_
    refine s_nil ?_
    refine p_seqN ?_
    refine v_cond rfl (fun c9 => ?_) (fun c9 => ?_)
    ·
      refine v_seq ?_
      refine v_ops ?_
      refine s_pure (.int .i64 (-1)) (fun _ q => q) ?_
      refine s_nil ?_
      refine p_seqN ?_
      refine v_ret ?_
      refine p_seqR ?_
      refine p_blkR ?_
      refine p_seqR ?_
      refine p_lpR ?_
      refine p_blkR ?_
      refine p_seqR ?_
      refine p_ret [.int .i64 (-1)] (.int .i64 (-1)) (fun _ q => q) rfl ?_
      have ho : k0 + (szP ps : Int) = (-1) := by first | (exfalso; (have := held_nums ha hm (by assumption) (by omega)); omega) | (exfalso; (have := held_len ha (by assumption)); omega) | (rw [hm, take_all (by omega)])
      exact ⟨by first | (rw [ho]; done) | rfl, Eh⟩
    ·
      have c9 := Classical.not_not.1 c9
      refine v_skip ?_
      refine p_seqN ?_
      refine v_seq ?_
      refine v_ops ?_
      refine s_pure (.int .i64 m) (fun _ q => q) ?_
      refine s_pure (.int .i64 (m + 1)) (fun _ q => ArithVC.mk (by omega) q) ?_
      refine s_pure (.int .i64 (m + 1)) (fun _ q => q) ?_
      refine s_nil ?_
      refine p_seqN ?_
      refine v_seq ?_
      refine v_seq ?_
      refine v_ops ?_
      refine s_pure v_a (fun _ q => q) ?_
      refine s_pure (.int .i64 (k : Int)) (fun _ q => q) ?_
      refine s_pure (.pointer (some ⟨sblk v_a, soff v_a + k * 4, none⟩)) (fun _ q => f3.idx (k := k) rfl hk6 q) ?_
      refine s_pure (.pointer (some ⟨sblk v_a, soff v_a + k * 4 + 1, none⟩)) (fun _ q => q) ?_
      refine s_load (.int .i64 x7.part) (fun _ q => f3.load hx7 (j := 1) rfl rfl q) ?_
      refine s_pure (.int .i64 (m + 1)) (fun _ q => q) ?_
      refine s_pure (.bool (x7.part != (m + 1))) (fun _ q => q) ?_
      refine s_nil ?_
      refine p_seqN ?_
      refine v_cond rfl (fun c10 => ?_) (fun c10 => ?_)
      ·
        refine v_seq ?_
        refine v_ops ?_
        refine s_pure (.int .i64 (-1)) (fun _ q => q) ?_
        refine s_nil ?_
        refine p_seqN ?_
        refine v_ret ?_
        refine p_seqR ?_
        refine p_blkR ?_
        refine p_seqR ?_
        refine p_lpR ?_
        refine p_blkR ?_
        refine p_seqR ?_
        refine p_ret [.int .i64 (-1)] (.int .i64 (-1)) (fun _ q => q) rfl ?_
        have ho : k0 + (szP ps : Int) = (-1) := by first | (exfalso; (have := held_nums ha hm (by assumption) (by omega)); omega) | (exfalso; (have := held_len ha (by assumption)); omega) | (rw [hm, take_all (by omega)])
        exact ⟨by first | (rw [ho]; done) | rfl, Eh⟩
      ·
        have c10 := Classical.not_not.1 c10
        refine v_skip ?_
        refine p_seqN ?_
        refine v_seq ?_
        refine v_ops ?_
        refine s_pure (.int .i64 (m + 1)) (fun _ q => q) ?_
        refine s_pure (.int .i64 ((m + 1) + 1)) (fun _ q => ArithVC.mk (by omega) q) ?_
        refine s_pure (.int .i64 ((m + 1) + 1)) (fun _ q => q) ?_
        refine s_nil ?_
        refine p_seqN ?_
        refine v_seq ?_
        refine v_seq ?_
        refine v_ops ?_
        refine s_pure v_a (fun _ q => q) ?_
        refine s_pure (.int .i64 (k : Int)) (fun _ q => q) ?_
        refine s_pure (.pointer (some ⟨sblk v_a, soff v_a + k * 4, none⟩)) (fun _ q => f3.idx (k := k) rfl hk6 q) ?_
        refine s_pure (.pointer (some ⟨sblk v_a, soff v_a + k * 4 + 2, none⟩)) (fun _ q => q) ?_
        refine s_load (.int .i64 x7.parts) (fun _ q => f3.load hx7 (j := 2) rfl rfl q) ?_
        refine s_pure (.int .i64 ((m + 1) + 1)) (fun _ q => q) ?_
        refine s_pure (.bool (x7.parts != ((m + 1) + 1))) (fun _ q => q) ?_
        refine s_nil ?_
        refine p_seqN ?_
        refine v_cond rfl (fun c11 => ?_) (fun c11 => ?_)
        ·
          refine v_seq ?_
          refine v_ops ?_
          refine s_pure (.int .i64 (-1)) (fun _ q => q) ?_
          refine s_nil ?_
          refine p_seqN ?_
          refine v_ret ?_
          refine p_seqR ?_
          refine p_blkR ?_
          refine p_seqR ?_
          refine p_lpR ?_
          refine p_blkR ?_
          refine p_seqR ?_
          refine p_ret [.int .i64 (-1)] (.int .i64 (-1)) (fun _ q => q) rfl ?_
          have ho : k0 + (szP ps : Int) = (-1) := by first | (exfalso; (have := held_nums ha hm (by assumption) (by omega)); omega) | (exfalso; (have := held_len ha (by assumption)); omega) | (rw [hm, take_all (by omega)])
          exact ⟨by first | (rw [ho]; done) | rfl, Eh⟩
        ·
          have c11 := Classical.not_not.1 c11
          refine v_skip ?_
          refine p_seqN ?_
          refine v_seq ?_
          refine v_ops ?_
          refine s_pure (.int .i64 ((m + 1) + 1)) (fun _ q => q) ?_
          refine s_pure (.int .i64 (((m + 1) + 1) + 1)) (fun _ q => ArithVC.mk (by omega) q) ?_
          refine s_pure (.int .i64 (((m + 1) + 1) + 1)) (fun _ q => q) ?_
          refine s_nil ?_
          refine p_seqN ?_
          refine v_seq ?_
          refine v_ops ?_
          refine s_pure v_a (fun _ q => q) ?_
          refine s_pure (.int .i64 (k : Int)) (fun _ q => q) ?_
          refine s_pure (.pointer (some ⟨sblk v_a, soff v_a + k * 4, none⟩)) (fun _ q => f3.idx (k := k) rfl hk6 q) ?_
          refine s_pure (.pointer (some ⟨sblk v_a, soff v_a + k * 4 + 3, none⟩)) (fun _ q => q) ?_
          refine s_load x7.sv.v (fun _ q => f3.load hx7 (j := 3) rfl rfl q) ?_
          refine s_pure (.int .i64 (((m + 1) + 1) + 1)) (fun _ q => q) ?_
          refine s_callS [x7.sv.v, .int .i64 (((m + 1) + 1) + 1)] (.int .i64 ((((m + 1) + 1) + 1) + (x7.sig.length : Int))) rfl (heldIntS_ok x7.sv.v x7.sig.length (((m + 1) + 1) + 1) _ (sl_eq s8 (by exact held_sig ha hm (by assumption) (by omega))) (by omega) (by omega) (by have := held_len ha (by assumption : a[_]? = some x7); omega)) ?_
          refine s_pure (.int .i64 ((((m + 1) + 1) + 1) + (x7.sig.length : Int))) (fun _ q => q) ?_
          refine s_nil ?_
          refine p_seqN ?_
          refine v_seq ?_
          refine v_ops ?_
          refine s_pure (.int .i64 ((((m + 1) + 1) + 1) + (x7.sig.length : Int))) (fun _ q => q) ?_
          refine s_pure (.bool (decide (((((m + 1) + 1) + 1) + (x7.sig.length : Int)) < 0))) (fun _ q => q) ?_
          refine s_nil ?_
          refine p_seqN ?_
          refine v_cond rfl (fun c12 => ?_) (fun c12 => ?_)
          ·
            refine v_seq ?_
            refine v_ops ?_
            refine s_pure (.int .i64 (-1)) (fun _ q => q) ?_
            refine s_nil ?_
            refine p_seqN ?_
            refine v_ret ?_
            refine p_blkR ?_
            refine p_seqR ?_
            refine p_lpR ?_
            refine p_blkR ?_
            refine p_seqR ?_
            refine p_ret [.int .i64 (-1)] (.int .i64 (-1)) (fun _ q => q) rfl ?_
            have ho : k0 + (szP ps : Int) = (-1) := by first | (exfalso; (have := held_nums ha hm (by assumption) (by omega)); omega) | (exfalso; (have := held_len ha (by assumption)); omega) | (rw [hm, take_all (by omega)])
            exact ⟨by first | (rw [ho]; done) | rfl, Eh⟩
          ·
            refine v_skip ?_
            refine p_blkN ?_
            refine p_seqN ?_
            refine v_ops ?_
            refine s_pure (.int .i64 (k : Int)) (fun _ q => q) ?_
            refine s_pure (.int .i64 ((k : Int) + 1)) (fun _ q => ArithVC.mk (by omega) q) ?_
            refine s_pure (.int .i64 ((k : Int) + 1)) (fun _ q => q) ?_
            refine s_nil ?_
            exact p_lpN ⟨k + 1, ((((m + 1) + 1) + 1) + (x7.sig.length : Int)), ⟨rfl, rfl, rfl⟩, ⟨Eh, (by obtain ⟨p, hp⟩ : ∃ p, ps[k]? = some p := ⟨_, List.getElem?_eq_getElem (by omega)⟩; (have he := held_el ha hp (by assumption)); (have ht := szP_take ps hp); exact ⟨by omega, by (rw [he.2.2.2.2] at *; omega)⟩)⟩, by omega⟩
  ·
    refine v_exit ?_
    refine p_seqX ?_
    refine p_lpX ?_
    refine p_blkX ?_
    refine p_seqN ?_
    refine v_seq ?_
    refine v_ops ?_
    refine s_pure (.int .i64 m) (fun _ q => q) ?_
    refine s_pure (.int .i64 m) (fun _ q => q) ?_
    refine s_nil ?_
    refine p_seqN ?_
    refine v_ret ?_
    refine p_ret [.int .i64 m] (.int .i64 m) (fun _ q => q) rfl ?_
    have ho : k0 + (szP ps : Int) = m := by first | (exfalso; (have := held_nums ha hm (by assumption) (by omega)); omega) | (exfalso; (have := held_len ha (by assumption)); omega) | (rw [hm, take_all (by omega)])
    exact ⟨by first | (rw [ho]; done) | rfl, Eh⟩

set_option maxRecDepth 10000 in
set_option maxHeartbeats 4000000 in
theorem markPacketS_ok (v_a : Value) (a : List Pk) (lo_a : Nat) (n : Int) (h : Heap) (D_a : DeepO h v_a a lo_a) (h0 : 0 ≤ n) (h1 : n ≤ 288230376151711744) (hb : szP a ≤ 288230376151711744) : Cn f_laws_markPacketS [v_a, .int .i64 n] h fun v h' => v = .int .i64 (n + (szP a : Int)) ∧ DeepO h' v_a (mkP n a) lo_a ∧ Mod (fpts v_a a) h h' ∧ h.size ≤ h'.size := by
  have lt_a := D_a.lt
  have fr_a := D_a.fr
  have l63_a := D_a.row.len63
  refine calls_of r_laws_markPacketS ?_
  refine v_seq ?_
  refine v_ops ?_
  refine s_pure (.int .i64 0) (fun _ q => q) ?_
  refine s_nil ?_
  refine p_seqN ?_
  refine v_seq ?_
  refine v_seq ?_
  refine v_ops ?_
  refine s_pure (.int .i64 0) (fun _ q => q) ?_
  refine s_nil ?_
  refine p_seqN ?_
  refine v_block ?_
  refine v_loop3 (α := Nat) (β := Int) (γ := List Pk) (fun k m ps => [(0, v_a), (1, .int .i64 m), (5, .int .i64 (k : Int))]) (fun k m ps hh => Mod (fpts v_a a) h hh ∧ DeepO hh v_a ps lo_a ∧ fpts v_a ps = fpts v_a a ∧ k ≤ a.length ∧ ps = mkP n (a.take k) ++ a.drop k ∧ m = n + (szP (a.take k) : Int)) (fun k m ps => a.length - k) 0 n a ⟨rfl, rfl, rfl⟩ ⟨(Mod.refl (fpts v_a a) h), D_a, rfl, (by refine ⟨by omega, by simp [mkP], by simp [szP, sigs]⟩)⟩ ?_
  rintro k m ps R2 h1 ⟨Eh, s_a, fp_a, ⟨hk, hps, hm⟩⟩
  have zEh := Eh.size
  have lt_a := s_a.lt
  have fr_a := s_a.fr
  have ba_a : ∀ b ∈ fpts v_a ps, b ∈ fpts v_a a ∨ h.size ≤ b := fun b hb => Or.inl (by rw [← fp_a]; exact hb)
  have hsz := szP_le a k
  have hpl : ps.length = a.length := by rw [hps, List.length_append, mkP_len]; simp; omega
  refine v_seq ?_
  refine v_seq ?_
  refine v_ops ?_
  refine s_pure (.int .i64 (k : Int)) (fun _ q => q) ?_
  refine s_pure v_a (fun _ q => q) ?_
  refine s_pure (.int .i64 (ps.length : Int)) (fun _ q => s_a.row.lenVC q) ?_
  refine s_pure (.bool (decide ((k : Int) < (ps.length : Int)))) (fun _ q => q) ?_
  refine s_nil ?_
  refine p_seqN ?_
  refine v_cond rfl (fun c3 => ?_) (fun c3 => ?_)
  ·
    refine v_skip ?_
    refine p_seqN ?_
    refine v_seq ?_
    refine v_block ?_
    refine v_seq ?_
    refine v_ops ?_
    refine s_pure v_a (fun _ q => q) ?_
    refine s_pure (.int .i64 (k : Int)) (fun _ q => q) ?_
    refine s_pure (.int .i64 m) (fun _ q => q) ?_
    have hk4 : k < ps.length := (by first | omega | (simp; omega))
    obtain ⟨x5, hx5⟩ : ∃ x, ps[k]? = some x := ⟨_, List.getElem?_eq_getElem hk4⟩
    refine s_pure (.pointer (some ⟨sblk v_a, soff v_a + k * 4, none⟩)) (fun _ q => s_a.row.idx (k := k) rfl hk4 q) ?_
    refine s_pure (.pointer (some ⟨sblk v_a, soff v_a + k * 4, none⟩)) (fun _ q => q) ?_
    refine s_stSl (k := k) (j := 0) (⟨m, x5.part, x5.parts, x5.sv, x5.sig⟩ : Pk) (.int .i64 m) [.int .i64 m] s_a.row rfl rfl rfl rfl rfl hx5 (Nat.le_of_ble_eq_true rfl) rfl (all_cons rfl all_nil) (fun h6 mh6 sh6 s7 => ?_)
    have D8 := DeepO.turnRow (e' := (⟨m, x5.part, x5.parts, x5.sv, x5.sig⟩ : Pk)) s_a hx5 rfl rfl mh6 s7
    have E9 := Eh.new mh6 (fun b hb => ba_a b (mem_fpts.2 (.inl hb)))
    have fp10 : fpts v_a (ps.set k (⟨m, x5.part, x5.parts, x5.sv, x5.sig⟩ : Pk)) = fpts v_a a := (fpts_set (e' := (⟨m, x5.part, x5.parts, x5.sv, x5.sig⟩ : Pk)) hx5 rfl).trans fp_a
    have bafp10 : ∀ b ∈ fpts v_a (ps.set k (⟨m, x5.part, x5.parts, x5.sv, x5.sig⟩ : Pk)), b ∈ fpts v_a a ∨ h.size ≤ b := fun b hb => Or.inl (by rw [← fp10]; exact hb)
    have ltD8 := D8.lt
    have frD8 := D8.fr
    refine s_nil ?_
    refine p_seqN ?_
    refine v_seq ?_
    refine v_ops ?_
    refine s_pure (.int .i64 m) (fun _ q => q) ?_
    refine s_pure (.int .i64 (m + 1)) (fun _ q => ArithVC.mk (by omega) q) ?_
    refine s_pure (.int .i64 (m + 1)) (fun _ q => q) ?_
    refine s_nil ?_
    refine p_seqN ?_
    refine v_seq ?_
    refine v_ops ?_
    refine s_pure v_a (fun _ q => q) ?_
    refine s_pure (.int .i64 (k : Int)) (fun _ q => q) ?_
    refine s_pure (.int .i64 (m + 1)) (fun _ q => q) ?_
    have hk11 : k < (ps.set k (⟨m, x5.part, x5.parts, x5.sv, x5.sig⟩ : Pk)).length := (by first | omega | (simp; omega))
    obtain ⟨x12, hx12, heq_x12⟩ : ∃ x, (ps.set k (⟨m, x5.part, x5.parts, x5.sv, x5.sig⟩ : Pk))[k]? = some x ∧ x = (⟨m, x5.part, x5.parts, x5.sv, x5.sig⟩ : Pk) := ⟨_, List.getElem?_set_self (by simpa using hk11), rfl⟩
    refine s_pure (.pointer (some ⟨sblk v_a, soff v_a + k * 4, none⟩)) (fun _ q => D8.row.idx (k := k) rfl hk11 q) ?_
    refine s_pure (.pointer (some ⟨sblk v_a, soff v_a + k * 4 + 1, none⟩)) (fun _ q => q) ?_
    refine s_stSl (k := k) (j := 1) (⟨x12.message, (m + 1), x12.parts, x12.sv, x12.sig⟩ : Pk) (.int .i64 (m + 1)) [.int .i64 (m + 1)] D8.row rfl rfl rfl rfl rfl hx12 (Nat.le_of_ble_eq_true rfl) rfl (all_cons rfl all_nil) (fun h13 mh13 sh13 s14 => ?_)
    have D15 := DeepO.turnRow (e' := (⟨x12.message, (m + 1), x12.parts, x12.sv, x12.sig⟩ : Pk)) D8 hx12 rfl rfl mh13 s14
    have E16 := E9.new mh13 (fun b hb => bafp10 b (mem_fpts.2 (.inl hb)))
    have fp17 : fpts v_a ((ps.set k (⟨m, x5.part, x5.parts, x5.sv, x5.sig⟩ : Pk)).set k (⟨x12.message, (m + 1), x12.parts, x12.sv, x12.sig⟩ : Pk)) = fpts v_a a := (fpts_set (e' := (⟨x12.message, (m + 1), x12.parts, x12.sv, x12.sig⟩ : Pk)) hx12 rfl).trans fp10
    have bafp17 : ∀ b ∈ fpts v_a ((ps.set k (⟨m, x5.part, x5.parts, x5.sv, x5.sig⟩ : Pk)).set k (⟨x12.message, (m + 1), x12.parts, x12.sv, x12.sig⟩ : Pk)), b ∈ fpts v_a a ∨ h.size ≤ b := fun b hb => Or.inl (by rw [← fp17]; exact hb)
    have ltD15 := D15.lt
    have frD15 := D15.fr
    refine s_nil ?_
    refine p_seqN ?_
    refine v_seq ?_
    refine v_ops ?_
    refine s_pure (.int .i64 (m + 1)) (fun _ q => q) ?_
    refine s_pure (.int .i64 ((m + 1) + 1)) (fun _ q => ArithVC.mk (by omega) q) ?_
    refine s_pure (.int .i64 ((m + 1) + 1)) (fun _ q => q) ?_
    refine s_nil ?_
    refine p_seqN ?_
    refine v_seq ?_
    refine v_ops ?_
    refine s_pure v_a (fun _ q => q) ?_
    refine s_pure (.int .i64 (k : Int)) (fun _ q => q) ?_
    refine s_pure (.int .i64 ((m + 1) + 1)) (fun _ q => q) ?_
    have hk18 : k < ((ps.set k (⟨m, x5.part, x5.parts, x5.sv, x5.sig⟩ : Pk)).set k (⟨x12.message, (m + 1), x12.parts, x12.sv, x12.sig⟩ : Pk)).length := (by first | omega | (simp; omega))
    obtain ⟨x19, hx19, heq_x19⟩ : ∃ x, ((ps.set k (⟨m, x5.part, x5.parts, x5.sv, x5.sig⟩ : Pk)).set k (⟨x12.message, (m + 1), x12.parts, x12.sv, x12.sig⟩ : Pk))[k]? = some x ∧ x = (⟨x12.message, (m + 1), x12.parts, x12.sv, x12.sig⟩ : Pk) := ⟨_, List.getElem?_set_self (by simpa using hk18), rfl⟩
    refine s_pure (.pointer (some ⟨sblk v_a, soff v_a + k * 4, none⟩)) (fun _ q => D15.row.idx (k := k) rfl hk18 q) ?_
    refine s_pure (.pointer (some ⟨sblk v_a, soff v_a + k * 4 + 2, none⟩)) (fun _ q => q) ?_
    refine s_stSl (k := k) (j := 2) (⟨x19.message, x19.part, ((m + 1) + 1), x19.sv, x19.sig⟩ : Pk) (.int .i64 ((m + 1) + 1)) [.int .i64 ((m + 1) + 1)] D15.row rfl rfl rfl rfl rfl hx19 (Nat.le_of_ble_eq_true rfl) rfl (all_cons rfl all_nil) (fun h20 mh20 sh20 s21 => ?_)
    have D22 := DeepO.turnRow (e' := (⟨x19.message, x19.part, ((m + 1) + 1), x19.sv, x19.sig⟩ : Pk)) D15 hx19 rfl rfl mh20 s21
    have E23 := E16.new mh20 (fun b hb => bafp17 b (mem_fpts.2 (.inl hb)))
    have fp24 : fpts v_a (((ps.set k (⟨m, x5.part, x5.parts, x5.sv, x5.sig⟩ : Pk)).set k (⟨x12.message, (m + 1), x12.parts, x12.sv, x12.sig⟩ : Pk)).set k (⟨x19.message, x19.part, ((m + 1) + 1), x19.sv, x19.sig⟩ : Pk)) = fpts v_a a := (fpts_set (e' := (⟨x19.message, x19.part, ((m + 1) + 1), x19.sv, x19.sig⟩ : Pk)) hx19 rfl).trans fp17
    have bafp24 : ∀ b ∈ fpts v_a (((ps.set k (⟨m, x5.part, x5.parts, x5.sv, x5.sig⟩ : Pk)).set k (⟨x12.message, (m + 1), x12.parts, x12.sv, x12.sig⟩ : Pk)).set k (⟨x19.message, x19.part, ((m + 1) + 1), x19.sv, x19.sig⟩ : Pk)), b ∈ fpts v_a a ∨ h.size ≤ b := fun b hb => Or.inl (by rw [← fp24]; exact hb)
    have ltD22 := D22.lt
    have frD22 := D22.fr
    refine s_nil ?_
    refine p_seqN ?_
    refine v_seq ?_
    refine v_ops ?_
    refine s_pure (.int .i64 ((m + 1) + 1)) (fun _ q => q) ?_
    refine s_pure (.int .i64 (((m + 1) + 1) + 1)) (fun _ q => ArithVC.mk (by omega) q) ?_
    refine s_pure (.int .i64 (((m + 1) + 1) + 1)) (fun _ q => q) ?_
    refine s_nil ?_
    refine p_seqN ?_
    refine v_ops ?_
    refine s_pure v_a (fun _ q => q) ?_
    refine s_pure (.int .i64 (k : Int)) (fun _ q => q) ?_
    have hk25 : k < (((ps.set k (⟨m, x5.part, x5.parts, x5.sv, x5.sig⟩ : Pk)).set k (⟨x12.message, (m + 1), x12.parts, x12.sv, x12.sig⟩ : Pk)).set k (⟨x19.message, x19.part, ((m + 1) + 1), x19.sv, x19.sig⟩ : Pk)).length := (by first | omega | (simp; omega))
    obtain ⟨x26, hx26, heq_x26⟩ : ∃ x, (((ps.set k (⟨m, x5.part, x5.parts, x5.sv, x5.sig⟩ : Pk)).set k (⟨x12.message, (m + 1), x12.parts, x12.sv, x12.sig⟩ : Pk)).set k (⟨x19.message, x19.part, ((m + 1) + 1), x19.sv, x19.sig⟩ : Pk))[k]? = some x ∧ x = (⟨x19.message, x19.part, ((m + 1) + 1), x19.sv, x19.sig⟩ : Pk) := ⟨_, List.getElem?_set_self (by simpa using hk25), rfl⟩
    refine s_pure (.pointer (some ⟨sblk v_a, soff v_a + k * 4, none⟩)) (fun _ q => D22.row.idx (k := k) rfl hk25 q) ?_
    refine s_pure (.pointer (some ⟨sblk v_a, soff v_a + k * 4 + 3, none⟩)) (fun _ q => q) ?_
    have s27 := D22.insL x26 (List.mem_of_getElem? hx26)
    refine s_load x26.sv.v (fun _ q => D22.row.load hx26 (j := 3) rfl rfl q) ?_
    refine s_pure (.int .i64 (((m + 1) + 1) + 1)) (fun _ q => q) ?_
    refine s_call [x26.sv.v, .int .i64 (((m + 1) + 1) + 1)] rfl (markIntS_ok x26.sv.v x26.sig (((m + 1) + 1) + 1) _ (D22.ins x26 (List.mem_of_getElem? hx26)) (by omega) (by omega) (by (obtain ⟨p, hp⟩ : ∃ p, a[k]? = some p := ⟨_, List.getElem?_eq_getElem (by omega)⟩); (have h5 := mk_at hps hp (by assumption : ps[k]? = some _)); (have h6 := sig_le hp); simp only [szP] at hb; simp only [heq_x26, h5]; simp_all; omega)) ?_
    rintro _ h28 ⟨rfl, mk29, mh28, zh28⟩
    have D30 := DeepO.turnIn (e' := (⟨x26.message, x26.part, x26.parts, x26.sv, upto (((m + 1) + 1) + 1) x26.sig.length⟩ : Pk)) D22 hx26 rfl rfl mh28 mk29
    have E31 := E23.new mh28 (fun b hb => bafp24 b (mem_fpts.2 (.inr ⟨x26, List.mem_of_getElem? hx26, hb⟩)))
    have fp32 : fpts v_a ((((ps.set k (⟨m, x5.part, x5.parts, x5.sv, x5.sig⟩ : Pk)).set k (⟨x12.message, (m + 1), x12.parts, x12.sv, x12.sig⟩ : Pk)).set k (⟨x19.message, x19.part, ((m + 1) + 1), x19.sv, x19.sig⟩ : Pk)).set k (⟨x26.message, x26.part, x26.parts, x26.sv, upto (((m + 1) + 1) + 1) x26.sig.length⟩ : Pk)) = fpts v_a a := (fpts_set (e' := (⟨x26.message, x26.part, x26.parts, x26.sv, upto (((m + 1) + 1) + 1) x26.sig.length⟩ : Pk)) hx26 rfl).trans fp24
    have bafp32 : ∀ b ∈ fpts v_a ((((ps.set k (⟨m, x5.part, x5.parts, x5.sv, x5.sig⟩ : Pk)).set k (⟨x12.message, (m + 1), x12.parts, x12.sv, x12.sig⟩ : Pk)).set k (⟨x19.message, x19.part, ((m + 1) + 1), x19.sv, x19.sig⟩ : Pk)).set k (⟨x26.message, x26.part, x26.parts, x26.sv, upto (((m + 1) + 1) + 1) x26.sig.length⟩ : Pk)), b ∈ fpts v_a a ∨ h.size ≤ b := fun b hb => Or.inl (by rw [← fp32]; exact hb)
    have ltD30 := D30.lt
    have frD30 := D30.fr
    refine s_pure (.int .i64 ((((m + 1) + 1) + 1) + (x26.sig.length : Int))) (fun _ q => q) ?_
    refine s_nil ?_
    refine p_blkN ?_
    refine p_seqN ?_
    refine v_ops ?_
    refine s_pure (.int .i64 (k : Int)) (fun _ q => q) ?_
    refine s_pure (.int .i64 ((k : Int) + 1)) (fun _ q => ArithVC.mk (by omega) q) ?_
    refine s_pure (.int .i64 ((k : Int) + 1)) (fun _ q => q) ?_
    refine s_nil ?_
    exact p_lpN ⟨k + 1, ((((m + 1) + 1) + 1) + (x26.sig.length : Int)), ((((ps.set k (⟨m, x5.part, x5.parts, x5.sv, x5.sig⟩ : Pk)).set k (⟨x12.message, (m + 1), x12.parts, x12.sv, x12.sig⟩ : Pk)).set k (⟨x19.message, x19.part, ((m + 1) + 1), x19.sv, x19.sig⟩ : Pk)).set k (⟨x26.message, x26.part, x26.parts, x26.sv, upto (((m + 1) + 1) + 1) x26.sig.length⟩ : Pk)), ⟨rfl, rfl, rfl⟩, ⟨E31, D30, fp32, (by obtain ⟨p, hp⟩ : ∃ p, a[k]? = some p := ⟨_, List.getElem?_eq_getElem (by omega)⟩; (have ht := szP_take a hp); subst_vars; (have h5 := mk_at rfl hp (by assumption : (mkP n (a.take k) ++ a.drop k)[k]? = some _)); subst h5; (have hq := mkP_step n a k _ hp); exact ⟨by omega, by (rw [List.set_set, List.set_set, List.set_set]; exact hq), by (dsimp only; omega)⟩)⟩, by omega⟩
  ·
    refine v_exit ?_
    refine p_seqX ?_
    refine p_lpX ?_
    refine p_blkX ?_
    refine p_seqN ?_
    refine v_seq ?_
    refine v_ops ?_
    refine s_pure (.int .i64 m) (fun _ q => q) ?_
    refine s_pure (.int .i64 m) (fun _ q => q) ?_
    refine s_nil ?_
    refine p_seqN ?_
    refine v_ret ?_
    refine p_ret [.int .i64 m] (.int .i64 m) (fun _ q => q) rfl ?_
    have hk2 : k = a.length := by omega
    subst hk2
    rw [List.take_length] at hm hps
    rw [List.drop_length, List.append_nil] at hps
    subst hps
    exact ⟨by rw [hm], s_a, Eh, Eh.size⟩

end Go.Proofs.Ytjmcijcdncgaiaa
