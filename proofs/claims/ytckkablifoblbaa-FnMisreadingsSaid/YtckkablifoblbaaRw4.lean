/- The laws' helpers on rows of rows of numbers that come in. Condition: none. Printed in part by a program. -/
import Derived.Test.YtckkablifoblbaaRw3
namespace Go.Proofs.Ytckkablifoblbaa
open Go.Vc
set_option linter.all false

theorem set_take {α : Type} {xs ys : List α} {k : Nat} {x y : α} (h : xs.take k = ys.take k) (hk : k < xs.length) (hy : ys[k]? = some y) (e : x = y) : (xs.set k x).take (k + 1) = ys.take (k + 1) := by
  refine take_ext (x := x) (y := y) ?_ (List.getElem?_set_self hk) hy e
  rw [List.take_set_of_le (Nat.le_refl k)]; exact h
theorem slr_cells {α β : Type} [Enc α] [Enc β] {own : Bool} {h : Heap} {v : Value} {xs : List α} {ys : List β} (hs : SlX own h v xs) (hl : ys.length = xs.length) (hsz : Enc.sz β = Enc.sz α) (hf : flat ys = flat xs) : SlX own h v ys := by
  obtain ⟨a, c, hv, hs⟩ := hs
  refine ⟨a, c, by rw [hl]; exact hv, ?_⟩
  rcases hs with ⟨h1, h2⟩ | ⟨ad, h0, h1, h2, h3, h4, C, T, fz, h5, h6, h7, h8⟩
  · left; subst h1; exact ⟨List.length_eq_zero_iff.1 hl, h2⟩
  · right
    refine ⟨ad, h0, h1, h2, by rw [hl]; exact h3, h4, C, T, fz, h5, h6, by rw [hsz]; exact h7, ?_⟩
    rw [hl, hsz, hf]; exact h8
theorem rep_flat (n : Nat) : flat (List.replicate n (⟨SV.nil, []⟩ : RowI)) = flat (List.replicate n SV.nil) := by
  induction n with
  | zero => rfl
  | succ n ih => rw [List.replicate_succ, List.replicate_succ, flat_cons, flat_cons, ih]; rfl
theorem rowi_made {h : Heap} {v : Value} {n : Nat} (hs : SlO h v (List.replicate n SV.nil)) : SlO h v (List.replicate n (⟨SV.nil, []⟩ : RowI)) := slr_cells hs (by simp) rfl (rep_flat n)
theorem rowi_open {h : Heap} {v : Value} {xs : List SV} (hs : Sl h v xs) (hg : ∀ y ∈ xs, ∃ l : List Int, Sl h y.v l ∧ ∀ y ∈ l, I64 y) : ∃ ps : List RowI, Sl h v ps ∧ ∀ p ∈ ps, Sl h p.sv.v p.sig := by
  have : ∃ ps : List RowI, ps.length = xs.length ∧ flat ps = flat xs ∧ ∀ p ∈ ps, Sl h p.sv.v p.sig := by
    clear hs
    induction xs with
    | nil => exact ⟨[], rfl, rfl, by simp⟩
    | cons x xs ih =>
      obtain ⟨ps, h1, h2, h3⟩ := ih (fun y hy => hg y (List.mem_cons_of_mem _ hy))
      obtain ⟨l, hl, _⟩ := hg x (List.mem_cons_self ..)
      refine ⟨⟨x, l⟩ :: ps, by simp [h1], by rw [flat_cons, flat_cons, h2]; rfl, ?_⟩
      intro p hp
      rcases List.mem_cons.1 hp with rfl | hp
      · exact hl
      · exact h3 p hp
  obtain ⟨ps, h1, h2, h3⟩ := this
  exact ⟨ps, slr_cells hs h1 rfl h2, h3⟩

theorem szIntSS_ok (v_a : Value) (a : List RowI) (n : Int) (h : Heap) (s_a : Sl h v_a a) (in_a : ∀ p ∈ a, Sl h p.sv.v p.sig) (h0 : 0 ≤ n) (h1 : n ≤ 1048576) : Cn f_laws_szIntSS [v_a, .int .i64 n] h fun v h' => ∃ m : Int, v = .int .i64 m ∧ Ext h h' ∧ (0 ≤ m → m = n - (a.length : Int) - (szR a : Int)) ∧ m ≤ n := by
  have lt_a := s_a.lt
  have l63_a := s_a.len63
  have inlt_a := fun p hp => (in_a p hp).lt
  refine calls_of r_laws_szIntSS ?_
  refine v_seq ?_
  refine v_ops ?_
  refine s_pure (.int .i64 0) (fun _ q => q) ?_
  refine s_nil ?_
  refine p_seqN ?_
  refine v_seq ?_
  refine v_ops ?_
  refine s_pure (.int .i64 n) (fun _ q => q) ?_
  refine s_pure v_a (fun _ q => q) ?_
  refine s_pure (.int .i64 (a.length : Int)) (fun _ q => s_a.lenVC q) ?_
  refine s_pure (.int .i64 (n - (a.length : Int))) (fun _ q => ArithVC.mk (by omega) q) ?_
  refine s_pure (.int .i64 (n - (a.length : Int))) (fun _ q => q) ?_
  refine s_nil ?_
  refine p_seqN ?_
  refine v_seq ?_
  refine v_seq ?_
  refine v_ops ?_
  refine s_pure (.int .i64 (n - (a.length : Int))) (fun _ q => q) ?_
  refine s_pure (.bool (decide ((n - (a.length : Int)) < 0))) (fun _ q => q) ?_
  refine s_nil ?_
  refine p_seqN ?_
  refine v_cond rfl (fun c1 => ?_) (fun c1 => ?_)
  ·
    refine v_seq ?_
    refine v_ops ?_
    refine s_pure (.int .i64 (-1)) (fun _ q => q) ?_
    refine s_nil ?_
    refine p_seqN ?_
    refine v_ret ?_
    refine p_seqR ?_
    refine p_ret [.int .i64 (-1)] (.int .i64 (-1)) (fun _ q => q) rfl ?_
    exact ⟨_, rfl, (Ext.refl h), by omega, by omega⟩
  ·
    refine v_skip ?_
    refine p_seqN ?_
    refine v_seq ?_
    refine v_seq ?_
    refine v_ops ?_
    refine s_pure (.int .i64 0) (fun _ q => q) ?_
    refine s_nil ?_
    refine p_seqN ?_
    refine v_block ?_
    refine v_loop2 (α := Nat) (β := Int) (fun k m => [(0, v_a), (1, .int .i64 m), (5, .int .i64 (k : Int))]) (fun k m hh => Ext h hh ∧ k ≤ a.length ∧ 0 ≤ m ∧ m = n - (a.length : Int) - (szR (a.take k) : Int)) (fun k m => a.length - k) 0 (n - (a.length : Int)) ⟨rfl, rfl, rfl⟩ ⟨(Ext.refl h), (by refine ⟨by omega, by omega, by simp [szR]⟩)⟩ ?_
    rintro k m R3 h2 ⟨Eh, ⟨hk, hm0, hm⟩⟩
    have zEh := Eh.size
    have f4 := s_a.ext Eh
    have in5 := fun p hp => (in_a p hp).ext Eh
    refine v_seq ?_
    refine v_seq ?_
    refine v_ops ?_
    refine s_pure (.int .i64 (k : Int)) (fun _ q => q) ?_
    refine s_pure v_a (fun _ q => q) ?_
    refine s_pure (.int .i64 (a.length : Int)) (fun _ q => f4.lenVC q) ?_
    refine s_pure (.bool (decide ((k : Int) < (a.length : Int)))) (fun _ q => q) ?_
    refine s_nil ?_
    refine p_seqN ?_
    refine v_cond rfl (fun c6 => ?_) (fun c6 => ?_)
    ·
      refine v_skip ?_
      refine p_seqN ?_
      refine v_seq ?_
      refine v_block ?_
      refine v_seq ?_
      refine v_ops ?_
      refine s_pure v_a (fun _ q => q) ?_
      refine s_pure (.int .i64 (k : Int)) (fun _ q => q) ?_
      have hk7 : k < a.length := (by first | omega | (simp; omega))
      obtain ⟨x8, hx8⟩ : ∃ x, a[k]? = some x := ⟨_, List.getElem?_eq_getElem hk7⟩
      refine s_pure (.pointer (some ⟨sblk v_a, soff v_a + k * 1, none⟩)) (fun _ q => f4.idx (k := k) rfl hk7 q) ?_
      have s9 := in5 x8 (List.mem_of_getElem? hx8)
      refine s_load x8.sv.v (fun _ q => f4.load1 hx8 rfl q) ?_
      refine s_pure (.int .i64 m) (fun _ q => q) ?_
      refine s_call [x8.sv.v, .int .i64 m] rfl (szIntS_ok x8.sv.v x8.sig m _ s9 (by omega) (by omega)) ?_
      rintro _ h10 ⟨n11, rfl, eh10, hmn11, hkn11⟩
      have E12 := Eh.trans eh10
      have z13 := eh10.size
      refine s_pure (.int .i64 n11) (fun _ q => q) ?_
      refine s_nil ?_
      refine p_seqN ?_
      refine v_seq ?_
      refine v_ops ?_
      refine s_pure (.int .i64 n11) (fun _ q => q) ?_
      refine s_pure (.bool (decide (n11 < 0))) (fun _ q => q) ?_
      refine s_nil ?_
      refine p_seqN ?_
      refine v_cond rfl (fun c14 => ?_) (fun c14 => ?_)
      ·
        refine v_seq ?_
        refine v_ops ?_
        refine s_pure (.int .i64 (-1)) (fun _ q => q) ?_
        refine s_nil ?_
        refine p_seqN ?_
        refine v_ret ?_
        refine p_blkR ?_
        refine p_seqR ?_
        refine p_lpR ?_
        refine p_blkR ?_
        refine p_seqR ?_
        refine p_ret [.int .i64 (-1)] (.int .i64 (-1)) (fun _ q => q) rfl ?_
        exact ⟨_, rfl, E12, by omega, by omega⟩
      ·
        refine v_skip ?_
        refine p_blkN ?_
        refine p_seqN ?_
        refine v_ops ?_
        refine s_pure (.int .i64 (k : Int)) (fun _ q => q) ?_
        refine s_pure (.int .i64 ((k : Int) + 1)) (fun _ q => ArithVC.mk (by omega) q) ?_
        refine s_pure (.int .i64 ((k : Int) + 1)) (fun _ q => q) ?_
        refine s_nil ?_
        exact p_lpN ⟨k + 1, n11, ⟨rfl, rfl, rfl⟩, ⟨E12, (by (have hs := szR_snoc (a.take k) x8); rw [← snoc_get (by assumption)] at hs; exact ⟨by omega, by omega, by omega⟩)⟩, by omega⟩
    ·
      refine v_exit ?_
      refine p_seqX ?_
      refine p_lpX ?_
      refine p_blkX ?_
      refine p_seqN ?_
      refine v_seq ?_
      refine v_ops ?_
      refine s_pure (.int .i64 m) (fun _ q => q) ?_
      refine s_pure (.int .i64 m) (fun _ q => q) ?_
      refine s_nil ?_
      refine p_seqN ?_
      refine v_ret ?_
      refine p_ret [.int .i64 m] (.int .i64 m) (fun _ q => q) rfl ?_
      rw [take_all (by assumption)] at hm; exact ⟨_, rfl, Eh, by omega, by omega⟩

theorem toIntSS_ok (v_a : Value) (a : List RowI) (h : Heap) (s_a : Sl h v_a a) (in_a : ∀ p ∈ a, Sl h p.sv.v p.sig) (hb : szR a ≤ 1048576) (hb2 : a.length ≤ 1048576) : Cn f_laws_toIntSS [v_a] h fun v h' => ∃ r0 : Value, ∃ qr0 : List RowI, v = r0 ∧ DeepO h' r0 qr0 h.size ∧ qr0.map RowI.sig = a.map RowI.sig ∧ Ext h h' := by
  have lt_a := s_a.lt
  have l63_a := s_a.len63
  have inlt_a := fun p hp => (in_a p hp).lt
  refine calls_of r_laws_toIntSS ?_
  refine v_seq ?_
  refine v_ops ?_
  refine s_pure (.slice none 0 0) (fun _ q => q) ?_
  refine s_nil ?_
  refine p_seqN ?_
  refine v_seq ?_
  refine v_ops ?_
  refine s_pure v_a (fun _ q => q) ?_
  refine s_pure (.int .i64 (a.length : Int)) (fun _ q => s_a.lenVC q) ?_
  refine s_mk (α := SV) a.length SV.nil rfl rfl rfl rfl rfl rfl (by first | (simp [maxLen]; done) | (simp [maxLen]; omega)) (by omega) (fun r1 h2 eh2 zh2 s_r1 fr_r1 => ?_)
  have E3 := (Ext.refl h).trans eh2
  have z4 := eh2.size
  have lt_r1 := s_r1.lt
  refine s_pure r1 (fun _ q => q) ?_
  refine s_nil ?_
  refine p_seqN ?_
  refine v_seq ?_
  refine v_seq ?_
  refine v_ops ?_
  refine s_pure (.int .i64 0) (fun _ q => q) ?_
  refine s_nil ?_
  refine p_seqN ?_
  refine v_block ?_
  have D_r1 := DeepO.made (γ := RowI) (z := ⟨SV.nil, []⟩) rfl rfl (rowi_made s_r1) fr_r1
  have lt_r1d := D_r1.lt
  have fr_r1d := D_r1.fr
  refine v_loop3 (α := Nat) (β := List RowI) (γ := Value) (fun k ps o => [(0, v_a), (3, o), (4, .int .i64 (k : Int))]) (fun k ps o hh => Ext h hh ∧ DeepO hh o ps h.size ∧ k ≤ a.length ∧ ps.length = a.length ∧ (ps.map RowI.sig).take k = (a.map RowI.sig).take k) (fun k ps o => a.length - k) 0 (List.replicate a.length (⟨SV.nil, []⟩ : RowI)) r1 ⟨rfl, rfl, rfl⟩ ⟨E3, (D_r1.mono (by omega)), (by simp)⟩ ?_
  rintro k ps o R6 h5 ⟨Eh, s_o, ⟨hk, hpl, hps⟩⟩
  have zEh := Eh.size
  have f7 := s_a.ext Eh
  have in8 := fun p hp => (in_a p hp).ext Eh
  have lt_o := s_o.lt
  have fr_o := s_o.fr
  refine v_seq ?_
  refine v_seq ?_
  refine v_ops ?_
  refine s_pure (.int .i64 (k : Int)) (fun _ q => q) ?_
  refine s_pure v_a (fun _ q => q) ?_
  refine s_pure (.int .i64 (a.length : Int)) (fun _ q => f7.lenVC q) ?_
  refine s_pure (.bool (decide ((k : Int) < (a.length : Int)))) (fun _ q => q) ?_
  refine s_nil ?_
  refine p_seqN ?_
  refine v_cond rfl (fun c9 => ?_) (fun c9 => ?_)
  ·
    refine v_skip ?_
    refine p_seqN ?_
    refine v_seq ?_
    refine v_block ?_
    refine v_ops ?_
    refine s_pure o (fun _ q => q) ?_
    refine s_pure (.int .i64 (k : Int)) (fun _ q => q) ?_
    refine s_pure v_a (fun _ q => q) ?_
    refine s_pure (.int .i64 (k : Int)) (fun _ q => q) ?_
    have hk10 : k < a.length := (by first | omega | (simp; omega))
    obtain ⟨x11, hx11⟩ : ∃ x, a[k]? = some x := ⟨_, List.getElem?_eq_getElem hk10⟩
    refine s_pure (.pointer (some ⟨sblk v_a, soff v_a + k * 1, none⟩)) (fun _ q => f7.idx (k := k) rfl hk10 q) ?_
    have s12 := in8 x11 (List.mem_of_getElem? hx11)
    refine s_load x11.sv.v (fun _ q => f7.load1 hx11 rfl q) ?_
    refine s_call [x11.sv.v] rfl (toIntS_ok _ _ _ s12 (by have hsr := sigR_le hx11; omega)) ?_
    rintro r13 h14 ⟨s_r13, eh14, fr_r13⟩
    have E15 := Eh.trans eh14
    have z16 := eh14.size
    have lt_r13 := s_r13.lt
    have f17 := (s_o.ext eh14)
    have hk18 : k < ps.length := (by first | omega | (simp; omega))
    obtain ⟨x19, hx19⟩ : ∃ x, ps[k]? = some x := ⟨_, List.getElem?_eq_getElem hk18⟩
    refine s_pure (.pointer (some ⟨sblk o, soff o + k * 1, none⟩)) (fun _ q => f17.row.idx (k := k) rfl hk18 q) ?_
    obtain ⟨sv22, rfl⟩ := s_r13.sv
    refine s_stSl (k := k) (j := 0) (⟨sv22, x11.sig⟩ : RowI) sv22.v [sv22.v] f17.row rfl rfl rfl rfl rfl hx19 (Nat.le_of_ble_eq_true rfl) rfl (all_cons s_r13.one1 all_nil) (fun h20 mh20 sh20 s21 => ?_)
    have D23 := DeepO.set (e := (⟨sv22, x11.sig⟩ : RowI)) (k := k) f17 s_r13 (fr_r13.mono (by omega)) (fun b hb hc => by have := fr_r13 b hb; have := lt_o b hc; omega) mh20 s21
    have E24 := E15.mod mh20 (fun b hb => by have := (fun b hb => fr_o b (mem_fpts.2 (.inl hb))) b hb; omega)
    have ltD23 := D23.lt
    have frD23 := D23.fr
    refine s_nil ?_
    refine p_blkN ?_
    refine p_seqN ?_
    refine v_ops ?_
    refine s_pure (.int .i64 (k : Int)) (fun _ q => q) ?_
    refine s_pure (.int .i64 ((k : Int) + 1)) (fun _ q => ArithVC.mk (by omega) q) ?_
    refine s_pure (.int .i64 ((k : Int) + 1)) (fun _ q => q) ?_
    refine s_nil ?_
    exact p_lpN ⟨k + 1, (ps.set k (⟨sv22, x11.sig⟩ : RowI)), o, ⟨rfl, rfl, rfl⟩, ⟨E24, (D23.mono (by omega)), (by exact ⟨by omega, by simpa using hpl, by rw [List.map_set]; exact set_take hps (by simp; omega) (map_get (by assumption)) (by rfl)⟩)⟩, by omega⟩
  ·
    refine v_exit ?_
    refine p_seqX ?_
    refine p_lpX ?_
    refine p_blkX ?_
    refine p_seqN ?_
    refine v_seq ?_
    refine v_ops ?_
    refine s_pure o (fun _ q => q) ?_
    refine s_pure o (fun _ q => q) ?_
    refine s_nil ?_
    refine p_seqN ?_
    refine v_ret ?_
    refine p_ret [o] o (fun _ q => q) rfl ?_
    have ho : a.map RowI.sig = (ps.map RowI.sig) := by (rw [List.take_of_length_le (by simp; omega), List.take_of_length_le (by simp; omega)] at hps); exact hps.symm
    exact ⟨o, ps, by first | (rw [ho]; done) | rfl, (s_o.mono (by omega)), (congrArg (fun o => o) ho).symm, Eh⟩

end Go.Proofs.Ytckkablifoblbaa
