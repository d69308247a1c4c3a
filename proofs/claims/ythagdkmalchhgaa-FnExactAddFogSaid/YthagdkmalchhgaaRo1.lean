/- The laws' helpers on rows of towers, links, fogs. Condition: none. Printed in part by a program. -/
import Derived.Test.YthagdkmalchhgaaStep2
import Derived.Test.YthagdkmalchhgaaDeep2
import Derived.Test.YthagdkmalchhgaaTypes
import Derived.Test.YthagdkmalchhgaaLaws2
import Derived.Test.YthagdkmalchhgaaCom2
import Derived.Test.YthagdkmalchhgaaFind
namespace Go.Proofs.Ythagdkmalchhgaa
open Go.Vc
set_option linter.all false

theorem take_ext {α : Type} {xs ys : List α} {k : Nat} {x y : α} (h : xs.take k = ys.take k) (hx : xs[k]? = some x) (hy : ys[k]? = some y) (e : x = y) : xs.take (k + 1) = ys.take (k + 1) := by
  rw [snoc_get hx, snoc_get hy, h, e]
theorem get_ne {α : Type} {xs ys : List α} {k : Nat} {x y : α} (hx : xs[k]? = some x) (hy : ys[k]? = some y) (e : ¬ x = y) : ¬ xs = ys := by
  intro h; subst h; rw [hx] at hy; exact e (Option.some.inj hy)
theorem take_done {α : Type} {xs ys : List α} {k : Nat} (h : xs.take k = ys.take k) (hk : ¬ (k : Int) < (xs.length : Int)) (hl : (xs.length : Int) = (ys.length : Int)) : xs = ys := by
  rw [take_all hk, take_all (by omega)] at h; exact h
theorem set_take {α : Type} {xs ys : List α} {k : Nat} {x y : α} (h : xs.take k = ys.take k) (hk : k < xs.length) (hy : ys[k]? = some y) (e : x = y) : (xs.set k x).take (k + 1) = ys.take (k + 1) := by
  refine take_ext (x := x) (y := y) ?_ (List.getElem?_set_self hk) hy e
  rw [List.take_set_of_le (Nat.le_refl k)]; exact h


def towerMk : Int → Nat → List TowerD
  | _, 0 => []
  | k, n + 1 => ⟨k, k + 1, k + 1 + 1⟩ :: towerMk (k + 1 + 1 + 1) n
theorem towerMk_len (k : Int) (n : Nat) : (towerMk k n).length = n := by
  induction n generalizing k with
  | zero => rfl
  | succ n ih => simp [towerMk, ih]
theorem towerMk_get (k : Int) (n i : Nat) (h : i < n) : (towerMk k n)[i]? = some ⟨k + 3 * (i : Int), k + 3 * (i : Int) + 1, k + 3 * (i : Int) + 1 + 1⟩ := by
  induction n generalizing k i with
  | zero => omega
  | succ n ih =>
    cases i with
    | zero => simp [towerMk]
    | succ i =>
      simp only [towerMk, List.getElem?_cons_succ]
      rw [ih _ i (by omega)]
      have : k + 1 + 1 + 1 + 3 * (i : Int) = k + 3 * ((i + 1 : Nat) : Int) := by omega
      rw [this]
theorem towerMk_snoc (k : Int) (n : Nat) : towerMk k (n + 1) = towerMk k n ++ [⟨k + 3 * (n : Int), k + 3 * (n : Int) + 1, k + 3 * (n : Int) + 1 + 1⟩] := by
  induction n generalizing k with
  | zero => simp [towerMk]
  | succ n ih =>
    rw [towerMk, ih (k + 1 + 1 + 1), towerMk, List.cons_append]
    have : k + 1 + 1 + 1 + 3 * (n : Int) = k + 3 * ((n + 1 : Nat) : Int) := by omega
    rw [this]
theorem towerMk_step (k : Int) (xs : List TowerD) (i : Nat) (h : i < xs.length) : (towerMk k i ++ xs.drop i).set i ⟨k + 3 * (i : Int), k + 3 * (i : Int) + 1, k + 3 * (i : Int) + 1 + 1⟩ = towerMk k (i + 1) ++ xs.drop (i + 1) := by
  have hl := towerMk_len k i
  rw [List.set_append_right _ _ (by omega), hl, Nat.sub_self, List.drop_eq_getElem_cons h, List.set_cons_zero, towerMk_snoc, List.append_assoc]; rfl
theorem TowerD_ext {a b : TowerD} : a = b ↔ a.x = b.x ∧ a.y = b.y ∧ a.height = b.height := by cases a; cases b; simp

theorem laws_toTower_ok (a : TowerD) (h : Heap)  : Cn f_laws_toTower [.agg #[.int .i64 a.x, .int .i64 a.y, .int .i64 a.height]] h fun v h' => v = .agg #[.int .i64 a.x, .int .i64 a.y, .int .i64 a.height] ∧ Ext h h' := by
  refine calls_of r_laws_toTower ?_
  refine v_seq ?_
  refine v_ops ?_
  refine s_box [.int .i64 a.x, .int .i64 a.y, .int .i64 a.height] rfl (fun h2 b1 hbb1 hzb1 eh2 bxb1 => ?_)
  have E3 := (Ext.refl h).trans eh2
  have z4 := eh2.size
  have lbb1 := bxb1.lt
  refine s_new (fun h6 b5 hbb5 hzb5 eh6 bxb5 => ?_)
  have E7 := E3.trans eh6
  have z8 := eh6.size
  have lbb5 := bxb5.lt
  refine s_nil ?_
  refine p_seqN ?_
  refine v_seq ?_
  refine v_ops ?_
  refine s_new (fun h10 b9 hbb9 hzb9 eh10 bxb9 => ?_)
  have E11 := E7.trans eh10
  have z12 := eh10.size
  have lbb9 := bxb9.lt
  refine s_nil ?_
  refine p_seqN ?_
  refine v_seq ?_
  refine v_ops ?_
  refine s_pure (.pointer (some ⟨b1, 0, none⟩)) (fun _ q => q) ?_
  have f13 := ((bxb1.ext eh6).ext eh10)
  refine s_load (.int .i64 a.x) (fun _ q => f13.load rfl q) ?_
  refine s_pure (.pointer (some ⟨b9, 0, none⟩)) (fun _ q => q) ?_
  refine s_stBx (.int .i64 a.x) [.int .i64 a.x] [.int .i64 a.x, .int .i64 0, .int .i64 0] bxb9 rfl rfl rfl rfl (by simp) (all_cons rfl all_nil) rfl (fun h14 mh14 sh14 bxx15 => ?_)
  have E16 := E11.mod mh14 (fun b hb => by simp at hb; omega)
  refine s_nil ?_
  refine p_seqN ?_
  refine v_seq ?_
  refine v_ops ?_
  refine s_pure (.pointer (some ⟨b1, 1, none⟩)) (fun _ q => q) ?_
  have f17 := (f13.mod mh14 (by simp; omega))
  refine s_load (.int .i64 a.y) (fun _ q => f17.load rfl q) ?_
  refine s_pure (.pointer (some ⟨b9, 1, none⟩)) (fun _ q => q) ?_
  refine s_stBx (.int .i64 a.y) [.int .i64 a.y] [.int .i64 a.x, .int .i64 a.y, .int .i64 0] bxx15 rfl rfl rfl rfl (by simp) (all_cons rfl all_nil) rfl (fun h18 mh18 sh18 bxx19 => ?_)
  have E20 := E16.mod mh18 (fun b hb => by simp at hb; omega)
  refine s_nil ?_
  refine p_seqN ?_
  refine v_seq ?_
  refine v_ops ?_
  refine s_pure (.pointer (some ⟨b1, 2, none⟩)) (fun _ q => q) ?_
  have f21 := (f17.mod mh18 (by simp; omega))
  refine s_load (.int .i64 a.height) (fun _ q => f21.load rfl q) ?_
  refine s_pure (.pointer (some ⟨b9, 2, none⟩)) (fun _ q => q) ?_
  refine s_stBx (.int .i64 a.height) [.int .i64 a.height] [.int .i64 a.x, .int .i64 a.y, .int .i64 a.height] bxx19 rfl rfl rfl rfl (by simp) (all_cons rfl all_nil) rfl (fun h22 mh22 sh22 bxx23 => ?_)
  have E24 := E20.mod mh22 (fun b hb => by simp at hb; omega)
  refine s_nil ?_
  refine p_seqN ?_
  refine v_seq ?_
  refine v_ops ?_
  refine s_load (.agg #[.int .i64 a.x, .int .i64 a.y, .int .i64 a.height]) (fun _ q => bxx23.loadA rfl q) ?_
  have f25 := ((((bxb5.ext eh10).mod mh14 (by simp; omega)).mod mh18 (by simp; omega)).mod mh22 (by simp; omega))
  refine s_stBx (.agg #[.int .i64 a.x, .int .i64 a.y, .int .i64 a.height]) [.int .i64 a.x, .int .i64 a.y, .int .i64 a.height] [.int .i64 a.x, .int .i64 a.y, .int .i64 a.height] f25 rfl rfl rfl rfl (by simp) (all_cons rfl (all_cons rfl (all_cons rfl all_nil))) rfl (fun h26 mh26 sh26 bxx27 => ?_)
  have E28 := E24.mod mh26 (fun b hb => by simp at hb; omega)
  refine s_nil ?_
  refine p_seqN ?_
  refine v_ret ?_
  refine p_ret [.agg #[.int .i64 a.x, .int .i64 a.y, .int .i64 a.height]] (.agg #[.int .i64 a.x, .int .i64 a.y, .int .i64 a.height]) (fun _ q => (bxx27.loadA rfl q)) rfl ?_
  have ho : a = ⟨a.x, a.y, a.height⟩ := by rfl
  exact ⟨by first | (rw [ho]; done) | rfl, E28⟩

theorem laws_eqTower_ok (a : TowerD) (b : TowerD) (h : Heap)  : Cn f_laws_eqTower [.agg #[.int .i64 a.x, .int .i64 a.y, .int .i64 a.height], .agg #[.int .i64 b.x, .int .i64 b.y, .int .i64 b.height]] h fun v h' => v = .bool (decide (a = b)) ∧ Ext h h' := by
  refine calls_of r_laws_eqTower ?_
  refine v_seq ?_
  refine v_ops ?_
  refine s_box [.int .i64 a.x, .int .i64 a.y, .int .i64 a.height] rfl (fun h2 b1 hbb1 hzb1 eh2 bxb1 => ?_)
  have E3 := (Ext.refl h).trans eh2
  have z4 := eh2.size
  have lbb1 := bxb1.lt
  refine s_box [.int .i64 b.x, .int .i64 b.y, .int .i64 b.height] rfl (fun h6 b5 hbb5 hzb5 eh6 bxb5 => ?_)
  have E7 := E3.trans eh6
  have z8 := eh6.size
  have lbb5 := bxb5.lt
  refine s_pure (.bool false) (fun _ q => q) ?_
  refine s_nil ?_
  refine p_seqN ?_
  refine v_seq ?_
  refine v_seq ?_
  refine v_ops ?_
  refine s_pure (.pointer (some ⟨b1, 0, none⟩)) (fun _ q => q) ?_
  have f9 := (bxb1.ext eh6)
  refine s_load (.int .i64 a.x) (fun _ q => f9.load rfl q) ?_
  refine s_pure (.pointer (some ⟨b5, 0, none⟩)) (fun _ q => q) ?_
  refine s_load (.int .i64 b.x) (fun _ q => bxb5.load rfl q) ?_
  refine s_pure (.bool (a.x != b.x)) (fun _ q => q) ?_
  refine s_nil ?_
  refine p_seqN ?_
  refine v_cond rfl (fun c10 => ?_) (fun c10 => ?_)
  ·
    refine v_seq ?_
    refine v_ops ?_
    refine s_pure (.bool false) (fun _ q => q) ?_
    refine s_nil ?_
    refine p_seqN ?_
    refine v_ret ?_
    refine p_seqR ?_
    refine p_ret [.bool false] (.bool false) (fun _ q => q) rfl ?_
    have ho : decide (a = b) = false := by simp only [TowerD_ext]; simp [*]
    exact ⟨by first | (rw [ho]; done) | rfl, E7⟩
  ·
    have c10 := Classical.not_not.1 c10
    refine v_skip ?_
    refine p_seqN ?_
    refine v_seq ?_
    refine v_seq ?_
    refine v_ops ?_
    refine s_pure (.pointer (some ⟨b1, 1, none⟩)) (fun _ q => q) ?_
    refine s_load (.int .i64 a.y) (fun _ q => f9.load rfl q) ?_
    refine s_pure (.pointer (some ⟨b5, 1, none⟩)) (fun _ q => q) ?_
    refine s_load (.int .i64 b.y) (fun _ q => bxb5.load rfl q) ?_
    refine s_pure (.bool (a.y != b.y)) (fun _ q => q) ?_
    refine s_nil ?_
    refine p_seqN ?_
    refine v_cond rfl (fun c11 => ?_) (fun c11 => ?_)
    ·
      refine v_seq ?_
      refine v_ops ?_
      refine s_pure (.bool false) (fun _ q => q) ?_
      refine s_nil ?_
      refine p_seqN ?_
      refine v_ret ?_
      refine p_seqR ?_
      refine p_ret [.bool false] (.bool false) (fun _ q => q) rfl ?_
      have ho : decide (a = b) = false := by simp only [TowerD_ext]; simp [*]
      exact ⟨by first | (rw [ho]; done) | rfl, E7⟩
    ·
      have c11 := Classical.not_not.1 c11
      refine v_skip ?_
      refine p_seqN ?_
      refine v_seq ?_
      refine v_seq ?_
      refine v_ops ?_
      refine s_pure (.pointer (some ⟨b1, 2, none⟩)) (fun _ q => q) ?_
      refine s_load (.int .i64 a.height) (fun _ q => f9.load rfl q) ?_
      refine s_pure (.pointer (some ⟨b5, 2, none⟩)) (fun _ q => q) ?_
      refine s_load (.int .i64 b.height) (fun _ q => bxb5.load rfl q) ?_
      refine s_pure (.bool (a.height != b.height)) (fun _ q => q) ?_
      refine s_nil ?_
      refine p_seqN ?_
      refine v_cond rfl (fun c12 => ?_) (fun c12 => ?_)
      ·
        refine v_seq ?_
        refine v_ops ?_
        refine s_pure (.bool false) (fun _ q => q) ?_
        refine s_nil ?_
        refine p_seqN ?_
        refine v_ret ?_
        refine p_seqR ?_
        refine p_ret [.bool false] (.bool false) (fun _ q => q) rfl ?_
        have ho : decide (a = b) = false := by simp only [TowerD_ext]; simp [*]
        exact ⟨by first | (rw [ho]; done) | rfl, E7⟩
      ·
        have c12 := Classical.not_not.1 c12
        refine v_skip ?_
        refine p_seqN ?_
        refine v_seq ?_
        refine v_ops ?_
        refine s_pure (.bool true) (fun _ q => q) ?_
        refine s_nil ?_
        refine p_seqN ?_
        refine v_ret ?_
        refine p_ret [.bool true] (.bool true) (fun _ q => q) rfl ?_
        have ho : decide (a = b) = true := by simp only [TowerD_ext]; simp [*]
        exact ⟨by first | (rw [ho]; done) | rfl, E7⟩

theorem szTowerS_ok (v_a : Value) (a : List TowerD) (n : Int) (h : Heap) (s_a : Sl h v_a a) (h0 : 0 ≤ n) (h1 : n ≤ 1048576) : Cn f_laws_szTowerS [v_a, .int .i64 n] h fun v h' => ∃ m : Int, v = .int .i64 m ∧ Ext h h' ∧ (0 ≤ m → m = n - (a.length : Int)) ∧ m ≤ n := by
  have lt_a := s_a.lt
  have l63_a := s_a.len63
  refine calls_of r_laws_szTowerS ?_
  refine v_seq ?_
  refine v_ops ?_
  refine s_pure (.int .i64 0) (fun _ q => q) ?_
  refine s_nil ?_
  refine p_seqN ?_
  refine v_seq ?_
  refine v_ops ?_
  refine s_pure (.int .i64 n) (fun _ q => q) ?_
  refine s_pure v_a (fun _ q => q) ?_
  refine s_pure (.int .i64 (a.length : Int)) (fun _ q => s_a.lenVC q) ?_
  refine s_pure (.int .i64 (n - (a.length : Int))) (fun _ q => ArithVC.mk (by omega) q) ?_
  refine s_pure (.int .i64 (n - (a.length : Int))) (fun _ q => q) ?_
  refine s_nil ?_
  refine p_seqN ?_
  refine v_seq ?_
  refine v_seq ?_
  refine v_ops ?_
  refine s_pure (.int .i64 (n - (a.length : Int))) (fun _ q => q) ?_
  refine s_pure (.bool (decide ((n - (a.length : Int)) < 0))) (fun _ q => q) ?_
  refine s_nil ?_
  refine p_seqN ?_
  refine v_cond rfl (fun c1 => ?_) (fun c1 => ?_)
  ·
    refine v_seq ?_
    refine v_ops ?_
    refine s_pure (.int .i64 (-1)) (fun _ q => q) ?_
    refine s_nil ?_
    refine p_seqN ?_
    refine v_ret ?_
    refine p_seqR ?_
    refine p_ret [.int .i64 (-1)] (.int .i64 (-1)) (fun _ q => q) rfl ?_
    exact ⟨_, rfl, (Ext.refl h), by omega, by omega⟩
  ·
    refine v_skip ?_
    refine p_seqN ?_
    refine v_seq ?_
    refine v_ops ?_
    refine s_pure (.int .i64 (n - (a.length : Int))) (fun _ q => q) ?_
    refine s_pure (.int .i64 (n - (a.length : Int))) (fun _ q => q) ?_
    refine s_nil ?_
    refine p_seqN ?_
    refine v_ret ?_
    refine p_ret [.int .i64 (n - (a.length : Int))] (.int .i64 (n - (a.length : Int))) (fun _ q => q) rfl ?_
    exact ⟨_, rfl, (Ext.refl h), by omega, by omega⟩

theorem eqTowerS_ok (v_a : Value) (a : List TowerD) (v_b : Value) (b : List TowerD) (h : Heap) (s_a : Sl h v_a a) (s_b : Sl h v_b b) : Cn f_laws_eqTowerS [v_a, v_b] h fun v h' => v = .bool (decide (a = b)) ∧ Ext h h' := by
  have lt_a := s_a.lt
  have l63_a := s_a.len63
  have lt_b := s_b.lt
  have l63_b := s_b.len63
  refine calls_of r_laws_eqTowerS ?_
  refine v_seq ?_
  refine v_ops ?_
  refine s_pure (.bool false) (fun _ q => q) ?_
  refine s_nil ?_
  refine p_seqN ?_
  refine v_seq ?_
  refine v_seq ?_
  refine v_ops ?_
  refine s_pure v_a (fun _ q => q) ?_
  refine s_pure (.int .i64 (a.length : Int)) (fun _ q => s_a.lenVC q) ?_
  refine s_pure v_b (fun _ q => q) ?_
  refine s_pure (.int .i64 (b.length : Int)) (fun _ q => s_b.lenVC q) ?_
  refine s_pure (.bool ((a.length : Int) != (b.length : Int))) (fun _ q => q) ?_
  refine s_nil ?_
  refine p_seqN ?_
  refine v_cond rfl (fun c1 => ?_) (fun c1 => ?_)
  ·
    refine v_seq ?_
    refine v_ops ?_
    refine s_pure (.bool false) (fun _ q => q) ?_
    refine s_nil ?_
    refine p_seqN ?_
    refine v_ret ?_
    refine p_seqR ?_
    refine p_ret [.bool false] (.bool false) (fun _ q => q) rfl ?_
    have ho : decide (a = b) = false := by simp only [decide_eq_true_eq, decide_eq_false_iff_not]; first | (intro hab; subst hab; omega) | exact get_ne (by assumption) (by assumption) (by assumption) | exact take_done hab (by omega) (by omega)
    exact ⟨by first | (rw [ho]; done) | rfl, (Ext.refl h)⟩
  ·
    have c1 := Classical.not_not.1 c1
    refine v_skip ?_
    refine p_seqN ?_
    refine v_seq ?_
    refine v_seq ?_
    refine v_ops ?_
    refine s_pure (.int .i64 0) (fun _ q => q) ?_
    refine s_nil ?_
    refine p_seqN ?_
    refine v_block ?_
    refine v_loop1 (α := Nat) (fun k => [(0, v_a), (1, v_b), (5, .int .i64 (k : Int))]) (fun k hh => Ext h hh ∧ k ≤ a.length ∧ a.take k = b.take k) (fun k => a.length - k) 0 ⟨rfl, rfl, rfl⟩ ⟨(Ext.refl h), (by simp)⟩ ?_
    rintro k R3 h2 ⟨Eh, ⟨hk, hab⟩⟩
    have zEh := Eh.size
    have f4 := s_a.ext Eh
    have f5 := s_b.ext Eh
    refine v_seq ?_
    refine v_seq ?_
    refine v_ops ?_
    refine s_pure (.int .i64 (k : Int)) (fun _ q => q) ?_
    refine s_pure v_a (fun _ q => q) ?_
    refine s_pure (.int .i64 (a.length : Int)) (fun _ q => f4.lenVC q) ?_
    refine s_pure (.bool (decide ((k : Int) < (a.length : Int)))) (fun _ q => q) ?_
    refine s_nil ?_
    refine p_seqN ?_
    refine v_cond rfl (fun c6 => ?_) (fun c6 => ?_)
    ·
      refine v_skip ?_
      refine p_seqN ?_
      refine v_seq ?_
      refine v_block ?_
      refine v_seq ?_
      refine v_drawF ?_
      refine d_pureT v_a (fun _ q => q) ?_
      refine d_pureT (.int .i64 (k : Int)) (fun _ q => q) ?_
      have hk7 : k < a.length := (by first | omega | (simp; omega))
      obtain ⟨x8, hx8⟩ : ∃ x, a[k]? = some x := ⟨_, List.getElem?_eq_getElem hk7⟩
      refine d_pureT (.pointer (some ⟨sblk v_a, soff v_a + k * 3, none⟩)) (fun _ q => f4.idx (k := k) rfl hk7 q) ?_
      refine d_pureT v_b (fun _ q => q) ?_
      refine d_pureT (.int .i64 (k : Int)) (fun _ q => q) ?_
      have hk9 : k < b.length := (by first | omega | (simp; omega))
      obtain ⟨x10, hx10⟩ : ∃ x, b[k]? = some x := ⟨_, List.getElem?_eq_getElem hk9⟩
      refine d_pureT (.pointer (some ⟨sblk v_b, soff v_b + k * 3, none⟩)) (fun _ q => f5.idx (k := k) rfl hk9 q) ?_
      refine d_loadO (.agg #[.int .i64 x8.x, .int .i64 x8.y, .int .i64 x8.height]) (fun _ q => f4.loadN hx8 rfl q) ?_
      refine d_loadO (.agg #[.int .i64 x10.x, .int .i64 x10.y, .int .i64 x10.height]) (fun _ q => f5.loadN hx10 rfl q) ?_
      refine d_eff ?_
      refine s_call [.agg #[.int .i64 x8.x, .int .i64 x8.y, .int .i64 x8.height], .agg #[.int .i64 x10.x, .int .i64 x10.y, .int .i64 x10.height]] rfl (laws_eqTower_ok x8 x10 _ ) ?_
      rintro _ h11 ⟨rfl, eh11⟩
      have E12 := Eh.trans eh11
      have z13 := eh11.size
      have G14 := eh11
      refine s_nil ⟨fun hl => (by cases hl), ?_⟩
      refine d_pureT (.bool (!decide (x8 = x10))) (fun _ q => q) ?_
      refine d_done ?_
      refine p_seqN ?_
      refine v_cond rfl (fun c15 => ?_) (fun c15 => ?_)
      ·
        refine v_seq ?_
        refine v_ops ?_
        refine s_pure (.bool false) (fun _ q => q) ?_
        refine s_nil ?_
        refine p_seqN ?_
        refine v_ret ?_
        refine p_blkR ?_
        refine p_seqR ?_
        refine p_lpR ?_
        refine p_blkR ?_
        refine p_seqR ?_
        refine p_ret [.bool false] (.bool false) (fun _ q => q) rfl ?_
        have ho : decide (a = b) = false := by simp only [decide_eq_true_eq, decide_eq_false_iff_not]; first | (intro hab; subst hab; omega) | exact get_ne (by assumption) (by assumption) (by assumption) | exact take_done hab (by omega) (by omega)
        exact ⟨by first | (rw [ho]; done) | rfl, E12⟩
      ·
        have c15 := Classical.not_not.1 c15
        refine v_skip ?_
        refine p_blkN ?_
        refine p_seqN ?_
        refine v_ops ?_
        refine s_pure (.int .i64 (k : Int)) (fun _ q => q) ?_
        refine s_pure (.int .i64 ((k : Int) + 1)) (fun _ q => ArithVC.mk (by omega) q) ?_
        refine s_pure (.int .i64 ((k : Int) + 1)) (fun _ q => q) ?_
        refine s_nil ?_
        exact p_lpN ⟨k + 1, ⟨rfl, rfl, rfl⟩, ⟨E12, (by exact ⟨by omega, take_ext hab (by assumption) (by assumption) (by assumption)⟩)⟩, by omega⟩
    ·
      refine v_exit ?_
      refine p_seqX ?_
      refine p_lpX ?_
      refine p_blkX ?_
      refine p_seqN ?_
      refine v_seq ?_
      refine v_ops ?_
      refine s_pure (.bool true) (fun _ q => q) ?_
      refine s_nil ?_
      refine p_seqN ?_
      refine v_ret ?_
      refine p_ret [.bool true] (.bool true) (fun _ q => q) rfl ?_
      have ho : decide (a = b) = true := by simp only [decide_eq_true_eq, decide_eq_false_iff_not]; first | (intro hab; subst hab; omega) | exact get_ne (by assumption) (by assumption) (by assumption) | exact take_done hab (by omega) (by omega)
      exact ⟨by first | (rw [ho]; done) | rfl, Eh⟩

theorem toTowerS_ok (v_a : Value) (a : List TowerD) (h : Heap) (s_a : Sl h v_a a) (hb2 : a.length ≤ 1048576) : Cn f_laws_toTowerS [v_a] h fun v h' => ∃ r0 : Value, v = r0 ∧ SlO h' r0 a ∧ Fr h.size r0 ∧ Ext h h' := by
  have lt_a := s_a.lt
  have l63_a := s_a.len63
  refine calls_of r_laws_toTowerS ?_
  refine v_seq ?_
  refine v_ops ?_
  refine s_pure (.slice none 0 0) (fun _ q => q) ?_
  refine s_nil ?_
  refine p_seqN ?_
  refine v_seq ?_
  refine v_ops ?_
  refine s_pure v_a (fun _ q => q) ?_
  refine s_pure (.int .i64 (a.length : Int)) (fun _ q => s_a.lenVC q) ?_
  refine s_mk (α := TowerD) a.length (⟨0, 0, 0⟩ : TowerD) rfl rfl rfl rfl rfl rfl (by simp [maxLen]; omega) (by omega) (fun r1 h2 eh2 zh2 s_r1 fr_r1 => ?_)
  have E3 := (Ext.refl h).trans eh2
  have z4 := eh2.size
  have lt_r1 := s_r1.lt
  refine s_pure r1 (fun _ q => q) ?_
  refine s_nil ?_
  refine p_seqN ?_
  refine v_seq ?_
  refine v_seq ?_
  refine v_ops ?_
  refine s_pure (.int .i64 0) (fun _ q => q) ?_
  refine s_nil ?_
  refine p_seqN ?_
  refine v_block ?_
  refine v_loop3 (α := Nat) (β := List TowerD) (γ := Value) (fun k o u => [(0, v_a), (3, u), (4, .int .i64 (k : Int))]) (fun k o u hh => Ext h hh ∧ SlO hh u o ∧ Fr h.size u ∧ k ≤ a.length ∧ o.length = a.length ∧ o.take k = a.take k) (fun k o u => a.length - k) 0 (List.replicate a.length ⟨0, 0, 0⟩) r1 ⟨rfl, rfl, rfl⟩ ⟨E3, (sl_eq s_r1 (by simp)), (fr_r1.mono (by omega)), (by simp)⟩ ?_
  rintro k o u R6 h5 ⟨Eh, s_u, fr_u, ⟨hk, hol, ho1⟩⟩
  have zEh := Eh.size
  have f7 := s_a.ext Eh
  have lt_u := s_u.lt
  refine v_seq ?_
  refine v_seq ?_
  refine v_ops ?_
  refine s_pure (.int .i64 (k : Int)) (fun _ q => q) ?_
  refine s_pure v_a (fun _ q => q) ?_
  refine s_pure (.int .i64 (a.length : Int)) (fun _ q => f7.lenVC q) ?_
  refine s_pure (.bool (decide ((k : Int) < (a.length : Int)))) (fun _ q => q) ?_
  refine s_nil ?_
  refine p_seqN ?_
  refine v_cond rfl (fun c8 => ?_) (fun c8 => ?_)
  ·
    refine v_skip ?_
    refine p_seqN ?_
    refine v_seq ?_
    refine v_block ?_
    refine v_ops ?_
    refine s_pure u (fun _ q => q) ?_
    refine s_pure (.int .i64 (k : Int)) (fun _ q => q) ?_
    refine s_pure v_a (fun _ q => q) ?_
    refine s_pure (.int .i64 (k : Int)) (fun _ q => q) ?_
    have hk9 : k < a.length := (by first | omega | (simp; omega))
    obtain ⟨x10, hx10⟩ : ∃ x, a[k]? = some x := ⟨_, List.getElem?_eq_getElem hk9⟩
    refine s_pure (.pointer (some ⟨sblk v_a, soff v_a + k * 3, none⟩)) (fun _ q => f7.idx (k := k) rfl hk9 q) ?_
    refine s_load (.agg #[.int .i64 x10.x, .int .i64 x10.y, .int .i64 x10.height]) (fun _ q => f7.loadN hx10 rfl q) ?_
    refine s_call [.agg #[.int .i64 x10.x, .int .i64 x10.y, .int .i64 x10.height]] rfl (laws_toTower_ok x10 _ ) ?_
    rintro _ h11 ⟨rfl, eh11⟩
    have E12 := Eh.trans eh11
    have z13 := eh11.size
    have f14 := (s_u.ext eh11)
    have hk15 : k < o.length := (by first | omega | (simp; omega))
    obtain ⟨x16, hx16⟩ : ∃ x, o[k]? = some x := ⟨_, List.getElem?_eq_getElem hk15⟩
    refine s_pure (.pointer (some ⟨sblk u, soff u + k * 3, none⟩)) (fun _ q => f14.idx (k := k) rfl hk15 q) ?_
    refine s_stSl (k := k) (j := 0) (⟨x10.x, x10.y, x10.height⟩ : TowerD) (.agg #[.int .i64 x10.x, .int .i64 x10.y, .int .i64 x10.height]) [.int .i64 x10.x, .int .i64 x10.y, .int .i64 x10.height] f14 rfl rfl rfl rfl rfl hx16 (Nat.le_of_ble_eq_true rfl) rfl (all_cons rfl (all_cons rfl (all_cons rfl all_nil))) (fun h17 mh17 sh17 s18 => ?_)
    have E19 := E12.mod mh17 (fun b hb => by have := fr_u b hb; omega)
    refine s_nil ?_
    refine p_blkN ?_
    refine p_seqN ?_
    refine v_ops ?_
    refine s_pure (.int .i64 (k : Int)) (fun _ q => q) ?_
    refine s_pure (.int .i64 ((k : Int) + 1)) (fun _ q => ArithVC.mk (by omega) q) ?_
    refine s_pure (.int .i64 ((k : Int) + 1)) (fun _ q => q) ?_
    refine s_nil ?_
    exact p_lpN ⟨k + 1, (o.set k (⟨x10.x, x10.y, x10.height⟩ : TowerD)), u, ⟨rfl, rfl, rfl⟩, ⟨E19, (sl_eq s18 (by simp)), (fr_u.mono (by omega)), (by exact ⟨by omega, by simpa using hol, set_take ho1 (by omega) (by assumption) (by rfl)⟩)⟩, by omega⟩
  ·
    refine v_exit ?_
    refine p_seqX ?_
    refine p_lpX ?_
    refine p_blkX ?_
    refine p_seqN ?_
    refine v_seq ?_
    refine v_ops ?_
    refine s_pure u (fun _ q => q) ?_
    refine s_pure u (fun _ q => q) ?_
    refine s_nil ?_
    refine p_seqN ?_
    refine v_ret ?_
    refine p_ret [u] u (fun _ q => q) rfl ?_
    have ho : a = o := by (rw [List.take_of_length_le (by omega), List.take_of_length_le (by omega)] at ho1); exact ho1.symm
    exact ⟨u, by first | (rw [ho]; done) | rfl, sl_eq s_u (congrArg (fun o => o) ho).symm, fr_u.mono (by omega), Eh⟩

theorem markTowerS_ok (v_a : Value) (a : List TowerD) (n : Int) (h : Heap) (s_a : SlO h v_a a) (h0 : 0 ≤ n) (h1 : n ≤ 288230376151711744) (hb : a.length ≤ 72057594037927936) : Cn f_laws_markTowerS [v_a, .int .i64 n] h fun v h' => v = .int .i64 (n + 3 * (a.length : Int)) ∧ SlO h' v_a (towerMk n a.length) ∧ Mod (blks v_a) h h' ∧ h.size ≤ h'.size := by
  have lt_a := s_a.lt
  have l63_a := s_a.len63
  refine calls_of r_laws_markTowerS ?_
  refine v_seq ?_
  refine v_ops ?_
  refine s_pure (.int .i64 0) (fun _ q => q) ?_
  refine s_nil ?_
  refine p_seqN ?_
  refine v_seq ?_
  refine v_seq ?_
  refine v_ops ?_
  refine s_pure (.int .i64 0) (fun _ q => q) ?_
  refine s_nil ?_
  refine p_seqN ?_
  refine v_block ?_
  refine v_loop3 (α := Nat) (β := Int) (γ := List TowerD) (fun k m ll => [(0, v_a), (1, .int .i64 m), (5, .int .i64 (k : Int))]) (fun k m ll hh => Mod (blks v_a) h hh ∧ SlO hh v_a ll ∧ k ≤ a.length ∧ ll = towerMk n k ++ a.drop k ∧ m = n + 3 * (k : Int)) (fun k m ll => a.length - k) 0 n a ⟨rfl, rfl, rfl⟩ ⟨(Mod.refl (blks v_a) h), s_a, (by refine ⟨by omega, by simp [towerMk], by simp⟩)⟩ ?_
  rintro k m ll R2 h1 ⟨Eh, s_a, ⟨hk, hll, hm⟩⟩
  have zEh := Eh.size
  have lt_a := s_a.lt
  have hpl : ll.length = a.length := by rw [hll, List.length_append, towerMk_len]; simp; omega
  refine v_seq ?_
  refine v_seq ?_
  refine v_ops ?_
  refine s_pure (.int .i64 (k : Int)) (fun _ q => q) ?_
  refine s_pure v_a (fun _ q => q) ?_
  refine s_pure (.int .i64 (ll.length : Int)) (fun _ q => s_a.lenVC q) ?_
  refine s_pure (.bool (decide ((k : Int) < (ll.length : Int)))) (fun _ q => q) ?_
  refine s_nil ?_
  refine p_seqN ?_
  refine v_cond rfl (fun c3 => ?_) (fun c3 => ?_)
  ·
    refine v_skip ?_
    refine p_seqN ?_
    refine v_seq ?_
    refine v_block ?_
    refine v_seq ?_
    refine v_ops ?_
    refine s_pure v_a (fun _ q => q) ?_
    refine s_pure (.int .i64 (k : Int)) (fun _ q => q) ?_
    refine s_pure (.int .i64 m) (fun _ q => q) ?_
    have hk4 : k < ll.length := (by first | omega | (simp; omega))
    obtain ⟨x5, hx5⟩ : ∃ x, ll[k]? = some x := ⟨_, List.getElem?_eq_getElem hk4⟩
    refine s_pure (.pointer (some ⟨sblk v_a, soff v_a + k * 3, none⟩)) (fun _ q => s_a.idx (k := k) rfl hk4 q) ?_
    refine s_pure (.pointer (some ⟨sblk v_a, soff v_a + k * 3, none⟩)) (fun _ q => q) ?_
    refine s_stSl (k := k) (j := 0) (⟨m, x5.y, x5.height⟩ : TowerD) (.int .i64 m) [.int .i64 m] s_a rfl rfl rfl rfl rfl hx5 (Nat.le_of_ble_eq_true rfl) rfl (all_cons rfl all_nil) (fun h6 mh6 sh6 s7 => ?_)
    have E8 := Eh.new mh6 (fun b hb => Or.inl hb)
    refine s_nil ?_
    refine p_seqN ?_
    refine v_seq ?_
    refine v_ops ?_
    refine s_pure (.int .i64 m) (fun _ q => q) ?_
    refine s_pure (.int .i64 (m + 1)) (fun _ q => ArithVC.mk (by omega) q) ?_
    refine s_pure (.int .i64 (m + 1)) (fun _ q => q) ?_
    refine s_nil ?_
    refine p_seqN ?_
    refine v_seq ?_
    refine v_ops ?_
    refine s_pure v_a (fun _ q => q) ?_
    refine s_pure (.int .i64 (k : Int)) (fun _ q => q) ?_
    refine s_pure (.int .i64 (m + 1)) (fun _ q => q) ?_
    have hk9 : k < (ll.set k (⟨m, x5.y, x5.height⟩ : TowerD)).length := (by first | omega | (simp; omega))
    obtain ⟨x10, hx10, heq_x10⟩ : ∃ x, (ll.set k (⟨m, x5.y, x5.height⟩ : TowerD))[k]? = some x ∧ x = (⟨m, x5.y, x5.height⟩ : TowerD) := ⟨_, List.getElem?_set_self (by simpa using hk9), rfl⟩
    refine s_pure (.pointer (some ⟨sblk v_a, soff v_a + k * 3, none⟩)) (fun _ q => s7.idx (k := k) rfl hk9 q) ?_
    refine s_pure (.pointer (some ⟨sblk v_a, soff v_a + k * 3 + 1, none⟩)) (fun _ q => q) ?_
    refine s_stSl (k := k) (j := 1) (⟨x10.x, (m + 1), x10.height⟩ : TowerD) (.int .i64 (m + 1)) [.int .i64 (m + 1)] s7 rfl rfl rfl rfl rfl hx10 (Nat.le_of_ble_eq_true rfl) rfl (all_cons rfl all_nil) (fun h11 mh11 sh11 s12 => ?_)
    have E13 := E8.new mh11 (fun b hb => Or.inl hb)
    refine s_nil ?_
    refine p_seqN ?_
    refine v_seq ?_
    refine v_ops ?_
    refine s_pure (.int .i64 (m + 1)) (fun _ q => q) ?_
    refine s_pure (.int .i64 ((m + 1) + 1)) (fun _ q => ArithVC.mk (by omega) q) ?_
    refine s_pure (.int .i64 ((m + 1) + 1)) (fun _ q => q) ?_
    refine s_nil ?_
    refine p_seqN ?_
    refine v_seq ?_
    refine v_ops ?_
    refine s_pure v_a (fun _ q => q) ?_
    refine s_pure (.int .i64 (k : Int)) (fun _ q => q) ?_
    refine s_pure (.int .i64 ((m + 1) + 1)) (fun _ q => q) ?_
    have hk14 : k < ((ll.set k (⟨m, x5.y, x5.height⟩ : TowerD)).set k (⟨x10.x, (m + 1), x10.height⟩ : TowerD)).length := (by first | omega | (simp; omega))
    obtain ⟨x15, hx15, heq_x15⟩ : ∃ x, ((ll.set k (⟨m, x5.y, x5.height⟩ : TowerD)).set k (⟨x10.x, (m + 1), x10.height⟩ : TowerD))[k]? = some x ∧ x = (⟨x10.x, (m + 1), x10.height⟩ : TowerD) := ⟨_, List.getElem?_set_self (by simpa using hk14), rfl⟩
    refine s_pure (.pointer (some ⟨sblk v_a, soff v_a + k * 3, none⟩)) (fun _ q => s12.idx (k := k) rfl hk14 q) ?_
    refine s_pure (.pointer (some ⟨sblk v_a, soff v_a + k * 3 + 2, none⟩)) (fun _ q => q) ?_
    refine s_stSl (k := k) (j := 2) (⟨x15.x, x15.y, ((m + 1) + 1)⟩ : TowerD) (.int .i64 ((m + 1) + 1)) [.int .i64 ((m + 1) + 1)] s12 rfl rfl rfl rfl rfl hx15 (Nat.le_of_ble_eq_true rfl) rfl (all_cons rfl all_nil) (fun h16 mh16 sh16 s17 => ?_)
    have E18 := E13.new mh16 (fun b hb => Or.inl hb)
    refine s_nil ?_
    refine p_seqN ?_
    refine v_ops ?_
    refine s_pure (.int .i64 ((m + 1) + 1)) (fun _ q => q) ?_
    refine s_pure (.int .i64 (((m + 1) + 1) + 1)) (fun _ q => ArithVC.mk (by omega) q) ?_
    refine s_pure (.int .i64 (((m + 1) + 1) + 1)) (fun _ q => q) ?_
    refine s_nil ?_
    refine p_blkN ?_
    refine p_seqN ?_
    refine v_ops ?_
    refine s_pure (.int .i64 (k : Int)) (fun _ q => q) ?_
    refine s_pure (.int .i64 ((k : Int) + 1)) (fun _ q => ArithVC.mk (by omega) q) ?_
    refine s_pure (.int .i64 ((k : Int) + 1)) (fun _ q => q) ?_
    refine s_nil ?_
    exact p_lpN ⟨k + 1, (((m + 1) + 1) + 1), (((ll.set k (⟨m, x5.y, x5.height⟩ : TowerD)).set k (⟨x10.x, (m + 1), x10.height⟩ : TowerD)).set k (⟨x15.x, x15.y, ((m + 1) + 1)⟩ : TowerD)), ⟨rfl, rfl, rfl⟩, ⟨E18, (sl_eq s17 rfl), (by (have hq := towerMk_step n a k (by omega)); subst_vars; exact ⟨by omega, by (rw [List.set_set, List.set_set]; exact hq), by omega⟩)⟩, by omega⟩
  ·
    refine v_exit ?_
    refine p_seqX ?_
    refine p_lpX ?_
    refine p_blkX ?_
    refine p_seqN ?_
    refine v_seq ?_
    refine v_ops ?_
    refine s_pure (.int .i64 m) (fun _ q => q) ?_
    refine s_pure (.int .i64 m) (fun _ q => q) ?_
    refine s_nil ?_
    refine p_seqN ?_
    refine v_ret ?_
    refine p_ret [.int .i64 m] (.int .i64 m) (fun _ q => q) rfl ?_
    have hk2 : k = a.length := by omega
    subst hk2
    rw [List.drop_length, List.append_nil] at hll
    subst hll
    exact ⟨by rw [hm], s_a, Eh, Eh.size⟩


def linkMk : Int → Nat → List LinkD
  | _, 0 => []
  | k, n + 1 => ⟨k, k + 1, k + 1 + 1⟩ :: linkMk (k + 1 + 1 + 1) n
theorem linkMk_len (k : Int) (n : Nat) : (linkMk k n).length = n := by
  induction n generalizing k with
  | zero => rfl
  | succ n ih => simp [linkMk, ih]
theorem linkMk_get (k : Int) (n i : Nat) (h : i < n) : (linkMk k n)[i]? = some ⟨k + 3 * (i : Int), k + 3 * (i : Int) + 1, k + 3 * (i : Int) + 1 + 1⟩ := by
  induction n generalizing k i with
  | zero => omega
  | succ n ih =>
    cases i with
    | zero => simp [linkMk]
    | succ i =>
      simp only [linkMk, List.getElem?_cons_succ]
      rw [ih _ i (by omega)]
      have : k + 1 + 1 + 1 + 3 * (i : Int) = k + 3 * ((i + 1 : Nat) : Int) := by omega
      rw [this]
theorem linkMk_snoc (k : Int) (n : Nat) : linkMk k (n + 1) = linkMk k n ++ [⟨k + 3 * (n : Int), k + 3 * (n : Int) + 1, k + 3 * (n : Int) + 1 + 1⟩] := by
  induction n generalizing k with
  | zero => simp [linkMk]
  | succ n ih =>
    rw [linkMk, ih (k + 1 + 1 + 1), linkMk, List.cons_append]
    have : k + 1 + 1 + 1 + 3 * (n : Int) = k + 3 * ((n + 1 : Nat) : Int) := by omega
    rw [this]
theorem linkMk_step (k : Int) (xs : List LinkD) (i : Nat) (h : i < xs.length) : (linkMk k i ++ xs.drop i).set i ⟨k + 3 * (i : Int), k + 3 * (i : Int) + 1, k + 3 * (i : Int) + 1 + 1⟩ = linkMk k (i + 1) ++ xs.drop (i + 1) := by
  have hl := linkMk_len k i
  rw [List.set_append_right _ _ (by omega), hl, Nat.sub_self, List.drop_eq_getElem_cons h, List.set_cons_zero, linkMk_snoc, List.append_assoc]; rfl
theorem LinkD_ext {a b : LinkD} : a = b ↔ a.a = b.a ∧ a.b = b.b ∧ a.delay = b.delay := by cases a; cases b; simp

theorem laws_toLink_ok (a : LinkD) (h : Heap)  : Cn f_laws_toLink [.agg #[.int .i64 a.a, .int .i64 a.b, .int .i64 a.delay]] h fun v h' => v = .agg #[.int .i64 a.a, .int .i64 a.b, .int .i64 a.delay] ∧ Ext h h' := by
  refine calls_of r_laws_toLink ?_
  refine v_seq ?_
  refine v_ops ?_
  refine s_box [.int .i64 a.a, .int .i64 a.b, .int .i64 a.delay] rfl (fun h2 b1 hbb1 hzb1 eh2 bxb1 => ?_)
  have E3 := (Ext.refl h).trans eh2
  have z4 := eh2.size
  have lbb1 := bxb1.lt
  refine s_new (fun h6 b5 hbb5 hzb5 eh6 bxb5 => ?_)
  have E7 := E3.trans eh6
  have z8 := eh6.size
  have lbb5 := bxb5.lt
  refine s_nil ?_
  refine p_seqN ?_
  refine v_seq ?_
  refine v_ops ?_
  refine s_new (fun h10 b9 hbb9 hzb9 eh10 bxb9 => ?_)
  have E11 := E7.trans eh10
  have z12 := eh10.size
  have lbb9 := bxb9.lt
  refine s_nil ?_
  refine p_seqN ?_
  refine v_seq ?_
  refine v_ops ?_
  refine s_pure (.pointer (some ⟨b1, 0, none⟩)) (fun _ q => q) ?_
  have f13 := ((bxb1.ext eh6).ext eh10)
  refine s_load (.int .i64 a.a) (fun _ q => f13.load rfl q) ?_
  refine s_pure (.pointer (some ⟨b9, 0, none⟩)) (fun _ q => q) ?_
  refine s_stBx (.int .i64 a.a) [.int .i64 a.a] [.int .i64 a.a, .int .i64 0, .int .i64 0] bxb9 rfl rfl rfl rfl (by simp) (all_cons rfl all_nil) rfl (fun h14 mh14 sh14 bxx15 => ?_)
  have E16 := E11.mod mh14 (fun b hb => by simp at hb; omega)
  refine s_nil ?_
  refine p_seqN ?_
  refine v_seq ?_
  refine v_ops ?_
  refine s_pure (.pointer (some ⟨b1, 1, none⟩)) (fun _ q => q) ?_
  have f17 := (f13.mod mh14 (by simp; omega))
  refine s_load (.int .i64 a.b) (fun _ q => f17.load rfl q) ?_
  refine s_pure (.pointer (some ⟨b9, 1, none⟩)) (fun _ q => q) ?_
  refine s_stBx (.int .i64 a.b) [.int .i64 a.b] [.int .i64 a.a, .int .i64 a.b, .int .i64 0] bxx15 rfl rfl rfl rfl (by simp) (all_cons rfl all_nil) rfl (fun h18 mh18 sh18 bxx19 => ?_)
  have E20 := E16.mod mh18 (fun b hb => by simp at hb; omega)
  refine s_nil ?_
  refine p_seqN ?_
  refine v_seq ?_
  refine v_ops ?_
  refine s_pure (.pointer (some ⟨b1, 2, none⟩)) (fun _ q => q) ?_
  have f21 := (f17.mod mh18 (by simp; omega))
  refine s_load (.int .i64 a.delay) (fun _ q => f21.load rfl q) ?_
  refine s_pure (.pointer (some ⟨b9, 2, none⟩)) (fun _ q => q) ?_
  refine s_stBx (.int .i64 a.delay) [.int .i64 a.delay] [.int .i64 a.a, .int .i64 a.b, .int .i64 a.delay] bxx19 rfl rfl rfl rfl (by simp) (all_cons rfl all_nil) rfl (fun h22 mh22 sh22 bxx23 => ?_)
  have E24 := E20.mod mh22 (fun b hb => by simp at hb; omega)
  refine s_nil ?_
  refine p_seqN ?_
  refine v_seq ?_
  refine v_ops ?_
  refine s_load (.agg #[.int .i64 a.a, .int .i64 a.b, .int .i64 a.delay]) (fun _ q => bxx23.loadA rfl q) ?_
  have f25 := ((((bxb5.ext eh10).mod mh14 (by simp; omega)).mod mh18 (by simp; omega)).mod mh22 (by simp; omega))
  refine s_stBx (.agg #[.int .i64 a.a, .int .i64 a.b, .int .i64 a.delay]) [.int .i64 a.a, .int .i64 a.b, .int .i64 a.delay] [.int .i64 a.a, .int .i64 a.b, .int .i64 a.delay] f25 rfl rfl rfl rfl (by simp) (all_cons rfl (all_cons rfl (all_cons rfl all_nil))) rfl (fun h26 mh26 sh26 bxx27 => ?_)
  have E28 := E24.mod mh26 (fun b hb => by simp at hb; omega)
  refine s_nil ?_
  refine p_seqN ?_
  refine v_ret ?_
  refine p_ret [.agg #[.int .i64 a.a, .int .i64 a.b, .int .i64 a.delay]] (.agg #[.int .i64 a.a, .int .i64 a.b, .int .i64 a.delay]) (fun _ q => (bxx27.loadA rfl q)) rfl ?_
  have ho : a = ⟨a.a, a.b, a.delay⟩ := by rfl
  exact ⟨by first | (rw [ho]; done) | rfl, E28⟩

theorem laws_eqLink_ok (a : LinkD) (b : LinkD) (h : Heap)  : Cn f_laws_eqLink [.agg #[.int .i64 a.a, .int .i64 a.b, .int .i64 a.delay], .agg #[.int .i64 b.a, .int .i64 b.b, .int .i64 b.delay]] h fun v h' => v = .bool (decide (a = b)) ∧ Ext h h' := by
  refine calls_of r_laws_eqLink ?_
  refine v_seq ?_
  refine v_ops ?_
  refine s_box [.int .i64 a.a, .int .i64 a.b, .int .i64 a.delay] rfl (fun h2 b1 hbb1 hzb1 eh2 bxb1 => ?_)
  have E3 := (Ext.refl h).trans eh2
  have z4 := eh2.size
  have lbb1 := bxb1.lt
  refine s_box [.int .i64 b.a, .int .i64 b.b, .int .i64 b.delay] rfl (fun h6 b5 hbb5 hzb5 eh6 bxb5 => ?_)
  have E7 := E3.trans eh6
  have z8 := eh6.size
  have lbb5 := bxb5.lt
  refine s_pure (.bool false) (fun _ q => q) ?_
  refine s_nil ?_
  refine p_seqN ?_
  refine v_seq ?_
  refine v_seq ?_
  refine v_ops ?_
  refine s_pure (.pointer (some ⟨b1, 0, none⟩)) (fun _ q => q) ?_
  have f9 := (bxb1.ext eh6)
  refine s_load (.int .i64 a.a) (fun _ q => f9.load rfl q) ?_
  refine s_pure (.pointer (some ⟨b5, 0, none⟩)) (fun _ q => q) ?_
  refine s_load (.int .i64 b.a) (fun _ q => bxb5.load rfl q) ?_
  refine s_pure (.bool (a.a != b.a)) (fun _ q => q) ?_
  refine s_nil ?_
  refine p_seqN ?_
  refine v_cond rfl (fun c10 => ?_) (fun c10 => ?_)
  ·
    refine v_seq ?_
    refine v_ops ?_
    refine s_pure (.bool false) (fun _ q => q) ?_
    refine s_nil ?_
    refine p_seqN ?_
    refine v_ret ?_
    refine p_seqR ?_
    refine p_ret [.bool false] (.bool false) (fun _ q => q) rfl ?_
    have ho : decide (a = b) = false := by simp only [LinkD_ext]; simp [*]
    exact ⟨by first | (rw [ho]; done) | rfl, E7⟩
  ·
    have c10 := Classical.not_not.1 c10
    refine v_skip ?_
    refine p_seqN ?_
    refine v_seq ?_
    refine v_seq ?_
    refine v_ops ?_
    refine s_pure (.pointer (some ⟨b1, 1, none⟩)) (fun _ q => q) ?_
    refine s_load (.int .i64 a.b) (fun _ q => f9.load rfl q) ?_
    refine s_pure (.pointer (some ⟨b5, 1, none⟩)) (fun _ q => q) ?_
    refine s_load (.int .i64 b.b) (fun _ q => bxb5.load rfl q) ?_
    refine s_pure (.bool (a.b != b.b)) (fun _ q => q) ?_
    refine s_nil ?_
    refine p_seqN ?_
    refine v_cond rfl (fun c11 => ?_) (fun c11 => ?_)
    ·
      refine v_seq ?_
      refine v_ops ?_
      refine s_pure (.bool false) (fun _ q => q) ?_
      refine s_nil ?_
      refine p_seqN ?_
      refine v_ret ?_
      refine p_seqR ?_
      refine p_ret [.bool false] (.bool false) (fun _ q => q) rfl ?_
      have ho : decide (a = b) = false := by simp only [LinkD_ext]; simp [*]
      exact ⟨by first | (rw [ho]; done) | rfl, E7⟩
    ·
      have c11 := Classical.not_not.1 c11
      refine v_skip ?_
      refine p_seqN ?_
      refine v_seq ?_
      refine v_seq ?_
      refine v_ops ?_
      refine s_pure (.pointer (some ⟨b1, 2, none⟩)) (fun _ q => q) ?_
      refine s_load (.int .i64 a.delay) (fun _ q => f9.load rfl q) ?_
      refine s_pure (.pointer (some ⟨b5, 2, none⟩)) (fun _ q => q) ?_
      refine s_load (.int .i64 b.delay) (fun _ q => bxb5.load rfl q) ?_
      refine s_pure (.bool (a.delay != b.delay)) (fun _ q => q) ?_
      refine s_nil ?_
      refine p_seqN ?_
      refine v_cond rfl (fun c12 => ?_) (fun c12 => ?_)
      ·
        refine v_seq ?_
        refine v_ops ?_
        refine s_pure (.bool false) (fun _ q => q) ?_
        refine s_nil ?_
        refine p_seqN ?_
        refine v_ret ?_
        refine p_seqR ?_
        refine p_ret [.bool false] (.bool false) (fun _ q => q) rfl ?_
        have ho : decide (a = b) = false := by simp only [LinkD_ext]; simp [*]
        exact ⟨by first | (rw [ho]; done) | rfl, E7⟩
      ·
        have c12 := Classical.not_not.1 c12
        refine v_skip ?_
        refine p_seqN ?_
        refine v_seq ?_
        refine v_ops ?_
        refine s_pure (.bool true) (fun _ q => q) ?_
        refine s_nil ?_
        refine p_seqN ?_
        refine v_ret ?_
        refine p_ret [.bool true] (.bool true) (fun _ q => q) rfl ?_
        have ho : decide (a = b) = true := by simp only [LinkD_ext]; simp [*]
        exact ⟨by first | (rw [ho]; done) | rfl, E7⟩

theorem szLinkS_ok (v_a : Value) (a : List LinkD) (n : Int) (h : Heap) (s_a : Sl h v_a a) (h0 : 0 ≤ n) (h1 : n ≤ 1048576) : Cn f_laws_szLinkS [v_a, .int .i64 n] h fun v h' => ∃ m : Int, v = .int .i64 m ∧ Ext h h' ∧ (0 ≤ m → m = n - (a.length : Int)) ∧ m ≤ n := by
  have lt_a := s_a.lt
  have l63_a := s_a.len63
  refine calls_of r_laws_szLinkS ?_
  refine v_seq ?_
  refine v_ops ?_
  refine s_pure (.int .i64 0) (fun _ q => q) ?_
  refine s_nil ?_
  refine p_seqN ?_
  refine v_seq ?_
  refine v_ops ?_
  refine s_pure (.int .i64 n) (fun _ q => q) ?_
  refine s_pure v_a (fun _ q => q) ?_
  refine s_pure (.int .i64 (a.length : Int)) (fun _ q => s_a.lenVC q) ?_
  refine s_pure (.int .i64 (n - (a.length : Int))) (fun _ q => ArithVC.mk (by omega) q) ?_
  refine s_pure (.int .i64 (n - (a.length : Int))) (fun _ q => q) ?_
  refine s_nil ?_
  refine p_seqN ?_
  refine v_seq ?_
  refine v_seq ?_
  refine v_ops ?_
  refine s_pure (.int .i64 (n - (a.length : Int))) (fun _ q => q) ?_
  refine s_pure (.bool (decide ((n - (a.length : Int)) < 0))) (fun _ q => q) ?_
  refine s_nil ?_
  refine p_seqN ?_
  refine v_cond rfl (fun c1 => ?_) (fun c1 => ?_)
  ·
    refine v_seq ?_
    refine v_ops ?_
    refine s_pure (.int .i64 (-1)) (fun _ q => q) ?_
    refine s_nil ?_
    refine p_seqN ?_
    refine v_ret ?_
    refine p_seqR ?_
    refine p_ret [.int .i64 (-1)] (.int .i64 (-1)) (fun _ q => q) rfl ?_
    exact ⟨_, rfl, (Ext.refl h), by omega, by omega⟩
  ·
    refine v_skip ?_
    refine p_seqN ?_
    refine v_seq ?_
    refine v_ops ?_
    refine s_pure (.int .i64 (n - (a.length : Int))) (fun _ q => q) ?_
    refine s_pure (.int .i64 (n - (a.length : Int))) (fun _ q => q) ?_
    refine s_nil ?_
    refine p_seqN ?_
    refine v_ret ?_
    refine p_ret [.int .i64 (n - (a.length : Int))] (.int .i64 (n - (a.length : Int))) (fun _ q => q) rfl ?_
    exact ⟨_, rfl, (Ext.refl h), by omega, by omega⟩

theorem eqLinkS_ok (v_a : Value) (a : List LinkD) (v_b : Value) (b : List LinkD) (h : Heap) (s_a : Sl h v_a a) (s_b : Sl h v_b b) : Cn f_laws_eqLinkS [v_a, v_b] h fun v h' => v = .bool (decide (a = b)) ∧ Ext h h' := by
  have lt_a := s_a.lt
  have l63_a := s_a.len63
  have lt_b := s_b.lt
  have l63_b := s_b.len63
  refine calls_of r_laws_eqLinkS ?_
  refine v_seq ?_
  refine v_ops ?_
  refine s_pure (.bool false) (fun _ q => q) ?_
  refine s_nil ?_
  refine p_seqN ?_
  refine v_seq ?_
  refine v_seq ?_
  refine v_ops ?_
  refine s_pure v_a (fun _ q => q) ?_
  refine s_pure (.int .i64 (a.length : Int)) (fun _ q => s_a.lenVC q) ?_
  refine s_pure v_b (fun _ q => q) ?_
  refine s_pure (.int .i64 (b.length : Int)) (fun _ q => s_b.lenVC q) ?_
  refine s_pure (.bool ((a.length : Int) != (b.length : Int))) (fun _ q => q) ?_
  refine s_nil ?_
  refine p_seqN ?_
  refine v_cond rfl (fun c1 => ?_) (fun c1 => ?_)
  ·
    refine v_seq ?_
    refine v_ops ?_
    refine s_pure (.bool false) (fun _ q => q) ?_
    refine s_nil ?_
    refine p_seqN ?_
    refine v_ret ?_
    refine p_seqR ?_
    refine p_ret [.bool false] (.bool false) (fun _ q => q) rfl ?_
    have ho : decide (a = b) = false := by simp only [decide_eq_true_eq, decide_eq_false_iff_not]; first | (intro hab; subst hab; omega) | exact get_ne (by assumption) (by assumption) (by assumption) | exact take_done hab (by omega) (by omega)
    exact ⟨by first | (rw [ho]; done) | rfl, (Ext.refl h)⟩
  ·
    have c1 := Classical.not_not.1 c1
    refine v_skip ?_
    refine p_seqN ?_
    refine v_seq ?_
    refine v_seq ?_
    refine v_ops ?_
    refine s_pure (.int .i64 0) (fun _ q => q) ?_
    refine s_nil ?_
    refine p_seqN ?_
    refine v_block ?_
    refine v_loop1 (α := Nat) (fun k => [(0, v_a), (1, v_b), (5, .int .i64 (k : Int))]) (fun k hh => Ext h hh ∧ k ≤ a.length ∧ a.take k = b.take k) (fun k => a.length - k) 0 ⟨rfl, rfl, rfl⟩ ⟨(Ext.refl h), (by simp)⟩ ?_
    rintro k R3 h2 ⟨Eh, ⟨hk, hab⟩⟩
    have zEh := Eh.size
    have f4 := s_a.ext Eh
    have f5 := s_b.ext Eh
    refine v_seq ?_
    refine v_seq ?_
    refine v_ops ?_
    refine s_pure (.int .i64 (k : Int)) (fun _ q => q) ?_
    refine s_pure v_a (fun _ q => q) ?_
    refine s_pure (.int .i64 (a.length : Int)) (fun _ q => f4.lenVC q) ?_
    refine s_pure (.bool (decide ((k : Int) < (a.length : Int)))) (fun _ q => q) ?_
    refine s_nil ?_
    refine p_seqN ?_
    refine v_cond rfl (fun c6 => ?_) (fun c6 => ?_)
    ·
      refine v_skip ?_
      refine p_seqN ?_
      refine v_seq ?_
      refine v_block ?_
      refine v_seq ?_
      refine v_drawF ?_
      refine d_pureT v_a (fun _ q => q) ?_
      refine d_pureT (.int .i64 (k : Int)) (fun _ q => q) ?_
      have hk7 : k < a.length := (by first | omega | (simp; omega))
      obtain ⟨x8, hx8⟩ : ∃ x, a[k]? = some x := ⟨_, List.getElem?_eq_getElem hk7⟩
      refine d_pureT (.pointer (some ⟨sblk v_a, soff v_a + k * 3, none⟩)) (fun _ q => f4.idx (k := k) rfl hk7 q) ?_
      refine d_pureT v_b (fun _ q => q) ?_
      refine d_pureT (.int .i64 (k : Int)) (fun _ q => q) ?_
      have hk9 : k < b.length := (by first | omega | (simp; omega))
      obtain ⟨x10, hx10⟩ : ∃ x, b[k]? = some x := ⟨_, List.getElem?_eq_getElem hk9⟩
      refine d_pureT (.pointer (some ⟨sblk v_b, soff v_b + k * 3, none⟩)) (fun _ q => f5.idx (k := k) rfl hk9 q) ?_
      refine d_loadO (.agg #[.int .i64 x8.a, .int .i64 x8.b, .int .i64 x8.delay]) (fun _ q => f4.loadN hx8 rfl q) ?_
      refine d_loadO (.agg #[.int .i64 x10.a, .int .i64 x10.b, .int .i64 x10.delay]) (fun _ q => f5.loadN hx10 rfl q) ?_
      refine d_eff ?_
      refine s_call [.agg #[.int .i64 x8.a, .int .i64 x8.b, .int .i64 x8.delay], .agg #[.int .i64 x10.a, .int .i64 x10.b, .int .i64 x10.delay]] rfl (laws_eqLink_ok x8 x10 _ ) ?_
      rintro _ h11 ⟨rfl, eh11⟩
      have E12 := Eh.trans eh11
      have z13 := eh11.size
      have G14 := eh11
      refine s_nil ⟨fun hl => (by cases hl), ?_⟩
      refine d_pureT (.bool (!decide (x8 = x10))) (fun _ q => q) ?_
      refine d_done ?_
      refine p_seqN ?_
      refine v_cond rfl (fun c15 => ?_) (fun c15 => ?_)
      ·
        refine v_seq ?_
        refine v_ops ?_
        refine s_pure (.bool false) (fun _ q => q) ?_
        refine s_nil ?_
        refine p_seqN ?_
        refine v_ret ?_
        refine p_blkR ?_
        refine p_seqR ?_
        refine p_lpR ?_
        refine p_blkR ?_
        refine p_seqR ?_
        refine p_ret [.bool false] (.bool false) (fun _ q => q) rfl ?_
        have ho : decide (a = b) = false := by simp only [decide_eq_true_eq, decide_eq_false_iff_not]; first | (intro hab; subst hab; omega) | exact get_ne (by assumption) (by assumption) (by assumption) | exact take_done hab (by omega) (by omega)
        exact ⟨by first | (rw [ho]; done) | rfl, E12⟩
      ·
        have c15 := Classical.not_not.1 c15
        refine v_skip ?_
        refine p_blkN ?_
        refine p_seqN ?_
        refine v_ops ?_
        refine s_pure (.int .i64 (k : Int)) (fun _ q => q) ?_
        refine s_pure (.int .i64 ((k : Int) + 1)) (fun _ q => ArithVC.mk (by omega) q) ?_
        refine s_pure (.int .i64 ((k : Int) + 1)) (fun _ q => q) ?_
        refine s_nil ?_
        exact p_lpN ⟨k + 1, ⟨rfl, rfl, rfl⟩, ⟨E12, (by exact ⟨by omega, take_ext hab (by assumption) (by assumption) (by assumption)⟩)⟩, by omega⟩
    ·
      refine v_exit ?_
      refine p_seqX ?_
      refine p_lpX ?_
      refine p_blkX ?_
      refine p_seqN ?_
      refine v_seq ?_
      refine v_ops ?_
      refine s_pure (.bool true) (fun _ q => q) ?_
      refine s_nil ?_
      refine p_seqN ?_
      refine v_ret ?_
      refine p_ret [.bool true] (.bool true) (fun _ q => q) rfl ?_
      have ho : decide (a = b) = true := by simp only [decide_eq_true_eq, decide_eq_false_iff_not]; first | (intro hab; subst hab; omega) | exact get_ne (by assumption) (by assumption) (by assumption) | exact take_done hab (by omega) (by omega)
      exact ⟨by first | (rw [ho]; done) | rfl, Eh⟩

theorem toLinkS_ok (v_a : Value) (a : List LinkD) (h : Heap) (s_a : Sl h v_a a) (hb2 : a.length ≤ 1048576) : Cn f_laws_toLinkS [v_a] h fun v h' => ∃ r0 : Value, v = r0 ∧ SlO h' r0 a ∧ Fr h.size r0 ∧ Ext h h' := by
  have lt_a := s_a.lt
  have l63_a := s_a.len63
  refine calls_of r_laws_toLinkS ?_
  refine v_seq ?_
  refine v_ops ?_
  refine s_pure (.slice none 0 0) (fun _ q => q) ?_
  refine s_nil ?_
  refine p_seqN ?_
  refine v_seq ?_
  refine v_ops ?_
  refine s_pure v_a (fun _ q => q) ?_
  refine s_pure (.int .i64 (a.length : Int)) (fun _ q => s_a.lenVC q) ?_
  refine s_mk (α := LinkD) a.length (⟨0, 0, 0⟩ : LinkD) rfl rfl rfl rfl rfl rfl (by simp [maxLen]; omega) (by omega) (fun r1 h2 eh2 zh2 s_r1 fr_r1 => ?_)
  have E3 := (Ext.refl h).trans eh2
  have z4 := eh2.size
  have lt_r1 := s_r1.lt
  refine s_pure r1 (fun _ q => q) ?_
  refine s_nil ?_
  refine p_seqN ?_
  refine v_seq ?_
  refine v_seq ?_
  refine v_ops ?_
  refine s_pure (.int .i64 0) (fun _ q => q) ?_
  refine s_nil ?_
  refine p_seqN ?_
  refine v_block ?_
  refine v_loop3 (α := Nat) (β := List LinkD) (γ := Value) (fun k o u => [(0, v_a), (3, u), (4, .int .i64 (k : Int))]) (fun k o u hh => Ext h hh ∧ SlO hh u o ∧ Fr h.size u ∧ k ≤ a.length ∧ o.length = a.length ∧ o.take k = a.take k) (fun k o u => a.length - k) 0 (List.replicate a.length ⟨0, 0, 0⟩) r1 ⟨rfl, rfl, rfl⟩ ⟨E3, (sl_eq s_r1 (by simp)), (fr_r1.mono (by omega)), (by simp)⟩ ?_
  rintro k o u R6 h5 ⟨Eh, s_u, fr_u, ⟨hk, hol, ho1⟩⟩
  have zEh := Eh.size
  have f7 := s_a.ext Eh
  have lt_u := s_u.lt
  refine v_seq ?_
  refine v_seq ?_
  refine v_ops ?_
  refine s_pure (.int .i64 (k : Int)) (fun _ q => q) ?_
  refine s_pure v_a (fun _ q => q) ?_
  refine s_pure (.int .i64 (a.length : Int)) (fun _ q => f7.lenVC q) ?_
  refine s_pure (.bool (decide ((k : Int) < (a.length : Int)))) (fun _ q => q) ?_
  refine s_nil ?_
  refine p_seqN ?_
  refine v_cond rfl (fun c8 => ?_) (fun c8 => ?_)
  ·
    refine v_skip ?_
    refine p_seqN ?_
    refine v_seq ?_
    refine v_block ?_
    refine v_ops ?_
    refine s_pure u (fun _ q => q) ?_
    refine s_pure (.int .i64 (k : Int)) (fun _ q => q) ?_
    refine s_pure v_a (fun _ q => q) ?_
    refine s_pure (.int .i64 (k : Int)) (fun _ q => q) ?_
    have hk9 : k < a.length := (by first | omega | (simp; omega))
    obtain ⟨x10, hx10⟩ : ∃ x, a[k]? = some x := ⟨_, List.getElem?_eq_getElem hk9⟩
    refine s_pure (.pointer (some ⟨sblk v_a, soff v_a + k * 3, none⟩)) (fun _ q => f7.idx (k := k) rfl hk9 q) ?_
    refine s_load (.agg #[.int .i64 x10.a, .int .i64 x10.b, .int .i64 x10.delay]) (fun _ q => f7.loadN hx10 rfl q) ?_
    refine s_call [.agg #[.int .i64 x10.a, .int .i64 x10.b, .int .i64 x10.delay]] rfl (laws_toLink_ok x10 _ ) ?_
    rintro _ h11 ⟨rfl, eh11⟩
    have E12 := Eh.trans eh11
    have z13 := eh11.size
    have f14 := (s_u.ext eh11)
    have hk15 : k < o.length := (by first | omega | (simp; omega))
    obtain ⟨x16, hx16⟩ : ∃ x, o[k]? = some x := ⟨_, List.getElem?_eq_getElem hk15⟩
    refine s_pure (.pointer (some ⟨sblk u, soff u + k * 3, none⟩)) (fun _ q => f14.idx (k := k) rfl hk15 q) ?_
    refine s_stSl (k := k) (j := 0) (⟨x10.a, x10.b, x10.delay⟩ : LinkD) (.agg #[.int .i64 x10.a, .int .i64 x10.b, .int .i64 x10.delay]) [.int .i64 x10.a, .int .i64 x10.b, .int .i64 x10.delay] f14 rfl rfl rfl rfl rfl hx16 (Nat.le_of_ble_eq_true rfl) rfl (all_cons rfl (all_cons rfl (all_cons rfl all_nil))) (fun h17 mh17 sh17 s18 => ?_)
    have E19 := E12.mod mh17 (fun b hb => by have := fr_u b hb; omega)
    refine s_nil ?_
    refine p_blkN ?_
    refine p_seqN ?_
    refine v_ops ?_
    refine s_pure (.int .i64 (k : Int)) (fun _ q => q) ?_
    refine s_pure (.int .i64 ((k : Int) + 1)) (fun _ q => ArithVC.mk (by omega) q) ?_
    refine s_pure (.int .i64 ((k : Int) + 1)) (fun _ q => q) ?_
    refine s_nil ?_
    exact p_lpN ⟨k + 1, (o.set k (⟨x10.a, x10.b, x10.delay⟩ : LinkD)), u, ⟨rfl, rfl, rfl⟩, ⟨E19, (sl_eq s18 (by simp)), (fr_u.mono (by omega)), (by exact ⟨by omega, by simpa using hol, set_take ho1 (by omega) (by assumption) (by rfl)⟩)⟩, by omega⟩
  ·
    refine v_exit ?_
    refine p_seqX ?_
    refine p_lpX ?_
    refine p_blkX ?_
    refine p_seqN ?_
    refine v_seq ?_
    refine v_ops ?_
    refine s_pure u (fun _ q => q) ?_
    refine s_pure u (fun _ q => q) ?_
    refine s_nil ?_
    refine p_seqN ?_
    refine v_ret ?_
    refine p_ret [u] u (fun _ q => q) rfl ?_
    have ho : a = o := by (rw [List.take_of_length_le (by omega), List.take_of_length_le (by omega)] at ho1); exact ho1.symm
    exact ⟨u, by first | (rw [ho]; done) | rfl, sl_eq s_u (congrArg (fun o => o) ho).symm, fr_u.mono (by omega), Eh⟩

theorem markLinkS_ok (v_a : Value) (a : List LinkD) (n : Int) (h : Heap) (s_a : SlO h v_a a) (h0 : 0 ≤ n) (h1 : n ≤ 288230376151711744) (hb : a.length ≤ 72057594037927936) : Cn f_laws_markLinkS [v_a, .int .i64 n] h fun v h' => v = .int .i64 (n + 3 * (a.length : Int)) ∧ SlO h' v_a (linkMk n a.length) ∧ Mod (blks v_a) h h' ∧ h.size ≤ h'.size := by
  have lt_a := s_a.lt
  have l63_a := s_a.len63
  refine calls_of r_laws_markLinkS ?_
  refine v_seq ?_
  refine v_ops ?_
  refine s_pure (.int .i64 0) (fun _ q => q) ?_
  refine s_nil ?_
  refine p_seqN ?_
  refine v_seq ?_
  refine v_seq ?_
  refine v_ops ?_
  refine s_pure (.int .i64 0) (fun _ q => q) ?_
  refine s_nil ?_
  refine p_seqN ?_
  refine v_block ?_
  refine v_loop3 (α := Nat) (β := Int) (γ := List LinkD) (fun k m ll => [(0, v_a), (1, .int .i64 m), (5, .int .i64 (k : Int))]) (fun k m ll hh => Mod (blks v_a) h hh ∧ SlO hh v_a ll ∧ k ≤ a.length ∧ ll = linkMk n k ++ a.drop k ∧ m = n + 3 * (k : Int)) (fun k m ll => a.length - k) 0 n a ⟨rfl, rfl, rfl⟩ ⟨(Mod.refl (blks v_a) h), s_a, (by refine ⟨by omega, by simp [linkMk], by simp⟩)⟩ ?_
  rintro k m ll R2 h1 ⟨Eh, s_a, ⟨hk, hll, hm⟩⟩
  have zEh := Eh.size
  have lt_a := s_a.lt
  have hpl : ll.length = a.length := by rw [hll, List.length_append, linkMk_len]; simp; omega
  refine v_seq ?_
  refine v_seq ?_
  refine v_ops ?_
  refine s_pure (.int .i64 (k : Int)) (fun _ q => q) ?_
  refine s_pure v_a (fun _ q => q) ?_
  refine s_pure (.int .i64 (ll.length : Int)) (fun _ q => s_a.lenVC q) ?_
  refine s_pure (.bool (decide ((k : Int) < (ll.length : Int)))) (fun _ q => q) ?_
  refine s_nil ?_
  refine p_seqN ?_
  refine v_cond rfl (fun c3 => ?_) (fun c3 => ?_)
  ·
    refine v_skip ?_
    refine p_seqN ?_
    refine v_seq ?_
    refine v_block ?_
    refine v_seq ?_
    refine v_ops ?_
    refine s_pure v_a (fun _ q => q) ?_
    refine s_pure (.int .i64 (k : Int)) (fun _ q => q) ?_
    refine s_pure (.int .i64 m) (fun _ q => q) ?_
    have hk4 : k < ll.length := (by first | omega | (simp; omega))
    obtain ⟨x5, hx5⟩ : ∃ x, ll[k]? = some x := ⟨_, List.getElem?_eq_getElem hk4⟩
    refine s_pure (.pointer (some ⟨sblk v_a, soff v_a + k * 3, none⟩)) (fun _ q => s_a.idx (k := k) rfl hk4 q) ?_
    refine s_pure (.pointer (some ⟨sblk v_a, soff v_a + k * 3, none⟩)) (fun _ q => q) ?_
    refine s_stSl (k := k) (j := 0) (⟨m, x5.b, x5.delay⟩ : LinkD) (.int .i64 m) [.int .i64 m] s_a rfl rfl rfl rfl rfl hx5 (Nat.le_of_ble_eq_true rfl) rfl (all_cons rfl all_nil) (fun h6 mh6 sh6 s7 => ?_)
    have E8 := Eh.new mh6 (fun b hb => Or.inl hb)
    refine s_nil ?_
    refine p_seqN ?_
    refine v_seq ?_
    refine v_ops ?_
    refine s_pure (.int .i64 m) (fun _ q => q) ?_
    refine s_pure (.int .i64 (m + 1)) (fun _ q => ArithVC.mk (by omega) q) ?_
    refine s_pure (.int .i64 (m + 1)) (fun _ q => q) ?_
    refine s_nil ?_
    refine p_seqN ?_
    refine v_seq ?_
    refine v_ops ?_
    refine s_pure v_a (fun _ q => q) ?_
    refine s_pure (.int .i64 (k : Int)) (fun _ q => q) ?_
    refine s_pure (.int .i64 (m + 1)) (fun _ q => q) ?_
    have hk9 : k < (ll.set k (⟨m, x5.b, x5.delay⟩ : LinkD)).length := (by first | omega | (simp; omega))
    obtain ⟨x10, hx10, heq_x10⟩ : ∃ x, (ll.set k (⟨m, x5.b, x5.delay⟩ : LinkD))[k]? = some x ∧ x = (⟨m, x5.b, x5.delay⟩ : LinkD) := ⟨_, List.getElem?_set_self (by simpa using hk9), rfl⟩
    refine s_pure (.pointer (some ⟨sblk v_a, soff v_a + k * 3, none⟩)) (fun _ q => s7.idx (k := k) rfl hk9 q) ?_
    refine s_pure (.pointer (some ⟨sblk v_a, soff v_a + k * 3 + 1, none⟩)) (fun _ q => q) ?_
    refine s_stSl (k := k) (j := 1) (⟨x10.a, (m + 1), x10.delay⟩ : LinkD) (.int .i64 (m + 1)) [.int .i64 (m + 1)] s7 rfl rfl rfl rfl rfl hx10 (Nat.le_of_ble_eq_true rfl) rfl (all_cons rfl all_nil) (fun h11 mh11 sh11 s12 => ?_)
    have E13 := E8.new mh11 (fun b hb => Or.inl hb)
    refine s_nil ?_
    refine p_seqN ?_
    refine v_seq ?_
    refine v_ops ?_
    refine s_pure (.int .i64 (m + 1)) (fun _ q => q) ?_
    refine s_pure (.int .i64 ((m + 1) + 1)) (fun _ q => ArithVC.mk (by omega) q) ?_
    refine s_pure (.int .i64 ((m + 1) + 1)) (fun _ q => q) ?_
    refine s_nil ?_
    refine p_seqN ?_
    refine v_seq ?_
    refine v_ops ?_
    refine s_pure v_a (fun _ q => q) ?_
    refine s_pure (.int .i64 (k : Int)) (fun _ q => q) ?_
    refine s_pure (.int .i64 ((m + 1) + 1)) (fun _ q => q) ?_
    have hk14 : k < ((ll.set k (⟨m, x5.b, x5.delay⟩ : LinkD)).set k (⟨x10.a, (m + 1), x10.delay⟩ : LinkD)).length := (by first | omega | (simp; omega))
    obtain ⟨x15, hx15, heq_x15⟩ : ∃ x, ((ll.set k (⟨m, x5.b, x5.delay⟩ : LinkD)).set k (⟨x10.a, (m + 1), x10.delay⟩ : LinkD))[k]? = some x ∧ x = (⟨x10.a, (m + 1), x10.delay⟩ : LinkD) := ⟨_, List.getElem?_set_self (by simpa using hk14), rfl⟩
    refine s_pure (.pointer (some ⟨sblk v_a, soff v_a + k * 3, none⟩)) (fun _ q => s12.idx (k := k) rfl hk14 q) ?_
    refine s_pure (.pointer (some ⟨sblk v_a, soff v_a + k * 3 + 2, none⟩)) (fun _ q => q) ?_
    refine s_stSl (k := k) (j := 2) (⟨x15.a, x15.b, ((m + 1) + 1)⟩ : LinkD) (.int .i64 ((m + 1) + 1)) [.int .i64 ((m + 1) + 1)] s12 rfl rfl rfl rfl rfl hx15 (Nat.le_of_ble_eq_true rfl) rfl (all_cons rfl all_nil) (fun h16 mh16 sh16 s17 => ?_)
    have E18 := E13.new mh16 (fun b hb => Or.inl hb)
    refine s_nil ?_
    refine p_seqN ?_
    refine v_ops ?_
    refine s_pure (.int .i64 ((m + 1) + 1)) (fun _ q => q) ?_
    refine s_pure (.int .i64 (((m + 1) + 1) + 1)) (fun _ q => ArithVC.mk (by omega) q) ?_
    refine s_pure (.int .i64 (((m + 1) + 1) + 1)) (fun _ q => q) ?_
    refine s_nil ?_
    refine p_blkN ?_
    refine p_seqN ?_
    refine v_ops ?_
    refine s_pure (.int .i64 (k : Int)) (fun _ q => q) ?_
    refine s_pure (.int .i64 ((k : Int) + 1)) (fun _ q => ArithVC.mk (by omega) q) ?_
    refine s_pure (.int .i64 ((k : Int) + 1)) (fun _ q => q) ?_
    refine s_nil ?_
    exact p_lpN ⟨k + 1, (((m + 1) + 1) + 1), (((ll.set k (⟨m, x5.b, x5.delay⟩ : LinkD)).set k (⟨x10.a, (m + 1), x10.delay⟩ : LinkD)).set k (⟨x15.a, x15.b, ((m + 1) + 1)⟩ : LinkD)), ⟨rfl, rfl, rfl⟩, ⟨E18, (sl_eq s17 rfl), (by (have hq := linkMk_step n a k (by omega)); subst_vars; exact ⟨by omega, by (rw [List.set_set, List.set_set]; exact hq), by omega⟩)⟩, by omega⟩
  ·
    refine v_exit ?_
    refine p_seqX ?_
    refine p_lpX ?_
    refine p_blkX ?_
    refine p_seqN ?_
    refine v_seq ?_
    refine v_ops ?_
    refine s_pure (.int .i64 m) (fun _ q => q) ?_
    refine s_pure (.int .i64 m) (fun _ q => q) ?_
    refine s_nil ?_
    refine p_seqN ?_
    refine v_ret ?_
    refine p_ret [.int .i64 m] (.int .i64 m) (fun _ q => q) rfl ?_
    have hk2 : k = a.length := by omega
    subst hk2
    rw [List.drop_length, List.append_nil] at hll
    subst hll
    exact ⟨by rw [hm], s_a, Eh, Eh.size⟩


def fogMk : Int → Nat → List FogD
  | _, 0 => []
  | k, n + 1 => ⟨k, k + 1, k + 1 + 1⟩ :: fogMk (k + 1 + 1 + 1) n
theorem fogMk_len (k : Int) (n : Nat) : (fogMk k n).length = n := by
  induction n generalizing k with
  | zero => rfl
  | succ n ih => simp [fogMk, ih]
theorem fogMk_get (k : Int) (n i : Nat) (h : i < n) : (fogMk k n)[i]? = some ⟨k + 3 * (i : Int), k + 3 * (i : Int) + 1, k + 3 * (i : Int) + 1 + 1⟩ := by
  induction n generalizing k i with
  | zero => omega
  | succ n ih =>
    cases i with
    | zero => simp [fogMk]
    | succ i =>
      simp only [fogMk, List.getElem?_cons_succ]
      rw [ih _ i (by omega)]
      have : k + 1 + 1 + 1 + 3 * (i : Int) = k + 3 * ((i + 1 : Nat) : Int) := by omega
      rw [this]
theorem fogMk_snoc (k : Int) (n : Nat) : fogMk k (n + 1) = fogMk k n ++ [⟨k + 3 * (n : Int), k + 3 * (n : Int) + 1, k + 3 * (n : Int) + 1 + 1⟩] := by
  induction n generalizing k with
  | zero => simp [fogMk]
  | succ n ih =>
    rw [fogMk, ih (k + 1 + 1 + 1), fogMk, List.cons_append]
    have : k + 1 + 1 + 1 + 3 * (n : Int) = k + 3 * ((n + 1 : Nat) : Int) := by omega
    rw [this]
theorem fogMk_step (k : Int) (xs : List FogD) (i : Nat) (h : i < xs.length) : (fogMk k i ++ xs.drop i).set i ⟨k + 3 * (i : Int), k + 3 * (i : Int) + 1, k + 3 * (i : Int) + 1 + 1⟩ = fogMk k (i + 1) ++ xs.drop (i + 1) := by
  have hl := fogMk_len k i
  rw [List.set_append_right _ _ (by omega), hl, Nat.sub_self, List.drop_eq_getElem_cons h, List.set_cons_zero, fogMk_snoc, List.append_assoc]; rfl
theorem FogD_ext {a b : FogD} : a = b ↔ a.link = b.link ∧ a.fr = b.fr ∧ a.til = b.til := by cases a; cases b; simp

theorem laws_toFog_ok (a : FogD) (h : Heap)  : Cn f_laws_toFog [.agg #[.int .i64 a.link, .int .i64 a.fr, .int .i64 a.til]] h fun v h' => v = .agg #[.int .i64 a.link, .int .i64 a.fr, .int .i64 a.til] ∧ Ext h h' := by
  refine calls_of r_laws_toFog ?_
  refine v_seq ?_
  refine v_ops ?_
  refine s_box [.int .i64 a.link, .int .i64 a.fr, .int .i64 a.til] rfl (fun h2 b1 hbb1 hzb1 eh2 bxb1 => ?_)
  have E3 := (Ext.refl h).trans eh2
  have z4 := eh2.size
  have lbb1 := bxb1.lt
  refine s_new (fun h6 b5 hbb5 hzb5 eh6 bxb5 => ?_)
  have E7 := E3.trans eh6
  have z8 := eh6.size
  have lbb5 := bxb5.lt
  refine s_nil ?_
  refine p_seqN ?_
  refine v_seq ?_
  refine v_ops ?_
  refine s_new (fun h10 b9 hbb9 hzb9 eh10 bxb9 => ?_)
  have E11 := E7.trans eh10
  have z12 := eh10.size
  have lbb9 := bxb9.lt
  refine s_nil ?_
  refine p_seqN ?_
  refine v_seq ?_
  refine v_ops ?_
  refine s_pure (.pointer (some ⟨b1, 0, none⟩)) (fun _ q => q) ?_
  have f13 := ((bxb1.ext eh6).ext eh10)
  refine s_load (.int .i64 a.link) (fun _ q => f13.load rfl q) ?_
  refine s_pure (.pointer (some ⟨b9, 0, none⟩)) (fun _ q => q) ?_
  refine s_stBx (.int .i64 a.link) [.int .i64 a.link] [.int .i64 a.link, .int .i64 0, .int .i64 0] bxb9 rfl rfl rfl rfl (by simp) (all_cons rfl all_nil) rfl (fun h14 mh14 sh14 bxx15 => ?_)
  have E16 := E11.mod mh14 (fun b hb => by simp at hb; omega)
  refine s_nil ?_
  refine p_seqN ?_
  refine v_seq ?_
  refine v_ops ?_
  refine s_pure (.pointer (some ⟨b1, 1, none⟩)) (fun _ q => q) ?_
  have f17 := (f13.mod mh14 (by simp; omega))
  refine s_load (.int .i64 a.fr) (fun _ q => f17.load rfl q) ?_
  refine s_pure (.pointer (some ⟨b9, 1, none⟩)) (fun _ q => q) ?_
  refine s_stBx (.int .i64 a.fr) [.int .i64 a.fr] [.int .i64 a.link, .int .i64 a.fr, .int .i64 0] bxx15 rfl rfl rfl rfl (by simp) (all_cons rfl all_nil) rfl (fun h18 mh18 sh18 bxx19 => ?_)
  have E20 := E16.mod mh18 (fun b hb => by simp at hb; omega)
  refine s_nil ?_
  refine p_seqN ?_
  refine v_seq ?_
  refine v_ops ?_
  refine s_pure (.pointer (some ⟨b1, 2, none⟩)) (fun _ q => q) ?_
  have f21 := (f17.mod mh18 (by simp; omega))
  refine s_load (.int .i64 a.til) (fun _ q => f21.load rfl q) ?_
  refine s_pure (.pointer (some ⟨b9, 2, none⟩)) (fun _ q => q) ?_
  refine s_stBx (.int .i64 a.til) [.int .i64 a.til] [.int .i64 a.link, .int .i64 a.fr, .int .i64 a.til] bxx19 rfl rfl rfl rfl (by simp) (all_cons rfl all_nil) rfl (fun h22 mh22 sh22 bxx23 => ?_)
  have E24 := E20.mod mh22 (fun b hb => by simp at hb; omega)
  refine s_nil ?_
  refine p_seqN ?_
  refine v_seq ?_
  refine v_ops ?_
  refine s_load (.agg #[.int .i64 a.link, .int .i64 a.fr, .int .i64 a.til]) (fun _ q => bxx23.loadA rfl q) ?_
  have f25 := ((((bxb5.ext eh10).mod mh14 (by simp; omega)).mod mh18 (by simp; omega)).mod mh22 (by simp; omega))
  refine s_stBx (.agg #[.int .i64 a.link, .int .i64 a.fr, .int .i64 a.til]) [.int .i64 a.link, .int .i64 a.fr, .int .i64 a.til] [.int .i64 a.link, .int .i64 a.fr, .int .i64 a.til] f25 rfl rfl rfl rfl (by simp) (all_cons rfl (all_cons rfl (all_cons rfl all_nil))) rfl (fun h26 mh26 sh26 bxx27 => ?_)
  have E28 := E24.mod mh26 (fun b hb => by simp at hb; omega)
  refine s_nil ?_
  refine p_seqN ?_
  refine v_ret ?_
  refine p_ret [.agg #[.int .i64 a.link, .int .i64 a.fr, .int .i64 a.til]] (.agg #[.int .i64 a.link, .int .i64 a.fr, .int .i64 a.til]) (fun _ q => (bxx27.loadA rfl q)) rfl ?_
  have ho : a = ⟨a.link, a.fr, a.til⟩ := by rfl
  exact ⟨by first | (rw [ho]; done) | rfl, E28⟩

theorem laws_eqFog_ok (a : FogD) (b : FogD) (h : Heap)  : Cn f_laws_eqFog [.agg #[.int .i64 a.link, .int .i64 a.fr, .int .i64 a.til], .agg #[.int .i64 b.link, .int .i64 b.fr, .int .i64 b.til]] h fun v h' => v = .bool (decide (a = b)) ∧ Ext h h' := by
  refine calls_of r_laws_eqFog ?_
  refine v_seq ?_
  refine v_ops ?_
  refine s_box [.int .i64 a.link, .int .i64 a.fr, .int .i64 a.til] rfl (fun h2 b1 hbb1 hzb1 eh2 bxb1 => ?_)
  have E3 := (Ext.refl h).trans eh2
  have z4 := eh2.size
  have lbb1 := bxb1.lt
  refine s_box [.int .i64 b.link, .int .i64 b.fr, .int .i64 b.til] rfl (fun h6 b5 hbb5 hzb5 eh6 bxb5 => ?_)
  have E7 := E3.trans eh6
  have z8 := eh6.size
  have lbb5 := bxb5.lt
  refine s_pure (.bool false) (fun _ q => q) ?_
  refine s_nil ?_
  refine p_seqN ?_
  refine v_seq ?_
  refine v_seq ?_
  refine v_ops ?_
  refine s_pure (.pointer (some ⟨b1, 0, none⟩)) (fun _ q => q) ?_
  have f9 := (bxb1.ext eh6)
  refine s_load (.int .i64 a.link) (fun _ q => f9.load rfl q) ?_
  refine s_pure (.pointer (some ⟨b5, 0, none⟩)) (fun _ q => q) ?_
  refine s_load (.int .i64 b.link) (fun _ q => bxb5.load rfl q) ?_
  refine s_pure (.bool (a.link != b.link)) (fun _ q => q) ?_
  refine s_nil ?_
  refine p_seqN ?_
  refine v_cond rfl (fun c10 => ?_) (fun c10 => ?_)
  ·
    refine v_seq ?_
    refine v_ops ?_
    refine s_pure (.bool false) (fun _ q => q) ?_
    refine s_nil ?_
    refine p_seqN ?_
    refine v_ret ?_
    refine p_seqR ?_
    refine p_ret [.bool false] (.bool false) (fun _ q => q) rfl ?_
    have ho : decide (a = b) = false := by simp only [FogD_ext]; simp [*]
    exact ⟨by first | (rw [ho]; done) | rfl, E7⟩
  ·
    have c10 := Classical.not_not.1 c10
    refine v_skip ?_
    refine p_seqN ?_
    refine v_seq ?_
    refine v_seq ?_
    refine v_ops ?_
    refine s_pure (.pointer (some ⟨b1, 1, none⟩)) (fun _ q => q) ?_
    refine s_load (.int .i64 a.fr) (fun _ q => f9.load rfl q) ?_
    refine s_pure (.pointer (some ⟨b5, 1, none⟩)) (fun _ q => q) ?_
    refine s_load (.int .i64 b.fr) (fun _ q => bxb5.load rfl q) ?_
    refine s_pure (.bool (a.fr != b.fr)) (fun _ q => q) ?_
    refine s_nil ?_
    refine p_seqN ?_
    refine v_cond rfl (fun c11 => ?_) (fun c11 => ?_)
    ·
      refine v_seq ?_
      refine v_ops ?_
      refine s_pure (.bool false) (fun _ q => q) ?_
      refine s_nil ?_
      refine p_seqN ?_
      refine v_ret ?_
      refine p_seqR ?_
      refine p_ret [.bool false] (.bool false) (fun _ q => q) rfl ?_
      have ho : decide (a = b) = false := by simp only [FogD_ext]; simp [*]
      exact ⟨by first | (rw [ho]; done) | rfl, E7⟩
    ·
      have c11 := Classical.not_not.1 c11
      refine v_skip ?_
      refine p_seqN ?_
      refine v_seq ?_
      refine v_seq ?_
      refine v_ops ?_
      refine s_pure (.pointer (some ⟨b1, 2, none⟩)) (fun _ q => q) ?_
      refine s_load (.int .i64 a.til) (fun _ q => f9.load rfl q) ?_
      refine s_pure (.pointer (some ⟨b5, 2, none⟩)) (fun _ q => q) ?_
      refine s_load (.int .i64 b.til) (fun _ q => bxb5.load rfl q) ?_
      refine s_pure (.bool (a.til != b.til)) (fun _ q => q) ?_
      refine s_nil ?_
      refine p_seqN ?_
      refine v_cond rfl (fun c12 => ?_) (fun c12 => ?_)
      ·
        refine v_seq ?_
        refine v_ops ?_
        refine s_pure (.bool false) (fun _ q => q) ?_
        refine s_nil ?_
        refine p_seqN ?_
        refine v_ret ?_
        refine p_seqR ?_
        refine p_ret [.bool false] (.bool false) (fun _ q => q) rfl ?_
        have ho : decide (a = b) = false := by simp only [FogD_ext]; simp [*]
        exact ⟨by first | (rw [ho]; done) | rfl, E7⟩
      ·
        have c12 := Classical.not_not.1 c12
        refine v_skip ?_
        refine p_seqN ?_
        refine v_seq ?_
        refine v_ops ?_
        refine s_pure (.bool true) (fun _ q => q) ?_
        refine s_nil ?_
        refine p_seqN ?_
        refine v_ret ?_
        refine p_ret [.bool true] (.bool true) (fun _ q => q) rfl ?_
        have ho : decide (a = b) = true := by simp only [FogD_ext]; simp [*]
        exact ⟨by first | (rw [ho]; done) | rfl, E7⟩

theorem szFogS_ok (v_a : Value) (a : List FogD) (n : Int) (h : Heap) (s_a : Sl h v_a a) (h0 : 0 ≤ n) (h1 : n ≤ 1048576) : Cn f_laws_szFogS [v_a, .int .i64 n] h fun v h' => ∃ m : Int, v = .int .i64 m ∧ Ext h h' ∧ (0 ≤ m → m = n - (a.length : Int)) ∧ m ≤ n := by
  have lt_a := s_a.lt
  have l63_a := s_a.len63
  refine calls_of r_laws_szFogS ?_
  refine v_seq ?_
  refine v_ops ?_
  refine s_pure (.int .i64 0) (fun _ q => q) ?_
  refine s_nil ?_
  refine p_seqN ?_
  refine v_seq ?_
  refine v_ops ?_
  refine s_pure (.int .i64 n) (fun _ q => q) ?_
  refine s_pure v_a (fun _ q => q) ?_
  refine s_pure (.int .i64 (a.length : Int)) (fun _ q => s_a.lenVC q) ?_
  refine s_pure (.int .i64 (n - (a.length : Int))) (fun _ q => ArithVC.mk (by omega) q) ?_
  refine s_pure (.int .i64 (n - (a.length : Int))) (fun _ q => q) ?_
  refine s_nil ?_
  refine p_seqN ?_
  refine v_seq ?_
  refine v_seq ?_
  refine v_ops ?_
  refine s_pure (.int .i64 (n - (a.length : Int))) (fun _ q => q) ?_
  refine s_pure (.bool (decide ((n - (a.length : Int)) < 0))) (fun _ q => q) ?_
  refine s_nil ?_
  refine p_seqN ?_
  refine v_cond rfl (fun c1 => ?_) (fun c1 => ?_)
  ·
    refine v_seq ?_
    refine v_ops ?_
    refine s_pure (.int .i64 (-1)) (fun _ q => q) ?_
    refine s_nil ?_
    refine p_seqN ?_
    refine v_ret ?_
    refine p_seqR ?_
    refine p_ret [.int .i64 (-1)] (.int .i64 (-1)) (fun _ q => q) rfl ?_
    exact ⟨_, rfl, (Ext.refl h), by omega, by omega⟩
  ·
    refine v_skip ?_
    refine p_seqN ?_
    refine v_seq ?_
    refine v_ops ?_
    refine s_pure (.int .i64 (n - (a.length : Int))) (fun _ q => q) ?_
    refine s_pure (.int .i64 (n - (a.length : Int))) (fun _ q => q) ?_
    refine s_nil ?_
    refine p_seqN ?_
    refine v_ret ?_
    refine p_ret [.int .i64 (n - (a.length : Int))] (.int .i64 (n - (a.length : Int))) (fun _ q => q) rfl ?_
    exact ⟨_, rfl, (Ext.refl h), by omega, by omega⟩

theorem eqFogS_ok (v_a : Value) (a : List FogD) (v_b : Value) (b : List FogD) (h : Heap) (s_a : Sl h v_a a) (s_b : Sl h v_b b) : Cn f_laws_eqFogS [v_a, v_b] h fun v h' => v = .bool (decide (a = b)) ∧ Ext h h' := by
  have lt_a := s_a.lt
  have l63_a := s_a.len63
  have lt_b := s_b.lt
  have l63_b := s_b.len63
  refine calls_of r_laws_eqFogS ?_
  refine v_seq ?_
  refine v_ops ?_
  refine s_pure (.bool false) (fun _ q => q) ?_
  refine s_nil ?_
  refine p_seqN ?_
  refine v_seq ?_
  refine v_seq ?_
  refine v_ops ?_
  refine s_pure v_a (fun _ q => q) ?_
  refine s_pure (.int .i64 (a.length : Int)) (fun _ q => s_a.lenVC q) ?_
  refine s_pure v_b (fun _ q => q) ?_
  refine s_pure (.int .i64 (b.length : Int)) (fun _ q => s_b.lenVC q) ?_
  refine s_pure (.bool ((a.length : Int) != (b.length : Int))) (fun _ q => q) ?_
  refine s_nil ?_
  refine p_seqN ?_
  refine v_cond rfl (fun c1 => ?_) (fun c1 => ?_)
  ·
    refine v_seq ?_
    refine v_ops ?_
    refine s_pure (.bool false) (fun _ q => q) ?_
    refine s_nil ?_
    refine p_seqN ?_
    refine v_ret ?_
    refine p_seqR ?_
    refine p_ret [.bool false] (.bool false) (fun _ q => q) rfl ?_
    have ho : decide (a = b) = false := by simp only [decide_eq_true_eq, decide_eq_false_iff_not]; first | (intro hab; subst hab; omega) | exact get_ne (by assumption) (by assumption) (by assumption) | exact take_done hab (by omega) (by omega)
    exact ⟨by first | (rw [ho]; done) | rfl, (Ext.refl h)⟩
  ·
    have c1 := Classical.not_not.1 c1
    refine v_skip ?_
    refine p_seqN ?_
    refine v_seq ?_
    refine v_seq ?_
    refine v_ops ?_
    refine s_pure (.int .i64 0) (fun _ q => q) ?_
    refine s_nil ?_
    refine p_seqN ?_
    refine v_block ?_
    refine v_loop1 (α := Nat) (fun k => [(0, v_a), (1, v_b), (5, .int .i64 (k : Int))]) (fun k hh => Ext h hh ∧ k ≤ a.length ∧ a.take k = b.take k) (fun k => a.length - k) 0 ⟨rfl, rfl, rfl⟩ ⟨(Ext.refl h), (by simp)⟩ ?_
    rintro k R3 h2 ⟨Eh, ⟨hk, hab⟩⟩
    have zEh := Eh.size
    have f4 := s_a.ext Eh
    have f5 := s_b.ext Eh
    refine v_seq ?_
    refine v_seq ?_
    refine v_ops ?_
    refine s_pure (.int .i64 (k : Int)) (fun _ q => q) ?_
    refine s_pure v_a (fun _ q => q) ?_
    refine s_pure (.int .i64 (a.length : Int)) (fun _ q => f4.lenVC q) ?_
    refine s_pure (.bool (decide ((k : Int) < (a.length : Int)))) (fun _ q => q) ?_
    refine s_nil ?_
    refine p_seqN ?_
    refine v_cond rfl (fun c6 => ?_) (fun c6 => ?_)
    ·
      refine v_skip ?_
      refine p_seqN ?_
      refine v_seq ?_
      refine v_block ?_
      refine v_seq ?_
      refine v_drawF ?_
      refine d_pureT v_a (fun _ q => q) ?_
      refine d_pureT (.int .i64 (k : Int)) (fun _ q => q) ?_
      have hk7 : k < a.length := (by first | omega | (simp; omega))
      obtain ⟨x8, hx8⟩ : ∃ x, a[k]? = some x := ⟨_, List.getElem?_eq_getElem hk7⟩
      refine d_pureT (.pointer (some ⟨sblk v_a, soff v_a + k * 3, none⟩)) (fun _ q => f4.idx (k := k) rfl hk7 q) ?_
      refine d_pureT v_b (fun _ q => q) ?_
      refine d_pureT (.int .i64 (k : Int)) (fun _ q => q) ?_
      have hk9 : k < b.length := (by first | omega | (simp; omega))
      obtain ⟨x10, hx10⟩ : ∃ x, b[k]? = some x := ⟨_, List.getElem?_eq_getElem hk9⟩
      refine d_pureT (.pointer (some ⟨sblk v_b, soff v_b + k * 3, none⟩)) (fun _ q => f5.idx (k := k) rfl hk9 q) ?_
      refine d_loadO (.agg #[.int .i64 x8.link, .int .i64 x8.fr, .int .i64 x8.til]) (fun _ q => f4.loadN hx8 rfl q) ?_
      refine d_loadO (.agg #[.int .i64 x10.link, .int .i64 x10.fr, .int .i64 x10.til]) (fun _ q => f5.loadN hx10 rfl q) ?_
      refine d_eff ?_
      refine s_call [.agg #[.int .i64 x8.link, .int .i64 x8.fr, .int .i64 x8.til], .agg #[.int .i64 x10.link, .int .i64 x10.fr, .int .i64 x10.til]] rfl (laws_eqFog_ok x8 x10 _ ) ?_
      rintro _ h11 ⟨rfl, eh11⟩
      have E12 := Eh.trans eh11
      have z13 := eh11.size
      have G14 := eh11
      refine s_nil ⟨fun hl => (by cases hl), ?_⟩
      refine d_pureT (.bool (!decide (x8 = x10))) (fun _ q => q) ?_
      refine d_done ?_
      refine p_seqN ?_
      refine v_cond rfl (fun c15 => ?_) (fun c15 => ?_)
      ·
        refine v_seq ?_
        refine v_ops ?_
        refine s_pure (.bool false) (fun _ q => q) ?_
        refine s_nil ?_
        refine p_seqN ?_
        refine v_ret ?_
        refine p_blkR ?_
        refine p_seqR ?_
        refine p_lpR ?_
        refine p_blkR ?_
        refine p_seqR ?_
        refine p_ret [.bool false] (.bool false) (fun _ q => q) rfl ?_
        have ho : decide (a = b) = false := by simp only [decide_eq_true_eq, decide_eq_false_iff_not]; first | (intro hab; subst hab; omega) | exact get_ne (by assumption) (by assumption) (by assumption) | exact take_done hab (by omega) (by omega)
        exact ⟨by first | (rw [ho]; done) | rfl, E12⟩
      ·
        have c15 := Classical.not_not.1 c15
        refine v_skip ?_
        refine p_blkN ?_
        refine p_seqN ?_
        refine v_ops ?_
        refine s_pure (.int .i64 (k : Int)) (fun _ q => q) ?_
        refine s_pure (.int .i64 ((k : Int) + 1)) (fun _ q => ArithVC.mk (by omega) q) ?_
        refine s_pure (.int .i64 ((k : Int) + 1)) (fun _ q => q) ?_
        refine s_nil ?_
        exact p_lpN ⟨k + 1, ⟨rfl, rfl, rfl⟩, ⟨E12, (by exact ⟨by omega, take_ext hab (by assumption) (by assumption) (by assumption)⟩)⟩, by omega⟩
    ·
      refine v_exit ?_
      refine p_seqX ?_
      refine p_lpX ?_
      refine p_blkX ?_
      refine p_seqN ?_
      refine v_seq ?_
      refine v_ops ?_
      refine s_pure (.bool true) (fun _ q => q) ?_
      refine s_nil ?_
      refine p_seqN ?_
      refine v_ret ?_
      refine p_ret [.bool true] (.bool true) (fun _ q => q) rfl ?_
      have ho : decide (a = b) = true := by simp only [decide_eq_true_eq, decide_eq_false_iff_not]; first | (intro hab; subst hab; omega) | exact get_ne (by assumption) (by assumption) (by assumption) | exact take_done hab (by omega) (by omega)
      exact ⟨by first | (rw [ho]; done) | rfl, Eh⟩

theorem toFogS_ok (v_a : Value) (a : List FogD) (h : Heap) (s_a : Sl h v_a a) (hb2 : a.length ≤ 1048576) : Cn f_laws_toFogS [v_a] h fun v h' => ∃ r0 : Value, v = r0 ∧ SlO h' r0 a ∧ Fr h.size r0 ∧ Ext h h' := by
  have lt_a := s_a.lt
  have l63_a := s_a.len63
  refine calls_of r_laws_toFogS ?_
  refine v_seq ?_
  refine v_ops ?_
  refine s_pure (.slice none 0 0) (fun _ q => q) ?_
  refine s_nil ?_
  refine p_seqN ?_
  refine v_seq ?_
  refine v_ops ?_
  refine s_pure v_a (fun _ q => q) ?_
  refine s_pure (.int .i64 (a.length : Int)) (fun _ q => s_a.lenVC q) ?_
  refine s_mk (α := FogD) a.length (⟨0, 0, 0⟩ : FogD) rfl rfl rfl rfl rfl rfl (by simp [maxLen]; omega) (by omega) (fun r1 h2 eh2 zh2 s_r1 fr_r1 => ?_)
  have E3 := (Ext.refl h).trans eh2
  have z4 := eh2.size
  have lt_r1 := s_r1.lt
  refine s_pure r1 (fun _ q => q) ?_
  refine s_nil ?_
  refine p_seqN ?_
  refine v_seq ?_
  refine v_seq ?_
  refine v_ops ?_
  refine s_pure (.int .i64 0) (fun _ q => q) ?_
  refine s_nil ?_
  refine p_seqN ?_
  refine v_block ?_
  refine v_loop3 (α := Nat) (β := List FogD) (γ := Value) (fun k o u => [(0, v_a), (3, u), (4, .int .i64 (k : Int))]) (fun k o u hh => Ext h hh ∧ SlO hh u o ∧ Fr h.size u ∧ k ≤ a.length ∧ o.length = a.length ∧ o.take k = a.take k) (fun k o u => a.length - k) 0 (List.replicate a.length ⟨0, 0, 0⟩) r1 ⟨rfl, rfl, rfl⟩ ⟨E3, (sl_eq s_r1 (by simp)), (fr_r1.mono (by omega)), (by simp)⟩ ?_
  rintro k o u R6 h5 ⟨Eh, s_u, fr_u, ⟨hk, hol, ho1⟩⟩
  have zEh := Eh.size
  have f7 := s_a.ext Eh
  have lt_u := s_u.lt
  refine v_seq ?_
  refine v_seq ?_
  refine v_ops ?_
  refine s_pure (.int .i64 (k : Int)) (fun _ q => q) ?_
  refine s_pure v_a (fun _ q => q) ?_
  refine s_pure (.int .i64 (a.length : Int)) (fun _ q => f7.lenVC q) ?_
  refine s_pure (.bool (decide ((k : Int) < (a.length : Int)))) (fun _ q => q) ?_
  refine s_nil ?_
  refine p_seqN ?_
  refine v_cond rfl (fun c8 => ?_) (fun c8 => ?_)
  ·
    refine v_skip ?_
    refine p_seqN ?_
    refine v_seq ?_
    refine v_block ?_
    refine v_ops ?_
    refine s_pure u (fun _ q => q) ?_
    refine s_pure (.int .i64 (k : Int)) (fun _ q => q) ?_
    refine s_pure v_a (fun _ q => q) ?_
    refine s_pure (.int .i64 (k : Int)) (fun _ q => q) ?_
    have hk9 : k < a.length := (by first | omega | (simp; omega))
    obtain ⟨x10, hx10⟩ : ∃ x, a[k]? = some x := ⟨_, List.getElem?_eq_getElem hk9⟩
    refine s_pure (.pointer (some ⟨sblk v_a, soff v_a + k * 3, none⟩)) (fun _ q => f7.idx (k := k) rfl hk9 q) ?_
    refine s_load (.agg #[.int .i64 x10.link, .int .i64 x10.fr, .int .i64 x10.til]) (fun _ q => f7.loadN hx10 rfl q) ?_
    refine s_call [.agg #[.int .i64 x10.link, .int .i64 x10.fr, .int .i64 x10.til]] rfl (laws_toFog_ok x10 _ ) ?_
    rintro _ h11 ⟨rfl, eh11⟩
    have E12 := Eh.trans eh11
    have z13 := eh11.size
    have f14 := (s_u.ext eh11)
    have hk15 : k < o.length := (by first | omega | (simp; omega))
    obtain ⟨x16, hx16⟩ : ∃ x, o[k]? = some x := ⟨_, List.getElem?_eq_getElem hk15⟩
    refine s_pure (.pointer (some ⟨sblk u, soff u + k * 3, none⟩)) (fun _ q => f14.idx (k := k) rfl hk15 q) ?_
    refine s_stSl (k := k) (j := 0) (⟨x10.link, x10.fr, x10.til⟩ : FogD) (.agg #[.int .i64 x10.link, .int .i64 x10.fr, .int .i64 x10.til]) [.int .i64 x10.link, .int .i64 x10.fr, .int .i64 x10.til] f14 rfl rfl rfl rfl rfl hx16 (Nat.le_of_ble_eq_true rfl) rfl (all_cons rfl (all_cons rfl (all_cons rfl all_nil))) (fun h17 mh17 sh17 s18 => ?_)
    have E19 := E12.mod mh17 (fun b hb => by have := fr_u b hb; omega)
    refine s_nil ?_
    refine p_blkN ?_
    refine p_seqN ?_
    refine v_ops ?_
    refine s_pure (.int .i64 (k : Int)) (fun _ q => q) ?_
    refine s_pure (.int .i64 ((k : Int) + 1)) (fun _ q => ArithVC.mk (by omega) q) ?_
    refine s_pure (.int .i64 ((k : Int) + 1)) (fun _ q => q) ?_
    refine s_nil ?_
    exact p_lpN ⟨k + 1, (o.set k (⟨x10.link, x10.fr, x10.til⟩ : FogD)), u, ⟨rfl, rfl, rfl⟩, ⟨E19, (sl_eq s18 (by simp)), (fr_u.mono (by omega)), (by exact ⟨by omega, by simpa using hol, set_take ho1 (by omega) (by assumption) (by rfl)⟩)⟩, by omega⟩
  ·
    refine v_exit ?_
    refine p_seqX ?_
    refine p_lpX ?_
    refine p_blkX ?_
    refine p_seqN ?_
    refine v_seq ?_
    refine v_ops ?_
    refine s_pure u (fun _ q => q) ?_
    refine s_pure u (fun _ q => q) ?_
    refine s_nil ?_
    refine p_seqN ?_
    refine v_ret ?_
    refine p_ret [u] u (fun _ q => q) rfl ?_
    have ho : a = o := by (rw [List.take_of_length_le (by omega), List.take_of_length_le (by omega)] at ho1); exact ho1.symm
    exact ⟨u, by first | (rw [ho]; done) | rfl, sl_eq s_u (congrArg (fun o => o) ho).symm, fr_u.mono (by omega), Eh⟩

theorem markFogS_ok (v_a : Value) (a : List FogD) (n : Int) (h : Heap) (s_a : SlO h v_a a) (h0 : 0 ≤ n) (h1 : n ≤ 288230376151711744) (hb : a.length ≤ 72057594037927936) : Cn f_laws_markFogS [v_a, .int .i64 n] h fun v h' => v = .int .i64 (n + 3 * (a.length : Int)) ∧ SlO h' v_a (fogMk n a.length) ∧ Mod (blks v_a) h h' ∧ h.size ≤ h'.size := by
  have lt_a := s_a.lt
  have l63_a := s_a.len63
  refine calls_of r_laws_markFogS ?_
  refine v_seq ?_
  refine v_ops ?_
  refine s_pure (.int .i64 0) (fun _ q => q) ?_
  refine s_nil ?_
  refine p_seqN ?_
  refine v_seq ?_
  refine v_seq ?_
  refine v_ops ?_
  refine s_pure (.int .i64 0) (fun _ q => q) ?_
  refine s_nil ?_
  refine p_seqN ?_
  refine v_block ?_
  refine v_loop3 (α := Nat) (β := Int) (γ := List FogD) (fun k m ll => [(0, v_a), (1, .int .i64 m), (5, .int .i64 (k : Int))]) (fun k m ll hh => Mod (blks v_a) h hh ∧ SlO hh v_a ll ∧ k ≤ a.length ∧ ll = fogMk n k ++ a.drop k ∧ m = n + 3 * (k : Int)) (fun k m ll => a.length - k) 0 n a ⟨rfl, rfl, rfl⟩ ⟨(Mod.refl (blks v_a) h), s_a, (by refine ⟨by omega, by simp [fogMk], by simp⟩)⟩ ?_
  rintro k m ll R2 h1 ⟨Eh, s_a, ⟨hk, hll, hm⟩⟩
  have zEh := Eh.size
  have lt_a := s_a.lt
  have hpl : ll.length = a.length := by rw [hll, List.length_append, fogMk_len]; simp; omega
  refine v_seq ?_
  refine v_seq ?_
  refine v_ops ?_
  refine s_pure (.int .i64 (k : Int)) (fun _ q => q) ?_
  refine s_pure v_a (fun _ q => q) ?_
  refine s_pure (.int .i64 (ll.length : Int)) (fun _ q => s_a.lenVC q) ?_
  refine s_pure (.bool (decide ((k : Int) < (ll.length : Int)))) (fun _ q => q) ?_
  refine s_nil ?_
  refine p_seqN ?_
  refine v_cond rfl (fun c3 => ?_) (fun c3 => ?_)
  ·
    refine v_skip ?_
    refine p_seqN ?_
    refine v_seq ?_
    refine v_block ?_
    refine v_seq ?_
    refine v_ops ?_
    refine s_pure v_a (fun _ q => q) ?_
    refine s_pure (.int .i64 (k : Int)) (fun _ q => q) ?_
    refine s_pure (.int .i64 m) (fun _ q => q) ?_
    have hk4 : k < ll.length := (by first | omega | (simp; omega))
    obtain ⟨x5, hx5⟩ : ∃ x, ll[k]? = some x := ⟨_, List.getElem?_eq_getElem hk4⟩
    refine s_pure (.pointer (some ⟨sblk v_a, soff v_a + k * 3, none⟩)) (fun _ q => s_a.idx (k := k) rfl hk4 q) ?_
    refine s_pure (.pointer (some ⟨sblk v_a, soff v_a + k * 3, none⟩)) (fun _ q => q) ?_
    refine s_stSl (k := k) (j := 0) (⟨m, x5.fr, x5.til⟩ : FogD) (.int .i64 m) [.int .i64 m] s_a rfl rfl rfl rfl rfl hx5 (Nat.le_of_ble_eq_true rfl) rfl (all_cons rfl all_nil) (fun h6 mh6 sh6 s7 => ?_)
    have E8 := Eh.new mh6 (fun b hb => Or.inl hb)
    refine s_nil ?_
    refine p_seqN ?_
    refine v_seq ?_
    refine v_ops ?_
    refine s_pure (.int .i64 m) (fun _ q => q) ?_
    refine s_pure (.int .i64 (m + 1)) (fun _ q => ArithVC.mk (by omega) q) ?_
    refine s_pure (.int .i64 (m + 1)) (fun _ q => q) ?_
    refine s_nil ?_
    refine p_seqN ?_
    refine v_seq ?_
    refine v_ops ?_
    refine s_pure v_a (fun _ q => q) ?_
    refine s_pure (.int .i64 (k : Int)) (fun _ q => q) ?_
    refine s_pure (.int .i64 (m + 1)) (fun _ q => q) ?_
    have hk9 : k < (ll.set k (⟨m, x5.fr, x5.til⟩ : FogD)).length := (by first | omega | (simp; omega))
    obtain ⟨x10, hx10, heq_x10⟩ : ∃ x, (ll.set k (⟨m, x5.fr, x5.til⟩ : FogD))[k]? = some x ∧ x = (⟨m, x5.fr, x5.til⟩ : FogD) := ⟨_, List.getElem?_set_self (by simpa using hk9), rfl⟩
    refine s_pure (.pointer (some ⟨sblk v_a, soff v_a + k * 3, none⟩)) (fun _ q => s7.idx (k := k) rfl hk9 q) ?_
    refine s_pure (.pointer (some ⟨sblk v_a, soff v_a + k * 3 + 1, none⟩)) (fun _ q => q) ?_
    refine s_stSl (k := k) (j := 1) (⟨x10.link, (m + 1), x10.til⟩ : FogD) (.int .i64 (m + 1)) [.int .i64 (m + 1)] s7 rfl rfl rfl rfl rfl hx10 (Nat.le_of_ble_eq_true rfl) rfl (all_cons rfl all_nil) (fun h11 mh11 sh11 s12 => ?_)
    have E13 := E8.new mh11 (fun b hb => Or.inl hb)
    refine s_nil ?_
    refine p_seqN ?_
    refine v_seq ?_
    refine v_ops ?_
    refine s_pure (.int .i64 (m + 1)) (fun _ q => q) ?_
    refine s_pure (.int .i64 ((m + 1) + 1)) (fun _ q => ArithVC.mk (by omega) q) ?_
    refine s_pure (.int .i64 ((m + 1) + 1)) (fun _ q => q) ?_
    refine s_nil ?_
    refine p_seqN ?_
    refine v_seq ?_
    refine v_ops ?_
    refine s_pure v_a (fun _ q => q) ?_
    refine s_pure (.int .i64 (k : Int)) (fun _ q => q) ?_
    refine s_pure (.int .i64 ((m + 1) + 1)) (fun _ q => q) ?_
    have hk14 : k < ((ll.set k (⟨m, x5.fr, x5.til⟩ : FogD)).set k (⟨x10.link, (m + 1), x10.til⟩ : FogD)).length := (by first | omega | (simp; omega))
    obtain ⟨x15, hx15, heq_x15⟩ : ∃ x, ((ll.set k (⟨m, x5.fr, x5.til⟩ : FogD)).set k (⟨x10.link, (m + 1), x10.til⟩ : FogD))[k]? = some x ∧ x = (⟨x10.link, (m + 1), x10.til⟩ : FogD) := ⟨_, List.getElem?_set_self (by simpa using hk14), rfl⟩
    refine s_pure (.pointer (some ⟨sblk v_a, soff v_a + k * 3, none⟩)) (fun _ q => s12.idx (k := k) rfl hk14 q) ?_
    refine s_pure (.pointer (some ⟨sblk v_a, soff v_a + k * 3 + 2, none⟩)) (fun _ q => q) ?_
    refine s_stSl (k := k) (j := 2) (⟨x15.link, x15.fr, ((m + 1) + 1)⟩ : FogD) (.int .i64 ((m + 1) + 1)) [.int .i64 ((m + 1) + 1)] s12 rfl rfl rfl rfl rfl hx15 (Nat.le_of_ble_eq_true rfl) rfl (all_cons rfl all_nil) (fun h16 mh16 sh16 s17 => ?_)
    have E18 := E13.new mh16 (fun b hb => Or.inl hb)
    refine s_nil ?_
    refine p_seqN ?_
    refine v_ops ?_
    refine s_pure (.int .i64 ((m + 1) + 1)) (fun _ q => q) ?_
    refine s_pure (.int .i64 (((m + 1) + 1) + 1)) (fun _ q => ArithVC.mk (by omega) q) ?_
    refine s_pure (.int .i64 (((m + 1) + 1) + 1)) (fun _ q => q) ?_
    refine s_nil ?_
    refine p_blkN ?_
    refine p_seqN ?_
    refine v_ops ?_
    refine s_pure (.int .i64 (k : Int)) (fun _ q => q) ?_
    refine s_pure (.int .i64 ((k : Int) + 1)) (fun _ q => ArithVC.mk (by omega) q) ?_
    refine s_pure (.int .i64 ((k : Int) + 1)) (fun _ q => q) ?_
    refine s_nil ?_
    exact p_lpN ⟨k + 1, (((m + 1) + 1) + 1), (((ll.set k (⟨m, x5.fr, x5.til⟩ : FogD)).set k (⟨x10.link, (m + 1), x10.til⟩ : FogD)).set k (⟨x15.link, x15.fr, ((m + 1) + 1)⟩ : FogD)), ⟨rfl, rfl, rfl⟩, ⟨E18, (sl_eq s17 rfl), (by (have hq := fogMk_step n a k (by omega)); subst_vars; exact ⟨by omega, by (rw [List.set_set, List.set_set]; exact hq), by omega⟩)⟩, by omega⟩
  ·
    refine v_exit ?_
    refine p_seqX ?_
    refine p_lpX ?_
    refine p_blkX ?_
    refine p_seqN ?_
    refine v_seq ?_
    refine v_ops ?_
    refine s_pure (.int .i64 m) (fun _ q => q) ?_
    refine s_pure (.int .i64 m) (fun _ q => q) ?_
    refine s_nil ?_
    refine p_seqN ?_
    refine v_ret ?_
    refine p_ret [.int .i64 m] (.int .i64 m) (fun _ q => q) rfl ?_
    have hk2 : k = a.length := by omega
    subst hk2
    rw [List.drop_length, List.append_nil] at hll
    subst hll
    exact ⟨by rw [hm], s_a, Eh, Eh.size⟩

set_option maxRecDepth 10000 in
set_option maxHeartbeats 4000000 in
theorem heldFogS_ok (v_a : Value) (a : List FogD) (n : Int) (h : Heap) (s_a : Sl h v_a a) (l : Nat) (k0 : Int) (ha : a = fogMk k0 l) (hn : n = k0) (h0 : 0 ≤ k0) (h1 : k0 ≤ 288230376151711744) (hb : l ≤ 72057594037927936) : Cn f_laws_heldFogS [v_a, .int .i64 n] h fun v h' => v = .int .i64 (k0 + 3 * (l : Int)) ∧ Ext h h' := by
  have lt_a := s_a.lt
  have l63_a := s_a.len63
  have hal : a.length = l := by rw [ha, fogMk_len]
  refine calls_of r_laws_heldFogS ?_
  refine v_seq ?_
  refine v_ops ?_
  refine s_pure (.int .i64 0) (fun _ q => q) ?_
  refine s_nil ?_
  refine p_seqN ?_
  refine v_seq ?_
  refine v_seq ?_
  refine v_ops ?_
  refine s_pure (.int .i64 0) (fun _ q => q) ?_
  refine s_nil ?_
  refine p_seqN ?_
  refine v_block ?_
  refine v_loop2 (α := Nat) (β := Int) (fun k m => [(0, v_a), (1, .int .i64 m), (5, .int .i64 (k : Int))]) (fun k m hh => Ext h hh ∧ k ≤ a.length ∧ m = k0 + 3 * (k : Int)) (fun k m => a.length - k) 0 n ⟨rfl, rfl, rfl⟩ ⟨(Ext.refl h), (by exact ⟨by omega, by omega⟩)⟩ ?_
  rintro k m R2 h1 ⟨Eh, ⟨hk, hm⟩⟩
  have zEh := Eh.size
  have f3 := s_a.ext Eh
  have hget := fun (q : k < l) => fogMk_get k0 l k q
  rw [← ha] at hget
  refine v_seq ?_
  refine v_seq ?_
  refine v_ops ?_
  refine s_pure (.int .i64 (k : Int)) (fun _ q => q) ?_
  refine s_pure v_a (fun _ q => q) ?_
  refine s_pure (.int .i64 (a.length : Int)) (fun _ q => f3.lenVC q) ?_
  refine s_pure (.bool (decide ((k : Int) < (a.length : Int)))) (fun _ q => q) ?_
  refine s_nil ?_
  refine p_seqN ?_
  refine v_cond rfl (fun c4 => ?_) (fun c4 => ?_)
  ·
    refine v_skip ?_
    refine p_seqN ?_
    refine v_seq ?_
    refine v_block ?_
    refine v_seq ?_
    refine v_seq ?_
    refine v_ops ?_
    refine s_pure v_a (fun _ q => q) ?_
    refine s_pure (.int .i64 (k : Int)) (fun _ q => q) ?_
    have hk5 : k < a.length := (by first | omega | (simp; omega))
    obtain ⟨x6, hx6⟩ : ∃ x, a[k]? = some x := ⟨_, List.getElem?_eq_getElem hk5⟩
    refine s_pure (.pointer (some ⟨sblk v_a, soff v_a + k * 3, none⟩)) (fun _ q => f3.idx (k := k) rfl hk5 q) ?_
    refine s_pure (.pointer (some ⟨sblk v_a, soff v_a + k * 3, none⟩)) (fun _ q => q) ?_
    refine s_load (.int .i64 x6.link) (fun _ q => f3.load hx6 (j := 0) rfl rfl q) ?_
    refine s_pure (.int .i64 m) (fun _ q => q) ?_
    refine s_pure (.bool (x6.link != m)) (fun _ q => q) ?_
    refine s_nil ?_
    refine p_seqN ?_
    refine v_cond rfl (fun c7 => ?_) (fun c7 => ?_)
    ·
      refine v_seq ?_
      refine v_ops ?_
      refine s_pure (.int .i64 (-1)) (fun _ q => q) ?_
      refine s_nil ?_
      refine p_seqN ?_
      refine v_ret ?_
      refine p_seqR ?_
      refine p_blkR ?_
      refine p_seqR ?_
      refine p_lpR ?_
      refine p_blkR ?_
      refine p_seqR ?_
      refine p_ret [.int .i64 (-1)] (.int .i64 (-1)) (fun _ q => q) rfl ?_
      have ho : k0 + 3 * (l : Int) = (-1) := by first | (exfalso; (have hq := Option.some.inj ((by assumption : a[k]? = some _).symm.trans (hget (by omega)))); (have h1 := congrArg FogD.link hq); (have h2 := congrArg FogD.fr hq); (have h3 := congrArg FogD.til hq); simp only at h1 h2 h3; omega) | (rw [hm]; omega)
      exact ⟨by first | (rw [ho]; done) | rfl, Eh⟩
    ·
      have c7 := Classical.not_not.1 c7
      refine v_skip ?_
      refine p_seqN ?_
      refine v_seq ?_
      refine v_ops ?_
      refine s_pure (.int .i64 m) (fun _ q => q) ?_
      refine s_pure (.int .i64 (m + 1)) (fun _ q => ArithVC.mk (by omega) q) ?_
      refine s_pure (.int .i64 (m + 1)) (fun _ q => q) ?_
      refine s_nil ?_
      refine p_seqN ?_
      refine v_seq ?_
      refine v_seq ?_
      refine v_ops ?_
      refine s_pure v_a (fun _ q => q) ?_
      refine s_pure (.int .i64 (k : Int)) (fun _ q => q) ?_
      refine s_pure (.pointer (some ⟨sblk v_a, soff v_a + k * 3, none⟩)) (fun _ q => f3.idx (k := k) rfl hk5 q) ?_
      refine s_pure (.pointer (some ⟨sblk v_a, soff v_a + k * 3 + 1, none⟩)) (fun _ q => q) ?_
      refine s_load (.int .i64 x6.fr) (fun _ q => f3.load hx6 (j := 1) rfl rfl q) ?_
      refine s_pure (.int .i64 (m + 1)) (fun _ q => q) ?_
      refine s_pure (.bool (x6.fr != (m + 1))) (fun _ q => q) ?_
      refine s_nil ?_
      refine p_seqN ?_
      refine v_cond rfl (fun c8 => ?_) (fun c8 => ?_)
      ·
        refine v_seq ?_
        refine v_ops ?_
        refine s_pure (.int .i64 (-1)) (fun _ q => q) ?_
        refine s_nil ?_
        refine p_seqN ?_
        refine v_ret ?_
        refine p_seqR ?_
        refine p_blkR ?_
        refine p_seqR ?_
        refine p_lpR ?_
        refine p_blkR ?_
        refine p_seqR ?_
        refine p_ret [.int .i64 (-1)] (.int .i64 (-1)) (fun _ q => q) rfl ?_
        have ho : k0 + 3 * (l : Int) = (-1) := by first | (exfalso; (have hq := Option.some.inj ((by assumption : a[k]? = some _).symm.trans (hget (by omega)))); (have h1 := congrArg FogD.link hq); (have h2 := congrArg FogD.fr hq); (have h3 := congrArg FogD.til hq); simp only at h1 h2 h3; omega) | (rw [hm]; omega)
        exact ⟨by first | (rw [ho]; done) | rfl, Eh⟩
      ·
        have c8 := Classical.not_not.1 c8
        refine v_skip ?_
        refine p_seqN ?_
        refine v_seq ?_
        refine v_ops ?_
        refine s_pure (.int .i64 (m + 1)) (fun _ q => q) ?_
        refine s_pure (.int .i64 ((m + 1) + 1)) (fun _ q => ArithVC.mk (by omega) q) ?_
        refine s_pure (.int .i64 ((m + 1) + 1)) (fun _ q => q) ?_
        refine s_nil ?_
        refine p_seqN ?_
        refine v_seq ?_
        refine v_seq ?_
        refine v_ops ?_
        refine s_pure v_a (fun _ q => q) ?_
        refine s_pure (.int .i64 (k : Int)) (fun _ q => q) ?_
        refine s_pure (.pointer (some ⟨sblk v_a, soff v_a + k * 3, none⟩)) (fun _ q => f3.idx (k := k) rfl hk5 q) ?_
        refine s_pure (.pointer (some ⟨sblk v_a, soff v_a + k * 3 + 2, none⟩)) (fun _ q => q) ?_
        refine s_load (.int .i64 x6.til) (fun _ q => f3.load hx6 (j := 2) rfl rfl q) ?_
        refine s_pure (.int .i64 ((m + 1) + 1)) (fun _ q => q) ?_
        refine s_pure (.bool (x6.til != ((m + 1) + 1))) (fun _ q => q) ?_
        refine s_nil ?_
        refine p_seqN ?_
        refine v_cond rfl (fun c9 => ?_) (fun c9 => ?_)
        ·
          refine v_seq ?_
          refine v_ops ?_
          refine s_pure (.int .i64 (-1)) (fun _ q => q) ?_
          refine s_nil ?_
          refine p_seqN ?_
          refine v_ret ?_
          refine p_seqR ?_
          refine p_blkR ?_
          refine p_seqR ?_
          refine p_lpR ?_
          refine p_blkR ?_
          refine p_seqR ?_
          refine p_ret [.int .i64 (-1)] (.int .i64 (-1)) (fun _ q => q) rfl ?_
          have ho : k0 + 3 * (l : Int) = (-1) := by first | (exfalso; (have hq := Option.some.inj ((by assumption : a[k]? = some _).symm.trans (hget (by omega)))); (have h1 := congrArg FogD.link hq); (have h2 := congrArg FogD.fr hq); (have h3 := congrArg FogD.til hq); simp only at h1 h2 h3; omega) | (rw [hm]; omega)
          exact ⟨by first | (rw [ho]; done) | rfl, Eh⟩
        ·
          have c9 := Classical.not_not.1 c9
          refine v_skip ?_
          refine p_seqN ?_
          refine v_ops ?_
          refine s_pure (.int .i64 ((m + 1) + 1)) (fun _ q => q) ?_
          refine s_pure (.int .i64 (((m + 1) + 1) + 1)) (fun _ q => ArithVC.mk (by omega) q) ?_
          refine s_pure (.int .i64 (((m + 1) + 1) + 1)) (fun _ q => q) ?_
          refine s_nil ?_
          refine p_blkN ?_
          refine p_seqN ?_
          refine v_ops ?_
          refine s_pure (.int .i64 (k : Int)) (fun _ q => q) ?_
          refine s_pure (.int .i64 ((k : Int) + 1)) (fun _ q => ArithVC.mk (by omega) q) ?_
          refine s_pure (.int .i64 ((k : Int) + 1)) (fun _ q => q) ?_
          refine s_nil ?_
          exact p_lpN ⟨k + 1, (((m + 1) + 1) + 1), ⟨rfl, rfl, rfl⟩, ⟨Eh, (by exact ⟨by omega, by omega⟩)⟩, by omega⟩
  ·
    refine v_exit ?_
    refine p_seqX ?_
    refine p_lpX ?_
    refine p_blkX ?_
    refine p_seqN ?_
    refine v_seq ?_
    refine v_ops ?_
    refine s_pure (.int .i64 m) (fun _ q => q) ?_
    refine s_pure (.int .i64 m) (fun _ q => q) ?_
    refine s_nil ?_
    refine p_seqN ?_
    refine v_ret ?_
    refine p_ret [.int .i64 m] (.int .i64 m) (fun _ q => q) rfl ?_
    have ho : k0 + 3 * (l : Int) = m := by first | (exfalso; (have hq := Option.some.inj ((by assumption : a[k]? = some _).symm.trans (hget (by omega)))); (have h1 := congrArg FogD.link hq); (have h2 := congrArg FogD.fr hq); (have h3 := congrArg FogD.til hq); simp only at h1 h2 h3; omega) | (rw [hm]; omega)
    exact ⟨by first | (rw [ho]; done) | rfl, Eh⟩

end Go.Proofs.Ythagdkmalchhgaa
