/- Tests of nets. Condition: none. Printed in part by a program. -/
import Derived.Test.YthagdkmalchhgaaRo2
namespace Go.Proofs.Ythagdkmalchhgaa
open Go.Vc
set_option linter.all false

def cmpI (a b : Int) : Int := if a < b then -1 else if a > b then 1 else 0
theorem cmpI_neg {a b : Int} : cmpI a b < 0 ↔ a < b := by unfold cmpI; (repeat' split) <;> omega
theorem cmpI_zero {a b : Int} : cmpI a b = 0 ↔ a = b := by unfold cmpI; (repeat' split) <;> omega
theorem cmpI_bd (a b : Int) : -1 ≤ cmpI a b ∧ cmpI a b ≤ 1 := by unfold cmpI; (repeat' split) <;> omega
def orL : List Int → Int
  | [] => 0
  | x :: l => if x ≠ 0 then x else orL l
theorem orL_drop {l : List Int} {k : Nat} (h : ∀ y ∈ l.take k, y = 0) : orL l = orL (l.drop k) := by
  induction k generalizing l with
  | zero => rfl
  | succ k ih =>
    cases l with
    | nil => rfl
    | cons x l =>
      have hx : x = 0 := h x (by simp)
      rw [orL, if_neg (by simp [hx]), List.drop_succ_cons]
      exact ih (fun y hy => h y (by simp only [List.take_succ_cons]; exact List.mem_cons_of_mem _ hy))
theorem drop_at {α : Type} {l : List α} {k : Nat} {x : α} (h : l[k]? = some x) : l.drop k = x :: l.drop (k + 1) := by
  have hk := (List.getElem?_eq_some_iff.1 h).1
  rw [List.drop_eq_getElem_cons hk, (List.getElem?_eq_some_iff.1 h).2]
theorem all_snoc {α : Type} {P : α → Prop} {l : List α} {k : Nat} {x : α} (h : ∀ y ∈ l.take k, P y) (hx : l[k]? = some x) (hp : P x) : ∀ y ∈ l.take (k + 1), P y := by
  rw [snoc_get hx]
  intro y hy
  rcases List.mem_append.1 hy with hy | hy
  · exact h y hy
  · obtain rfl := List.mem_singleton.1 hy; exact hp
abbrev lkLt (a b : LinkD) : Prop := a.a < b.a ∨ (a.a = b.a ∧ a.b < b.b)
def lkCmp (a b : LinkD) : Int := orL [cmpI a.a b.a, cmpI a.b b.b]
theorem lkCmp_lt {a b : LinkD} : lkCmp a b < 0 ↔ lkLt a b := by
  have h1 := @cmpI_neg a.a b.a
  have h2 := @cmpI_neg a.b b.b
  have h3 := @cmpI_zero a.a b.a
  have h4 := cmpI_bd a.a b.a
  have h5 := cmpI_bd a.b b.b
  unfold lkCmp orL orL orL lkLt
  split
  · omega
  · split <;> omega
abbrev TowOk (t : TowerD) : Prop := (0 ≤ t.x ∧ t.x ≤ 999) ∧ (0 ≤ t.y ∧ t.y ≤ 999) ∧ (0 ≤ t.height ∧ t.height ≤ 500)
abbrev LinkOk (m : Nat) (x : LinkD) : Prop := 0 ≤ x.a ∧ x.a < x.b ∧ x.b < (m : Int) ∧ 1 ≤ x.delay ∧ x.delay ≤ 60
/-- the first k links are well and in order -/
abbrev LinksOk (m : Nat) (l : List LinkD) (k : Nat) : Prop := ∀ i x, i < k → l[i]? = some x → LinkOk m x ∧ (0 < i → ∀ y, l[i - 1]? = some y → lkLt y x)
structure NetOk (n : NetP) : Prop where
  t1 : 1 ≤ n.towers.length
  t2 : n.towers.length ≤ 16
  l2 : n.links.length ≤ 40
  tow : ∀ t ∈ n.towers, TowOk t
  lnk : LinksOk n.towers.length n.links n.links.length
noncomputable instance (n : NetP) : Decidable (NetOk n) := Classical.propDecidable _
theorem links_snoc {m : Nat} {l : List LinkD} {k : Nat} {x : LinkD} (h : LinksOk m l k) (hx : l[k]? = some x) (hp : LinkOk m x) (hs : 0 < k → ∀ y, l[k - 1]? = some y → lkLt y x) : LinksOk m l (k + 1) := by
  intro i y hi hy
  by_cases e : i = k
  · subst e; rw [hx] at hy; obtain rfl := Option.some.inj hy; exact ⟨hp, hs⟩
  · exact h i y (by omega) hy
theorem net_bad {n : NetP} (h : ¬ NetOk n) : decide (NetOk n) = false := decide_eq_false h
theorem net_badT {n : NetP} {k : Nat} {x : TowerD} (hx : n.towers[k]? = some x) (h : ¬ TowOk x) : decide (NetOk n) = false := decide_eq_false fun hn => h (hn.tow x (List.mem_of_getElem? hx))
theorem net_badL {n : NetP} {k : Nat} {x : LinkD} (hx : n.links[k]? = some x) (h : ¬ (LinkOk n.towers.length x ∧ (0 < k → ∀ y, n.links[k - 1]? = some y → lkLt y x))) : decide (NetOk n) = false :=
  decide_eq_false fun hn => h (hn.lnk k x (List.getElem?_eq_some_iff.1 hx).1 hx)
theorem net_end {n : NetP} {k j : Nat} {b : Bool} (ht : ∀ t ∈ n.towers.take k, TowOk t) (hk : ¬ (k : Int) < (n.towers.length : Int)) (hl : LinksOk n.towers.length n.links j) (hj : ¬ (j : Int) < (n.links.length : Int)) (hb : b = true ↔ (1 ≤ n.towers.length ∧ n.towers.length ≤ 16 ∧ n.links.length ≤ 40)) : decide (NetOk n) = b := by
  rw [take_all hk] at ht
  have hl' : LinksOk n.towers.length n.links n.links.length := fun i x hi hx => hl i x (by omega) hx
  cases b
  · exact decide_eq_false fun hn => by have := hb.2 ⟨hn.t1, hn.t2, hn.l2⟩; cases this
  · obtain ⟨h1, h2, h3⟩ := hb.1 rfl
    exact decide_eq_true ⟨h1, h2, h3, ht, hl'⟩

theorem cmp_isNaN_int_ok (a : Int) (h : Heap)  : Cn f_cmp_isNaN_int [.int .i64 a] h fun v h' => v = .bool false ∧ h' = h := by
  refine calls_of r_cmp_isNaN_int ?_
  refine v_seq ?_
  refine v_ops ?_
  refine s_pure (.bool false) (fun _ q => q) ?_
  refine s_nil ?_
  refine p_seqN ?_
  refine v_seq ?_
  refine v_ops ?_
  refine s_pure (.int .i64 a) (fun _ q => q) ?_
  refine s_pure (.int .i64 a) (fun _ q => q) ?_
  refine s_pure (.bool (a != a)) (fun _ q => q) ?_
  refine s_pure (.bool (a != a)) (fun _ q => q) ?_
  refine s_nil ?_
  refine p_seqN ?_
  refine v_ret ?_
  refine p_ret [.bool (a != a)] (.bool (a != a)) (fun _ q => q) rfl ?_
  have ho : false = (a != a) := by simp
  exact ⟨by first | (rw [ho]; done) | rfl, rfl⟩

theorem cmp_Compare_int_ok (a : Int) (b : Int) (h : Heap)  : Cn f_cmp_Compare_int [.int .i64 a, .int .i64 b] h fun v h' => v = .int .i64 (cmpI a b) ∧ h' = h := by
  refine calls_of r_cmp_Compare_int ?_
  refine v_seq ?_
  refine v_ops ?_
  refine s_pure (.int .i64 0) (fun _ q => q) ?_
  refine s_nil ?_
  refine p_seqN ?_
  refine v_seq ?_
  refine v_ops ?_
  refine s_pure (.int .i64 a) (fun _ q => q) ?_
  refine s_callS [.int .i64 a] (.bool false) rfl (cmp_isNaN_int_ok a _ ) ?_
  refine s_pure (.bool false) (fun _ q => q) ?_
  refine s_nil ?_
  refine p_seqN ?_
  refine v_seq ?_
  refine v_ops ?_
  refine s_pure (.int .i64 b) (fun _ q => q) ?_
  refine s_callS [.int .i64 b] (.bool false) rfl (cmp_isNaN_int_ok b _ ) ?_
  refine s_pure (.bool false) (fun _ q => q) ?_
  refine s_nil ?_
  refine p_seqN ?_
  refine v_seq ?_
  refine v_seq ?_
  refine v_ops ?_
  refine s_pure (.bool false) (fun _ q => q) ?_
  refine s_nil ?_
  refine p_seqN ?_
  refine v_condN rfl (by simp) ?_
  refine v_skip ?_
  refine p_seqN ?_
  refine v_seq ?_
  refine v_seq ?_
  refine v_ops ?_
  refine s_pure (.bool false) (fun _ q => q) ?_
  refine s_nil ?_
  refine p_seqN ?_
  refine v_condN rfl (by simp) ?_
  refine v_skip ?_
  refine p_seqN ?_
  refine v_seq ?_
  refine v_seq ?_
  refine v_ops ?_
  refine s_pure (.int .i64 a) (fun _ q => q) ?_
  refine s_pure (.int .i64 b) (fun _ q => q) ?_
  refine s_pure (.bool (decide (a < b))) (fun _ q => q) ?_
  refine s_nil ?_
  refine p_seqN ?_
  refine v_cond rfl (fun c1 => ?_) (fun c1 => ?_)
  ·
    refine v_seq ?_
    refine v_ops ?_
    refine s_pure (.int .i64 (-1)) (fun _ q => q) ?_
    refine s_nil ?_
    refine p_seqN ?_
    refine v_ret ?_
    refine p_seqR ?_
    refine p_ret [.int .i64 (-1)] (.int .i64 (-1)) (fun _ q => q) rfl ?_
    have ho : (cmpI a b) = (-1) := by unfold cmpI; first | rw [if_pos (by assumption)] | (rw [if_neg (by assumption)]; first | rw [if_pos (by assumption)] | rw [if_neg (by assumption)])
    exact ⟨by first | (rw [ho]; done) | rfl, rfl⟩
  ·
    refine v_skip ?_
    refine p_seqN ?_
    refine v_seq ?_
    refine v_seq ?_
    refine v_ops ?_
    refine s_pure (.int .i64 a) (fun _ q => q) ?_
    refine s_pure (.int .i64 b) (fun _ q => q) ?_
    refine s_pure (.bool (decide (a > b))) (fun _ q => q) ?_
    refine s_nil ?_
    refine p_seqN ?_
    refine v_cond rfl (fun c2 => ?_) (fun c2 => ?_)
    ·
      refine v_seq ?_
      refine v_ops ?_
      refine s_pure (.int .i64 1) (fun _ q => q) ?_
      refine s_nil ?_
      refine p_seqN ?_
      refine v_ret ?_
      refine p_seqR ?_
      refine p_ret [.int .i64 1] (.int .i64 1) (fun _ q => q) rfl ?_
      have ho : (cmpI a b) = 1 := by unfold cmpI; first | rw [if_pos (by assumption)] | (rw [if_neg (by assumption)]; first | rw [if_pos (by assumption)] | rw [if_neg (by assumption)])
      exact ⟨by first | (rw [ho]; done) | rfl, rfl⟩
    ·
      refine v_skip ?_
      refine p_seqN ?_
      refine v_seq ?_
      refine v_ops ?_
      refine s_pure (.int .i64 0) (fun _ q => q) ?_
      refine s_nil ?_
      refine p_seqN ?_
      refine v_ret ?_
      refine p_ret [.int .i64 0] (.int .i64 0) (fun _ q => q) rfl ?_
      have ho : (cmpI a b) = 0 := by unfold cmpI; first | rw [if_pos (by assumption)] | (rw [if_neg (by assumption)]; first | rw [if_pos (by assumption)] | rw [if_neg (by assumption)])
      exact ⟨by first | (rw [ho]; done) | rfl, rfl⟩

theorem cmp_Or_int_ok (v_l : Value) (l : List Int) (h : Heap) (s_l : Sl h v_l l) : Cn f_cmp_Or_int [v_l] h fun v h' => v = .int .i64 (orL l) ∧ Ext h h' := by
  have lt_l := s_l.lt
  have l63_l := s_l.len63
  refine calls_of r_cmp_Or_int ?_
  refine v_seq ?_
  refine v_ops ?_
  refine s_pure (.int .i64 0) (fun _ q => q) ?_
  refine s_nil ?_
  refine p_seqN ?_
  refine v_seq ?_
  refine v_ops ?_
  refine s_pure (.int .i64 0) (fun _ q => q) ?_
  refine s_nil ?_
  refine p_seqN ?_
  refine v_seq ?_
  refine v_seq ?_
  refine v_ops ?_
  refine s_pure v_l (fun _ q => q) ?_
  refine s_pure (.int .i64 (l.length : Int)) (fun _ q => s_l.lenVC q) ?_
  refine s_pure (.int .i64 0) (fun _ q => q) ?_
  refine s_nil ?_
  refine p_seqN ?_
  refine v_block ?_
  refine v_loop1 (α := Nat) (fun k => [(3, .int .i64 0), (6, v_l), (7, .int .i64 (l.length : Int)), (8, .int .i64 (k : Int))]) (fun k hh => Ext h hh ∧ k ≤ l.length ∧ ∀ y ∈ l.take k, y = 0) (fun k => l.length - k) 0 ⟨rfl, rfl, rfl, rfl⟩ ⟨(Ext.refl h), (by simp)⟩ ?_
  rintro k R2 h1 ⟨Eh, ⟨hk, hall⟩⟩
  have zEh := Eh.size
  have f3 := s_l.ext Eh
  refine v_seq ?_
  refine v_ops ?_
  refine s_pure (.bool (decide ((k : Int) < (l.length : Int)))) (fun _ q => q) ?_
  refine s_nil ?_
  refine p_seqN ?_
  refine v_seq ?_
  refine v_cond rfl (fun c4 => ?_) (fun c4 => ?_)
  ·
    refine v_skip ?_
    refine p_seqN ?_
    refine v_seq ?_
    refine v_block ?_
    refine v_seq ?_
    refine v_ops ?_
    have hk5 : k < l.length := (by first | omega | (simp; omega))
    obtain ⟨x6, hx6⟩ : ∃ x, l[k]? = some x := ⟨_, List.getElem?_eq_getElem hk5⟩
    refine s_pure (.pointer (some ⟨sblk v_l, soff v_l + k * 1, none⟩)) (fun _ q => f3.idx (k := k) rfl hk5 q) ?_
    refine s_load (.int .i64 x6) (fun _ q => f3.load1 hx6 rfl q) ?_
    refine s_pure (.int .i64 x6) (fun _ q => q) ?_
    refine s_nil ?_
    refine p_seqN ?_
    refine v_seq ?_
    refine v_ops ?_
    refine s_pure (.int .i64 x6) (fun _ q => q) ?_
    refine s_pure (.int .i64 0) (fun _ q => q) ?_
    refine s_pure (.bool (x6 != 0)) (fun _ q => q) ?_
    refine s_nil ?_
    refine p_seqN ?_
    refine v_cond rfl (fun c7 => ?_) (fun c7 => ?_)
    ·
      refine v_seq ?_
      refine v_ops ?_
      refine s_pure (.int .i64 x6) (fun _ q => q) ?_
      refine s_pure (.int .i64 x6) (fun _ q => q) ?_
      refine s_nil ?_
      refine p_seqN ?_
      refine v_ret ?_
      refine p_blkR ?_
      refine p_seqR ?_
      refine p_lpR ?_
      refine p_blkR ?_
      refine p_seqR ?_
      refine p_ret [.int .i64 x6] (.int .i64 x6) (fun _ q => q) rfl ?_
      have ho : (orL l) = x6 := by first | (rw [orL_drop hall, drop_at (by assumption), orL, if_pos (by assumption)]; done) | (rw [orL_drop hall, List.drop_of_length_le (by omega)]; rfl)
      exact ⟨by first | (rw [ho]; done) | rfl, Eh⟩
    ·
      have c7 := Classical.not_not.1 c7
      refine v_skip ?_
      refine p_blkN ?_
      refine p_seqN ?_
      refine v_ops ?_
      refine s_pure (.int .i64 ((k : Int) + 1)) (fun _ q => ArithVC.mk (by omega) q) ?_
      refine s_pure (.int .i64 ((k : Int) + 1)) (fun _ q => q) ?_
      refine s_nil ?_
      exact p_lpN ⟨k + 1, ⟨rfl, rfl, rfl, rfl⟩, ⟨Eh, (by exact ⟨by omega, all_snoc (P := fun y => y = 0) hall (by assumption) (by assumption)⟩)⟩, by omega⟩
  ·
    refine v_exit ?_
    refine p_seqX ?_
    refine p_lpX ?_
    refine p_blkX ?_
    refine p_seqN ?_
    refine v_seq ?_
    refine v_ops ?_
    refine s_pure (.int .i64 0) (fun _ q => q) ?_
    refine s_pure (.int .i64 0) (fun _ q => q) ?_
    refine s_nil ?_
    refine p_seqN ?_
    refine v_ret ?_
    refine p_ret [.int .i64 0] (.int .i64 0) (fun _ q => q) rfl ?_
    have ho : (orL l) = 0 := by first | (rw [orL_drop hall, drop_at (by assumption), orL, if_pos (by assumption)]; done) | (rw [orL_drop hall, List.drop_of_length_le (by omega)]; rfl)
    exact ⟨by first | (rw [ho]; done) | rfl, Eh⟩

theorem impl_compareLinks_ok (a : LinkD) (b : LinkD) (h : Heap)  : Cn f_impl_compareLinks [.agg #[.int .i64 a.a, .int .i64 a.b, .int .i64 a.delay], .agg #[.int .i64 b.a, .int .i64 b.b, .int .i64 b.delay]] h fun v h' => v = .int .i64 (lkCmp a b) ∧ Ext h h' := by
  refine calls_of r_impl_compareLinks ?_
  refine v_seq ?_
  refine v_ops ?_
  refine s_box [.int .i64 a.a, .int .i64 a.b, .int .i64 a.delay] rfl (fun h2 b1 hbb1 hzb1 eh2 bxb1 => ?_)
  have E3 := (Ext.refl h).trans eh2
  have z4 := eh2.size
  have lbb1 := bxb1.lt
  refine s_box [.int .i64 b.a, .int .i64 b.b, .int .i64 b.delay] rfl (fun h6 b5 hbb5 hzb5 eh6 bxb5 => ?_)
  have E7 := E3.trans eh6
  have z8 := eh6.size
  have lbb5 := bxb5.lt
  refine s_pure (.int .i64 0) (fun _ q => q) ?_
  refine s_nil ?_
  refine p_seqN ?_
  refine v_seq ?_
  have f9 := (bxb1.ext eh6)
  refine v_draw (DrawVC.hold ([b1] ++ [b5]) ?_)
  refine d_pureT (.pointer (some ⟨b1, 0, none⟩)) (fun _ q => q) ?_
  refine d_pureT (.pointer (some ⟨b5, 0, none⟩)) (fun _ q => q) ?_
  refine d_pureT (.pointer (some ⟨b1, 1, none⟩)) (fun _ q => q) ?_
  refine d_pureT (.pointer (some ⟨b5, 1, none⟩)) (fun _ q => q) ?_
  refine d_loadO (.int .i64 a.a) (fun _ q => f9.load rfl q) ?_
  refine d_loadO (.int .i64 b.a) (fun _ q => bxb5.load rfl q) ?_
  refine d_loadT (.int .i64 a.b) (fun _ q => f9.take (by simp) rfl q) ?_
  refine d_loadT (.int .i64 b.b) (fun _ q => bxb5.take (by simp) rfl q) ?_
  refine d_eff ?_
  refine s_callS [.int .i64 a.a, .int .i64 b.a] (.int .i64 (cmpI a.a b.a)) rfl (cmp_Compare_int_ok a.a b.a _ ) ?_
  refine s_nil ⟨fun _ x hx => rfl, ?_⟩
  refine d_eff ?_
  refine s_callS [.int .i64 a.b, .int .i64 b.b] (.int .i64 (cmpI a.b b.b)) rfl (cmp_Compare_int_ok a.b b.b _ ) ?_
  refine s_nil ⟨fun hl => (by cases hl), ?_⟩
  refine d_eff ?_
  refine s_row (α := Int) [(cmpI a.a b.a), (cmpI a.b b.b)] (fun _ q => seg_i rfl (seg_i rfl (seg_nil q))) rfl (by simp [maxLen]) (fun r10 h11 eh11 zh11 s_r10 fr_r10 => ?_)
  have E12 := E7.trans eh11
  have z13 := eh11.size
  have G14 := eh11
  have lt_r10 := s_r10.lt
  refine s_nil ⟨fun hl => (by cases hl), ?_⟩
  refine d_eff ?_
  refine s_call [r10] rfl (cmp_Or_int_ok r10 [(cmpI a.a b.a), (cmpI a.b b.b)] _ s_r10.toSl) ?_
  rintro _ h15 ⟨rfl, eh15⟩
  have E16 := E12.trans eh15
  have z17 := eh15.size
  have G18 := G14.trans eh15
  refine s_nil ⟨fun hl => (by cases hl), ?_⟩
  refine d_pureT (.int .i64 (orL [(cmpI a.a b.a), (cmpI a.b b.b)])) (fun _ q => q) ?_
  refine d_done ?_
  refine p_seqN ?_
  refine v_ret ?_
  refine p_ret [.int .i64 (orL [(cmpI a.a b.a), (cmpI a.b b.b)])] (.int .i64 (orL [(cmpI a.a b.a), (cmpI a.b b.b)])) (fun _ q => q) rfl ?_
  have ho : (lkCmp a b) = (orL [(cmpI a.a b.a), (cmpI a.b b.b)]) := by rfl
  exact ⟨by first | (rw [ho]; done) | rfl, E16⟩

theorem spec_neBefore_ok (a : LinkD) (b : LinkD) (h : Heap)  : Cn f_spec_neBefore [.agg #[.int .i64 a.a, .int .i64 a.b, .int .i64 a.delay], .agg #[.int .i64 b.a, .int .i64 b.b, .int .i64 b.delay]] h fun v h' => v = .bool (decide (lkLt a b)) ∧ Ext h h' := by
  refine calls_of r_spec_neBefore ?_
  refine v_seq ?_
  refine v_ops ?_
  refine s_box [.int .i64 a.a, .int .i64 a.b, .int .i64 a.delay] rfl (fun h2 b1 hbb1 hzb1 eh2 bxb1 => ?_)
  have E3 := (Ext.refl h).trans eh2
  have z4 := eh2.size
  have lbb1 := bxb1.lt
  refine s_box [.int .i64 b.a, .int .i64 b.b, .int .i64 b.delay] rfl (fun h6 b5 hbb5 hzb5 eh6 bxb5 => ?_)
  have E7 := E3.trans eh6
  have z8 := eh6.size
  have lbb5 := bxb5.lt
  refine s_pure (.bool false) (fun _ q => q) ?_
  refine s_nil ?_
  refine p_seqN ?_
  refine v_seq ?_
  refine v_ops ?_
  refine s_pure (.pointer (some ⟨b1, 0, none⟩)) (fun _ q => q) ?_
  have f9 := (bxb1.ext eh6)
  refine s_load (.int .i64 a.a) (fun _ q => f9.load rfl q) ?_
  refine s_pure (.pointer (some ⟨b5, 0, none⟩)) (fun _ q => q) ?_
  refine s_load (.int .i64 b.a) (fun _ q => bxb5.load rfl q) ?_
  refine s_pure (.bool (decide (a.a < b.a))) (fun _ q => q) ?_
  refine s_pure (.bool (decide (a.a < b.a))) (fun _ q => q) ?_
  refine s_splitT rfl (fun c10 => ?_) (fun c10 => ?_)
  ·
    refine s_pass rfl ?_
    refine s_pass rfl ?_
    refine s_pass rfl ?_
    refine s_pass rfl ?_
    refine s_pass rfl ?_
    refine s_pass rfl ?_
    refine s_splitU rfl ?_
    refine s_passU rfl ?_
    refine s_passU rfl ?_
    refine s_passU rfl ?_
    refine s_passU rfl ?_
    refine s_passU rfl ?_
    refine s_pass rfl ?_
    refine s_pure (.bool true) (fun _ q => q) ?_
    refine s_pure (.bool true) (fun _ q => q) ?_
    refine s_nil ?_
    refine p_seqN ?_
    refine v_ret ?_
    refine p_ret [.bool true] (.bool true) (fun _ q => q) rfl ?_
    have ho : (decide (lkLt a b)) = true := by simp [*]; try omega
    exact ⟨by first | (rw [ho]; done) | rfl, E7⟩
  ·
    refine s_run rfl ?_
    refine s_pure (.pointer (some ⟨b1, 0, none⟩)) (fun _ q => q) ?_
    refine s_run rfl ?_
    refine s_load (.int .i64 a.a) (fun _ q => f9.load rfl q) ?_
    refine s_run rfl ?_
    refine s_pure (.pointer (some ⟨b5, 0, none⟩)) (fun _ q => q) ?_
    refine s_run rfl ?_
    refine s_load (.int .i64 b.a) (fun _ q => bxb5.load rfl q) ?_
    refine s_run rfl ?_
    refine s_pure (.bool (a.a == b.a)) (fun _ q => q) ?_
    refine s_run rfl ?_
    refine s_pure (.bool (a.a == b.a)) (fun _ q => q) ?_
    refine s_splitT rfl (fun c11 => ?_) (fun c11 => ?_)
    ·
      refine s_run rfl ?_
      refine s_pure (.pointer (some ⟨b1, 1, none⟩)) (fun _ q => q) ?_
      refine s_run rfl ?_
      refine s_load (.int .i64 a.b) (fun _ q => f9.load rfl q) ?_
      refine s_run rfl ?_
      refine s_pure (.pointer (some ⟨b5, 1, none⟩)) (fun _ q => q) ?_
      refine s_run rfl ?_
      refine s_load (.int .i64 b.b) (fun _ q => bxb5.load rfl q) ?_
      refine s_run rfl ?_
      refine s_pure (.bool (decide (a.b < b.b))) (fun _ q => q) ?_
      refine s_run rfl ?_
      refine s_pure (.bool (decide (a.b < b.b))) (fun _ q => q) ?_
      refine s_pure (.bool (decide (a.b < b.b))) (fun _ q => q) ?_
      refine s_pure (.bool (decide (a.b < b.b))) (fun _ q => q) ?_
      refine s_nil ?_
      refine p_seqN ?_
      refine v_ret ?_
      refine p_ret [.bool (decide (a.b < b.b))] (.bool (decide (a.b < b.b))) (fun _ q => q) rfl ?_
      have ho : (decide (lkLt a b)) = (decide (a.b < b.b)) := by simp [*]; try omega
      exact ⟨by first | (rw [ho]; done) | rfl, E7⟩
    ·
      refine s_pass rfl ?_
      refine s_pass rfl ?_
      refine s_pass rfl ?_
      refine s_pass rfl ?_
      refine s_pass rfl ?_
      refine s_run rfl ?_
      refine s_pure (.bool false) (fun _ q => q) ?_
      refine s_pure (.bool false) (fun _ q => q) ?_
      refine s_pure (.bool false) (fun _ q => q) ?_
      refine s_nil ?_
      refine p_seqN ?_
      refine v_ret ?_
      refine p_ret [.bool false] (.bool false) (fun _ q => q) rfl ?_
      have ho : (decide (lkLt a b)) = false := by simp [*]; try omega
      exact ⟨by first | (rw [ho]; done) | rfl, E7⟩

set_option maxRecDepth 10000 in
set_option maxHeartbeats 4000000 in
theorem impl_IsNet_ok (n : NetP) (v_n_towers : Value) (v_n_links : Value) (h : Heap) (s_n_towers : Sl h v_n_towers n.towers) (s_n_links : Sl h v_n_links n.links) : Cn f_impl_IsNet [.agg #[v_n_towers, v_n_links]] h fun v h' => v = .bool (decide (NetOk n)) ∧ Ext h h' := by
  have lt_n_towers := s_n_towers.lt
  have l63_n_towers := s_n_towers.len63
  have lt_n_links := s_n_links.lt
  have l63_n_links := s_n_links.len63
  refine calls_of r_impl_IsNet ?_
  refine v_seq ?_
  refine v_ops ?_
  refine s_box [v_n_towers, v_n_links] rfl (fun h2 b1 hbb1 hzb1 eh2 bxb1 => ?_)
  have E3 := (Ext.refl h).trans eh2
  have z4 := eh2.size
  have lbb1 := bxb1.lt
  refine s_pure (.bool false) (fun _ q => q) ?_
  refine s_nil ?_
  refine p_seqN ?_
  refine v_seq ?_
  refine v_seq ?_
  refine v_ops ?_
  refine s_pure (.pointer (some ⟨b1, 0, none⟩)) (fun _ q => q) ?_
  refine s_load v_n_towers (fun _ q => bxb1.load rfl q) ?_
  refine s_pure (.int .i64 (n.towers.length : Int)) (fun _ q => s_n_towers.lenVC q) ?_
  refine s_callS [.int .i64 (n.towers.length : Int), .int .i64 1, .int .i64 16] (.bool (decide (1 ≤ (n.towers.length : Int) ∧ (n.towers.length : Int) ≤ 16))) rfl (within_ok (n.towers.length : Int) 1 16 _ ) ?_
  refine s_pure (.bool (!(decide (1 ≤ (n.towers.length : Int) ∧ (n.towers.length : Int) ≤ 16)))) (fun _ q => q) ?_
  refine s_pure (.bool (!(decide (1 ≤ (n.towers.length : Int) ∧ (n.towers.length : Int) ≤ 16)))) (fun _ q => q) ?_
  refine s_splitT rfl (fun c5 => ?_) (fun c5 => ?_)
  ·
    refine s_pass rfl ?_
    refine s_pass rfl ?_
    refine s_pass rfl ?_
    refine s_pass rfl ?_
    refine s_pure (.bool true) (fun _ q => q) ?_
    refine s_nil ?_
    refine p_seqN ?_
    refine v_condY rfl rfl ?_
    refine v_seq ?_
    refine v_ops ?_
    refine s_pure (.bool false) (fun _ q => q) ?_
    refine s_nil ?_
    refine p_seqN ?_
    refine v_ret ?_
    refine p_seqR ?_
    refine p_ret [.bool false] (.bool false) (fun _ q => q) rfl ?_
    have ho : decide (NetOk n) = false := by first | exact net_bad (fun hn => by (have := hn.t1); (have := hn.t2); (have := hn.l2); omega) | exact net_badT (by assumption) (fun hp => absurd hp.1 (by assumption)) | exact net_badT (by assumption) (fun hp => absurd hp.2.1 (by assumption)) | exact net_badT (by assumption) (fun hp => absurd hp.2.2 (by assumption)) | exact net_badL (by assumption : n.links[j]? = some xo__) (fun hp => by (have h1 := hp.1); omega) | exact net_badL (by assumption : n.links[j]? = some xo__) (fun hp => by (have h1 := hp.2 (by omega) _ (by assumption : n.links[j - 1]? = some x__)); first | contradiction | ((have h2 := lkCmp_lt.2 h1); omega)) | exact net_end hall (by assumption) hlk (by assumption) (by simp; omega)
    exact ⟨by first | (rw [ho]; done) | rfl, E3⟩
  ·
    have c5 := Classical.not_not.1 c5
    refine s_run rfl ?_
    refine s_pure (.pointer (some ⟨b1, 1, none⟩)) (fun _ q => q) ?_
    refine s_run rfl ?_
    refine s_load v_n_links (fun _ q => bxb1.load rfl q) ?_
    refine s_run rfl ?_
    refine s_pure (.int .i64 (n.links.length : Int)) (fun _ q => s_n_links.lenVC q) ?_
    refine s_run rfl ?_
    refine s_pure (.bool (decide ((n.links.length : Int) > 40))) (fun _ q => q) ?_
    refine s_pure (.bool (decide ((n.links.length : Int) > 40))) (fun _ q => q) ?_
    refine s_nil ?_
    refine p_seqN ?_
    refine v_cond rfl (fun c6 => ?_) (fun c6 => ?_)
    ·
      refine v_seq ?_
      refine v_ops ?_
      refine s_pure (.bool false) (fun _ q => q) ?_
      refine s_nil ?_
      refine p_seqN ?_
      refine v_ret ?_
      refine p_seqR ?_
      refine p_ret [.bool false] (.bool false) (fun _ q => q) rfl ?_
      have ho : decide (NetOk n) = false := by first | exact net_bad (fun hn => by (have := hn.t1); (have := hn.t2); (have := hn.l2); omega) | exact net_badT (by assumption) (fun hp => absurd hp.1 (by assumption)) | exact net_badT (by assumption) (fun hp => absurd hp.2.1 (by assumption)) | exact net_badT (by assumption) (fun hp => absurd hp.2.2 (by assumption)) | exact net_badL (by assumption : n.links[j]? = some xo__) (fun hp => by (have h1 := hp.1); omega) | exact net_badL (by assumption : n.links[j]? = some xo__) (fun hp => by (have h1 := hp.2 (by omega) _ (by assumption : n.links[j - 1]? = some x__)); first | contradiction | ((have h2 := lkCmp_lt.2 h1); omega)) | exact net_end hall (by assumption) hlk (by assumption) (by simp; omega)
      exact ⟨by first | (rw [ho]; done) | rfl, E3⟩
    ·
      refine v_skip ?_
      refine p_seqN ?_
      refine v_seq ?_
      refine v_seq ?_
      refine v_ops ?_
      refine s_pure (.pointer (some ⟨b1, 0, none⟩)) (fun _ q => q) ?_
      refine s_load v_n_towers (fun _ q => bxb1.load rfl q) ?_
      refine s_pure (.int .i64 (n.towers.length : Int)) (fun _ q => s_n_towers.lenVC q) ?_
      refine s_pure (.int .i64 0) (fun _ q => q) ?_
      refine s_nil ?_
      refine p_seqN ?_
      refine v_block ?_
      refine v_loop1 (α := Nat) (fun k => [(1, .pointer (some ⟨b1, 0, none⟩)), (19, v_n_towers), (20, .int .i64 (n.towers.length : Int)), (21, .int .i64 (k : Int))]) (fun k hh => Ext h hh ∧ Bx hh b1 [v_n_towers, v_n_links] 32 ∧ k ≤ n.towers.length ∧ ∀ t ∈ n.towers.take k, TowOk t) (fun k => n.towers.length - k) 0 ⟨rfl, rfl, rfl, rfl⟩ ⟨E3, bxb1, (by simp)⟩ ?_
      rintro k R8 h7 ⟨Eh, bxb1, ⟨hk, hall⟩⟩
      have zEh := Eh.size
      have f9 := s_n_towers.ext Eh
      have f10 := s_n_links.ext Eh
      have lbb1 := bxb1.lt
      refine v_seq ?_
      refine v_ops ?_
      refine s_pure (.bool (decide ((k : Int) < (n.towers.length : Int)))) (fun _ q => q) ?_
      refine s_nil ?_
      refine p_seqN ?_
      refine v_seq ?_
      refine v_cond rfl (fun c11 => ?_) (fun c11 => ?_)
      ·
        refine v_skip ?_
        refine p_seqN ?_
        refine v_seq ?_
        refine v_block ?_
        refine v_seq ?_
        refine v_ops ?_
        have hk12 : k < n.towers.length := (by first | omega | (simp; omega))
        obtain ⟨x13, hx13⟩ : ∃ x, n.towers[k]? = some x := ⟨_, List.getElem?_eq_getElem hk12⟩
        refine s_pure (.pointer (some ⟨sblk v_n_towers, soff v_n_towers + k * 3, none⟩)) (fun _ q => f9.idx (k := k) rfl hk12 q) ?_
        refine s_load (.agg #[.int .i64 x13.x, .int .i64 x13.y, .int .i64 x13.height]) (fun _ q => f9.loadN hx13 rfl q) ?_
        refine s_new (fun h15 b14 hbb14 hzb14 eh15 bxb14 => ?_)
        have E16 := Eh.trans eh15
        have z17 := eh15.size
        have lbb14 := bxb14.lt
        refine s_stBx (.agg #[.int .i64 x13.x, .int .i64 x13.y, .int .i64 x13.height]) [.int .i64 x13.x, .int .i64 x13.y, .int .i64 x13.height] [.int .i64 x13.x, .int .i64 x13.y, .int .i64 x13.height] bxb14 rfl rfl rfl rfl (by simp) (all_cons rfl (all_cons rfl (all_cons rfl all_nil))) rfl (fun h18 mh18 sh18 bxx19 => ?_)
        have E20 := E16.mod mh18 (fun b hb => by simp at hb; omega)
        refine s_nil ?_
        refine p_seqN ?_
        refine v_seq ?_
        refine v_ops ?_
        refine s_pure (.pointer (some ⟨b14, 0, none⟩)) (fun _ q => q) ?_
        refine s_load (.int .i64 x13.x) (fun _ q => bxx19.load rfl q) ?_
        refine s_callS [.int .i64 x13.x, .int .i64 0, .int .i64 999] (.bool (decide (0 ≤ x13.x ∧ x13.x ≤ 999))) rfl (within_ok x13.x 0 999 _ ) ?_
        refine s_pure (.bool (!(decide (0 ≤ x13.x ∧ x13.x ≤ 999)))) (fun _ q => q) ?_
        refine s_pure (.bool (!(decide (0 ≤ x13.x ∧ x13.x ≤ 999)))) (fun _ q => q) ?_
        refine s_splitT rfl (fun c21 => ?_) (fun c21 => ?_)
        ·
          refine s_pass rfl ?_
          refine s_pass rfl ?_
          refine s_pass rfl ?_
          refine s_pass rfl ?_
          refine s_pure (.bool true) (fun _ q => q) ?_
          refine s_pure (.bool true) (fun _ q => q) ?_
          refine s_splitY rfl rfl ?_
          refine s_pass rfl ?_
          refine s_pass rfl ?_
          refine s_pass rfl ?_
          refine s_pass rfl ?_
          refine s_pure (.bool true) (fun _ q => q) ?_
          refine s_nil ?_
          refine p_seqN ?_
          refine v_condY rfl rfl ?_
          refine v_seq ?_
          refine v_ops ?_
          refine s_pure (.bool false) (fun _ q => q) ?_
          refine s_nil ?_
          refine p_seqN ?_
          refine v_ret ?_
          refine p_blkR ?_
          refine p_seqR ?_
          refine p_lpR ?_
          refine p_blkR ?_
          refine p_seqR ?_
          refine p_ret [.bool false] (.bool false) (fun _ q => q) rfl ?_
          have ho : decide (NetOk n) = false := by first | exact net_bad (fun hn => by (have := hn.t1); (have := hn.t2); (have := hn.l2); omega) | exact net_badT (by assumption) (fun hp => absurd hp.1 (by assumption)) | exact net_badT (by assumption) (fun hp => absurd hp.2.1 (by assumption)) | exact net_badT (by assumption) (fun hp => absurd hp.2.2 (by assumption)) | exact net_badL (by assumption : n.links[j]? = some x13) (fun hp => by (have h1 := hp.1); omega) | exact net_badL (by assumption : n.links[j]? = some x13) (fun hp => by (have h1 := hp.2 (by omega) _ (by assumption : n.links[j - 1]? = some x13)); first | contradiction | ((have h2 := lkCmp_lt.2 h1); omega)) | exact net_end hall (by assumption) hlk (by assumption) (by simp; omega)
          exact ⟨by first | (rw [ho]; done) | rfl, E20⟩
        ·
          have c21 := Classical.not_not.1 c21
          refine s_run rfl ?_
          refine s_pure (.pointer (some ⟨b14, 1, none⟩)) (fun _ q => q) ?_
          refine s_run rfl ?_
          refine s_load (.int .i64 x13.y) (fun _ q => bxx19.load rfl q) ?_
          refine s_run rfl ?_
          refine s_callS [.int .i64 x13.y, .int .i64 0, .int .i64 999] (.bool (decide (0 ≤ x13.y ∧ x13.y ≤ 999))) rfl (within_ok x13.y 0 999 _ ) ?_
          refine s_run rfl ?_
          refine s_pure (.bool (!(decide (0 ≤ x13.y ∧ x13.y ≤ 999)))) (fun _ q => q) ?_
          refine s_pure (.bool (!(decide (0 ≤ x13.y ∧ x13.y ≤ 999)))) (fun _ q => q) ?_
          refine s_pure (.bool (!(decide (0 ≤ x13.y ∧ x13.y ≤ 999)))) (fun _ q => q) ?_
          refine s_splitT rfl (fun c22 => ?_) (fun c22 => ?_)
          ·
            refine s_pass rfl ?_
            refine s_pass rfl ?_
            refine s_pass rfl ?_
            refine s_pass rfl ?_
            refine s_pure (.bool true) (fun _ q => q) ?_
            refine s_nil ?_
            refine p_seqN ?_
            refine v_condY rfl rfl ?_
            refine v_seq ?_
            refine v_ops ?_
            refine s_pure (.bool false) (fun _ q => q) ?_
            refine s_nil ?_
            refine p_seqN ?_
            refine v_ret ?_
            refine p_blkR ?_
            refine p_seqR ?_
            refine p_lpR ?_
            refine p_blkR ?_
            refine p_seqR ?_
            refine p_ret [.bool false] (.bool false) (fun _ q => q) rfl ?_
            have ho : decide (NetOk n) = false := by first | exact net_bad (fun hn => by (have := hn.t1); (have := hn.t2); (have := hn.l2); omega) | exact net_badT (by assumption) (fun hp => absurd hp.1 (by assumption)) | exact net_badT (by assumption) (fun hp => absurd hp.2.1 (by assumption)) | exact net_badT (by assumption) (fun hp => absurd hp.2.2 (by assumption)) | exact net_badL (by assumption : n.links[j]? = some x13) (fun hp => by (have h1 := hp.1); omega) | exact net_badL (by assumption : n.links[j]? = some x13) (fun hp => by (have h1 := hp.2 (by omega) _ (by assumption : n.links[j - 1]? = some x13)); first | contradiction | ((have h2 := lkCmp_lt.2 h1); omega)) | exact net_end hall (by assumption) hlk (by assumption) (by simp; omega)
            exact ⟨by first | (rw [ho]; done) | rfl, E20⟩
          ·
            have c22 := Classical.not_not.1 c22
            refine s_run rfl ?_
            refine s_pure (.pointer (some ⟨b14, 2, none⟩)) (fun _ q => q) ?_
            refine s_run rfl ?_
            refine s_load (.int .i64 x13.height) (fun _ q => bxx19.load rfl q) ?_
            refine s_run rfl ?_
            refine s_callS [.int .i64 x13.height, .int .i64 0, .int .i64 500] (.bool (decide (0 ≤ x13.height ∧ x13.height ≤ 500))) rfl (within_ok x13.height 0 500 _ ) ?_
            refine s_run rfl ?_
            refine s_pure (.bool (!(decide (0 ≤ x13.height ∧ x13.height ≤ 500)))) (fun _ q => q) ?_
            refine s_pure (.bool (!(decide (0 ≤ x13.height ∧ x13.height ≤ 500)))) (fun _ q => q) ?_
            refine s_nil ?_
            refine p_seqN ?_
            refine v_cond rfl (fun c23 => ?_) (fun c23 => ?_)
            ·
              refine v_seq ?_
              refine v_ops ?_
              refine s_pure (.bool false) (fun _ q => q) ?_
              refine s_nil ?_
              refine p_seqN ?_
              refine v_ret ?_
              refine p_blkR ?_
              refine p_seqR ?_
              refine p_lpR ?_
              refine p_blkR ?_
              refine p_seqR ?_
              refine p_ret [.bool false] (.bool false) (fun _ q => q) rfl ?_
              have ho : decide (NetOk n) = false := by first | exact net_bad (fun hn => by (have := hn.t1); (have := hn.t2); (have := hn.l2); omega) | exact net_badT (by assumption) (fun hp => absurd hp.1 (by assumption)) | exact net_badT (by assumption) (fun hp => absurd hp.2.1 (by assumption)) | exact net_badT (by assumption) (fun hp => absurd hp.2.2 (by assumption)) | exact net_badL (by assumption : n.links[j]? = some x13) (fun hp => by (have h1 := hp.1); omega) | exact net_badL (by assumption : n.links[j]? = some x13) (fun hp => by (have h1 := hp.2 (by omega) _ (by assumption : n.links[j - 1]? = some x13)); first | contradiction | ((have h2 := lkCmp_lt.2 h1); omega)) | exact net_end hall (by assumption) hlk (by assumption) (by simp; omega)
              exact ⟨by first | (rw [ho]; done) | rfl, E20⟩
            ·
              have c23 := Classical.not_not.1 c23
              refine v_skip ?_
              refine p_blkN ?_
              refine p_seqN ?_
              refine v_ops ?_
              refine s_pure (.int .i64 ((k : Int) + 1)) (fun _ q => ArithVC.mk (by omega) q) ?_
              refine s_pure (.int .i64 ((k : Int) + 1)) (fun _ q => q) ?_
              refine s_nil ?_
              have f24 := ((bxb1.ext eh15).mod mh18 (by simp; omega))
              exact p_lpN ⟨k + 1, ⟨rfl, rfl, rfl, rfl⟩, ⟨E20, f24, (by exact ⟨by omega, all_snoc (P := TowOk) hall (by assumption) ⟨by assumption, by assumption, by assumption⟩⟩)⟩, by omega⟩
      ·
        refine v_exit ?_
        refine p_seqX ?_
        refine p_lpX ?_
        refine p_blkX ?_
        refine p_seqN ?_
        refine v_seq ?_
        refine v_seq ?_
        refine v_ops ?_
        refine s_pure (.pointer (some ⟨b1, 1, none⟩)) (fun _ q => q) ?_
        refine s_load v_n_links (fun _ q => bxb1.load rfl q) ?_
        refine s_pure (.int .i64 (n.links.length : Int)) (fun _ q => f10.lenVC q) ?_
        refine s_pure (.int .i64 0) (fun _ q => q) ?_
        refine s_nil ?_
        refine p_seqN ?_
        refine v_block ?_
        refine v_loop1 (α := Nat) (fun j => [(1, .pointer (some ⟨b1, 0, none⟩)), (43, v_n_links), (44, .int .i64 (n.links.length : Int)), (45, .int .i64 (j : Int))]) (fun j hh => Ext h hh ∧ Bx hh b1 [v_n_towers, v_n_links] 32 ∧ j ≤ n.links.length ∧ LinksOk n.towers.length n.links j) (fun j => n.links.length - j) 0 ⟨rfl, rfl, rfl, rfl⟩ ⟨Eh, bxb1, (by exact ⟨by omega, fun i x hi => by omega⟩)⟩ ?_
        rintro j R26 h25 ⟨Eh, bxb1, ⟨hj, hlk⟩⟩
        have zEh := Eh.size
        have f27 := s_n_towers.ext Eh
        have f28 := s_n_links.ext Eh
        have lbb1 := bxb1.lt
        refine v_seq ?_
        refine v_ops ?_
        refine s_pure (.bool (decide ((j : Int) < (n.links.length : Int)))) (fun _ q => q) ?_
        refine s_nil ?_
        refine p_seqN ?_
        refine v_seq ?_
        refine v_cond rfl (fun c29 => ?_) (fun c29 => ?_)
        ·
          refine v_skip ?_
          refine p_seqN ?_
          refine v_seq ?_
          refine v_block ?_
          refine v_seq ?_
          refine v_ops ?_
          refine s_pure (.int .i64 (j : Int)) (fun _ q => q) ?_
          have hk30 : j < n.links.length := (by first | omega | (simp; omega))
          obtain ⟨x31, hx31⟩ : ∃ x, n.links[j]? = some x := ⟨_, List.getElem?_eq_getElem hk30⟩
          refine s_pure (.pointer (some ⟨sblk v_n_links, soff v_n_links + j * 3, none⟩)) (fun _ q => f28.idx (k := j) rfl hk30 q) ?_
          refine s_load (.agg #[.int .i64 x31.a, .int .i64 x31.b, .int .i64 x31.delay]) (fun _ q => f28.loadN hx31 rfl q) ?_
          refine s_new (fun h33 b32 hbb32 hzb32 eh33 bxb32 => ?_)
          have E34 := Eh.trans eh33
          have z35 := eh33.size
          have lbb32 := bxb32.lt
          refine s_pure (.int .i64 (j : Int)) (fun _ q => q) ?_
          refine s_stBx (.agg #[.int .i64 x31.a, .int .i64 x31.b, .int .i64 x31.delay]) [.int .i64 x31.a, .int .i64 x31.b, .int .i64 x31.delay] [.int .i64 x31.a, .int .i64 x31.b, .int .i64 x31.delay] bxb32 rfl rfl rfl rfl (by simp) (all_cons rfl (all_cons rfl (all_cons rfl all_nil))) rfl (fun h36 mh36 sh36 bxx37 => ?_)
          have E38 := E34.mod mh36 (fun b hb => by simp at hb; omega)
          refine s_nil ?_
          refine p_seqN ?_
          refine v_seq ?_
          have f39 := ((bxb1.ext eh33).mod mh36 (by simp; omega))
          have f40 := ((f28.ext eh33).mod mh36 (fun b hb hc => by simp at hc; have := lt_n_links b hb; omega))
          refine v_draw (DrawVC.hold ([b1] ++ blks v_n_links) ?_)
          refine d_pureT (.pointer (some ⟨b32, 0, none⟩)) (fun _ q => q) ?_
          refine d_loadO (.int .i64 x31.a) (fun _ q => bxx37.load rfl q) ?_
          refine d_pureT (.bool (decide (x31.a < 0))) (fun _ q => q) ?_
          refine d_pureT (.bool (decide (x31.a < 0))) (fun _ q => q) ?_
          refine d_splitT rfl (fun c41 => ?_) (fun c41 => ?_)
          ·
            refine d_passT rfl ?_
            refine d_passT rfl ?_
            refine d_passO rfl ?_
            refine d_passO rfl ?_
            refine d_passT rfl ?_
            refine d_pureT (.bool true) (fun _ q => q) ?_
            refine d_pureT (.bool true) (fun _ q => q) ?_
            refine d_splitY rfl rfl ?_
            refine d_passT rfl ?_
            refine d_passT rfl ?_
            refine d_passO rfl ?_
            refine d_passO rfl ?_
            refine d_passT rfl ?_
            refine d_passT rfl ?_
            refine d_pureT (.bool true) (fun _ q => q) ?_
            refine d_pureT (.bool true) (fun _ q => q) ?_
            refine d_splitY rfl rfl ?_
            refine d_passT rfl ?_
            refine d_passO rfl ?_
            refine d_passO rfl ?_
            refine d_passT rfl ?_
            refine d_pureT (.bool true) (fun _ q => q) ?_
            refine d_pureT (.bool true) (fun _ q => q) ?_
            refine d_splitY rfl rfl ?_
            refine d_passT rfl ?_
            refine d_passT rfl ?_
            refine d_passT rfl ?_
            refine d_splitU rfl ?_
            refine d_passTU rfl ?_
            refine d_passTU rfl ?_
            refine d_passTU rfl ?_
            refine d_passTU rfl ?_
            refine d_passTU rfl ?_
            refine d_passTU rfl ?_
            refine d_passOU rfl ?_
            refine d_passOU rfl ?_
            refine d_passTU rfl ?_
            refine d_passT rfl ?_
            refine d_pureT (.bool true) (fun _ q => q) ?_
            refine d_done ?_
            refine p_seqN ?_
            refine v_condY rfl rfl ?_
            refine v_seq ?_
            refine v_ops ?_
            refine s_pure (.bool false) (fun _ q => q) ?_
            refine s_nil ?_
            refine p_seqN ?_
            refine v_ret ?_
            refine p_blkR ?_
            refine p_seqR ?_
            refine p_lpR ?_
            refine p_blkR ?_
            refine p_seqR ?_
            refine p_ret [.bool false] (.bool false) (fun _ q => q) rfl ?_
            have ho : decide (NetOk n) = false := by first | exact net_bad (fun hn => by (have := hn.t1); (have := hn.t2); (have := hn.l2); omega) | exact net_badT (by assumption) (fun hp => absurd hp.1 (by assumption)) | exact net_badT (by assumption) (fun hp => absurd hp.2.1 (by assumption)) | exact net_badT (by assumption) (fun hp => absurd hp.2.2 (by assumption)) | exact net_badL (by assumption : n.links[j]? = some x31) (fun hp => by (have h1 := hp.1); omega) | exact net_badL (by assumption : n.links[j]? = some x31) (fun hp => by (have h1 := hp.2 (by omega) _ (by assumption : n.links[j - 1]? = some x31)); first | contradiction | ((have h2 := lkCmp_lt.2 h1); omega)) | exact net_end hall (by assumption) hlk (by assumption) (by simp; omega)
            exact ⟨by first | (rw [ho]; done) | rfl, E38⟩
          ·
            refine d_runT rfl ?_
            refine d_pureT (.pointer (some ⟨b32, 0, none⟩)) (fun _ q => q) ?_
            refine d_runT rfl ?_
            refine d_pureT (.pointer (some ⟨b32, 1, none⟩)) (fun _ q => q) ?_
            refine d_runO rfl ?_
            refine d_loadO (.int .i64 x31.a) (fun _ q => bxx37.load rfl q) ?_
            refine d_runO rfl ?_
            refine d_loadO (.int .i64 x31.b) (fun _ q => bxx37.load rfl q) ?_
            refine d_runT rfl ?_
            refine d_pureT (.bool (decide (x31.a ≥ x31.b))) (fun _ q => q) ?_
            refine d_pureT (.bool (decide (x31.a ≥ x31.b))) (fun _ q => q) ?_
            refine d_pureT (.bool (decide (x31.a ≥ x31.b))) (fun _ q => q) ?_
            refine d_splitT rfl (fun c42 => ?_) (fun c42 => ?_)
            ·
              refine d_passT rfl ?_
              refine d_passT rfl ?_
              refine d_passO rfl ?_
              refine d_passO rfl ?_
              refine d_passT rfl ?_
              refine d_passT rfl ?_
              refine d_pureT (.bool true) (fun _ q => q) ?_
              refine d_pureT (.bool true) (fun _ q => q) ?_
              refine d_splitY rfl rfl ?_
              refine d_passT rfl ?_
              refine d_passO rfl ?_
              refine d_passO rfl ?_
              refine d_passT rfl ?_
              refine d_pureT (.bool true) (fun _ q => q) ?_
              refine d_pureT (.bool true) (fun _ q => q) ?_
              refine d_splitY rfl rfl ?_
              refine d_passT rfl ?_
              refine d_passT rfl ?_
              refine d_passT rfl ?_
              refine d_splitU rfl ?_
              refine d_passTU rfl ?_
              refine d_passTU rfl ?_
              refine d_passTU rfl ?_
              refine d_passTU rfl ?_
              refine d_passTU rfl ?_
              refine d_passTU rfl ?_
              refine d_passOU rfl ?_
              refine d_passOU rfl ?_
              refine d_passTU rfl ?_
              refine d_passT rfl ?_
              refine d_pureT (.bool true) (fun _ q => q) ?_
              refine d_done ?_
              refine p_seqN ?_
              refine v_condY rfl rfl ?_
              refine v_seq ?_
              refine v_ops ?_
              refine s_pure (.bool false) (fun _ q => q) ?_
              refine s_nil ?_
              refine p_seqN ?_
              refine v_ret ?_
              refine p_blkR ?_
              refine p_seqR ?_
              refine p_lpR ?_
              refine p_blkR ?_
              refine p_seqR ?_
              refine p_ret [.bool false] (.bool false) (fun _ q => q) rfl ?_
              have ho : decide (NetOk n) = false := by first | exact net_bad (fun hn => by (have := hn.t1); (have := hn.t2); (have := hn.l2); omega) | exact net_badT (by assumption) (fun hp => absurd hp.1 (by assumption)) | exact net_badT (by assumption) (fun hp => absurd hp.2.1 (by assumption)) | exact net_badT (by assumption) (fun hp => absurd hp.2.2 (by assumption)) | exact net_badL (by assumption : n.links[j]? = some x31) (fun hp => by (have h1 := hp.1); omega) | exact net_badL (by assumption : n.links[j]? = some x31) (fun hp => by (have h1 := hp.2 (by omega) _ (by assumption : n.links[j - 1]? = some x31)); first | contradiction | ((have h2 := lkCmp_lt.2 h1); omega)) | exact net_end hall (by assumption) hlk (by assumption) (by simp; omega)
              exact ⟨by first | (rw [ho]; done) | rfl, E38⟩
            ·
              refine d_runT rfl ?_
              refine d_pureT (.pointer (some ⟨b32, 1, none⟩)) (fun _ q => q) ?_
              refine d_runT rfl ?_
              refine d_pureT (.pointer (some ⟨b1, 0, none⟩)) (fun _ q => q) ?_
              refine d_runO rfl ?_
              refine d_loadO (.int .i64 x31.b) (fun _ q => bxx37.load rfl q) ?_
              refine d_runO rfl ?_
              refine d_loadO v_n_towers (fun _ q => f39.load rfl q) ?_
              refine d_runT rfl ?_
              refine d_pureT (.int .i64 (n.towers.length : Int)) (fun _ q => f27.lenVC q) ?_
              refine d_runT rfl ?_
              refine d_pureT (.bool (decide (x31.b ≥ (n.towers.length : Int)))) (fun _ q => q) ?_
              refine d_pureT (.bool (decide (x31.b ≥ (n.towers.length : Int)))) (fun _ q => q) ?_
              refine d_pureT (.bool (decide (x31.b ≥ (n.towers.length : Int)))) (fun _ q => q) ?_
              refine d_splitT rfl (fun c43 => ?_) (fun c43 => ?_)
              ·
                refine d_passT rfl ?_
                refine d_passO rfl ?_
                refine d_passO rfl ?_
                refine d_passT rfl ?_
                refine d_pureT (.bool true) (fun _ q => q) ?_
                refine d_pureT (.bool true) (fun _ q => q) ?_
                refine d_splitY rfl rfl ?_
                refine d_passT rfl ?_
                refine d_passT rfl ?_
                refine d_passT rfl ?_
                refine d_splitU rfl ?_
                refine d_passTU rfl ?_
                refine d_passTU rfl ?_
                refine d_passTU rfl ?_
                refine d_passTU rfl ?_
                refine d_passTU rfl ?_
                refine d_passTU rfl ?_
                refine d_passOU rfl ?_
                refine d_passOU rfl ?_
                refine d_passTU rfl ?_
                refine d_passT rfl ?_
                refine d_pureT (.bool true) (fun _ q => q) ?_
                refine d_done ?_
                refine p_seqN ?_
                refine v_condY rfl rfl ?_
                refine v_seq ?_
                refine v_ops ?_
                refine s_pure (.bool false) (fun _ q => q) ?_
                refine s_nil ?_
                refine p_seqN ?_
                refine v_ret ?_
                refine p_blkR ?_
                refine p_seqR ?_
                refine p_lpR ?_
                refine p_blkR ?_
                refine p_seqR ?_
                refine p_ret [.bool false] (.bool false) (fun _ q => q) rfl ?_
                have ho : decide (NetOk n) = false := by first | exact net_bad (fun hn => by (have := hn.t1); (have := hn.t2); (have := hn.l2); omega) | exact net_badT (by assumption) (fun hp => absurd hp.1 (by assumption)) | exact net_badT (by assumption) (fun hp => absurd hp.2.1 (by assumption)) | exact net_badT (by assumption) (fun hp => absurd hp.2.2 (by assumption)) | exact net_badL (by assumption : n.links[j]? = some x31) (fun hp => by (have h1 := hp.1); omega) | exact net_badL (by assumption : n.links[j]? = some x31) (fun hp => by (have h1 := hp.2 (by omega) _ (by assumption : n.links[j - 1]? = some x31)); first | contradiction | ((have h2 := lkCmp_lt.2 h1); omega)) | exact net_end hall (by assumption) hlk (by assumption) (by simp; omega)
                exact ⟨by first | (rw [ho]; done) | rfl, E38⟩
              ·
                refine d_runT rfl ?_
                refine d_pureT (.pointer (some ⟨b32, 2, none⟩)) (fun _ q => q) ?_
                refine d_runO rfl ?_
                refine d_loadO (.int .i64 x31.delay) (fun _ q => bxx37.load rfl q) ?_
                refine d_runO rfl ?_
                refine d_eff ?_
                refine s_callS [.int .i64 x31.delay, .int .i64 1, .int .i64 60] (.bool (decide (1 ≤ x31.delay ∧ x31.delay ≤ 60))) rfl (within_ok x31.delay 1 60 _ ) ?_
                refine s_nil ⟨fun _ x hx => rfl, ?_⟩
                refine d_runT rfl ?_
                refine d_pureT (.bool (!(decide (1 ≤ x31.delay ∧ x31.delay ≤ 60)))) (fun _ q => q) ?_
                refine d_pureT (.bool (!(decide (1 ≤ x31.delay ∧ x31.delay ≤ 60)))) (fun _ q => q) ?_
                refine d_pureT (.bool (!(decide (1 ≤ x31.delay ∧ x31.delay ≤ 60)))) (fun _ q => q) ?_
                refine d_splitT rfl (fun c44 => ?_) (fun c44 => ?_)
                ·
                  refine d_passT rfl ?_
                  refine d_passT rfl ?_
                  refine d_passT rfl ?_
                  refine d_splitU rfl ?_
                  refine d_passTU rfl ?_
                  refine d_passTU rfl ?_
                  refine d_passTU rfl ?_
                  refine d_passTU rfl ?_
                  refine d_passTU rfl ?_
                  refine d_passTU rfl ?_
                  refine d_passOU rfl ?_
                  refine d_passOU rfl ?_
                  refine d_passTU rfl ?_
                  refine d_passT rfl ?_
                  refine d_pureT (.bool true) (fun _ q => q) ?_
                  refine d_done ?_
                  refine p_seqN ?_
                  refine v_condY rfl rfl ?_
                  refine v_seq ?_
                  refine v_ops ?_
                  refine s_pure (.bool false) (fun _ q => q) ?_
                  refine s_nil ?_
                  refine p_seqN ?_
                  refine v_ret ?_
                  refine p_blkR ?_
                  refine p_seqR ?_
                  refine p_lpR ?_
                  refine p_blkR ?_
                  refine p_seqR ?_
                  refine p_ret [.bool false] (.bool false) (fun _ q => q) rfl ?_
                  have ho : decide (NetOk n) = false := by first | exact net_bad (fun hn => by (have := hn.t1); (have := hn.t2); (have := hn.l2); omega) | exact net_badT (by assumption) (fun hp => absurd hp.1 (by assumption)) | exact net_badT (by assumption) (fun hp => absurd hp.2.1 (by assumption)) | exact net_badT (by assumption) (fun hp => absurd hp.2.2 (by assumption)) | exact net_badL (by assumption : n.links[j]? = some x31) (fun hp => by (have h1 := hp.1); omega) | exact net_badL (by assumption : n.links[j]? = some x31) (fun hp => by (have h1 := hp.2 (by omega) _ (by assumption : n.links[j - 1]? = some x31)); first | contradiction | ((have h2 := lkCmp_lt.2 h1); omega)) | exact net_end hall (by assumption) hlk (by assumption) (by simp; omega)
                  exact ⟨by first | (rw [ho]; done) | rfl, E38⟩
                ·
                  have c44 := Classical.not_not.1 c44
                  refine d_runT rfl ?_
                  refine d_pureT (.int .i64 (j : Int)) (fun _ q => q) ?_
                  refine d_runT rfl ?_
                  refine d_pureT (.bool (decide ((j : Int) > 0))) (fun _ q => q) ?_
                  refine d_runT rfl ?_
                  refine d_pureT (.bool (decide ((j : Int) > 0))) (fun _ q => q) ?_
                  refine d_splitT rfl (fun c45 => ?_) (fun c45 => ?_)
                  ·
                    refine d_runT rfl ?_
                    refine d_pureT (.pointer (some ⟨b1, 1, none⟩)) (fun _ q => q) ?_
                    refine d_runT rfl ?_
                    refine d_pureT (.int .i64 (j : Int)) (fun _ q => q) ?_
                    refine d_runT rfl ?_
                    refine d_pureT (.int .i64 ((j : Int) - 1)) (fun _ q => ArithVC.mk (by omega) q) ?_
                    refine d_runT rfl ?_
                    refine d_loadT v_n_links (fun _ q => f39.take (by simp) rfl q) ?_
                    refine d_runT rfl ?_
                    have hk46 : (j - 1) < n.links.length := (by first | omega | (simp; omega))
                    obtain ⟨x47, hx47⟩ : ∃ x, n.links[(j - 1)]? = some x := ⟨_, List.getElem?_eq_getElem hk46⟩
                    refine d_pureT (.pointer (some ⟨sblk v_n_links, soff v_n_links + (j - 1) * 3, none⟩)) (fun _ q => f40.idx (k := (j - 1)) (by omega) hk46 q) ?_
                    refine d_runT rfl ?_
                    refine d_loadT (.agg #[.int .i64 x47.a, .int .i64 x47.b, .int .i64 x47.delay]) (fun _ q => f40.takeN (fun b hb => by simp [hb]) hx47 rfl q) ?_
                    refine d_runO rfl ?_
                    refine d_loadO (.agg #[.int .i64 x31.a, .int .i64 x31.b, .int .i64 x31.delay]) (fun _ q => bxx37.loadA rfl q) ?_
                    refine d_runO rfl ?_
                    refine d_eff ?_
                    refine s_call [.agg #[.int .i64 x47.a, .int .i64 x47.b, .int .i64 x47.delay], .agg #[.int .i64 x31.a, .int .i64 x31.b, .int .i64 x31.delay]] rfl (impl_compareLinks_ok x47 x31 _ ) ?_
                    rintro _ h48 ⟨rfl, eh48⟩
                    have E49 := E38.trans eh48
                    have z50 := eh48.size
                    have G51 := eh48
                    refine s_nil ⟨fun hl => (by cases hl), ?_⟩
                    refine d_runT rfl ?_
                    refine d_pureT (.bool (decide ((lkCmp x47 x31) ≥ 0))) (fun _ q => q) ?_
                    refine d_runT rfl ?_
                    refine d_pureT (.bool (decide ((lkCmp x47 x31) ≥ 0))) (fun _ q => q) ?_
                    refine d_pureT (.bool (decide ((lkCmp x47 x31) ≥ 0))) (fun _ q => q) ?_
                    refine d_done ?_
                    refine p_seqN ?_
                    refine v_cond rfl (fun c52 => ?_) (fun c52 => ?_)
                    ·
                      refine v_seq ?_
                      refine v_ops ?_
                      refine s_pure (.bool false) (fun _ q => q) ?_
                      refine s_nil ?_
                      refine p_seqN ?_
                      refine v_ret ?_
                      refine p_blkR ?_
                      refine p_seqR ?_
                      refine p_lpR ?_
                      refine p_blkR ?_
                      refine p_seqR ?_
                      refine p_ret [.bool false] (.bool false) (fun _ q => q) rfl ?_
                      have ho : decide (NetOk n) = false := by first | exact net_bad (fun hn => by (have := hn.t1); (have := hn.t2); (have := hn.l2); omega) | exact net_badT (by assumption) (fun hp => absurd hp.1 (by assumption)) | exact net_badT (by assumption) (fun hp => absurd hp.2.1 (by assumption)) | exact net_badT (by assumption) (fun hp => absurd hp.2.2 (by assumption)) | exact net_badL (by assumption : n.links[j]? = some x31) (fun hp => by (have h1 := hp.1); omega) | exact net_badL (by assumption : n.links[j]? = some x31) (fun hp => by (have h1 := hp.2 (by omega) _ (by assumption : n.links[j - 1]? = some x47)); first | contradiction | ((have h2 := lkCmp_lt.2 h1); omega)) | exact net_end hall (by assumption) hlk (by assumption) (by simp; omega)
                      exact ⟨by first | (rw [ho]; done) | rfl, E49⟩
                    ·
                      refine v_skip ?_
                      refine p_blkN ?_
                      refine p_seqN ?_
                      refine v_ops ?_
                      refine s_pure (.int .i64 ((j : Int) + 1)) (fun _ q => ArithVC.mk (by omega) q) ?_
                      refine s_pure (.int .i64 ((j : Int) + 1)) (fun _ q => q) ?_
                      refine s_nil ?_
                      have f53 := (f39.ext eh48)
                      exact p_lpN ⟨j + 1, ⟨rfl, rfl, rfl, rfl⟩, ⟨E49, f53, (by exact ⟨by omega, links_snoc hlk (by assumption : n.links[j]? = some x31) (by omega) (fun h0 y hy => by first | omega | ((obtain rfl := Option.some.inj (hy.symm.trans (by assumption : n.links[j - 1]? = some x47))); first | assumption | exact lkCmp_lt.1 (by omega)))⟩)⟩, by omega⟩
                  ·
                    refine d_passT rfl ?_
                    refine d_passT rfl ?_
                    refine d_passT rfl ?_
                    refine d_passT rfl ?_
                    refine d_passT rfl ?_
                    refine d_passT rfl ?_
                    refine d_passO rfl ?_
                    refine d_passO rfl ?_
                    refine d_passT rfl ?_
                    refine d_runT rfl ?_
                    refine d_pureT (.bool false) (fun _ q => q) ?_
                    refine d_pureT (.bool false) (fun _ q => q) ?_
                    refine d_done ?_
                    refine p_seqN ?_
                    refine v_condN rfl (by simp) ?_
                    refine v_skip ?_
                    refine p_blkN ?_
                    refine p_seqN ?_
                    refine v_ops ?_
                    refine s_pure (.int .i64 ((j : Int) + 1)) (fun _ q => ArithVC.mk (by omega) q) ?_
                    refine s_pure (.int .i64 ((j : Int) + 1)) (fun _ q => q) ?_
                    refine s_nil ?_
                    exact p_lpN ⟨j + 1, ⟨rfl, rfl, rfl, rfl⟩, ⟨E38, f39, (by exact ⟨by omega, links_snoc hlk (by assumption : n.links[j]? = some x31) (by omega) (fun h0 y hy => by first | omega | ((obtain rfl := Option.some.inj (hy.symm.trans (by assumption : n.links[j - 1]? = some x31))); first | assumption | exact lkCmp_lt.1 (by omega)))⟩)⟩, by omega⟩
        ·
          refine v_exit ?_
          refine p_seqX ?_
          refine p_lpX ?_
          refine p_blkX ?_
          refine p_seqN ?_
          refine v_seq ?_
          refine v_ops ?_
          refine s_pure (.bool true) (fun _ q => q) ?_
          refine s_nil ?_
          refine p_seqN ?_
          refine v_ret ?_
          refine p_ret [.bool true] (.bool true) (fun _ q => q) rfl ?_
          have ho : decide (NetOk n) = true := by first | exact net_bad (fun hn => by (have := hn.t1); (have := hn.t2); (have := hn.l2); omega) | exact net_badT (by assumption) (fun hp => absurd hp.1 (by assumption)) | exact net_badT (by assumption) (fun hp => absurd hp.2.1 (by assumption)) | exact net_badT (by assumption) (fun hp => absurd hp.2.2 (by assumption)) | exact net_badL (by assumption : n.links[j]? = some xo__) (fun hp => by (have h1 := hp.1); omega) | exact net_badL (by assumption : n.links[j]? = some xo__) (fun hp => by (have h1 := hp.2 (by omega) _ (by assumption : n.links[j - 1]? = some x__)); first | contradiction | ((have h2 := lkCmp_lt.2 h1); omega)) | exact net_end hall (by assumption) hlk (by assumption) (by simp; omega)
          exact ⟨by first | (rw [ho]; done) | rfl, Eh⟩

set_option maxRecDepth 10000 in
set_option maxHeartbeats 4000000 in
theorem spec_neGood_ok (n : NetP) (v_n_towers : Value) (v_n_links : Value) (h : Heap) (s_n_towers : Sl h v_n_towers n.towers) (s_n_links : Sl h v_n_links n.links) : Cn f_spec_neGood [.agg #[v_n_towers, v_n_links]] h fun v h' => v = .bool (decide (NetOk n)) ∧ Ext h h' := by
  have lt_n_towers := s_n_towers.lt
  have l63_n_towers := s_n_towers.len63
  have lt_n_links := s_n_links.lt
  have l63_n_links := s_n_links.len63
  refine calls_of r_spec_neGood ?_
  refine v_seq ?_
  refine v_ops ?_
  refine s_box [v_n_towers, v_n_links] rfl (fun h2 b1 hbb1 hzb1 eh2 bxb1 => ?_)
  have E3 := (Ext.refl h).trans eh2
  have z4 := eh2.size
  have lbb1 := bxb1.lt
  refine s_pure (.bool false) (fun _ q => q) ?_
  refine s_nil ?_
  refine p_seqN ?_
  refine v_seq ?_
  refine v_seq ?_
  refine v_ops ?_
  refine s_pure (.pointer (some ⟨b1, 0, none⟩)) (fun _ q => q) ?_
  refine s_load v_n_towers (fun _ q => bxb1.load rfl q) ?_
  refine s_pure (.int .i64 (n.towers.length : Int)) (fun _ q => s_n_towers.lenVC q) ?_
  refine s_pure (.int .i64 0) (fun _ q => q) ?_
  refine s_nil ?_
  refine p_seqN ?_
  refine v_block ?_
  refine v_loop1 (α := Nat) (fun k => [(1, .pointer (some ⟨b1, 0, none⟩)), (8, v_n_towers), (9, .int .i64 (n.towers.length : Int)), (10, .int .i64 (k : Int))]) (fun k hh => Ext h hh ∧ Bx hh b1 [v_n_towers, v_n_links] 32 ∧ k ≤ n.towers.length ∧ ∀ t ∈ n.towers.take k, TowOk t) (fun k => n.towers.length - k) 0 ⟨rfl, rfl, rfl, rfl⟩ ⟨E3, bxb1, (by simp)⟩ ?_
  rintro k R6 h5 ⟨Eh, bxb1, ⟨hk, hall⟩⟩
  have zEh := Eh.size
  have f7 := s_n_towers.ext Eh
  have f8 := s_n_links.ext Eh
  have lbb1 := bxb1.lt
  refine v_seq ?_
  refine v_ops ?_
  refine s_pure (.bool (decide ((k : Int) < (n.towers.length : Int)))) (fun _ q => q) ?_
  refine s_nil ?_
  refine p_seqN ?_
  refine v_seq ?_
  refine v_cond rfl (fun c9 => ?_) (fun c9 => ?_)
  ·
    refine v_skip ?_
    refine p_seqN ?_
    refine v_seq ?_
    refine v_block ?_
    refine v_seq ?_
    refine v_ops ?_
    have hk10 : k < n.towers.length := (by first | omega | (simp; omega))
    obtain ⟨x11, hx11⟩ : ∃ x, n.towers[k]? = some x := ⟨_, List.getElem?_eq_getElem hk10⟩
    refine s_pure (.pointer (some ⟨sblk v_n_towers, soff v_n_towers + k * 3, none⟩)) (fun _ q => f7.idx (k := k) rfl hk10 q) ?_
    refine s_load (.agg #[.int .i64 x11.x, .int .i64 x11.y, .int .i64 x11.height]) (fun _ q => f7.loadN hx11 rfl q) ?_
    refine s_new (fun h13 b12 hbb12 hzb12 eh13 bxb12 => ?_)
    have E14 := Eh.trans eh13
    have z15 := eh13.size
    have lbb12 := bxb12.lt
    refine s_stBx (.agg #[.int .i64 x11.x, .int .i64 x11.y, .int .i64 x11.height]) [.int .i64 x11.x, .int .i64 x11.y, .int .i64 x11.height] [.int .i64 x11.x, .int .i64 x11.y, .int .i64 x11.height] bxb12 rfl rfl rfl rfl (by simp) (all_cons rfl (all_cons rfl (all_cons rfl all_nil))) rfl (fun h16 mh16 sh16 bxx17 => ?_)
    have E18 := E14.mod mh16 (fun b hb => by simp at hb; omega)
    refine s_nil ?_
    refine p_seqN ?_
    refine v_seq ?_
    refine v_ops ?_
    refine s_pure (.pointer (some ⟨b12, 0, none⟩)) (fun _ q => q) ?_
    refine s_load (.int .i64 x11.x) (fun _ q => bxx17.load rfl q) ?_
    refine s_callS [.int .i64 x11.x, .int .i64 0, .int .i64 999] (.bool (decide (0 ≤ x11.x ∧ x11.x ≤ 999))) rfl (l1In_ok x11.x 0 999 _ ) ?_
    refine s_pure (.bool (!(decide (0 ≤ x11.x ∧ x11.x ≤ 999)))) (fun _ q => q) ?_
    refine s_pure (.bool (!(decide (0 ≤ x11.x ∧ x11.x ≤ 999)))) (fun _ q => q) ?_
    refine s_splitT rfl (fun c19 => ?_) (fun c19 => ?_)
    ·
      refine s_pass rfl ?_
      refine s_pass rfl ?_
      refine s_pass rfl ?_
      refine s_pass rfl ?_
      refine s_pure (.bool true) (fun _ q => q) ?_
      refine s_pure (.bool true) (fun _ q => q) ?_
      refine s_splitY rfl rfl ?_
      refine s_pass rfl ?_
      refine s_pass rfl ?_
      refine s_pass rfl ?_
      refine s_pass rfl ?_
      refine s_pure (.bool true) (fun _ q => q) ?_
      refine s_nil ?_
      refine p_seqN ?_
      refine v_condY rfl rfl ?_
      refine v_seq ?_
      refine v_ops ?_
      refine s_pure (.bool false) (fun _ q => q) ?_
      refine s_nil ?_
      refine p_seqN ?_
      refine v_ret ?_
      refine p_blkR ?_
      refine p_seqR ?_
      refine p_lpR ?_
      refine p_blkR ?_
      refine p_seqR ?_
      refine p_ret [.bool false] (.bool false) (fun _ q => q) rfl ?_
      have ho : decide (NetOk n) = false := by first | exact net_bad (fun hn => by (have := hn.t1); (have := hn.t2); (have := hn.l2); omega) | exact net_badT (by assumption) (fun hp => absurd hp.1 (by assumption)) | exact net_badT (by assumption) (fun hp => absurd hp.2.1 (by assumption)) | exact net_badT (by assumption) (fun hp => absurd hp.2.2 (by assumption)) | exact net_badL (by assumption : n.links[j]? = some x11) (fun hp => by (have h1 := hp.1); (have hw := wrap_id (x11.b - 1) (by omega) (by omega)); omega) | exact net_badL (by assumption : n.links[j]? = some x11) (fun hp => by (have h1 := hp.2 (by omega) _ (by assumption : n.links[j - 1]? = some x11)); first | contradiction | ((have h2 := lkCmp_lt.2 h1); omega)) | exact net_end hall (by assumption) hlk (by assumption) (by simp; omega)
      exact ⟨by first | (rw [ho]; done) | rfl, E18⟩
    ·
      have c19 := Classical.not_not.1 c19
      refine s_run rfl ?_
      refine s_pure (.pointer (some ⟨b12, 1, none⟩)) (fun _ q => q) ?_
      refine s_run rfl ?_
      refine s_load (.int .i64 x11.y) (fun _ q => bxx17.load rfl q) ?_
      refine s_run rfl ?_
      refine s_callS [.int .i64 x11.y, .int .i64 0, .int .i64 999] (.bool (decide (0 ≤ x11.y ∧ x11.y ≤ 999))) rfl (l1In_ok x11.y 0 999 _ ) ?_
      refine s_run rfl ?_
      refine s_pure (.bool (!(decide (0 ≤ x11.y ∧ x11.y ≤ 999)))) (fun _ q => q) ?_
      refine s_pure (.bool (!(decide (0 ≤ x11.y ∧ x11.y ≤ 999)))) (fun _ q => q) ?_
      refine s_pure (.bool (!(decide (0 ≤ x11.y ∧ x11.y ≤ 999)))) (fun _ q => q) ?_
      refine s_splitT rfl (fun c20 => ?_) (fun c20 => ?_)
      ·
        refine s_pass rfl ?_
        refine s_pass rfl ?_
        refine s_pass rfl ?_
        refine s_pass rfl ?_
        refine s_pure (.bool true) (fun _ q => q) ?_
        refine s_nil ?_
        refine p_seqN ?_
        refine v_condY rfl rfl ?_
        refine v_seq ?_
        refine v_ops ?_
        refine s_pure (.bool false) (fun _ q => q) ?_
        refine s_nil ?_
        refine p_seqN ?_
        refine v_ret ?_
        refine p_blkR ?_
        refine p_seqR ?_
        refine p_lpR ?_
        refine p_blkR ?_
        refine p_seqR ?_
        refine p_ret [.bool false] (.bool false) (fun _ q => q) rfl ?_
        have ho : decide (NetOk n) = false := by first | exact net_bad (fun hn => by (have := hn.t1); (have := hn.t2); (have := hn.l2); omega) | exact net_badT (by assumption) (fun hp => absurd hp.1 (by assumption)) | exact net_badT (by assumption) (fun hp => absurd hp.2.1 (by assumption)) | exact net_badT (by assumption) (fun hp => absurd hp.2.2 (by assumption)) | exact net_badL (by assumption : n.links[j]? = some x11) (fun hp => by (have h1 := hp.1); (have hw := wrap_id (x11.b - 1) (by omega) (by omega)); omega) | exact net_badL (by assumption : n.links[j]? = some x11) (fun hp => by (have h1 := hp.2 (by omega) _ (by assumption : n.links[j - 1]? = some x11)); first | contradiction | ((have h2 := lkCmp_lt.2 h1); omega)) | exact net_end hall (by assumption) hlk (by assumption) (by simp; omega)
        exact ⟨by first | (rw [ho]; done) | rfl, E18⟩
      ·
        have c20 := Classical.not_not.1 c20
        refine s_run rfl ?_
        refine s_pure (.pointer (some ⟨b12, 2, none⟩)) (fun _ q => q) ?_
        refine s_run rfl ?_
        refine s_load (.int .i64 x11.height) (fun _ q => bxx17.load rfl q) ?_
        refine s_run rfl ?_
        refine s_callS [.int .i64 x11.height, .int .i64 0, .int .i64 500] (.bool (decide (0 ≤ x11.height ∧ x11.height ≤ 500))) rfl (l1In_ok x11.height 0 500 _ ) ?_
        refine s_run rfl ?_
        refine s_pure (.bool (!(decide (0 ≤ x11.height ∧ x11.height ≤ 500)))) (fun _ q => q) ?_
        refine s_pure (.bool (!(decide (0 ≤ x11.height ∧ x11.height ≤ 500)))) (fun _ q => q) ?_
        refine s_nil ?_
        refine p_seqN ?_
        refine v_cond rfl (fun c21 => ?_) (fun c21 => ?_)
        ·
          refine v_seq ?_
          refine v_ops ?_
          refine s_pure (.bool false) (fun _ q => q) ?_
          refine s_nil ?_
          refine p_seqN ?_
          refine v_ret ?_
          refine p_blkR ?_
          refine p_seqR ?_
          refine p_lpR ?_
          refine p_blkR ?_
          refine p_seqR ?_
          refine p_ret [.bool false] (.bool false) (fun _ q => q) rfl ?_
          have ho : decide (NetOk n) = false := by first | exact net_bad (fun hn => by (have := hn.t1); (have := hn.t2); (have := hn.l2); omega) | exact net_badT (by assumption) (fun hp => absurd hp.1 (by assumption)) | exact net_badT (by assumption) (fun hp => absurd hp.2.1 (by assumption)) | exact net_badT (by assumption) (fun hp => absurd hp.2.2 (by assumption)) | exact net_badL (by assumption : n.links[j]? = some x11) (fun hp => by (have h1 := hp.1); (have hw := wrap_id (x11.b - 1) (by omega) (by omega)); omega) | exact net_badL (by assumption : n.links[j]? = some x11) (fun hp => by (have h1 := hp.2 (by omega) _ (by assumption : n.links[j - 1]? = some x11)); first | contradiction | ((have h2 := lkCmp_lt.2 h1); omega)) | exact net_end hall (by assumption) hlk (by assumption) (by simp; omega)
          exact ⟨by first | (rw [ho]; done) | rfl, E18⟩
        ·
          have c21 := Classical.not_not.1 c21
          refine v_skip ?_
          refine p_blkN ?_
          refine p_seqN ?_
          refine v_ops ?_
          refine s_pure (.int .i64 ((k : Int) + 1)) (fun _ q => ArithVC.mk (by omega) q) ?_
          refine s_pure (.int .i64 ((k : Int) + 1)) (fun _ q => q) ?_
          refine s_nil ?_
          have f22 := ((bxb1.ext eh13).mod mh16 (by simp; omega))
          exact p_lpN ⟨k + 1, ⟨rfl, rfl, rfl, rfl⟩, ⟨E18, f22, (by exact ⟨by omega, all_snoc (P := TowOk) hall (by assumption) ⟨by assumption, by assumption, by assumption⟩⟩)⟩, by omega⟩
  ·
    refine v_exit ?_
    refine p_seqX ?_
    refine p_lpX ?_
    refine p_blkX ?_
    refine p_seqN ?_
    refine v_seq ?_
    refine v_seq ?_
    refine v_ops ?_
    refine s_pure (.pointer (some ⟨b1, 1, none⟩)) (fun _ q => q) ?_
    refine s_load v_n_links (fun _ q => bxb1.load rfl q) ?_
    refine s_pure (.int .i64 (n.links.length : Int)) (fun _ q => f8.lenVC q) ?_
    refine s_pure (.int .i64 0) (fun _ q => q) ?_
    refine s_nil ?_
    refine p_seqN ?_
    refine v_block ?_
    refine v_loop1 (α := Nat) (fun j => [(1, .pointer (some ⟨b1, 0, none⟩)), (32, v_n_links), (33, .int .i64 (n.links.length : Int)), (34, .int .i64 (j : Int))]) (fun j hh => Ext h hh ∧ Bx hh b1 [v_n_towers, v_n_links] 32 ∧ j ≤ n.links.length ∧ LinksOk n.towers.length n.links j) (fun j => n.links.length - j) 0 ⟨rfl, rfl, rfl, rfl⟩ ⟨Eh, bxb1, (by exact ⟨by omega, fun i x hi => by omega⟩)⟩ ?_
    rintro j R24 h23 ⟨Eh, bxb1, ⟨hj, hlk⟩⟩
    have zEh := Eh.size
    have f25 := s_n_towers.ext Eh
    have f26 := s_n_links.ext Eh
    have lbb1 := bxb1.lt
    refine v_seq ?_
    refine v_ops ?_
    refine s_pure (.bool (decide ((j : Int) < (n.links.length : Int)))) (fun _ q => q) ?_
    refine s_nil ?_
    refine p_seqN ?_
    refine v_seq ?_
    refine v_cond rfl (fun c27 => ?_) (fun c27 => ?_)
    ·
      refine v_skip ?_
      refine p_seqN ?_
      refine v_seq ?_
      refine v_block ?_
      refine v_seq ?_
      refine v_ops ?_
      refine s_pure (.int .i64 (j : Int)) (fun _ q => q) ?_
      have hk28 : j < n.links.length := (by first | omega | (simp; omega))
      obtain ⟨x29, hx29⟩ : ∃ x, n.links[j]? = some x := ⟨_, List.getElem?_eq_getElem hk28⟩
      refine s_pure (.pointer (some ⟨sblk v_n_links, soff v_n_links + j * 3, none⟩)) (fun _ q => f26.idx (k := j) rfl hk28 q) ?_
      refine s_load (.agg #[.int .i64 x29.a, .int .i64 x29.b, .int .i64 x29.delay]) (fun _ q => f26.loadN hx29 rfl q) ?_
      refine s_new (fun h31 b30 hbb30 hzb30 eh31 bxb30 => ?_)
      have E32 := Eh.trans eh31
      have z33 := eh31.size
      have lbb30 := bxb30.lt
      refine s_pure (.int .i64 (j : Int)) (fun _ q => q) ?_
      refine s_stBx (.agg #[.int .i64 x29.a, .int .i64 x29.b, .int .i64 x29.delay]) [.int .i64 x29.a, .int .i64 x29.b, .int .i64 x29.delay] [.int .i64 x29.a, .int .i64 x29.b, .int .i64 x29.delay] bxb30 rfl rfl rfl rfl (by simp) (all_cons rfl (all_cons rfl (all_cons rfl all_nil))) rfl (fun h34 mh34 sh34 bxx35 => ?_)
      have E36 := E32.mod mh34 (fun b hb => by simp at hb; omega)
      refine s_nil ?_
      refine p_seqN ?_
      refine v_seq ?_
      have f37 := ((bxb1.ext eh31).mod mh34 (by simp; omega))
      have f38 := ((f26.ext eh31).mod mh34 (fun b hb hc => by simp at hc; have := lt_n_links b hb; omega))
      refine v_draw (DrawVC.hold ([b30] ++ [b1] ++ blks v_n_links) ?_)
      refine d_pureT (.pointer (some ⟨b30, 0, none⟩)) (fun _ q => q) ?_
      refine d_pureT (.pointer (some ⟨b30, 1, none⟩)) (fun _ q => q) ?_
      refine d_loadO (.int .i64 x29.a) (fun _ q => bxx35.load rfl q) ?_
      refine d_loadO (.int .i64 x29.b) (fun _ q => bxx35.load rfl q) ?_
      refine d_pureT (.int .i64 (IntKind.i64.wrap (x29.b - 1))) (fun _ q => ArithVC.raw q) ?_
      refine d_eff ?_
      refine s_callS [.int .i64 x29.a, .int .i64 0, .int .i64 (IntKind.i64.wrap (x29.b - 1))] (.bool (decide (0 ≤ x29.a ∧ x29.a ≤ (IntKind.i64.wrap (x29.b - 1))))) rfl (l1In_ok x29.a 0 (IntKind.i64.wrap (x29.b - 1)) _ ) ?_
      refine s_nil ⟨fun _ x hx => rfl, ?_⟩
      refine d_pureT (.bool (!(decide (0 ≤ x29.a ∧ x29.a ≤ (IntKind.i64.wrap (x29.b - 1)))))) (fun _ q => q) ?_
      refine d_pureT (.bool (!(decide (0 ≤ x29.a ∧ x29.a ≤ (IntKind.i64.wrap (x29.b - 1)))))) (fun _ q => q) ?_
      refine d_splitT rfl (fun c39 => ?_) (fun c39 => ?_)
      ·
        refine d_passT rfl ?_
        refine d_passT rfl ?_
        refine d_passT rfl ?_
        refine d_passO rfl ?_
        refine d_passT rfl ?_
        refine d_passT rfl ?_
        refine d_passO rfl ?_
        refine d_passT rfl ?_
        refine d_pureT (.bool true) (fun _ q => q) ?_
        refine d_pureT (.bool true) (fun _ q => q) ?_
        refine d_splitY rfl rfl ?_
        refine d_passT rfl ?_
        refine d_passO rfl ?_
        refine d_passO rfl ?_
        refine d_passT rfl ?_
        refine d_pureT (.bool true) (fun _ q => q) ?_
        refine d_pureT (.bool true) (fun _ q => q) ?_
        refine d_splitY rfl rfl ?_
        refine d_passT rfl ?_
        refine d_passT rfl ?_
        refine d_passT rfl ?_
        refine d_splitU rfl ?_
        refine d_passTU rfl ?_
        refine d_passTU rfl ?_
        refine d_passTU rfl ?_
        refine d_passTU rfl ?_
        refine d_passTU rfl ?_
        refine d_passTU rfl ?_
        refine d_passOU rfl ?_
        refine d_passOU rfl ?_
        refine d_passTU rfl ?_
        refine d_passT rfl ?_
        refine d_pureT (.bool true) (fun _ q => q) ?_
        refine d_done ?_
        refine p_seqN ?_
        refine v_condY rfl rfl ?_
        refine v_seq ?_
        refine v_ops ?_
        refine s_pure (.bool false) (fun _ q => q) ?_
        refine s_nil ?_
        refine p_seqN ?_
        refine v_ret ?_
        refine p_blkR ?_
        refine p_seqR ?_
        refine p_lpR ?_
        refine p_blkR ?_
        refine p_seqR ?_
        refine p_ret [.bool false] (.bool false) (fun _ q => q) rfl ?_
        have ho : decide (NetOk n) = false := by first | exact net_bad (fun hn => by (have := hn.t1); (have := hn.t2); (have := hn.l2); omega) | exact net_badT (by assumption) (fun hp => absurd hp.1 (by assumption)) | exact net_badT (by assumption) (fun hp => absurd hp.2.1 (by assumption)) | exact net_badT (by assumption) (fun hp => absurd hp.2.2 (by assumption)) | exact net_badL (by assumption : n.links[j]? = some x29) (fun hp => by (have h1 := hp.1); (have hw := wrap_id (x29.b - 1) (by omega) (by omega)); omega) | exact net_badL (by assumption : n.links[j]? = some x29) (fun hp => by (have h1 := hp.2 (by omega) _ (by assumption : n.links[j - 1]? = some x29)); first | contradiction | ((have h2 := lkCmp_lt.2 h1); omega)) | exact net_end hall (by assumption) hlk (by assumption) (by simp; omega)
        exact ⟨by first | (rw [ho]; done) | rfl, E36⟩
      ·
        have c39 := Classical.not_not.1 c39
        refine d_runT rfl ?_
        refine d_pureT (.pointer (some ⟨b30, 1, none⟩)) (fun _ q => q) ?_
        refine d_runT rfl ?_
        refine d_pureT (.pointer (some ⟨b1, 0, none⟩)) (fun _ q => q) ?_
        refine d_runT rfl ?_
        refine d_loadT (.int .i64 x29.b) (fun _ q => bxx35.take (by simp) rfl q) ?_
        refine d_runO rfl ?_
        refine d_loadO v_n_towers (fun _ q => f37.load rfl q) ?_
        refine d_runT rfl ?_
        refine d_pureT (.int .i64 (n.towers.length : Int)) (fun _ q => f25.lenVC q) ?_
        refine d_runT rfl ?_
        refine d_pureT (.int .i64 ((n.towers.length : Int) - 1)) (fun _ q => ArithVC.mk (by omega) q) ?_
        refine d_runO rfl ?_
        refine d_eff ?_
        refine s_callS [.int .i64 x29.b, .int .i64 0, .int .i64 ((n.towers.length : Int) - 1)] (.bool (decide (0 ≤ x29.b ∧ x29.b ≤ ((n.towers.length : Int) - 1)))) rfl (l1In_ok x29.b 0 ((n.towers.length : Int) - 1) _ ) ?_
        refine s_nil ⟨fun _ x hx => rfl, ?_⟩
        refine d_runT rfl ?_
        refine d_pureT (.bool (!(decide (0 ≤ x29.b ∧ x29.b ≤ ((n.towers.length : Int) - 1))))) (fun _ q => q) ?_
        refine d_pureT (.bool (!(decide (0 ≤ x29.b ∧ x29.b ≤ ((n.towers.length : Int) - 1))))) (fun _ q => q) ?_
        refine d_pureT (.bool (!(decide (0 ≤ x29.b ∧ x29.b ≤ ((n.towers.length : Int) - 1))))) (fun _ q => q) ?_
        refine d_splitT rfl (fun c40 => ?_) (fun c40 => ?_)
        ·
          refine d_passT rfl ?_
          refine d_passO rfl ?_
          refine d_passO rfl ?_
          refine d_passT rfl ?_
          refine d_pureT (.bool true) (fun _ q => q) ?_
          refine d_pureT (.bool true) (fun _ q => q) ?_
          refine d_splitY rfl rfl ?_
          refine d_passT rfl ?_
          refine d_passT rfl ?_
          refine d_passT rfl ?_
          refine d_splitU rfl ?_
          refine d_passTU rfl ?_
          refine d_passTU rfl ?_
          refine d_passTU rfl ?_
          refine d_passTU rfl ?_
          refine d_passTU rfl ?_
          refine d_passTU rfl ?_
          refine d_passOU rfl ?_
          refine d_passOU rfl ?_
          refine d_passTU rfl ?_
          refine d_passT rfl ?_
          refine d_pureT (.bool true) (fun _ q => q) ?_
          refine d_done ?_
          refine p_seqN ?_
          refine v_condY rfl rfl ?_
          refine v_seq ?_
          refine v_ops ?_
          refine s_pure (.bool false) (fun _ q => q) ?_
          refine s_nil ?_
          refine p_seqN ?_
          refine v_ret ?_
          refine p_blkR ?_
          refine p_seqR ?_
          refine p_lpR ?_
          refine p_blkR ?_
          refine p_seqR ?_
          refine p_ret [.bool false] (.bool false) (fun _ q => q) rfl ?_
          have ho : decide (NetOk n) = false := by first | exact net_bad (fun hn => by (have := hn.t1); (have := hn.t2); (have := hn.l2); omega) | exact net_badT (by assumption) (fun hp => absurd hp.1 (by assumption)) | exact net_badT (by assumption) (fun hp => absurd hp.2.1 (by assumption)) | exact net_badT (by assumption) (fun hp => absurd hp.2.2 (by assumption)) | exact net_badL (by assumption : n.links[j]? = some x29) (fun hp => by (have h1 := hp.1); (have hw := wrap_id (x29.b - 1) (by omega) (by omega)); omega) | exact net_badL (by assumption : n.links[j]? = some x29) (fun hp => by (have h1 := hp.2 (by omega) _ (by assumption : n.links[j - 1]? = some x29)); first | contradiction | ((have h2 := lkCmp_lt.2 h1); omega)) | exact net_end hall (by assumption) hlk (by assumption) (by simp; omega)
          exact ⟨by first | (rw [ho]; done) | rfl, E36⟩
        ·
          have c40 := Classical.not_not.1 c40
          refine d_runT rfl ?_
          refine d_pureT (.pointer (some ⟨b30, 2, none⟩)) (fun _ q => q) ?_
          refine d_runO rfl ?_
          refine d_loadO (.int .i64 x29.delay) (fun _ q => bxx35.load rfl q) ?_
          refine d_runO rfl ?_
          refine d_eff ?_
          refine s_callS [.int .i64 x29.delay, .int .i64 1, .int .i64 60] (.bool (decide (1 ≤ x29.delay ∧ x29.delay ≤ 60))) rfl (l1In_ok x29.delay 1 60 _ ) ?_
          refine s_nil ⟨fun _ x hx => rfl, ?_⟩
          refine d_runT rfl ?_
          refine d_pureT (.bool (!(decide (1 ≤ x29.delay ∧ x29.delay ≤ 60)))) (fun _ q => q) ?_
          refine d_pureT (.bool (!(decide (1 ≤ x29.delay ∧ x29.delay ≤ 60)))) (fun _ q => q) ?_
          refine d_pureT (.bool (!(decide (1 ≤ x29.delay ∧ x29.delay ≤ 60)))) (fun _ q => q) ?_
          refine d_splitT rfl (fun c41 => ?_) (fun c41 => ?_)
          ·
            refine d_passT rfl ?_
            refine d_passT rfl ?_
            refine d_passT rfl ?_
            refine d_splitU rfl ?_
            refine d_passTU rfl ?_
            refine d_passTU rfl ?_
            refine d_passTU rfl ?_
            refine d_passTU rfl ?_
            refine d_passTU rfl ?_
            refine d_passTU rfl ?_
            refine d_passOU rfl ?_
            refine d_passOU rfl ?_
            refine d_passTU rfl ?_
            refine d_passT rfl ?_
            refine d_pureT (.bool true) (fun _ q => q) ?_
            refine d_done ?_
            refine p_seqN ?_
            refine v_condY rfl rfl ?_
            refine v_seq ?_
            refine v_ops ?_
            refine s_pure (.bool false) (fun _ q => q) ?_
            refine s_nil ?_
            refine p_seqN ?_
            refine v_ret ?_
            refine p_blkR ?_
            refine p_seqR ?_
            refine p_lpR ?_
            refine p_blkR ?_
            refine p_seqR ?_
            refine p_ret [.bool false] (.bool false) (fun _ q => q) rfl ?_
            have ho : decide (NetOk n) = false := by first | exact net_bad (fun hn => by (have := hn.t1); (have := hn.t2); (have := hn.l2); omega) | exact net_badT (by assumption) (fun hp => absurd hp.1 (by assumption)) | exact net_badT (by assumption) (fun hp => absurd hp.2.1 (by assumption)) | exact net_badT (by assumption) (fun hp => absurd hp.2.2 (by assumption)) | exact net_badL (by assumption : n.links[j]? = some x29) (fun hp => by (have h1 := hp.1); (have hw := wrap_id (x29.b - 1) (by omega) (by omega)); omega) | exact net_badL (by assumption : n.links[j]? = some x29) (fun hp => by (have h1 := hp.2 (by omega) _ (by assumption : n.links[j - 1]? = some x29)); first | contradiction | ((have h2 := lkCmp_lt.2 h1); omega)) | exact net_end hall (by assumption) hlk (by assumption) (by simp; omega)
            exact ⟨by first | (rw [ho]; done) | rfl, E36⟩
          ·
            have c41 := Classical.not_not.1 c41
            refine d_runT rfl ?_
            refine d_pureT (.int .i64 (j : Int)) (fun _ q => q) ?_
            refine d_runT rfl ?_
            refine d_pureT (.bool (decide ((j : Int) > 0))) (fun _ q => q) ?_
            refine d_runT rfl ?_
            refine d_pureT (.bool (decide ((j : Int) > 0))) (fun _ q => q) ?_
            refine d_splitT rfl (fun c42 => ?_) (fun c42 => ?_)
            ·
              refine d_runT rfl ?_
              refine d_pureT (.pointer (some ⟨b1, 1, none⟩)) (fun _ q => q) ?_
              refine d_runT rfl ?_
              refine d_pureT (.int .i64 (j : Int)) (fun _ q => q) ?_
              refine d_runT rfl ?_
              refine d_pureT (.int .i64 ((j : Int) - 1)) (fun _ q => ArithVC.mk (by omega) q) ?_
              refine d_runT rfl ?_
              refine d_loadT v_n_links (fun _ q => f37.take (by simp) rfl q) ?_
              refine d_runT rfl ?_
              have hk43 : (j - 1) < n.links.length := (by first | omega | (simp; omega))
              obtain ⟨x44, hx44⟩ : ∃ x, n.links[(j - 1)]? = some x := ⟨_, List.getElem?_eq_getElem hk43⟩
              refine d_pureT (.pointer (some ⟨sblk v_n_links, soff v_n_links + (j - 1) * 3, none⟩)) (fun _ q => f38.idx (k := (j - 1)) (by omega) hk43 q) ?_
              refine d_runT rfl ?_
              refine d_loadT (.agg #[.int .i64 x44.a, .int .i64 x44.b, .int .i64 x44.delay]) (fun _ q => f38.takeN (fun b hb => by simp [hb]) hx44 rfl q) ?_
              refine d_runO rfl ?_
              refine d_loadO (.agg #[.int .i64 x29.a, .int .i64 x29.b, .int .i64 x29.delay]) (fun _ q => bxx35.loadA rfl q) ?_
              refine d_runO rfl ?_
              refine d_eff ?_
              refine s_call [.agg #[.int .i64 x44.a, .int .i64 x44.b, .int .i64 x44.delay], .agg #[.int .i64 x29.a, .int .i64 x29.b, .int .i64 x29.delay]] rfl (spec_neBefore_ok x44 x29 _ ) ?_
              rintro _ h45 ⟨rfl, eh45⟩
              have E46 := E36.trans eh45
              have z47 := eh45.size
              have G48 := eh45
              refine s_nil ⟨fun hl => (by cases hl), ?_⟩
              refine d_runT rfl ?_
              refine d_pureT (.bool (!(decide (lkLt x44 x29)))) (fun _ q => q) ?_
              refine d_runT rfl ?_
              refine d_pureT (.bool (!(decide (lkLt x44 x29)))) (fun _ q => q) ?_
              refine d_pureT (.bool (!(decide (lkLt x44 x29)))) (fun _ q => q) ?_
              refine d_done ?_
              refine p_seqN ?_
              refine v_cond rfl (fun c49 => ?_) (fun c49 => ?_)
              ·
                refine v_seq ?_
                refine v_ops ?_
                refine s_pure (.bool false) (fun _ q => q) ?_
                refine s_nil ?_
                refine p_seqN ?_
                refine v_ret ?_
                refine p_blkR ?_
                refine p_seqR ?_
                refine p_lpR ?_
                refine p_blkR ?_
                refine p_seqR ?_
                refine p_ret [.bool false] (.bool false) (fun _ q => q) rfl ?_
                have ho : decide (NetOk n) = false := by first | exact net_bad (fun hn => by (have := hn.t1); (have := hn.t2); (have := hn.l2); omega) | exact net_badT (by assumption) (fun hp => absurd hp.1 (by assumption)) | exact net_badT (by assumption) (fun hp => absurd hp.2.1 (by assumption)) | exact net_badT (by assumption) (fun hp => absurd hp.2.2 (by assumption)) | exact net_badL (by assumption : n.links[j]? = some x29) (fun hp => by (have h1 := hp.1); (have hw := wrap_id (x29.b - 1) (by omega) (by omega)); omega) | exact net_badL (by assumption : n.links[j]? = some x29) (fun hp => by (have h1 := hp.2 (by omega) _ (by assumption : n.links[j - 1]? = some x44)); first | contradiction | ((have h2 := lkCmp_lt.2 h1); omega)) | exact net_end hall (by assumption) hlk (by assumption) (by simp; omega)
                exact ⟨by first | (rw [ho]; done) | rfl, E46⟩
              ·
                have c49 := Classical.not_not.1 c49
                refine v_skip ?_
                refine p_blkN ?_
                refine p_seqN ?_
                refine v_ops ?_
                refine s_pure (.int .i64 ((j : Int) + 1)) (fun _ q => ArithVC.mk (by omega) q) ?_
                refine s_pure (.int .i64 ((j : Int) + 1)) (fun _ q => q) ?_
                refine s_nil ?_
                have f50 := (f37.ext eh45)
                exact p_lpN ⟨j + 1, ⟨rfl, rfl, rfl, rfl⟩, ⟨E46, f50, (by (have hw := wrap_id (x29.b - 1) (by omega) (by omega)); exact ⟨by omega, links_snoc hlk (by assumption : n.links[j]? = some x29) (by omega) (fun h0 y hy => by first | omega | ((obtain rfl := Option.some.inj (hy.symm.trans (by assumption : n.links[j - 1]? = some x44))); first | assumption | exact lkCmp_lt.1 (by omega)))⟩)⟩, by omega⟩
            ·
              refine d_passT rfl ?_
              refine d_passT rfl ?_
              refine d_passT rfl ?_
              refine d_passT rfl ?_
              refine d_passT rfl ?_
              refine d_passT rfl ?_
              refine d_passO rfl ?_
              refine d_passO rfl ?_
              refine d_passT rfl ?_
              refine d_runT rfl ?_
              refine d_pureT (.bool false) (fun _ q => q) ?_
              refine d_pureT (.bool false) (fun _ q => q) ?_
              refine d_done ?_
              refine p_seqN ?_
              refine v_condN rfl (by simp) ?_
              refine v_skip ?_
              refine p_blkN ?_
              refine p_seqN ?_
              refine v_ops ?_
              refine s_pure (.int .i64 ((j : Int) + 1)) (fun _ q => ArithVC.mk (by omega) q) ?_
              refine s_pure (.int .i64 ((j : Int) + 1)) (fun _ q => q) ?_
              refine s_nil ?_
              exact p_lpN ⟨j + 1, ⟨rfl, rfl, rfl, rfl⟩, ⟨E36, f37, (by (have hw := wrap_id (x29.b - 1) (by omega) (by omega)); exact ⟨by omega, links_snoc hlk (by assumption : n.links[j]? = some x29) (by omega) (fun h0 y hy => by first | omega | ((obtain rfl := Option.some.inj (hy.symm.trans (by assumption : n.links[j - 1]? = some x29))); first | assumption | exact lkCmp_lt.1 (by omega)))⟩)⟩, by omega⟩
    ·
      refine v_exit ?_
      refine p_seqX ?_
      refine p_lpX ?_
      refine p_blkX ?_
      refine p_seqN ?_
      refine v_seq ?_
      refine v_ops ?_
      refine s_pure (.pointer (some ⟨b1, 0, none⟩)) (fun _ q => q) ?_
      refine s_load v_n_towers (fun _ q => bxb1.load rfl q) ?_
      refine s_pure (.int .i64 (n.towers.length : Int)) (fun _ q => f25.lenVC q) ?_
      refine s_callS [.int .i64 (n.towers.length : Int), .int .i64 1, .int .i64 16] (.bool (decide (1 ≤ (n.towers.length : Int) ∧ (n.towers.length : Int) ≤ 16))) rfl (l1In_ok (n.towers.length : Int) 1 16 _ ) ?_
      refine s_pure (.bool (decide (1 ≤ (n.towers.length : Int) ∧ (n.towers.length : Int) ≤ 16))) (fun _ q => q) ?_
      refine s_splitT rfl (fun c51 => ?_) (fun c51 => ?_)
      ·
        refine s_run rfl ?_
        refine s_pure (.pointer (some ⟨b1, 1, none⟩)) (fun _ q => q) ?_
        refine s_run rfl ?_
        refine s_load v_n_links (fun _ q => bxb1.load rfl q) ?_
        refine s_run rfl ?_
        refine s_pure (.int .i64 (n.links.length : Int)) (fun _ q => f26.lenVC q) ?_
        refine s_run rfl ?_
        refine s_pure (.bool (decide ((n.links.length : Int) ≤ 40))) (fun _ q => q) ?_
        refine s_pure (.bool (decide ((n.links.length : Int) ≤ 40))) (fun _ q => q) ?_
        refine s_pure (.bool (decide ((n.links.length : Int) ≤ 40))) (fun _ q => q) ?_
        refine s_nil ?_
        refine p_seqN ?_
        refine v_ret ?_
        refine p_ret [.bool (decide ((n.links.length : Int) ≤ 40))] (.bool (decide ((n.links.length : Int) ≤ 40))) (fun _ q => q) rfl ?_
        have ho : decide (NetOk n) = (decide ((n.links.length : Int) ≤ 40)) := by first | exact net_bad (fun hn => by (have := hn.t1); (have := hn.t2); (have := hn.l2); omega) | exact net_badT (by assumption) (fun hp => absurd hp.1 (by assumption)) | exact net_badT (by assumption) (fun hp => absurd hp.2.1 (by assumption)) | exact net_badT (by assumption) (fun hp => absurd hp.2.2 (by assumption)) | exact net_badL (by assumption : n.links[j]? = some xo__) (fun hp => by (have h1 := hp.1); (have hw := wrap_id (xo__.b - 1) (by omega) (by omega)); omega) | exact net_badL (by assumption : n.links[j]? = some xo__) (fun hp => by (have h1 := hp.2 (by omega) _ (by assumption : n.links[j - 1]? = some x__)); first | contradiction | ((have h2 := lkCmp_lt.2 h1); omega)) | exact net_end hall (by assumption) hlk (by assumption) (by simp; omega)
        exact ⟨by first | (rw [ho]; done) | rfl, Eh⟩
      ·
        refine s_pass rfl ?_
        refine s_pass rfl ?_
        refine s_pass rfl ?_
        refine s_pass rfl ?_
        refine s_pure (.bool false) (fun _ q => q) ?_
        refine s_pure (.bool false) (fun _ q => q) ?_
        refine s_nil ?_
        refine p_seqN ?_
        refine v_ret ?_
        refine p_ret [.bool false] (.bool false) (fun _ q => q) rfl ?_
        have ho : decide (NetOk n) = false := by first | exact net_bad (fun hn => by (have := hn.t1); (have := hn.t2); (have := hn.l2); omega) | exact net_badT (by assumption) (fun hp => absurd hp.1 (by assumption)) | exact net_badT (by assumption) (fun hp => absurd hp.2.1 (by assumption)) | exact net_badT (by assumption) (fun hp => absurd hp.2.2 (by assumption)) | exact net_badL (by assumption : n.links[j]? = some xo__) (fun hp => by (have h1 := hp.1); (have hw := wrap_id (xo__.b - 1) (by omega) (by omega)); omega) | exact net_badL (by assumption : n.links[j]? = some xo__) (fun hp => by (have h1 := hp.2 (by omega) _ (by assumption : n.links[j - 1]? = some x__)); first | contradiction | ((have h2 := lkCmp_lt.2 h1); omega)) | exact net_end hall (by assumption) hlk (by assumption) (by simp; omega)
        exact ⟨by first | (rw [ho]; done) | rfl, Eh⟩

theorem impl_isTower_ok (n : NetP) (v_n_towers : Value) (v_n_links : Value) (i : Int) (h : Heap) (s_n_towers : Sl h v_n_towers n.towers) (s_n_links : Sl h v_n_links n.links) : Cn f_impl_isTower [.agg #[v_n_towers, v_n_links], .int .i64 i] h fun v h' => v = .bool (decide (NetOk n ∧ (0 ≤ i ∧ i ≤ (n.towers.length : Int) - 1))) ∧ Ext h h' := by
  have lt_n_towers := s_n_towers.lt
  have l63_n_towers := s_n_towers.len63
  have lt_n_links := s_n_links.lt
  have l63_n_links := s_n_links.len63
  refine calls_of r_impl_isTower ?_
  refine v_seq ?_
  refine v_ops ?_
  refine s_box [v_n_towers, v_n_links] rfl (fun h2 b1 hbb1 hzb1 eh2 bxb1 => ?_)
  have E3 := (Ext.refl h).trans eh2
  have z4 := eh2.size
  have lbb1 := bxb1.lt
  refine s_pure (.bool false) (fun _ q => q) ?_
  refine s_nil ?_
  refine p_seqN ?_
  refine v_seq ?_
  refine v_ops ?_
  refine s_load (.agg #[v_n_towers, v_n_links]) (fun _ q => bxb1.loadA rfl q) ?_
  have f5 := (s_n_towers.ext eh2)
  have f6 := (s_n_links.ext eh2)
  refine s_call [.agg #[v_n_towers, v_n_links]] rfl (impl_IsNet_ok n v_n_towers v_n_links _ f5 f6) ?_
  rintro _ h7 ⟨rfl, eh7⟩
  have E8 := E3.trans eh7
  have z9 := eh7.size
  refine s_pure (.bool (decide (NetOk n))) (fun _ q => q) ?_
  refine s_splitT rfl (fun c10 => ?_) (fun c10 => ?_)
  ·
    refine s_run rfl ?_
    refine s_pure (.int .i64 i) (fun _ q => q) ?_
    refine s_run rfl ?_
    refine s_pure (.pointer (some ⟨b1, 0, none⟩)) (fun _ q => q) ?_
    refine s_run rfl ?_
    have f11 := (bxb1.ext eh7)
    refine s_load v_n_towers (fun _ q => f11.load rfl q) ?_
    refine s_run rfl ?_
    refine s_pure (.int .i64 (n.towers.length : Int)) (fun _ q => f5.lenVC q) ?_
    refine s_run rfl ?_
    refine s_pure (.int .i64 ((n.towers.length : Int) - 1)) (fun _ q => ArithVC.mk (by omega) q) ?_
    refine s_run rfl ?_
    refine s_callS [.int .i64 i, .int .i64 0, .int .i64 ((n.towers.length : Int) - 1)] (.bool (decide (0 ≤ i ∧ i ≤ ((n.towers.length : Int) - 1)))) rfl (within_ok i 0 ((n.towers.length : Int) - 1) _ ) ?_
    refine s_pure (.bool (decide (0 ≤ i ∧ i ≤ ((n.towers.length : Int) - 1)))) (fun _ q => q) ?_
    refine s_pure (.bool (decide (0 ≤ i ∧ i ≤ ((n.towers.length : Int) - 1)))) (fun _ q => q) ?_
    refine s_nil ?_
    refine p_seqN ?_
    refine v_ret ?_
    refine p_ret [.bool (decide (0 ≤ i ∧ i ≤ ((n.towers.length : Int) - 1)))] (.bool (decide (0 ≤ i ∧ i ≤ ((n.towers.length : Int) - 1)))) (fun _ q => q) rfl ?_
    have ho : (decide (NetOk n ∧ (0 ≤ i ∧ i ≤ (n.towers.length : Int) - 1))) = (decide (0 ≤ i ∧ i ≤ ((n.towers.length : Int) - 1))) := by simp [*]
    exact ⟨by first | (rw [ho]; done) | rfl, E8⟩
  ·
    refine s_pass rfl ?_
    refine s_pass rfl ?_
    refine s_pass rfl ?_
    refine s_pass rfl ?_
    refine s_pass rfl ?_
    refine s_pass rfl ?_
    refine s_pure (.bool false) (fun _ q => q) ?_
    refine s_pure (.bool false) (fun _ q => q) ?_
    refine s_nil ?_
    refine p_seqN ?_
    refine v_ret ?_
    refine p_ret [.bool false] (.bool false) (fun _ q => q) rfl ?_
    have ho : (decide (NetOk n ∧ (0 ≤ i ∧ i ≤ (n.towers.length : Int) - 1))) = false := by simp [*]
    exact ⟨by first | (rw [ho]; done) | rfl, E8⟩

theorem impl_isLink_ok (n : NetP) (v_n_towers : Value) (v_n_links : Value) (i : Int) (h : Heap) (s_n_towers : Sl h v_n_towers n.towers) (s_n_links : Sl h v_n_links n.links) : Cn f_impl_isLink [.agg #[v_n_towers, v_n_links], .int .i64 i] h fun v h' => v = .bool (decide (NetOk n ∧ (0 ≤ i ∧ i ≤ (n.links.length : Int) - 1))) ∧ Ext h h' := by
  have lt_n_towers := s_n_towers.lt
  have l63_n_towers := s_n_towers.len63
  have lt_n_links := s_n_links.lt
  have l63_n_links := s_n_links.len63
  refine calls_of r_impl_isLink ?_
  refine v_seq ?_
  refine v_ops ?_
  refine s_box [v_n_towers, v_n_links] rfl (fun h2 b1 hbb1 hzb1 eh2 bxb1 => ?_)
  have E3 := (Ext.refl h).trans eh2
  have z4 := eh2.size
  have lbb1 := bxb1.lt
  refine s_pure (.bool false) (fun _ q => q) ?_
  refine s_nil ?_
  refine p_seqN ?_
  refine v_seq ?_
  refine v_ops ?_
  refine s_load (.agg #[v_n_towers, v_n_links]) (fun _ q => bxb1.loadA rfl q) ?_
  have f5 := (s_n_towers.ext eh2)
  have f6 := (s_n_links.ext eh2)
  refine s_call [.agg #[v_n_towers, v_n_links]] rfl (impl_IsNet_ok n v_n_towers v_n_links _ f5 f6) ?_
  rintro _ h7 ⟨rfl, eh7⟩
  have E8 := E3.trans eh7
  have z9 := eh7.size
  refine s_pure (.bool (decide (NetOk n))) (fun _ q => q) ?_
  refine s_splitT rfl (fun c10 => ?_) (fun c10 => ?_)
  ·
    refine s_run rfl ?_
    refine s_pure (.int .i64 i) (fun _ q => q) ?_
    refine s_run rfl ?_
    refine s_pure (.pointer (some ⟨b1, 1, none⟩)) (fun _ q => q) ?_
    refine s_run rfl ?_
    have f11 := (bxb1.ext eh7)
    refine s_load v_n_links (fun _ q => f11.load rfl q) ?_
    refine s_run rfl ?_
    refine s_pure (.int .i64 (n.links.length : Int)) (fun _ q => f6.lenVC q) ?_
    refine s_run rfl ?_
    refine s_pure (.int .i64 ((n.links.length : Int) - 1)) (fun _ q => ArithVC.mk (by omega) q) ?_
    refine s_run rfl ?_
    refine s_callS [.int .i64 i, .int .i64 0, .int .i64 ((n.links.length : Int) - 1)] (.bool (decide (0 ≤ i ∧ i ≤ ((n.links.length : Int) - 1)))) rfl (within_ok i 0 ((n.links.length : Int) - 1) _ ) ?_
    refine s_pure (.bool (decide (0 ≤ i ∧ i ≤ ((n.links.length : Int) - 1)))) (fun _ q => q) ?_
    refine s_pure (.bool (decide (0 ≤ i ∧ i ≤ ((n.links.length : Int) - 1)))) (fun _ q => q) ?_
    refine s_nil ?_
    refine p_seqN ?_
    refine v_ret ?_
    refine p_ret [.bool (decide (0 ≤ i ∧ i ≤ ((n.links.length : Int) - 1)))] (.bool (decide (0 ≤ i ∧ i ≤ ((n.links.length : Int) - 1)))) (fun _ q => q) rfl ?_
    have ho : (decide (NetOk n ∧ (0 ≤ i ∧ i ≤ (n.links.length : Int) - 1))) = (decide (0 ≤ i ∧ i ≤ ((n.links.length : Int) - 1))) := by simp [*]
    exact ⟨by first | (rw [ho]; done) | rfl, E8⟩
  ·
    refine s_pass rfl ?_
    refine s_pass rfl ?_
    refine s_pass rfl ?_
    refine s_pass rfl ?_
    refine s_pass rfl ?_
    refine s_pass rfl ?_
    refine s_pure (.bool false) (fun _ q => q) ?_
    refine s_pure (.bool false) (fun _ q => q) ?_
    refine s_nil ?_
    refine p_seqN ?_
    refine v_ret ?_
    refine p_ret [.bool false] (.bool false) (fun _ q => q) rfl ?_
    have ho : (decide (NetOk n ∧ (0 ≤ i ∧ i ≤ (n.links.length : Int) - 1))) = false := by simp [*]
    exact ⟨by first | (rw [ho]; done) | rfl, E8⟩

theorem spec_roTower_ok (n : NetP) (v_n_towers : Value) (v_n_links : Value) (i : Int) (h : Heap) (s_n_towers : Sl h v_n_towers n.towers) (s_n_links : Sl h v_n_links n.links) : Cn f_spec_roTower [.agg #[v_n_towers, v_n_links], .int .i64 i] h fun v h' => v = .bool (decide (0 ≤ i ∧ i ≤ (n.towers.length : Int) - 1)) ∧ Ext h h' := by
  have lt_n_towers := s_n_towers.lt
  have l63_n_towers := s_n_towers.len63
  have lt_n_links := s_n_links.lt
  have l63_n_links := s_n_links.len63
  refine calls_of r_spec_roTower ?_
  refine v_seq ?_
  refine v_ops ?_
  refine s_box [v_n_towers, v_n_links] rfl (fun h2 b1 hbb1 hzb1 eh2 bxb1 => ?_)
  have E3 := (Ext.refl h).trans eh2
  have z4 := eh2.size
  have lbb1 := bxb1.lt
  refine s_pure (.bool false) (fun _ q => q) ?_
  refine s_nil ?_
  refine p_seqN ?_
  refine v_seq ?_
  refine v_ops ?_
  refine s_pure (.int .i64 i) (fun _ q => q) ?_
  refine s_pure (.pointer (some ⟨b1, 0, none⟩)) (fun _ q => q) ?_
  refine s_load v_n_towers (fun _ q => bxb1.load rfl q) ?_
  refine s_pure (.int .i64 (n.towers.length : Int)) (fun _ q => s_n_towers.lenVC q) ?_
  refine s_pure (.int .i64 ((n.towers.length : Int) - 1)) (fun _ q => ArithVC.mk (by omega) q) ?_
  refine s_callS [.int .i64 i, .int .i64 0, .int .i64 ((n.towers.length : Int) - 1)] (.bool (decide (0 ≤ i ∧ i ≤ ((n.towers.length : Int) - 1)))) rfl (l1In_ok i 0 ((n.towers.length : Int) - 1) _ ) ?_
  refine s_pure (.bool (decide (0 ≤ i ∧ i ≤ ((n.towers.length : Int) - 1)))) (fun _ q => q) ?_
  refine s_nil ?_
  refine p_seqN ?_
  refine v_ret ?_
  refine p_ret [.bool (decide (0 ≤ i ∧ i ≤ ((n.towers.length : Int) - 1)))] (.bool (decide (0 ≤ i ∧ i ≤ ((n.towers.length : Int) - 1)))) (fun _ q => q) rfl ?_
  have ho : (decide (0 ≤ i ∧ i ≤ (n.towers.length : Int) - 1)) = (decide (0 ≤ i ∧ i ≤ ((n.towers.length : Int) - 1))) := by simp
  exact ⟨by first | (rw [ho]; done) | rfl, E3⟩

theorem spec_neHas_ok (n : NetP) (v_n_towers : Value) (v_n_links : Value) (i : Int) (h : Heap) (s_n_towers : Sl h v_n_towers n.towers) (s_n_links : Sl h v_n_links n.links) : Cn f_spec_neHas [.agg #[v_n_towers, v_n_links], .int .i64 i] h fun v h' => v = .bool (decide (NetOk n ∧ (0 ≤ i ∧ i ≤ (n.towers.length : Int) - 1))) ∧ Ext h h' := by
  have lt_n_towers := s_n_towers.lt
  have l63_n_towers := s_n_towers.len63
  have lt_n_links := s_n_links.lt
  have l63_n_links := s_n_links.len63
  refine calls_of r_spec_neHas ?_
  refine v_seq ?_
  refine v_ops ?_
  refine s_box [v_n_towers, v_n_links] rfl (fun h2 b1 hbb1 hzb1 eh2 bxb1 => ?_)
  have E3 := (Ext.refl h).trans eh2
  have z4 := eh2.size
  have lbb1 := bxb1.lt
  refine s_pure (.bool false) (fun _ q => q) ?_
  refine s_nil ?_
  refine p_seqN ?_
  refine v_seq ?_
  refine v_ops ?_
  refine s_load (.agg #[v_n_towers, v_n_links]) (fun _ q => bxb1.loadA rfl q) ?_
  have f5 := (s_n_towers.ext eh2)
  have f6 := (s_n_links.ext eh2)
  refine s_call [.agg #[v_n_towers, v_n_links]] rfl (spec_neGood_ok n v_n_towers v_n_links _ f5 f6) ?_
  rintro _ h7 ⟨rfl, eh7⟩
  have E8 := E3.trans eh7
  have z9 := eh7.size
  refine s_pure (.bool (decide (NetOk n))) (fun _ q => q) ?_
  refine s_splitT rfl (fun c10 => ?_) (fun c10 => ?_)
  ·
    refine s_run rfl ?_
    refine s_pure (.int .i64 i) (fun _ q => q) ?_
    refine s_run rfl ?_
    refine s_pure (.pointer (some ⟨b1, 0, none⟩)) (fun _ q => q) ?_
    refine s_run rfl ?_
    have f11 := (bxb1.ext eh7)
    refine s_load v_n_towers (fun _ q => f11.load rfl q) ?_
    refine s_run rfl ?_
    refine s_pure (.int .i64 (n.towers.length : Int)) (fun _ q => f5.lenVC q) ?_
    refine s_run rfl ?_
    refine s_pure (.int .i64 ((n.towers.length : Int) - 1)) (fun _ q => ArithVC.mk (by omega) q) ?_
    refine s_run rfl ?_
    refine s_callS [.int .i64 i, .int .i64 0, .int .i64 ((n.towers.length : Int) - 1)] (.bool (decide (0 ≤ i ∧ i ≤ ((n.towers.length : Int) - 1)))) rfl (l1In_ok i 0 ((n.towers.length : Int) - 1) _ ) ?_
    refine s_pure (.bool (decide (0 ≤ i ∧ i ≤ ((n.towers.length : Int) - 1)))) (fun _ q => q) ?_
    refine s_pure (.bool (decide (0 ≤ i ∧ i ≤ ((n.towers.length : Int) - 1)))) (fun _ q => q) ?_
    refine s_nil ?_
    refine p_seqN ?_
    refine v_ret ?_
    refine p_ret [.bool (decide (0 ≤ i ∧ i ≤ ((n.towers.length : Int) - 1)))] (.bool (decide (0 ≤ i ∧ i ≤ ((n.towers.length : Int) - 1)))) (fun _ q => q) rfl ?_
    have ho : (decide (NetOk n ∧ (0 ≤ i ∧ i ≤ (n.towers.length : Int) - 1))) = (decide (0 ≤ i ∧ i ≤ ((n.towers.length : Int) - 1))) := by simp [*]
    exact ⟨by first | (rw [ho]; done) | rfl, E8⟩
  ·
    refine s_pass rfl ?_
    refine s_pass rfl ?_
    refine s_pass rfl ?_
    refine s_pass rfl ?_
    refine s_pass rfl ?_
    refine s_pass rfl ?_
    refine s_pure (.bool false) (fun _ q => q) ?_
    refine s_pure (.bool false) (fun _ q => q) ?_
    refine s_nil ?_
    refine p_seqN ?_
    refine v_ret ?_
    refine p_ret [.bool false] (.bool false) (fun _ q => q) rfl ?_
    have ho : (decide (NetOk n ∧ (0 ≤ i ∧ i ≤ (n.towers.length : Int) - 1))) = false := by simp [*]
    exact ⟨by first | (rw [ho]; done) | rfl, E8⟩

end Go.Proofs.Ythagdkmalchhgaa
