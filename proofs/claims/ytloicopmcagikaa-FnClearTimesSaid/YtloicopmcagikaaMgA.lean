/- Laws1, Flat1, Laws2, Com1, Com2, Find, Ro1, Ro2, Ro3. Condition: none. -/
import Derived.Test.YtloicopmcagikaaCode
import Derived.Test.YtloicopmcagikaaLib1
import Derived.Test.YtloicopmcagikaaDeep2
import Derived.Test.YtloicopmcagikaaTypes
import Derived.Test.YtloicopmcagikaaRes
import Derived.Test.YtloicopmcagikaaStep2
/- The laws' helpers on slices of ints: toIntS copies, eqIntS compares. Condition: none. -/
namespace Go.Proofs.Ytloicopmcagikaa
open Go.Vc

abbrev Cn (f : Nat) (args : List Value) (h : Heap) (R : Value → Heap → Prop) : Prop := CallsH Try.prog f args h R

end Go.Proofs.Ytloicopmcagikaa



/- The structs that the functions of this seat read. Condition: none. -/
namespace Go.Proofs.Ytloicopmcagikaa
open Go.Vc
set_option linter.all false
structure TowerD where
 x : Int
 y : Int
 height : Int
instance : DecidableEq TowerD := fun a b => decidable_of_iff (a.x = b.x ∧ a.y = b.y ∧ a.height = b.height) (by cases a; cases b; simp)
instance : Enc TowerD := ⟨3, fun a => [.int .i64 a.x, .int .i64 a.y, .int .i64 a.height], fun _ => rfl, by decide, fun a u h => by simp at h; rcases h with rfl | rfl | rfl <;> rfl⟩
structure LinkD where
 a : Int
 b : Int
 delay : Int
instance : DecidableEq LinkD := fun a b => decidable_of_iff (a.a = b.a ∧ a.b = b.b ∧ a.delay = b.delay) (by cases a; cases b; simp)
instance : Enc LinkD := ⟨3, fun a => [.int .i64 a.a, .int .i64 a.b, .int .i64 a.delay], fun _ => rfl, by decide, fun a u h => by simp at h; rcases h with rfl | rfl | rfl <;> rfl⟩
structure FogD where
 link : Int
 fr : Int
 til : Int
instance : DecidableEq FogD := fun a b => decidable_of_iff (a.link = b.link ∧ a.fr = b.fr ∧ a.til = b.til) (by cases a; cases b; simp)
instance : Enc FogD := ⟨3, fun a => [.int .i64 a.link, .int .i64 a.fr, .int .i64 a.til], fun _ => rfl, by decide, fun a u h => by simp at h; rcases h with rfl | rfl | rfl <;> rfl⟩
end Go.Proofs.Ytloicopmcagikaa




/- The laws' helpers on slices of ints: markIntS writes k, k + 1, .., heldIntS looks whether they are there. Condition: none. -/
namespace Go.Proofs.Ytloicopmcagikaa
open Go.Vc

end Go.Proofs.Ytloicopmcagikaa



/- Tests whether numbers lie within bounds. Condition: none. -/
namespace Go.Proofs.Ytloicopmcagikaa
open Go.Vc

theorem within_ok (n lo hi : Int) (h : Heap) : Cn f_impl_within [.int .i64 n, .int .i64 lo, .int .i64 hi] h fun v h' => v = .bool (decide (lo ≤ n ∧ n ≤ hi)) ∧ h' = h := by
  refine calls_of r_impl_within ?_
  refine SplitVC.mk (fun h1 => ?_) (fun h1 => ?_)
  · exact ⟨bool_is (by omega), rfl⟩
  · exact ⟨bool_f (by omega), rfl⟩
theorem l1In_ok (n lo hi : Int) (h : Heap) : Cn f_spec_l1In [.int .i64 n, .int .i64 lo, .int .i64 hi] h fun v h' => v = .bool (decide (lo ≤ n ∧ n ≤ hi)) ∧ h' = h := by
  refine calls_of r_spec_l1In ?_
  refine SplitVC.mk (fun h1 => ?_) (fun h1 => ?_)
  · exact ⟨bool_is (by omega), rfl⟩
  · exact ⟨bool_f (by omega), rfl⟩

end Go.Proofs.Ytloicopmcagikaa



/- Tests whether all numbers of a slice lie within bounds. Condition: none. -/
namespace Go.Proofs.Ytloicopmcagikaa
open Go.Vc

end Go.Proofs.Ytloicopmcagikaa



/- Where the first element lies of which a test holds. Condition: none. -/
namespace Go.Vc
/-- the index of the first element of which p holds, or -1 -/
def firstF {α : Type} (p : α → Bool) : List α → Nat → Int
  | [], _ => -1
  | x :: xs, i => bif p x then (i : Int) else firstF p xs (i + 1)
theorem firstF_nonneg {α : Type} (p : α → Bool) : ∀ (xs : List α) (i : Nat), 0 ≤ firstF p xs i ↔ xs.any p = true
  | [], i => by simp [firstF]
  | x :: xs, i => by
    simp only [firstF, List.any_cons]
    cases p x with
    | true => simp
    | false => simpa using firstF_nonneg p xs (i + 1)
theorem NilVC.mk {a : Option Addr} {n c : Nat} {ng : Bool} {K : Value → Prop} (hk : K (.bool (bif ng then !a.isNone else a.isNone))) : NilVC (.slice a n c) ng K := ⟨a, n, c, rfl, hk⟩
end Go.Vc



/- The laws' helpers on rows of towers, links, fogs. Condition: none. Printed in part by a program. -/
namespace Go.Proofs.Ytloicopmcagikaa
open Go.Vc
set_option linter.all false

end Go.Proofs.Ytloicopmcagikaa



/- The laws' helpers on nets. Condition: none. Printed in part by a program. -/
namespace Go.Proofs.Ytloicopmcagikaa
open Go.Vc
set_option linter.all false

structure NetP where
 towers : List TowerD
 links : List LinkD


end Go.Proofs.Ytloicopmcagikaa



/- Tests of nets. Condition: none. Printed in part by a program. -/
namespace Go.Proofs.Ytloicopmcagikaa
open Go.Vc
set_option linter.all false

def cmpI (a b : Int) : Int := if a < b then -1 else if a > b then 1 else 0
theorem cmpI_neg {a b : Int} : cmpI a b < 0 ↔ a < b := by unfold cmpI; (repeat' split) <;> omega
theorem cmpI_zero {a b : Int} : cmpI a b = 0 ↔ a = b := by unfold cmpI; (repeat' split) <;> omega
theorem cmpI_bd (a b : Int) : -1 ≤ cmpI a b ∧ cmpI a b ≤ 1 := by unfold cmpI; (repeat' split) <;> omega
def orL : List Int → Int
  | [] => 0
  | x :: l => if x ≠ 0 then x else orL l
theorem orL_drop {l : List Int} {k : Nat} (h : ∀ y ∈ l.take k, y = 0) : orL l = orL (l.drop k) := by
  induction k generalizing l with
  | zero => rfl
  | succ k ih =>
    cases l with
    | nil => rfl
    | cons x l =>
      have hx : x = 0 := h x (by simp)
      rw [orL, if_neg (by simp [hx]), List.drop_succ_cons]
      exact ih (fun y hy => h y (by simp only [List.take_succ_cons]; exact List.mem_cons_of_mem _ hy))
theorem drop_at {α : Type} {l : List α} {k : Nat} {x : α} (h : l[k]? = some x) : l.drop k = x :: l.drop (k + 1) := by
 have hk := (List.getElem?_eq_some_iff.1 h).1
 rw [List.drop_eq_getElem_cons hk, (List.getElem?_eq_some_iff.1 h).2]
theorem all_snoc {α : Type} {P : α → Prop} {l : List α} {k : Nat} {x : α} (h : ∀ y ∈ l.take k, P y) (hx : l[k]? = some x) (hp : P x) : ∀ y ∈ l.take (k + 1), P y := by
  rw [snoc_get hx]
  intro y hy
  rcases List.mem_append.1 hy with hy | hy
  · exact h y hy
  · obtain rfl := List.mem_singleton.1 hy; exact hp
abbrev lkLt (a b : LinkD) : Prop := a.a < b.a ∨ (a.a = b.a ∧ a.b < b.b)
def lkCmp (a b : LinkD) : Int := orL [cmpI a.a b.a, cmpI a.b b.b]
theorem lkCmp_lt {a b : LinkD} : lkCmp a b < 0 ↔ lkLt a b := by
  have h1 := @cmpI_neg a.a b.a
  have h2 := @cmpI_neg a.b b.b
  have h3 := @cmpI_zero a.a b.a
  have h4 := cmpI_bd a.a b.a
  have h5 := cmpI_bd a.b b.b
  unfold lkCmp orL orL orL lkLt
  split
  · omega
  · split <;> omega
abbrev TowOk (t : TowerD) : Prop := (0 ≤ t.x ∧ t.x ≤ 999) ∧ (0 ≤ t.y ∧ t.y ≤ 999) ∧ (0 ≤ t.height ∧ t.height ≤ 500)
abbrev LinkOk (m : Nat) (x : LinkD) : Prop := 0 ≤ x.a ∧ x.a < x.b ∧ x.b < (m : Int) ∧ 1 ≤ x.delay ∧ x.delay ≤ 60
/-- the first k links are well and in order -/
abbrev LinksOk (m : Nat) (l : List LinkD) (k : Nat) : Prop := ∀ i x, i < k → l[i]? = some x → LinkOk m x ∧ (0 < i → ∀ y, l[i - 1]? = some y → lkLt y x)
structure NetOk (n : NetP) : Prop where
  t1 : 1 ≤ n.towers.length
  t2 : n.towers.length ≤ 16
  l2 : n.links.length ≤ 40
  tow : ∀ t ∈ n.towers, TowOk t
  lnk : LinksOk n.towers.length n.links n.links.length
noncomputable instance (n : NetP) : Decidable (NetOk n) := Classical.propDecidable _
theorem links_snoc {m : Nat} {l : List LinkD} {k : Nat} {x : LinkD} (h : LinksOk m l k) (hx : l[k]? = some x) (hp : LinkOk m x) (hs : 0 < k → ∀ y, l[k - 1]? = some y → lkLt y x) : LinksOk m l (k + 1) := by
  intro i y hi hy
  by_cases e : i = k
  · subst e; rw [hx] at hy; obtain rfl := Option.some.inj hy; exact ⟨hp, hs⟩
  · exact h i y (by omega) hy
theorem net_bad {n : NetP} (h : ¬ NetOk n) : decide (NetOk n) = false := decide_eq_false h
theorem net_badT {n : NetP} {k : Nat} {x : TowerD} (hx : n.towers[k]? = some x) (h : ¬ TowOk x) : decide (NetOk n) = false := decide_eq_false fun hn => h (hn.tow x (List.mem_of_getElem? hx))
theorem net_badL {n : NetP} {k : Nat} {x : LinkD} (hx : n.links[k]? = some x) (h : ¬ (LinkOk n.towers.length x ∧ (0 < k → ∀ y, n.links[k - 1]? = some y → lkLt y x))) : decide (NetOk n) = false :=
 decide_eq_false fun hn => h (hn.lnk k x (List.getElem?_eq_some_iff.1 hx).1 hx)
theorem net_end {n : NetP} {k j : Nat} {b : Bool} (ht : ∀ t ∈ n.towers.take k, TowOk t) (hk : ¬ (k : Int) < (n.towers.length : Int)) (hl : LinksOk n.towers.length n.links j) (hj : ¬ (j : Int) < (n.links.length : Int)) (hb : b = true ↔ (1 ≤ n.towers.length ∧ n.towers.length ≤ 16 ∧ n.links.length ≤ 40)) : decide (NetOk n) = b := by
  rw [take_all hk] at ht
  have hl' : LinksOk n.towers.length n.links n.links.length := fun i x hi hx => hl i x (by omega) hx
  cases b
  · exact decide_eq_false fun hn => by have := hb.2 ⟨hn.t1, hn.t2, hn.l2⟩; cases this
  · obtain ⟨h1, h2, h3⟩ := hb.1 rfl
    exact decide_eq_true ⟨h1, h2, h3, ht, hl'⟩

theorem cmp_isNaN_int_ok (a : Int) (h : Heap)  : Cn f_cmp_isNaN_int [.int .i64 a] h fun v h' => v = .bool false ∧ h' = h := by
 refine calls_of r_cmp_isNaN_int ?_
 refine v_seq <| v_ops <| s_pq (.bool false) <| s_nil <| p_seqN <| v_seq <| v_ops <| s_pq (.int .i64 a) <| s_pq (.int .i64 a) <| s_pq (.bool (a != a)) <| s_pq (.bool (a != a)) <| s_nil <| p_seqN <| v_ret <| p_ret [.bool (a != a)] (.bool (a != a)) (fun _ q => q) rfl ?_
 have ho : false = (a != a) := by simp
 exact ⟨by first | (rw [ho]; done) | rfl, rfl⟩

theorem cmp_Compare_int_ok (a : Int) (b : Int) (h : Heap)  : Cn f_cmp_Compare_int [.int .i64 a, .int .i64 b] h fun v h' => v = .int .i64 (cmpI a b) ∧ h' = h := by
 refine calls_of r_cmp_Compare_int ?_
 refine v_seq <| v_ops <| s_pq (.int .i64 0) <| s_nil <| p_seqN <| v_seq <| v_ops <| s_pq (.int .i64 a) <| s_callS [.int .i64 a] (.bool false) rfl (cmp_isNaN_int_ok a _ ) <| s_pq (.bool false) <| s_nil <| p_seqN <| v_seq <| v_ops <| s_pq (.int .i64 b) <| s_callS [.int .i64 b] (.bool false) rfl (cmp_isNaN_int_ok b _ ) <| s_pq (.bool false) <| s_nil <| p_seqN <| v_seq <| v_seq <| v_ops <| s_pq (.bool false) <| s_nil <| p_seqN <| v_condN rfl (by simp) <| v_skip <| p_seqN <| v_seq <| v_seq <| v_ops ?_
 refine s_pq (.bool false) <| s_nil <| p_seqN <| v_condN rfl (by simp) <| v_skip <| p_seqN <| v_seq <| v_seq <| v_ops <| s_pq (.int .i64 a) <| s_pq (.int .i64 b) <| s_pq (.bool (decide (a < b))) <| s_nil <| p_seqN ?_
 refine v_cond rfl (fun c1 => ?_) (fun c1 => ?_)
 ·
  refine v_seq <| v_ops <| s_pq (.int .i64 (-1)) <| s_nil <| p_seqN <| v_ret <| p_seqR <| p_ret [.int .i64 (-1)] (.int .i64 (-1)) (fun _ q => q) rfl ?_
  have ho : (cmpI a b) = (-1) := by unfold cmpI; first | rw [if_pos (by assumption)] | (rw [if_neg (by assumption)]; first | rw [if_pos (by assumption)] | rw [if_neg (by assumption)])
  exact ⟨by first | (rw [ho]; done) | rfl, rfl⟩
 refine v_skip <| p_seqN <| v_seq <| v_seq <| v_ops <| s_pq (.int .i64 a) <| s_pq (.int .i64 b) <| s_pq (.bool (decide (a > b))) <| s_nil <| p_seqN ?_
 refine v_cond rfl (fun c2 => ?_) (fun c2 => ?_)
 ·
  refine v_seq <| v_ops <| s_pq (.int .i64 1) <| s_nil <| p_seqN <| v_ret <| p_seqR <| p_ret [.int .i64 1] (.int .i64 1) (fun _ q => q) rfl ?_
  have ho : (cmpI a b) = 1 := by unfold cmpI; first | rw [if_pos (by assumption)] | (rw [if_neg (by assumption)]; first | rw [if_pos (by assumption)] | rw [if_neg (by assumption)])
  exact ⟨by first | (rw [ho]; done) | rfl, rfl⟩
 refine v_skip <| p_seqN <| v_seq <| v_ops <| s_pq (.int .i64 0) <| s_nil <| p_seqN <| v_ret <| p_ret [.int .i64 0] (.int .i64 0) (fun _ q => q) rfl ?_
 have ho : (cmpI a b) = 0 := by unfold cmpI; first | rw [if_pos (by assumption)] | (rw [if_neg (by assumption)]; first | rw [if_pos (by assumption)] | rw [if_neg (by assumption)])
 exact ⟨by first | (rw [ho]; done) | rfl, rfl⟩

theorem cmp_Or_int_ok (v_l : Value) (l : List Int) (h : Heap) (s_l : Sl h v_l l) : Cn f_cmp_Or_int [v_l] h fun v h' => v = .int .i64 (orL l) ∧ Ext h h' := by
 have l63_l := s_l.len63
 refine calls_of r_cmp_Or_int ?_
 refine v_seq <| v_ops <| s_pq (.int .i64 0) <| s_nil <| p_seqN <| v_seq <| v_ops <| s_pq (.int .i64 0) <| s_nil <| p_seqN <| v_seq <| v_seq <| v_ops <| s_pq v_l <| s_pure (.int .i64 (l.length : Int)) (fun _ q => s_l.lenVC q) <| s_pq (.int .i64 0) <| s_nil <| p_seqN <| v_block <| v_loop1 (α := Nat) (fun k => [(3, .int .i64 0), (6, v_l), (7, .int .i64 (l.length : Int)), (8, .int .i64 (k : Int))]) (fun k hh => Ext h hh ∧ k ≤ l.length ∧ ∀ y ∈ l.take k, y = 0) (fun k => l.length - k) 0 ⟨rfl, rfl, rfl, rfl⟩ ⟨(Ext.refl h), (by simp)⟩ ?_
 rintro k R2 h1 ⟨Eh, ⟨hk, hall⟩⟩
 have zEh := Eh.size
 have f4 := s_l.ext Eh
 refine v_seq <| v_ops <| s_pq (.bool (decide ((k : Int) < (l.length : Int)))) <| s_nil <| p_seqN <| v_seq ?_
 refine v_cond rfl (fun c5 => ?_) (fun c5 => ?_)
 ·
  refine v_skip <| p_seqN <| v_seq <| v_block <| v_seq <| v_ops ?_
  have hk6 : k < l.length := (by first | omega | (simp; omega))
  obtain ⟨x7, hx7⟩ : ∃ x, l[k]? = some x := ⟨_, List.getElem?_eq_getElem hk6⟩
  refine s_pure (.pointer (some ⟨sblk v_l, soff v_l + k * 1, none⟩)) (fun _ q => f4.idx (k := k) rfl hk6 q) <| s_load (.int .i64 x7) (fun _ q => f4.load1 hx7 rfl q) <| s_pq (.int .i64 x7) <| s_nil <| p_seqN <| v_seq <| v_ops <| s_pq (.int .i64 x7) <| s_pq (.int .i64 0) <| s_pq (.bool (x7 != 0)) <| s_nil <| p_seqN ?_
  refine v_cond rfl (fun c8 => ?_) (fun c8 => ?_)
  ·
   refine v_seq <| v_ops <| s_pq (.int .i64 x7) <| s_pq (.int .i64 x7) <| s_nil <| p_seqN <| v_ret <| p_blkR <| p_seqR <| p_lpR <| p_blkR <| p_seqR <| p_ret [.int .i64 x7] (.int .i64 x7) (fun _ q => q) rfl ?_
   have ho : (orL l) = x7 := by first | (rw [orL_drop hall, drop_at (by assumption), orL, if_pos (by assumption)]; done) | (rw [orL_drop hall, List.drop_of_length_le (by omega)]; rfl)
   exact ⟨by first | (rw [ho]; done) | rfl, Eh⟩
  have c8 := Classical.not_not.1 c8
  refine v_skip <| p_blkN <| p_seqN <| v_ops <| s_pure (.int .i64 ((k : Int) + 1)) (fun _ q => ArithVC.mk (by omega) q) <| s_pq (.int .i64 ((k : Int) + 1)) <| s_nil ?_
  exact p_lpN ⟨k + 1, ⟨rfl, rfl, rfl, rfl⟩, ⟨Eh, (by exact ⟨by omega, all_snoc (P := fun y => y = 0) hall (by assumption) (by assumption)⟩)⟩, by omega⟩
 refine v_exit <| p_seqX <| p_lpX <| p_blkX <| p_seqN <| v_seq <| v_ops <| s_pq (.int .i64 0) <| s_pq (.int .i64 0) <| s_nil <| p_seqN <| v_ret <| p_ret [.int .i64 0] (.int .i64 0) (fun _ q => q) rfl ?_
 have ho : (orL l) = 0 := by first | (rw [orL_drop hall, drop_at (by assumption), orL, if_pos (by assumption)]; done) | (rw [orL_drop hall, List.drop_of_length_le (by omega)]; rfl)
 exact ⟨by first | (rw [ho]; done) | rfl, Eh⟩

theorem impl_compareLinks_ok (a : LinkD) (b : LinkD) (h : Heap)  : Cn f_impl_compareLinks [.agg #[.int .i64 a.a, .int .i64 a.b, .int .i64 a.delay], .agg #[.int .i64 b.a, .int .i64 b.b, .int .i64 b.delay]] h fun v h' => v = .int .i64 (lkCmp a b) ∧ Ext h h' := by
 refine calls_of r_impl_compareLinks ?_
 refine v_seq <| v_ops ?_
 refine s_box [.int .i64 a.a, .int .i64 a.b, .int .i64 a.delay] rfl (fun h2 b1 hbb1 hzb1 eh2 bxb1 => ?_)
 have E3 := (Ext.refl h).trans eh2
 have z4 := eh2.size
 have lbb1 := bxb1.lt
 refine s_box [.int .i64 b.a, .int .i64 b.b, .int .i64 b.delay] rfl (fun h6 b5 hbb5 hzb5 eh6 bxb5 => ?_)
 have E7 := E3.trans eh6
 have z8 := eh6.size
 have lbb5 := bxb5.lt
 refine s_pq (.int .i64 0) <| s_nil <| p_seqN <| v_seq ?_
 have f9 := (bxb1.ext eh6)
 refine v_draw (DrawVC.hold ([b1] ++ [b5]) ?_)
 refine d_pq (.pointer (some ⟨b1, 0, none⟩)) <| d_pq (.pointer (some ⟨b5, 0, none⟩)) <| d_pq (.pointer (some ⟨b1, 1, none⟩)) <| d_pq (.pointer (some ⟨b5, 1, none⟩)) <| d_loadO (.int .i64 a.a) (fun _ q => f9.load rfl q) <| d_loadO (.int .i64 b.a) (fun _ q => bxb5.load rfl q) <| d_loadT (.int .i64 a.b) (fun _ q => f9.take (by simp) rfl q) <| d_loadT (.int .i64 b.b) (fun _ q => bxb5.take (by simp) rfl q) <| d_eff <| s_callS [.int .i64 a.a, .int .i64 b.a] (.int .i64 (cmpI a.a b.a)) rfl (cmp_Compare_int_ok a.a b.a _ ) ?_
 refine s_nil ⟨fun _ x hx => rfl, ?_⟩
 refine d_eff <| s_callS [.int .i64 a.b, .int .i64 b.b] (.int .i64 (cmpI a.b b.b)) rfl (cmp_Compare_int_ok a.b b.b _ ) ?_
 refine s_nil ⟨fun hl => (by cases hl), ?_⟩
 refine d_eff ?_
 refine s_row (α := Int) [(cmpI a.a b.a), (cmpI a.b b.b)] (fun _ q => seg_i rfl (seg_i rfl (seg_nil q))) rfl (by simp [maxLen]) (fun r10 h11 eh11 zh11 s_r10 fr_r10 => ?_)
 have E12 := E7.trans eh11
 have z13 := eh11.size
 refine s_nil ⟨fun hl => (by cases hl), ?_⟩
 refine d_eff <| s_call [r10] rfl (cmp_Or_int_ok r10 [(cmpI a.a b.a), (cmpI a.b b.b)] _ s_r10.toSl) ?_
 rintro _ h15 ⟨rfl, eh15⟩
 have E16 := E12.trans eh15
 have z17 := eh15.size
 refine s_nil ⟨fun hl => (by cases hl), ?_⟩
 refine d_pq (.int .i64 (orL [(cmpI a.a b.a), (cmpI a.b b.b)])) <| d_done <| p_seqN <| v_ret <| p_ret [.int .i64 (orL [(cmpI a.a b.a), (cmpI a.b b.b)])] (.int .i64 (orL [(cmpI a.a b.a), (cmpI a.b b.b)])) (fun _ q => q) rfl ?_
 have ho : (lkCmp a b) = (orL [(cmpI a.a b.a), (cmpI a.b b.b)]) := by rfl
 exact ⟨by first | (rw [ho]; done) | rfl, E16⟩

theorem spec_neBefore_ok (a : LinkD) (b : LinkD) (h : Heap)  : Cn f_spec_neBefore [.agg #[.int .i64 a.a, .int .i64 a.b, .int .i64 a.delay], .agg #[.int .i64 b.a, .int .i64 b.b, .int .i64 b.delay]] h fun v h' => v = .bool (decide (lkLt a b)) ∧ Ext h h' := by
 refine calls_of r_spec_neBefore ?_
 refine v_seq <| v_ops ?_
 refine s_box [.int .i64 a.a, .int .i64 a.b, .int .i64 a.delay] rfl (fun h2 b1 hbb1 hzb1 eh2 bxb1 => ?_)
 have E3 := (Ext.refl h).trans eh2
 have z4 := eh2.size
 have lbb1 := bxb1.lt
 refine s_box [.int .i64 b.a, .int .i64 b.b, .int .i64 b.delay] rfl (fun h6 b5 hbb5 hzb5 eh6 bxb5 => ?_)
 have E7 := E3.trans eh6
 have z8 := eh6.size
 have lbb5 := bxb5.lt
 refine s_pq (.bool false) <| s_nil <| p_seqN <| v_seq <| v_ops <| s_pq (.pointer (some ⟨b1, 0, none⟩)) ?_
 have f9 := (bxb1.ext eh6)
 refine s_load (.int .i64 a.a) (fun _ q => f9.load rfl q) <| s_pq (.pointer (some ⟨b5, 0, none⟩)) <| s_load (.int .i64 b.a) (fun _ q => bxb5.load rfl q) <| s_pq (.bool (decide (a.a < b.a))) <| s_pq (.bool (decide (a.a < b.a))) ?_
 refine s_splitT rfl (fun c10 => ?_) (fun c10 => ?_)
 ·
  refine s_pass rfl <| s_pass rfl <| s_pass rfl <| s_pass rfl <| s_pass rfl <| s_pass rfl <| s_splitU rfl <| s_passU rfl <| s_passU rfl <| s_passU rfl <| s_passU rfl <| s_passU rfl <| s_pass rfl <| s_pq (.bool true) <| s_pq (.bool true) <| s_nil <| p_seqN <| v_ret <| p_ret [.bool true] (.bool true) (fun _ q => q) rfl ?_
  have ho : (decide (lkLt a b)) = true := by simp [*]; try omega
  exact ⟨by first | (rw [ho]; done) | rfl, E7⟩
 refine s_run rfl <| s_pq (.pointer (some ⟨b1, 0, none⟩)) <| s_run rfl <| s_load (.int .i64 a.a) (fun _ q => f9.load rfl q) <| s_run rfl <| s_pq (.pointer (some ⟨b5, 0, none⟩)) <| s_run rfl <| s_load (.int .i64 b.a) (fun _ q => bxb5.load rfl q) <| s_run rfl <| s_pq (.bool (a.a == b.a)) <| s_run rfl <| s_pq (.bool (a.a == b.a)) ?_
 refine s_splitT rfl (fun c11 => ?_) (fun c11 => ?_)
 ·
  refine s_run rfl <| s_pq (.pointer (some ⟨b1, 1, none⟩)) <| s_run rfl <| s_load (.int .i64 a.b) (fun _ q => f9.load rfl q) <| s_run rfl <| s_pq (.pointer (some ⟨b5, 1, none⟩)) <| s_run rfl <| s_load (.int .i64 b.b) (fun _ q => bxb5.load rfl q) <| s_run rfl <| s_pq (.bool (decide (a.b < b.b))) <| s_run rfl <| s_pq (.bool (decide (a.b < b.b))) <| s_pq (.bool (decide (a.b < b.b))) <| s_pq (.bool (decide (a.b < b.b))) <| s_nil <| p_seqN <| v_ret <| p_ret [.bool (decide (a.b < b.b))] (.bool (decide (a.b < b.b))) (fun _ q => q) rfl ?_
  have ho : (decide (lkLt a b)) = (decide (a.b < b.b)) := by simp [*]; try omega
  exact ⟨by first | (rw [ho]; done) | rfl, E7⟩
 refine s_pass rfl <| s_pass rfl <| s_pass rfl <| s_pass rfl <| s_pass rfl <| s_run rfl <| s_pq (.bool false) <| s_pq (.bool false) <| s_pq (.bool false) <| s_nil <| p_seqN <| v_ret <| p_ret [.bool false] (.bool false) (fun _ q => q) rfl ?_
 have ho : (decide (lkLt a b)) = false := by simp [*]; try omega
 exact ⟨by first | (rw [ho]; done) | rfl, E7⟩

set_option maxRecDepth 10000 in
set_option maxHeartbeats 4000000 in
theorem impl_IsNet_ok (n : NetP) (v_n_towers : Value) (v_n_links : Value) (h : Heap) (s_n_towers : Sl h v_n_towers n.towers) (s_n_links : Sl h v_n_links n.links) : Cn f_impl_IsNet [.agg #[v_n_towers, v_n_links]] h fun v h' => v = .bool (decide (NetOk n)) ∧ Ext h h' := by
 have l63_n_towers := s_n_towers.len63
 have lt_n_links := s_n_links.lt
 have l63_n_links := s_n_links.len63
 refine calls_of r_impl_IsNet ?_
 refine v_seq <| v_ops ?_
 refine s_box [v_n_towers, v_n_links] rfl (fun h2 b1 hbb1 hzb1 eh2 bxb1 => ?_)
 have E3 := (Ext.refl h).trans eh2
 have z4 := eh2.size
 have lbb1 := bxb1.lt
 refine s_pq (.bool false) <| s_nil <| p_seqN <| v_seq <| v_seq <| v_ops <| s_pq (.pointer (some ⟨b1, 0, none⟩)) <| s_load v_n_towers (fun _ q => bxb1.load rfl q) <| s_pure (.int .i64 (n.towers.length : Int)) (fun _ q => s_n_towers.lenVC q) <| s_callS [.int .i64 (n.towers.length : Int), .int .i64 1, .int .i64 16] (.bool (decide (1 ≤ (n.towers.length : Int) ∧ (n.towers.length : Int) ≤ 16))) rfl (within_ok (n.towers.length : Int) 1 16 _ ) <| s_pq (.bool (!(decide (1 ≤ (n.towers.length : Int) ∧ (n.towers.length : Int) ≤ 16)))) ?_
 refine s_pq (.bool (!(decide (1 ≤ (n.towers.length : Int) ∧ (n.towers.length : Int) ≤ 16)))) ?_
 refine s_splitT rfl (fun c5 => ?_) (fun c5 => ?_)
 ·
  refine s_pass rfl <| s_pass rfl <| s_pass rfl <| s_pass rfl <| s_pq (.bool true) <| s_nil <| p_seqN <| v_condY rfl rfl <| v_seq <| v_ops <| s_pq (.bool false) <| s_nil <| p_seqN <| v_ret <| p_seqR <| p_ret [.bool false] (.bool false) (fun _ q => q) rfl ?_
  have ho : decide (NetOk n) = false := by first | exact net_bad (fun hn => by (have := hn.t1); (have := hn.t2); (have := hn.l2); omega) | exact net_badT (by assumption) (fun hp => absurd hp.1 (by assumption)) | exact net_badT (by assumption) (fun hp => absurd hp.2.1 (by assumption)) | exact net_badT (by assumption) (fun hp => absurd hp.2.2 (by assumption)) | exact net_badL (by assumption : n.links[j]? = some xo__) (fun hp => by (have h1 := hp.1); omega) | exact net_badL (by assumption : n.links[j]? = some xo__) (fun hp => by (have h1 := hp.2 (by omega) _ (by assumption : n.links[j - 1]? = some x__)); first | contradiction | ((have h2 := lkCmp_lt.2 h1); omega)) | exact net_end hall (by assumption) hlk (by assumption) (by simp; omega)
  exact ⟨by first | (rw [ho]; done) | rfl, E3⟩
 have c5 := Classical.not_not.1 c5
 refine s_run rfl <| s_pq (.pointer (some ⟨b1, 1, none⟩)) <| s_run rfl <| s_load v_n_links (fun _ q => bxb1.load rfl q) <| s_run rfl <| s_pure (.int .i64 (n.links.length : Int)) (fun _ q => s_n_links.lenVC q) <| s_run rfl <| s_pq (.bool (decide ((n.links.length : Int) > 40))) <| s_pq (.bool (decide ((n.links.length : Int) > 40))) <| s_nil <| p_seqN ?_
 refine v_cond rfl (fun c6 => ?_) (fun c6 => ?_)
 ·
  refine v_seq <| v_ops <| s_pq (.bool false) <| s_nil <| p_seqN <| v_ret <| p_seqR <| p_ret [.bool false] (.bool false) (fun _ q => q) rfl ?_
  have ho : decide (NetOk n) = false := by first | exact net_bad (fun hn => by (have := hn.t1); (have := hn.t2); (have := hn.l2); omega) | exact net_badT (by assumption) (fun hp => absurd hp.1 (by assumption)) | exact net_badT (by assumption) (fun hp => absurd hp.2.1 (by assumption)) | exact net_badT (by assumption) (fun hp => absurd hp.2.2 (by assumption)) | exact net_badL (by assumption : n.links[j]? = some xo__) (fun hp => by (have h1 := hp.1); omega) | exact net_badL (by assumption : n.links[j]? = some xo__) (fun hp => by (have h1 := hp.2 (by omega) _ (by assumption : n.links[j - 1]? = some x__)); first | contradiction | ((have h2 := lkCmp_lt.2 h1); omega)) | exact net_end hall (by assumption) hlk (by assumption) (by simp; omega)
  exact ⟨by first | (rw [ho]; done) | rfl, E3⟩
 refine v_skip <| p_seqN <| v_seq <| v_seq <| v_ops <| s_pq (.pointer (some ⟨b1, 0, none⟩)) <| s_load v_n_towers (fun _ q => bxb1.load rfl q) <| s_pure (.int .i64 (n.towers.length : Int)) (fun _ q => s_n_towers.lenVC q) <| s_pq (.int .i64 0) <| s_nil <| p_seqN <| v_block <| v_loop1 (α := Nat) (fun k => [(1, .pointer (some ⟨b1, 0, none⟩)), (19, v_n_towers), (20, .int .i64 (n.towers.length : Int)), (21, .int .i64 (k : Int))]) (fun k hh => Ext h hh ∧ Bx hh b1 [v_n_towers, v_n_links] 27 ∧ k ≤ n.towers.length ∧ ∀ t ∈ n.towers.take k, TowOk t) (fun k => n.towers.length - k) 0 ⟨rfl, rfl, rfl, rfl⟩ ⟨E3, bxb1, (by simp)⟩ ?_
 rintro k R8 h7 ⟨Eh, bxb1, ⟨hk, hall⟩⟩
 have zEh := Eh.size
 have f10 := s_n_towers.ext Eh
 have f11 := s_n_links.ext Eh
 have lbb1 := bxb1.lt
 refine v_seq <| v_ops <| s_pq (.bool (decide ((k : Int) < (n.towers.length : Int)))) <| s_nil <| p_seqN <| v_seq ?_
 refine v_cond rfl (fun c12 => ?_) (fun c12 => ?_)
 ·
  refine v_skip <| p_seqN <| v_seq <| v_block <| v_seq <| v_ops ?_
  have hk13 : k < n.towers.length := (by first | omega | (simp; omega))
  obtain ⟨x14, hx14⟩ : ∃ x, n.towers[k]? = some x := ⟨_, List.getElem?_eq_getElem hk13⟩
  refine s_pure (.pointer (some ⟨sblk v_n_towers, soff v_n_towers + k * 3, none⟩)) (fun _ q => f10.idx (k := k) rfl hk13 q) <| s_load (.agg #[.int .i64 x14.x, .int .i64 x14.y, .int .i64 x14.height]) (fun _ q => f10.loadN hx14 rfl q) ?_
  refine s_new (fun h16 b15 hbb15 hzb15 eh16 bxb15 => ?_)
  have E17 := Eh.trans eh16
  have z18 := eh16.size
  have lbb15 := bxb15.lt
  refine s_stBx (.agg #[.int .i64 x14.x, .int .i64 x14.y, .int .i64 x14.height]) [.int .i64 x14.x, .int .i64 x14.y, .int .i64 x14.height] [.int .i64 x14.x, .int .i64 x14.y, .int .i64 x14.height] bxb15 rfl rfl rfl rfl (by simp) (all_cons rfl (all_cons rfl (all_cons rfl all_nil))) rfl (fun h19 mh19 sh19 bxx20 => ?_)
  have E21 := E17.mod mh19 (fun b hb => by simp at hb; omega)
  refine s_nil <| p_seqN <| v_seq <| v_ops <| s_pq (.pointer (some ⟨b15, 0, none⟩)) <| s_load (.int .i64 x14.x) (fun _ q => bxx20.load rfl q) <| s_callS [.int .i64 x14.x, .int .i64 0, .int .i64 999] (.bool (decide (0 ≤ x14.x ∧ x14.x ≤ 999))) rfl (within_ok x14.x 0 999 _ ) <| s_pq (.bool (!(decide (0 ≤ x14.x ∧ x14.x ≤ 999)))) <| s_pq (.bool (!(decide (0 ≤ x14.x ∧ x14.x ≤ 999)))) ?_
  refine s_splitT rfl (fun c22 => ?_) (fun c22 => ?_)
  ·
   refine s_pass rfl <| s_pass rfl <| s_pass rfl <| s_pass rfl <| s_pq (.bool true) <| s_pq (.bool true) <| s_splitY rfl rfl <| s_pass rfl <| s_pass rfl <| s_pass rfl <| s_pass rfl <| s_pq (.bool true) <| s_nil <| p_seqN <| v_condY rfl rfl <| v_seq <| v_ops <| s_pq (.bool false) <| s_nil <| p_seqN <| v_ret <| p_blkR <| p_seqR <| p_lpR <| p_blkR <| p_seqR <| p_ret [.bool false] (.bool false) (fun _ q => q) rfl ?_
   have ho : decide (NetOk n) = false := by first | exact net_bad (fun hn => by (have := hn.t1); (have := hn.t2); (have := hn.l2); omega) | exact net_badT (by assumption) (fun hp => absurd hp.1 (by assumption)) | exact net_badT (by assumption) (fun hp => absurd hp.2.1 (by assumption)) | exact net_badT (by assumption) (fun hp => absurd hp.2.2 (by assumption)) | exact net_badL (by assumption : n.links[j]? = some x14) (fun hp => by (have h1 := hp.1); omega) | exact net_badL (by assumption : n.links[j]? = some x14) (fun hp => by (have h1 := hp.2 (by omega) _ (by assumption : n.links[j - 1]? = some x14)); first | contradiction | ((have h2 := lkCmp_lt.2 h1); omega)) | exact net_end hall (by assumption) hlk (by assumption) (by simp; omega)
   exact ⟨by first | (rw [ho]; done) | rfl, E21⟩
  have c22 := Classical.not_not.1 c22
  refine s_run rfl <| s_pq (.pointer (some ⟨b15, 1, none⟩)) <| s_run rfl <| s_load (.int .i64 x14.y) (fun _ q => bxx20.load rfl q) <| s_run rfl <| s_callS [.int .i64 x14.y, .int .i64 0, .int .i64 999] (.bool (decide (0 ≤ x14.y ∧ x14.y ≤ 999))) rfl (within_ok x14.y 0 999 _ ) <| s_run rfl <| s_pq (.bool (!(decide (0 ≤ x14.y ∧ x14.y ≤ 999)))) <| s_pq (.bool (!(decide (0 ≤ x14.y ∧ x14.y ≤ 999)))) <| s_pq (.bool (!(decide (0 ≤ x14.y ∧ x14.y ≤ 999)))) ?_
  refine s_splitT rfl (fun c23 => ?_) (fun c23 => ?_)
  ·
   refine s_pass rfl <| s_pass rfl <| s_pass rfl <| s_pass rfl <| s_pq (.bool true) <| s_nil <| p_seqN <| v_condY rfl rfl <| v_seq <| v_ops <| s_pq (.bool false) <| s_nil <| p_seqN <| v_ret <| p_blkR <| p_seqR <| p_lpR <| p_blkR <| p_seqR <| p_ret [.bool false] (.bool false) (fun _ q => q) rfl ?_
   have ho : decide (NetOk n) = false := by first | exact net_bad (fun hn => by (have := hn.t1); (have := hn.t2); (have := hn.l2); omega) | exact net_badT (by assumption) (fun hp => absurd hp.1 (by assumption)) | exact net_badT (by assumption) (fun hp => absurd hp.2.1 (by assumption)) | exact net_badT (by assumption) (fun hp => absurd hp.2.2 (by assumption)) | exact net_badL (by assumption : n.links[j]? = some x14) (fun hp => by (have h1 := hp.1); omega) | exact net_badL (by assumption : n.links[j]? = some x14) (fun hp => by (have h1 := hp.2 (by omega) _ (by assumption : n.links[j - 1]? = some x14)); first | contradiction | ((have h2 := lkCmp_lt.2 h1); omega)) | exact net_end hall (by assumption) hlk (by assumption) (by simp; omega)
   exact ⟨by first | (rw [ho]; done) | rfl, E21⟩
  have c23 := Classical.not_not.1 c23
  refine s_run rfl <| s_pq (.pointer (some ⟨b15, 2, none⟩)) <| s_run rfl <| s_load (.int .i64 x14.height) (fun _ q => bxx20.load rfl q) <| s_run rfl <| s_callS [.int .i64 x14.height, .int .i64 0, .int .i64 500] (.bool (decide (0 ≤ x14.height ∧ x14.height ≤ 500))) rfl (within_ok x14.height 0 500 _ ) <| s_run rfl <| s_pq (.bool (!(decide (0 ≤ x14.height ∧ x14.height ≤ 500)))) <| s_pq (.bool (!(decide (0 ≤ x14.height ∧ x14.height ≤ 500)))) <| s_nil <| p_seqN ?_
  refine v_cond rfl (fun c24 => ?_) (fun c24 => ?_)
  ·
   refine v_seq <| v_ops <| s_pq (.bool false) <| s_nil <| p_seqN <| v_ret <| p_blkR <| p_seqR <| p_lpR <| p_blkR <| p_seqR <| p_ret [.bool false] (.bool false) (fun _ q => q) rfl ?_
   have ho : decide (NetOk n) = false := by first | exact net_bad (fun hn => by (have := hn.t1); (have := hn.t2); (have := hn.l2); omega) | exact net_badT (by assumption) (fun hp => absurd hp.1 (by assumption)) | exact net_badT (by assumption) (fun hp => absurd hp.2.1 (by assumption)) | exact net_badT (by assumption) (fun hp => absurd hp.2.2 (by assumption)) | exact net_badL (by assumption : n.links[j]? = some x14) (fun hp => by (have h1 := hp.1); omega) | exact net_badL (by assumption : n.links[j]? = some x14) (fun hp => by (have h1 := hp.2 (by omega) _ (by assumption : n.links[j - 1]? = some x14)); first | contradiction | ((have h2 := lkCmp_lt.2 h1); omega)) | exact net_end hall (by assumption) hlk (by assumption) (by simp; omega)
   exact ⟨by first | (rw [ho]; done) | rfl, E21⟩
  have c24 := Classical.not_not.1 c24
  refine v_skip <| p_blkN <| p_seqN <| v_ops <| s_pure (.int .i64 ((k : Int) + 1)) (fun _ q => ArithVC.mk (by omega) q) <| s_pq (.int .i64 ((k : Int) + 1)) <| s_nil ?_
  have f25 := ((bxb1.ext eh16).mod mh19 (by simp; omega))
  exact p_lpN ⟨k + 1, ⟨rfl, rfl, rfl, rfl⟩, ⟨E21, f25, (by exact ⟨by omega, all_snoc (P := TowOk) hall (by assumption) ⟨by assumption, by assumption, by assumption⟩⟩)⟩, by omega⟩
 refine v_exit <| p_seqX <| p_lpX <| p_blkX <| p_seqN <| v_seq <| v_seq <| v_ops <| s_pq (.pointer (some ⟨b1, 1, none⟩)) <| s_load v_n_links (fun _ q => bxb1.load rfl q) <| s_pure (.int .i64 (n.links.length : Int)) (fun _ q => f11.lenVC q) <| s_pq (.int .i64 0) <| s_nil <| p_seqN <| v_block <| v_loop1 (α := Nat) (fun j => [(1, .pointer (some ⟨b1, 0, none⟩)), (43, v_n_links), (44, .int .i64 (n.links.length : Int)), (45, .int .i64 (j : Int))]) (fun j hh => Ext h hh ∧ Bx hh b1 [v_n_towers, v_n_links] 27 ∧ j ≤ n.links.length ∧ LinksOk n.towers.length n.links j) (fun j => n.links.length - j) 0 ⟨rfl, rfl, rfl, rfl⟩ ⟨Eh, bxb1, (by exact ⟨by omega, fun i x hi => by omega⟩)⟩ ?_
 rintro j R27 h26 ⟨Eh, bxb1, ⟨hj, hlk⟩⟩
 have zEh := Eh.size
 have f29 := s_n_towers.ext Eh
 have f30 := s_n_links.ext Eh
 have lbb1 := bxb1.lt
 refine v_seq <| v_ops <| s_pq (.bool (decide ((j : Int) < (n.links.length : Int)))) <| s_nil <| p_seqN <| v_seq ?_
 refine v_cond rfl (fun c31 => ?_) (fun c31 => ?_)
 ·
  refine v_skip <| p_seqN <| v_seq <| v_block <| v_seq <| v_ops <| s_pq (.int .i64 (j : Int)) ?_
  have hk32 : j < n.links.length := (by first | omega | (simp; omega))
  obtain ⟨x33, hx33⟩ : ∃ x, n.links[j]? = some x := ⟨_, List.getElem?_eq_getElem hk32⟩
  refine s_pure (.pointer (some ⟨sblk v_n_links, soff v_n_links + j * 3, none⟩)) (fun _ q => f30.idx (k := j) rfl hk32 q) <| s_load (.agg #[.int .i64 x33.a, .int .i64 x33.b, .int .i64 x33.delay]) (fun _ q => f30.loadN hx33 rfl q) ?_
  refine s_new (fun h35 b34 hbb34 hzb34 eh35 bxb34 => ?_)
  have E36 := Eh.trans eh35
  have z37 := eh35.size
  have lbb34 := bxb34.lt
  refine s_pq (.int .i64 (j : Int)) ?_
  refine s_stBx (.agg #[.int .i64 x33.a, .int .i64 x33.b, .int .i64 x33.delay]) [.int .i64 x33.a, .int .i64 x33.b, .int .i64 x33.delay] [.int .i64 x33.a, .int .i64 x33.b, .int .i64 x33.delay] bxb34 rfl rfl rfl rfl (by simp) (all_cons rfl (all_cons rfl (all_cons rfl all_nil))) rfl (fun h38 mh38 sh38 bxx39 => ?_)
  have E40 := E36.mod mh38 (fun b hb => by simp at hb; omega)
  refine s_nil <| p_seqN <| v_seq ?_
  have f41 := ((bxb1.ext eh35).mod mh38 (by simp; omega))
  have f42 := ((f30.ext eh35).mod mh38 (fun b hb hc => by simp at hc; have := lt_n_links b hb; omega))
  refine v_draw (DrawVC.hold ([b1] ++ blks v_n_links) ?_)
  refine d_pq (.pointer (some ⟨b34, 0, none⟩)) <| d_loadO (.int .i64 x33.a) (fun _ q => bxx39.load rfl q) <| d_pq (.bool (decide (x33.a < 0))) <| d_pq (.bool (decide (x33.a < 0))) ?_
  refine d_splitT rfl (fun c43 => ?_) (fun c43 => ?_)
  ·
   refine d_passT rfl <| d_passT rfl <| d_passO rfl <| d_passO rfl <| d_passT rfl <| d_pq (.bool true) <| d_pq (.bool true) <| d_splitY rfl rfl <| d_passT rfl <| d_passT rfl <| d_passO rfl <| d_passO rfl <| d_passT rfl <| d_passT rfl <| d_pq (.bool true) <| d_pq (.bool true) <| d_splitY rfl rfl <| d_passT rfl <| d_passO rfl <| d_passO rfl <| d_passT rfl <| d_pq (.bool true) <| d_pq (.bool true) <| d_splitY rfl rfl <| d_passT rfl <| d_passT rfl <| d_passT rfl <| d_splitU rfl <| d_passTU rfl <| d_passTU rfl ?_
   refine d_passTU rfl <| d_passTU rfl <| d_passTU rfl <| d_passTU rfl <| d_passOU rfl <| d_passOU rfl <| d_passTU rfl <| d_passT rfl <| d_pq (.bool true) <| d_done <| p_seqN <| v_condY rfl rfl <| v_seq <| v_ops <| s_pq (.bool false) <| s_nil <| p_seqN <| v_ret <| p_blkR <| p_seqR <| p_lpR <| p_blkR <| p_seqR <| p_ret [.bool false] (.bool false) (fun _ q => q) rfl ?_
   have ho : decide (NetOk n) = false := by first | exact net_bad (fun hn => by (have := hn.t1); (have := hn.t2); (have := hn.l2); omega) | exact net_badT (by assumption) (fun hp => absurd hp.1 (by assumption)) | exact net_badT (by assumption) (fun hp => absurd hp.2.1 (by assumption)) | exact net_badT (by assumption) (fun hp => absurd hp.2.2 (by assumption)) | exact net_badL (by assumption : n.links[j]? = some x33) (fun hp => by (have h1 := hp.1); omega) | exact net_badL (by assumption : n.links[j]? = some x33) (fun hp => by (have h1 := hp.2 (by omega) _ (by assumption : n.links[j - 1]? = some x33)); first | contradiction | ((have h2 := lkCmp_lt.2 h1); omega)) | exact net_end hall (by assumption) hlk (by assumption) (by simp; omega)
   exact ⟨by first | (rw [ho]; done) | rfl, E40⟩
  refine d_runT rfl <| d_pq (.pointer (some ⟨b34, 0, none⟩)) <| d_runT rfl <| d_pq (.pointer (some ⟨b34, 1, none⟩)) <| d_runO rfl <| d_loadO (.int .i64 x33.a) (fun _ q => bxx39.load rfl q) <| d_runO rfl <| d_loadO (.int .i64 x33.b) (fun _ q => bxx39.load rfl q) <| d_runT rfl <| d_pq (.bool (decide (x33.a ≥ x33.b))) <| d_pq (.bool (decide (x33.a ≥ x33.b))) <| d_pq (.bool (decide (x33.a ≥ x33.b))) ?_
  refine d_splitT rfl (fun c44 => ?_) (fun c44 => ?_)
  ·
   refine d_passT rfl <| d_passT rfl <| d_passO rfl <| d_passO rfl <| d_passT rfl <| d_passT rfl <| d_pq (.bool true) <| d_pq (.bool true) <| d_splitY rfl rfl <| d_passT rfl <| d_passO rfl <| d_passO rfl <| d_passT rfl <| d_pq (.bool true) <| d_pq (.bool true) <| d_splitY rfl rfl <| d_passT rfl <| d_passT rfl <| d_passT rfl <| d_splitU rfl <| d_passTU rfl <| d_passTU rfl <| d_passTU rfl <| d_passTU rfl <| d_passTU rfl <| d_passTU rfl <| d_passOU rfl <| d_passOU rfl <| d_passTU rfl <| d_passT rfl ?_
   refine d_pq (.bool true) <| d_done <| p_seqN <| v_condY rfl rfl <| v_seq <| v_ops <| s_pq (.bool false) <| s_nil <| p_seqN <| v_ret <| p_blkR <| p_seqR <| p_lpR <| p_blkR <| p_seqR <| p_ret [.bool false] (.bool false) (fun _ q => q) rfl ?_
   have ho : decide (NetOk n) = false := by first | exact net_bad (fun hn => by (have := hn.t1); (have := hn.t2); (have := hn.l2); omega) | exact net_badT (by assumption) (fun hp => absurd hp.1 (by assumption)) | exact net_badT (by assumption) (fun hp => absurd hp.2.1 (by assumption)) | exact net_badT (by assumption) (fun hp => absurd hp.2.2 (by assumption)) | exact net_badL (by assumption : n.links[j]? = some x33) (fun hp => by (have h1 := hp.1); omega) | exact net_badL (by assumption : n.links[j]? = some x33) (fun hp => by (have h1 := hp.2 (by omega) _ (by assumption : n.links[j - 1]? = some x33)); first | contradiction | ((have h2 := lkCmp_lt.2 h1); omega)) | exact net_end hall (by assumption) hlk (by assumption) (by simp; omega)
   exact ⟨by first | (rw [ho]; done) | rfl, E40⟩
  refine d_runT rfl <| d_pq (.pointer (some ⟨b34, 1, none⟩)) <| d_runT rfl <| d_pq (.pointer (some ⟨b1, 0, none⟩)) <| d_runO rfl <| d_loadO (.int .i64 x33.b) (fun _ q => bxx39.load rfl q) <| d_runO rfl <| d_loadO v_n_towers (fun _ q => f41.load rfl q) <| d_runT rfl <| d_pureT (.int .i64 (n.towers.length : Int)) (fun _ q => f29.lenVC q) <| d_runT rfl <| d_pq (.bool (decide (x33.b ≥ (n.towers.length : Int)))) <| d_pq (.bool (decide (x33.b ≥ (n.towers.length : Int)))) <| d_pq (.bool (decide (x33.b ≥ (n.towers.length : Int)))) ?_
  refine d_splitT rfl (fun c45 => ?_) (fun c45 => ?_)
  ·
   refine d_passT rfl <| d_passO rfl <| d_passO rfl <| d_passT rfl <| d_pq (.bool true) <| d_pq (.bool true) <| d_splitY rfl rfl <| d_passT rfl <| d_passT rfl <| d_passT rfl <| d_splitU rfl <| d_passTU rfl <| d_passTU rfl <| d_passTU rfl <| d_passTU rfl <| d_passTU rfl <| d_passTU rfl <| d_passOU rfl <| d_passOU rfl <| d_passTU rfl <| d_passT rfl <| d_pq (.bool true) <| d_done <| p_seqN <| v_condY rfl rfl <| v_seq <| v_ops <| s_pq (.bool false) <| s_nil <| p_seqN <| v_ret <| p_blkR <| p_seqR <| p_lpR ?_
   refine p_blkR <| p_seqR <| p_ret [.bool false] (.bool false) (fun _ q => q) rfl ?_
   have ho : decide (NetOk n) = false := by first | exact net_bad (fun hn => by (have := hn.t1); (have := hn.t2); (have := hn.l2); omega) | exact net_badT (by assumption) (fun hp => absurd hp.1 (by assumption)) | exact net_badT (by assumption) (fun hp => absurd hp.2.1 (by assumption)) | exact net_badT (by assumption) (fun hp => absurd hp.2.2 (by assumption)) | exact net_badL (by assumption : n.links[j]? = some x33) (fun hp => by (have h1 := hp.1); omega) | exact net_badL (by assumption : n.links[j]? = some x33) (fun hp => by (have h1 := hp.2 (by omega) _ (by assumption : n.links[j - 1]? = some x33)); first | contradiction | ((have h2 := lkCmp_lt.2 h1); omega)) | exact net_end hall (by assumption) hlk (by assumption) (by simp; omega)
   exact ⟨by first | (rw [ho]; done) | rfl, E40⟩
  refine d_runT rfl <| d_pq (.pointer (some ⟨b34, 2, none⟩)) <| d_runO rfl <| d_loadO (.int .i64 x33.delay) (fun _ q => bxx39.load rfl q) <| d_runO rfl <| d_eff <| s_callS [.int .i64 x33.delay, .int .i64 1, .int .i64 60] (.bool (decide (1 ≤ x33.delay ∧ x33.delay ≤ 60))) rfl (within_ok x33.delay 1 60 _ ) ?_
  refine s_nil ⟨fun _ x hx => rfl, ?_⟩
  refine d_runT rfl <| d_pq (.bool (!(decide (1 ≤ x33.delay ∧ x33.delay ≤ 60)))) <| d_pq (.bool (!(decide (1 ≤ x33.delay ∧ x33.delay ≤ 60)))) <| d_pq (.bool (!(decide (1 ≤ x33.delay ∧ x33.delay ≤ 60)))) ?_
  refine d_splitT rfl (fun c46 => ?_) (fun c46 => ?_)
  ·
   refine d_passT rfl <| d_passT rfl <| d_passT rfl <| d_splitU rfl <| d_passTU rfl <| d_passTU rfl <| d_passTU rfl <| d_passTU rfl <| d_passTU rfl <| d_passTU rfl <| d_passOU rfl <| d_passOU rfl <| d_passTU rfl <| d_passT rfl <| d_pq (.bool true) <| d_done <| p_seqN <| v_condY rfl rfl <| v_seq <| v_ops <| s_pq (.bool false) <| s_nil <| p_seqN <| v_ret <| p_blkR <| p_seqR <| p_lpR <| p_blkR <| p_seqR <| p_ret [.bool false] (.bool false) (fun _ q => q) rfl ?_
   have ho : decide (NetOk n) = false := by first | exact net_bad (fun hn => by (have := hn.t1); (have := hn.t2); (have := hn.l2); omega) | exact net_badT (by assumption) (fun hp => absurd hp.1 (by assumption)) | exact net_badT (by assumption) (fun hp => absurd hp.2.1 (by assumption)) | exact net_badT (by assumption) (fun hp => absurd hp.2.2 (by assumption)) | exact net_badL (by assumption : n.links[j]? = some x33) (fun hp => by (have h1 := hp.1); omega) | exact net_badL (by assumption : n.links[j]? = some x33) (fun hp => by (have h1 := hp.2 (by omega) _ (by assumption : n.links[j - 1]? = some x33)); first | contradiction | ((have h2 := lkCmp_lt.2 h1); omega)) | exact net_end hall (by assumption) hlk (by assumption) (by simp; omega)
   exact ⟨by first | (rw [ho]; done) | rfl, E40⟩
  have c46 := Classical.not_not.1 c46
  refine d_runT rfl <| d_pq (.int .i64 (j : Int)) <| d_runT rfl <| d_pq (.bool (decide ((j : Int) > 0))) <| d_runT rfl <| d_pq (.bool (decide ((j : Int) > 0))) ?_
  refine d_splitT rfl (fun c47 => ?_) (fun c47 => ?_)
  ·
   refine d_runT rfl <| d_pq (.pointer (some ⟨b1, 1, none⟩)) <| d_runT rfl <| d_pq (.int .i64 (j : Int)) <| d_runT rfl <| d_pureT (.int .i64 ((j : Int) - 1)) (fun _ q => ArithVC.mk (by omega) q) <| d_runT rfl <| d_loadT v_n_links (fun _ q => f41.take (by simp) rfl q) <| d_runT rfl ?_
   have hk48 : (j - 1) < n.links.length := (by first | omega | (simp; omega))
   obtain ⟨x49, hx49⟩ : ∃ x, n.links[(j - 1)]? = some x := ⟨_, List.getElem?_eq_getElem hk48⟩
   refine d_pureT (.pointer (some ⟨sblk v_n_links, soff v_n_links + (j - 1) * 3, none⟩)) (fun _ q => f42.idx (k := (j - 1)) (by omega) hk48 q) <| d_runT rfl <| d_loadT (.agg #[.int .i64 x49.a, .int .i64 x49.b, .int .i64 x49.delay]) (fun _ q => f42.takeN (fun b hb => by first | (simp [hb]; done) | exact (List.mem_append.2 (.inr hb))) hx49 rfl q) <| d_runO rfl <| d_loadO (.agg #[.int .i64 x33.a, .int .i64 x33.b, .int .i64 x33.delay]) (fun _ q => bxx39.loadA rfl q) <| d_runO rfl <| d_eff <| s_call [.agg #[.int .i64 x49.a, .int .i64 x49.b, .int .i64 x49.delay], .agg #[.int .i64 x33.a, .int .i64 x33.b, .int .i64 x33.delay]] rfl (impl_compareLinks_ok x49 x33 _ ) ?_
   rintro _ h50 ⟨rfl, eh50⟩
   have E51 := E40.trans eh50
   have z52 := eh50.size
   refine s_nil ⟨fun hl => (by cases hl), ?_⟩
   refine d_runT rfl <| d_pq (.bool (decide ((lkCmp x49 x33) ≥ 0))) <| d_runT rfl <| d_pq (.bool (decide ((lkCmp x49 x33) ≥ 0))) <| d_pq (.bool (decide ((lkCmp x49 x33) ≥ 0))) <| d_done <| p_seqN ?_
   refine v_cond rfl (fun c54 => ?_) (fun c54 => ?_)
   ·
    refine v_seq <| v_ops <| s_pq (.bool false) <| s_nil <| p_seqN <| v_ret <| p_blkR <| p_seqR <| p_lpR <| p_blkR <| p_seqR <| p_ret [.bool false] (.bool false) (fun _ q => q) rfl ?_
    have ho : decide (NetOk n) = false := by first | exact net_bad (fun hn => by (have := hn.t1); (have := hn.t2); (have := hn.l2); omega) | exact net_badT (by assumption) (fun hp => absurd hp.1 (by assumption)) | exact net_badT (by assumption) (fun hp => absurd hp.2.1 (by assumption)) | exact net_badT (by assumption) (fun hp => absurd hp.2.2 (by assumption)) | exact net_badL (by assumption : n.links[j]? = some x33) (fun hp => by (have h1 := hp.1); omega) | exact net_badL (by assumption : n.links[j]? = some x33) (fun hp => by (have h1 := hp.2 (by omega) _ (by assumption : n.links[j - 1]? = some x49)); first | contradiction | ((have h2 := lkCmp_lt.2 h1); omega)) | exact net_end hall (by assumption) hlk (by assumption) (by simp; omega)
    exact ⟨by first | (rw [ho]; done) | rfl, E51⟩
   refine v_skip <| p_blkN <| p_seqN <| v_ops <| s_pure (.int .i64 ((j : Int) + 1)) (fun _ q => ArithVC.mk (by omega) q) <| s_pq (.int .i64 ((j : Int) + 1)) <| s_nil ?_
   have f55 := (f41.ext eh50)
   exact p_lpN ⟨j + 1, ⟨rfl, rfl, rfl, rfl⟩, ⟨E51, f55, (by exact ⟨by omega, links_snoc hlk (by assumption : n.links[j]? = some x33) (by omega) (fun h0 y hy => by first | omega | ((obtain rfl := Option.some.inj (hy.symm.trans (by assumption : n.links[j - 1]? = some x49))); first | assumption | exact lkCmp_lt.1 (by omega)))⟩)⟩, by omega⟩
  refine d_passT rfl <| d_passT rfl <| d_passT rfl <| d_passT rfl <| d_passT rfl <| d_passT rfl <| d_passO rfl <| d_passO rfl <| d_passT rfl <| d_runT rfl <| d_pq (.bool false) <| d_pq (.bool false) <| d_done <| p_seqN <| v_condN rfl (by simp) <| v_skip <| p_blkN <| p_seqN <| v_ops <| s_pure (.int .i64 ((j : Int) + 1)) (fun _ q => ArithVC.mk (by omega) q) <| s_pq (.int .i64 ((j : Int) + 1)) <| s_nil ?_
  exact p_lpN ⟨j + 1, ⟨rfl, rfl, rfl, rfl⟩, ⟨E40, f41, (by exact ⟨by omega, links_snoc hlk (by assumption : n.links[j]? = some x33) (by omega) (fun h0 y hy => by first | omega | ((obtain rfl := Option.some.inj (hy.symm.trans (by assumption : n.links[j - 1]? = some x33))); first | assumption | exact lkCmp_lt.1 (by omega)))⟩)⟩, by omega⟩
 refine v_exit <| p_seqX <| p_lpX <| p_blkX <| p_seqN <| v_seq <| v_ops <| s_pq (.bool true) <| s_nil <| p_seqN <| v_ret <| p_ret [.bool true] (.bool true) (fun _ q => q) rfl ?_
 have ho : decide (NetOk n) = true := by first | exact net_bad (fun hn => by (have := hn.t1); (have := hn.t2); (have := hn.l2); omega) | exact net_badT (by assumption) (fun hp => absurd hp.1 (by assumption)) | exact net_badT (by assumption) (fun hp => absurd hp.2.1 (by assumption)) | exact net_badT (by assumption) (fun hp => absurd hp.2.2 (by assumption)) | exact net_badL (by assumption : n.links[j]? = some xo__) (fun hp => by (have h1 := hp.1); omega) | exact net_badL (by assumption : n.links[j]? = some xo__) (fun hp => by (have h1 := hp.2 (by omega) _ (by assumption : n.links[j - 1]? = some x__)); first | contradiction | ((have h2 := lkCmp_lt.2 h1); omega)) | exact net_end hall (by assumption) hlk (by assumption) (by simp; omega)
 exact ⟨by first | (rw [ho]; done) | rfl, Eh⟩

set_option maxRecDepth 10000 in
set_option maxHeartbeats 4000000 in
theorem spec_neGood_ok (n : NetP) (v_n_towers : Value) (v_n_links : Value) (h : Heap) (s_n_towers : Sl h v_n_towers n.towers) (s_n_links : Sl h v_n_links n.links) : Cn f_spec_neGood [.agg #[v_n_towers, v_n_links]] h fun v h' => v = .bool (decide (NetOk n)) ∧ Ext h h' := by
 have l63_n_towers := s_n_towers.len63
 have lt_n_links := s_n_links.lt
 have l63_n_links := s_n_links.len63
 refine calls_of r_spec_neGood ?_
 refine v_seq <| v_ops ?_
 refine s_box [v_n_towers, v_n_links] rfl (fun h2 b1 hbb1 hzb1 eh2 bxb1 => ?_)
 have E3 := (Ext.refl h).trans eh2
 have z4 := eh2.size
 have lbb1 := bxb1.lt
 refine s_pq (.bool false) <| s_nil <| p_seqN <| v_seq <| v_seq <| v_ops <| s_pq (.pointer (some ⟨b1, 0, none⟩)) <| s_load v_n_towers (fun _ q => bxb1.load rfl q) <| s_pure (.int .i64 (n.towers.length : Int)) (fun _ q => s_n_towers.lenVC q) <| s_pq (.int .i64 0) <| s_nil <| p_seqN <| v_block <| v_loop1 (α := Nat) (fun k => [(1, .pointer (some ⟨b1, 0, none⟩)), (8, v_n_towers), (9, .int .i64 (n.towers.length : Int)), (10, .int .i64 (k : Int))]) (fun k hh => Ext h hh ∧ Bx hh b1 [v_n_towers, v_n_links] 27 ∧ k ≤ n.towers.length ∧ ∀ t ∈ n.towers.take k, TowOk t) (fun k => n.towers.length - k) 0 ⟨rfl, rfl, rfl, rfl⟩ ⟨E3, bxb1, (by simp)⟩ ?_
 rintro k R6 h5 ⟨Eh, bxb1, ⟨hk, hall⟩⟩
 have zEh := Eh.size
 have f8 := s_n_towers.ext Eh
 have f9 := s_n_links.ext Eh
 have lbb1 := bxb1.lt
 refine v_seq <| v_ops <| s_pq (.bool (decide ((k : Int) < (n.towers.length : Int)))) <| s_nil <| p_seqN <| v_seq ?_
 refine v_cond rfl (fun c10 => ?_) (fun c10 => ?_)
 ·
  refine v_skip <| p_seqN <| v_seq <| v_block <| v_seq <| v_ops ?_
  have hk11 : k < n.towers.length := (by first | omega | (simp; omega))
  obtain ⟨x12, hx12⟩ : ∃ x, n.towers[k]? = some x := ⟨_, List.getElem?_eq_getElem hk11⟩
  refine s_pure (.pointer (some ⟨sblk v_n_towers, soff v_n_towers + k * 3, none⟩)) (fun _ q => f8.idx (k := k) rfl hk11 q) <| s_load (.agg #[.int .i64 x12.x, .int .i64 x12.y, .int .i64 x12.height]) (fun _ q => f8.loadN hx12 rfl q) ?_
  refine s_new (fun h14 b13 hbb13 hzb13 eh14 bxb13 => ?_)
  have E15 := Eh.trans eh14
  have z16 := eh14.size
  have lbb13 := bxb13.lt
  refine s_stBx (.agg #[.int .i64 x12.x, .int .i64 x12.y, .int .i64 x12.height]) [.int .i64 x12.x, .int .i64 x12.y, .int .i64 x12.height] [.int .i64 x12.x, .int .i64 x12.y, .int .i64 x12.height] bxb13 rfl rfl rfl rfl (by simp) (all_cons rfl (all_cons rfl (all_cons rfl all_nil))) rfl (fun h17 mh17 sh17 bxx18 => ?_)
  have E19 := E15.mod mh17 (fun b hb => by simp at hb; omega)
  refine s_nil <| p_seqN <| v_seq <| v_ops <| s_pq (.pointer (some ⟨b13, 0, none⟩)) <| s_load (.int .i64 x12.x) (fun _ q => bxx18.load rfl q) <| s_callS [.int .i64 x12.x, .int .i64 0, .int .i64 999] (.bool (decide (0 ≤ x12.x ∧ x12.x ≤ 999))) rfl (l1In_ok x12.x 0 999 _ ) <| s_pq (.bool (!(decide (0 ≤ x12.x ∧ x12.x ≤ 999)))) <| s_pq (.bool (!(decide (0 ≤ x12.x ∧ x12.x ≤ 999)))) ?_
  refine s_splitT rfl (fun c20 => ?_) (fun c20 => ?_)
  ·
   refine s_pass rfl <| s_pass rfl <| s_pass rfl <| s_pass rfl <| s_pq (.bool true) <| s_pq (.bool true) <| s_splitY rfl rfl <| s_pass rfl <| s_pass rfl <| s_pass rfl <| s_pass rfl <| s_pq (.bool true) <| s_nil <| p_seqN <| v_condY rfl rfl <| v_seq <| v_ops <| s_pq (.bool false) <| s_nil <| p_seqN <| v_ret <| p_blkR <| p_seqR <| p_lpR <| p_blkR <| p_seqR <| p_ret [.bool false] (.bool false) (fun _ q => q) rfl ?_
   have ho : decide (NetOk n) = false := by first | exact net_bad (fun hn => by (have := hn.t1); (have := hn.t2); (have := hn.l2); omega) | exact net_badT (by assumption) (fun hp => absurd hp.1 (by assumption)) | exact net_badT (by assumption) (fun hp => absurd hp.2.1 (by assumption)) | exact net_badT (by assumption) (fun hp => absurd hp.2.2 (by assumption)) | exact net_badL (by assumption : n.links[j]? = some x12) (fun hp => by (have h1 := hp.1); (have hw := wrap_id (x12.b - 1) (by omega) (by omega)); omega) | exact net_badL (by assumption : n.links[j]? = some x12) (fun hp => by (have h1 := hp.2 (by omega) _ (by assumption : n.links[j - 1]? = some x12)); first | contradiction | ((have h2 := lkCmp_lt.2 h1); omega)) | exact net_end hall (by assumption) hlk (by assumption) (by simp; omega)
   exact ⟨by first | (rw [ho]; done) | rfl, E19⟩
  have c20 := Classical.not_not.1 c20
  refine s_run rfl <| s_pq (.pointer (some ⟨b13, 1, none⟩)) <| s_run rfl <| s_load (.int .i64 x12.y) (fun _ q => bxx18.load rfl q) <| s_run rfl <| s_callS [.int .i64 x12.y, .int .i64 0, .int .i64 999] (.bool (decide (0 ≤ x12.y ∧ x12.y ≤ 999))) rfl (l1In_ok x12.y 0 999 _ ) <| s_run rfl <| s_pq (.bool (!(decide (0 ≤ x12.y ∧ x12.y ≤ 999)))) <| s_pq (.bool (!(decide (0 ≤ x12.y ∧ x12.y ≤ 999)))) <| s_pq (.bool (!(decide (0 ≤ x12.y ∧ x12.y ≤ 999)))) ?_
  refine s_splitT rfl (fun c21 => ?_) (fun c21 => ?_)
  ·
   refine s_pass rfl <| s_pass rfl <| s_pass rfl <| s_pass rfl <| s_pq (.bool true) <| s_nil <| p_seqN <| v_condY rfl rfl <| v_seq <| v_ops <| s_pq (.bool false) <| s_nil <| p_seqN <| v_ret <| p_blkR <| p_seqR <| p_lpR <| p_blkR <| p_seqR <| p_ret [.bool false] (.bool false) (fun _ q => q) rfl ?_
   have ho : decide (NetOk n) = false := by first | exact net_bad (fun hn => by (have := hn.t1); (have := hn.t2); (have := hn.l2); omega) | exact net_badT (by assumption) (fun hp => absurd hp.1 (by assumption)) | exact net_badT (by assumption) (fun hp => absurd hp.2.1 (by assumption)) | exact net_badT (by assumption) (fun hp => absurd hp.2.2 (by assumption)) | exact net_badL (by assumption : n.links[j]? = some x12) (fun hp => by (have h1 := hp.1); (have hw := wrap_id (x12.b - 1) (by omega) (by omega)); omega) | exact net_badL (by assumption : n.links[j]? = some x12) (fun hp => by (have h1 := hp.2 (by omega) _ (by assumption : n.links[j - 1]? = some x12)); first | contradiction | ((have h2 := lkCmp_lt.2 h1); omega)) | exact net_end hall (by assumption) hlk (by assumption) (by simp; omega)
   exact ⟨by first | (rw [ho]; done) | rfl, E19⟩
  have c21 := Classical.not_not.1 c21
  refine s_run rfl <| s_pq (.pointer (some ⟨b13, 2, none⟩)) <| s_run rfl <| s_load (.int .i64 x12.height) (fun _ q => bxx18.load rfl q) <| s_run rfl <| s_callS [.int .i64 x12.height, .int .i64 0, .int .i64 500] (.bool (decide (0 ≤ x12.height ∧ x12.height ≤ 500))) rfl (l1In_ok x12.height 0 500 _ ) <| s_run rfl <| s_pq (.bool (!(decide (0 ≤ x12.height ∧ x12.height ≤ 500)))) <| s_pq (.bool (!(decide (0 ≤ x12.height ∧ x12.height ≤ 500)))) <| s_nil <| p_seqN ?_
  refine v_cond rfl (fun c22 => ?_) (fun c22 => ?_)
  ·
   refine v_seq <| v_ops <| s_pq (.bool false) <| s_nil <| p_seqN <| v_ret <| p_blkR <| p_seqR <| p_lpR <| p_blkR <| p_seqR <| p_ret [.bool false] (.bool false) (fun _ q => q) rfl ?_
   have ho : decide (NetOk n) = false := by first | exact net_bad (fun hn => by (have := hn.t1); (have := hn.t2); (have := hn.l2); omega) | exact net_badT (by assumption) (fun hp => absurd hp.1 (by assumption)) | exact net_badT (by assumption) (fun hp => absurd hp.2.1 (by assumption)) | exact net_badT (by assumption) (fun hp => absurd hp.2.2 (by assumption)) | exact net_badL (by assumption : n.links[j]? = some x12) (fun hp => by (have h1 := hp.1); (have hw := wrap_id (x12.b - 1) (by omega) (by omega)); omega) | exact net_badL (by assumption : n.links[j]? = some x12) (fun hp => by (have h1 := hp.2 (by omega) _ (by assumption : n.links[j - 1]? = some x12)); first | contradiction | ((have h2 := lkCmp_lt.2 h1); omega)) | exact net_end hall (by assumption) hlk (by assumption) (by simp; omega)
   exact ⟨by first | (rw [ho]; done) | rfl, E19⟩
  have c22 := Classical.not_not.1 c22
  refine v_skip <| p_blkN <| p_seqN <| v_ops <| s_pure (.int .i64 ((k : Int) + 1)) (fun _ q => ArithVC.mk (by omega) q) <| s_pq (.int .i64 ((k : Int) + 1)) <| s_nil ?_
  have f23 := ((bxb1.ext eh14).mod mh17 (by simp; omega))
  exact p_lpN ⟨k + 1, ⟨rfl, rfl, rfl, rfl⟩, ⟨E19, f23, (by exact ⟨by omega, all_snoc (P := TowOk) hall (by assumption) ⟨by assumption, by assumption, by assumption⟩⟩)⟩, by omega⟩
 refine v_exit <| p_seqX <| p_lpX <| p_blkX <| p_seqN <| v_seq <| v_seq <| v_ops <| s_pq (.pointer (some ⟨b1, 1, none⟩)) <| s_load v_n_links (fun _ q => bxb1.load rfl q) <| s_pure (.int .i64 (n.links.length : Int)) (fun _ q => f9.lenVC q) <| s_pq (.int .i64 0) <| s_nil <| p_seqN <| v_block <| v_loop1 (α := Nat) (fun j => [(1, .pointer (some ⟨b1, 0, none⟩)), (32, v_n_links), (33, .int .i64 (n.links.length : Int)), (34, .int .i64 (j : Int))]) (fun j hh => Ext h hh ∧ Bx hh b1 [v_n_towers, v_n_links] 27 ∧ j ≤ n.links.length ∧ LinksOk n.towers.length n.links j) (fun j => n.links.length - j) 0 ⟨rfl, rfl, rfl, rfl⟩ ⟨Eh, bxb1, (by exact ⟨by omega, fun i x hi => by omega⟩)⟩ ?_
 rintro j R25 h24 ⟨Eh, bxb1, ⟨hj, hlk⟩⟩
 have zEh := Eh.size
 have f27 := s_n_towers.ext Eh
 have f28 := s_n_links.ext Eh
 have lbb1 := bxb1.lt
 refine v_seq <| v_ops <| s_pq (.bool (decide ((j : Int) < (n.links.length : Int)))) <| s_nil <| p_seqN <| v_seq ?_
 refine v_cond rfl (fun c29 => ?_) (fun c29 => ?_)
 ·
  refine v_skip <| p_seqN <| v_seq <| v_block <| v_seq <| v_ops <| s_pq (.int .i64 (j : Int)) ?_
  have hk30 : j < n.links.length := (by first | omega | (simp; omega))
  obtain ⟨x31, hx31⟩ : ∃ x, n.links[j]? = some x := ⟨_, List.getElem?_eq_getElem hk30⟩
  refine s_pure (.pointer (some ⟨sblk v_n_links, soff v_n_links + j * 3, none⟩)) (fun _ q => f28.idx (k := j) rfl hk30 q) <| s_load (.agg #[.int .i64 x31.a, .int .i64 x31.b, .int .i64 x31.delay]) (fun _ q => f28.loadN hx31 rfl q) ?_
  refine s_new (fun h33 b32 hbb32 hzb32 eh33 bxb32 => ?_)
  have E34 := Eh.trans eh33
  have z35 := eh33.size
  have lbb32 := bxb32.lt
  refine s_pq (.int .i64 (j : Int)) ?_
  refine s_stBx (.agg #[.int .i64 x31.a, .int .i64 x31.b, .int .i64 x31.delay]) [.int .i64 x31.a, .int .i64 x31.b, .int .i64 x31.delay] [.int .i64 x31.a, .int .i64 x31.b, .int .i64 x31.delay] bxb32 rfl rfl rfl rfl (by simp) (all_cons rfl (all_cons rfl (all_cons rfl all_nil))) rfl (fun h36 mh36 sh36 bxx37 => ?_)
  have E38 := E34.mod mh36 (fun b hb => by simp at hb; omega)
  refine s_nil <| p_seqN <| v_seq ?_
  have f39 := ((bxb1.ext eh33).mod mh36 (by simp; omega))
  have f40 := ((f28.ext eh33).mod mh36 (fun b hb hc => by simp at hc; have := lt_n_links b hb; omega))
  refine v_draw (DrawVC.hold ([b32] ++ [b1] ++ blks v_n_links) ?_)
  refine d_pq (.pointer (some ⟨b32, 0, none⟩)) <| d_pq (.pointer (some ⟨b32, 1, none⟩)) <| d_loadO (.int .i64 x31.a) (fun _ q => bxx37.load rfl q) <| d_loadO (.int .i64 x31.b) (fun _ q => bxx37.load rfl q) <| d_pureT (.int .i64 (IntKind.i64.wrap (x31.b - 1))) (fun _ q => ArithVC.raw q) <| d_eff <| s_callS [.int .i64 x31.a, .int .i64 0, .int .i64 (IntKind.i64.wrap (x31.b - 1))] (.bool (decide (0 ≤ x31.a ∧ x31.a ≤ (IntKind.i64.wrap (x31.b - 1))))) rfl (l1In_ok x31.a 0 (IntKind.i64.wrap (x31.b - 1)) _ ) ?_
  refine s_nil ⟨fun _ x hx => rfl, ?_⟩
  refine d_pq (.bool (!(decide (0 ≤ x31.a ∧ x31.a ≤ (IntKind.i64.wrap (x31.b - 1)))))) <| d_pq (.bool (!(decide (0 ≤ x31.a ∧ x31.a ≤ (IntKind.i64.wrap (x31.b - 1)))))) ?_
  refine d_splitT rfl (fun c41 => ?_) (fun c41 => ?_)
  ·
   refine d_passT rfl <| d_passT rfl <| d_passT rfl <| d_passO rfl <| d_passT rfl <| d_passT rfl <| d_passO rfl <| d_passT rfl <| d_pq (.bool true) <| d_pq (.bool true) <| d_splitY rfl rfl <| d_passT rfl <| d_passO rfl <| d_passO rfl <| d_passT rfl <| d_pq (.bool true) <| d_pq (.bool true) <| d_splitY rfl rfl <| d_passT rfl <| d_passT rfl <| d_passT rfl <| d_splitU rfl <| d_passTU rfl <| d_passTU rfl <| d_passTU rfl <| d_passTU rfl <| d_passTU rfl <| d_passTU rfl <| d_passOU rfl <| d_passOU rfl ?_
   refine d_passTU rfl <| d_passT rfl <| d_pq (.bool true) <| d_done <| p_seqN <| v_condY rfl rfl <| v_seq <| v_ops <| s_pq (.bool false) <| s_nil <| p_seqN <| v_ret <| p_blkR <| p_seqR <| p_lpR <| p_blkR <| p_seqR <| p_ret [.bool false] (.bool false) (fun _ q => q) rfl ?_
   have ho : decide (NetOk n) = false := by first | exact net_bad (fun hn => by (have := hn.t1); (have := hn.t2); (have := hn.l2); omega) | exact net_badT (by assumption) (fun hp => absurd hp.1 (by assumption)) | exact net_badT (by assumption) (fun hp => absurd hp.2.1 (by assumption)) | exact net_badT (by assumption) (fun hp => absurd hp.2.2 (by assumption)) | exact net_badL (by assumption : n.links[j]? = some x31) (fun hp => by (have h1 := hp.1); (have hw := wrap_id (x31.b - 1) (by omega) (by omega)); omega) | exact net_badL (by assumption : n.links[j]? = some x31) (fun hp => by (have h1 := hp.2 (by omega) _ (by assumption : n.links[j - 1]? = some x31)); first | contradiction | ((have h2 := lkCmp_lt.2 h1); omega)) | exact net_end hall (by assumption) hlk (by assumption) (by simp; omega)
   exact ⟨by first | (rw [ho]; done) | rfl, E38⟩
  have c41 := Classical.not_not.1 c41
  refine d_runT rfl <| d_pq (.pointer (some ⟨b32, 1, none⟩)) <| d_runT rfl <| d_pq (.pointer (some ⟨b1, 0, none⟩)) <| d_runT rfl <| d_loadT (.int .i64 x31.b) (fun _ q => bxx37.take (by simp) rfl q) <| d_runO rfl <| d_loadO v_n_towers (fun _ q => f39.load rfl q) <| d_runT rfl <| d_pureT (.int .i64 (n.towers.length : Int)) (fun _ q => f27.lenVC q) <| d_runT rfl <| d_pureT (.int .i64 ((n.towers.length : Int) - 1)) (fun _ q => ArithVC.mk (by omega) q) <| d_runO rfl <| d_eff <| s_callS [.int .i64 x31.b, .int .i64 0, .int .i64 ((n.towers.length : Int) - 1)] (.bool (decide (0 ≤ x31.b ∧ x31.b ≤ ((n.towers.length : Int) - 1)))) rfl (l1In_ok x31.b 0 ((n.towers.length : Int) - 1) _ ) ?_
  refine s_nil ⟨fun _ x hx => rfl, ?_⟩
  refine d_runT rfl <| d_pq (.bool (!(decide (0 ≤ x31.b ∧ x31.b ≤ ((n.towers.length : Int) - 1))))) <| d_pq (.bool (!(decide (0 ≤ x31.b ∧ x31.b ≤ ((n.towers.length : Int) - 1))))) <| d_pq (.bool (!(decide (0 ≤ x31.b ∧ x31.b ≤ ((n.towers.length : Int) - 1))))) ?_
  refine d_splitT rfl (fun c42 => ?_) (fun c42 => ?_)
  ·
   refine d_passT rfl <| d_passO rfl <| d_passO rfl <| d_passT rfl <| d_pq (.bool true) <| d_pq (.bool true) <| d_splitY rfl rfl <| d_passT rfl <| d_passT rfl <| d_passT rfl <| d_splitU rfl <| d_passTU rfl <| d_passTU rfl <| d_passTU rfl <| d_passTU rfl <| d_passTU rfl <| d_passTU rfl <| d_passOU rfl <| d_passOU rfl <| d_passTU rfl <| d_passT rfl <| d_pq (.bool true) <| d_done <| p_seqN <| v_condY rfl rfl <| v_seq <| v_ops <| s_pq (.bool false) <| s_nil <| p_seqN <| v_ret <| p_blkR <| p_seqR <| p_lpR ?_
   refine p_blkR <| p_seqR <| p_ret [.bool false] (.bool false) (fun _ q => q) rfl ?_
   have ho : decide (NetOk n) = false := by first | exact net_bad (fun hn => by (have := hn.t1); (have := hn.t2); (have := hn.l2); omega) | exact net_badT (by assumption) (fun hp => absurd hp.1 (by assumption)) | exact net_badT (by assumption) (fun hp => absurd hp.2.1 (by assumption)) | exact net_badT (by assumption) (fun hp => absurd hp.2.2 (by assumption)) | exact net_badL (by assumption : n.links[j]? = some x31) (fun hp => by (have h1 := hp.1); (have hw := wrap_id (x31.b - 1) (by omega) (by omega)); omega) | exact net_badL (by assumption : n.links[j]? = some x31) (fun hp => by (have h1 := hp.2 (by omega) _ (by assumption : n.links[j - 1]? = some x31)); first | contradiction | ((have h2 := lkCmp_lt.2 h1); omega)) | exact net_end hall (by assumption) hlk (by assumption) (by simp; omega)
   exact ⟨by first | (rw [ho]; done) | rfl, E38⟩
  have c42 := Classical.not_not.1 c42
  refine d_runT rfl <| d_pq (.pointer (some ⟨b32, 2, none⟩)) <| d_runO rfl <| d_loadO (.int .i64 x31.delay) (fun _ q => bxx37.load rfl q) <| d_runO rfl <| d_eff <| s_callS [.int .i64 x31.delay, .int .i64 1, .int .i64 60] (.bool (decide (1 ≤ x31.delay ∧ x31.delay ≤ 60))) rfl (l1In_ok x31.delay 1 60 _ ) ?_
  refine s_nil ⟨fun _ x hx => rfl, ?_⟩
  refine d_runT rfl <| d_pq (.bool (!(decide (1 ≤ x31.delay ∧ x31.delay ≤ 60)))) <| d_pq (.bool (!(decide (1 ≤ x31.delay ∧ x31.delay ≤ 60)))) <| d_pq (.bool (!(decide (1 ≤ x31.delay ∧ x31.delay ≤ 60)))) ?_
  refine d_splitT rfl (fun c43 => ?_) (fun c43 => ?_)
  ·
   refine d_passT rfl <| d_passT rfl <| d_passT rfl <| d_splitU rfl <| d_passTU rfl <| d_passTU rfl <| d_passTU rfl <| d_passTU rfl <| d_passTU rfl <| d_passTU rfl <| d_passOU rfl <| d_passOU rfl <| d_passTU rfl <| d_passT rfl <| d_pq (.bool true) <| d_done <| p_seqN <| v_condY rfl rfl <| v_seq <| v_ops <| s_pq (.bool false) <| s_nil <| p_seqN <| v_ret <| p_blkR <| p_seqR <| p_lpR <| p_blkR <| p_seqR <| p_ret [.bool false] (.bool false) (fun _ q => q) rfl ?_
   have ho : decide (NetOk n) = false := by first | exact net_bad (fun hn => by (have := hn.t1); (have := hn.t2); (have := hn.l2); omega) | exact net_badT (by assumption) (fun hp => absurd hp.1 (by assumption)) | exact net_badT (by assumption) (fun hp => absurd hp.2.1 (by assumption)) | exact net_badT (by assumption) (fun hp => absurd hp.2.2 (by assumption)) | exact net_badL (by assumption : n.links[j]? = some x31) (fun hp => by (have h1 := hp.1); (have hw := wrap_id (x31.b - 1) (by omega) (by omega)); omega) | exact net_badL (by assumption : n.links[j]? = some x31) (fun hp => by (have h1 := hp.2 (by omega) _ (by assumption : n.links[j - 1]? = some x31)); first | contradiction | ((have h2 := lkCmp_lt.2 h1); omega)) | exact net_end hall (by assumption) hlk (by assumption) (by simp; omega)
   exact ⟨by first | (rw [ho]; done) | rfl, E38⟩
  have c43 := Classical.not_not.1 c43
  refine d_runT rfl <| d_pq (.int .i64 (j : Int)) <| d_runT rfl <| d_pq (.bool (decide ((j : Int) > 0))) <| d_runT rfl <| d_pq (.bool (decide ((j : Int) > 0))) ?_
  refine d_splitT rfl (fun c44 => ?_) (fun c44 => ?_)
  ·
   refine d_runT rfl <| d_pq (.pointer (some ⟨b1, 1, none⟩)) <| d_runT rfl <| d_pq (.int .i64 (j : Int)) <| d_runT rfl <| d_pureT (.int .i64 ((j : Int) - 1)) (fun _ q => ArithVC.mk (by omega) q) <| d_runT rfl <| d_loadT v_n_links (fun _ q => f39.take (by simp) rfl q) <| d_runT rfl ?_
   have hk45 : (j - 1) < n.links.length := (by first | omega | (simp; omega))
   obtain ⟨x46, hx46⟩ : ∃ x, n.links[(j - 1)]? = some x := ⟨_, List.getElem?_eq_getElem hk45⟩
   refine d_pureT (.pointer (some ⟨sblk v_n_links, soff v_n_links + (j - 1) * 3, none⟩)) (fun _ q => f40.idx (k := (j - 1)) (by omega) hk45 q) <| d_runT rfl <| d_loadT (.agg #[.int .i64 x46.a, .int .i64 x46.b, .int .i64 x46.delay]) (fun _ q => f40.takeN (fun b hb => by first | (simp [hb]; done) | exact (List.mem_append.2 (.inr hb))) hx46 rfl q) <| d_runO rfl <| d_loadO (.agg #[.int .i64 x31.a, .int .i64 x31.b, .int .i64 x31.delay]) (fun _ q => bxx37.loadA rfl q) <| d_runO rfl <| d_eff <| s_call [.agg #[.int .i64 x46.a, .int .i64 x46.b, .int .i64 x46.delay], .agg #[.int .i64 x31.a, .int .i64 x31.b, .int .i64 x31.delay]] rfl (spec_neBefore_ok x46 x31 _ ) ?_
   rintro _ h47 ⟨rfl, eh47⟩
   have E48 := E38.trans eh47
   have z49 := eh47.size
   refine s_nil ⟨fun hl => (by cases hl), ?_⟩
   refine d_runT rfl <| d_pq (.bool (!(decide (lkLt x46 x31)))) <| d_runT rfl <| d_pq (.bool (!(decide (lkLt x46 x31)))) <| d_pq (.bool (!(decide (lkLt x46 x31)))) <| d_done <| p_seqN ?_
   refine v_cond rfl (fun c51 => ?_) (fun c51 => ?_)
   ·
    refine v_seq <| v_ops <| s_pq (.bool false) <| s_nil <| p_seqN <| v_ret <| p_blkR <| p_seqR <| p_lpR <| p_blkR <| p_seqR <| p_ret [.bool false] (.bool false) (fun _ q => q) rfl ?_
    have ho : decide (NetOk n) = false := by first | exact net_bad (fun hn => by (have := hn.t1); (have := hn.t2); (have := hn.l2); omega) | exact net_badT (by assumption) (fun hp => absurd hp.1 (by assumption)) | exact net_badT (by assumption) (fun hp => absurd hp.2.1 (by assumption)) | exact net_badT (by assumption) (fun hp => absurd hp.2.2 (by assumption)) | exact net_badL (by assumption : n.links[j]? = some x31) (fun hp => by (have h1 := hp.1); (have hw := wrap_id (x31.b - 1) (by omega) (by omega)); omega) | exact net_badL (by assumption : n.links[j]? = some x31) (fun hp => by (have h1 := hp.2 (by omega) _ (by assumption : n.links[j - 1]? = some x46)); first | contradiction | ((have h2 := lkCmp_lt.2 h1); omega)) | exact net_end hall (by assumption) hlk (by assumption) (by simp; omega)
    exact ⟨by first | (rw [ho]; done) | rfl, E48⟩
   have c51 := Classical.not_not.1 c51
   refine v_skip <| p_blkN <| p_seqN <| v_ops <| s_pure (.int .i64 ((j : Int) + 1)) (fun _ q => ArithVC.mk (by omega) q) <| s_pq (.int .i64 ((j : Int) + 1)) <| s_nil ?_
   have f52 := (f39.ext eh47)
   exact p_lpN ⟨j + 1, ⟨rfl, rfl, rfl, rfl⟩, ⟨E48, f52, (by (have hw := wrap_id (x31.b - 1) (by omega) (by omega)); exact ⟨by omega, links_snoc hlk (by assumption : n.links[j]? = some x31) (by omega) (fun h0 y hy => by first | omega | ((obtain rfl := Option.some.inj (hy.symm.trans (by assumption : n.links[j - 1]? = some x46))); first | assumption | exact lkCmp_lt.1 (by omega)))⟩)⟩, by omega⟩
  refine d_passT rfl <| d_passT rfl <| d_passT rfl <| d_passT rfl <| d_passT rfl <| d_passT rfl <| d_passO rfl <| d_passO rfl <| d_passT rfl <| d_runT rfl <| d_pq (.bool false) <| d_pq (.bool false) <| d_done <| p_seqN <| v_condN rfl (by simp) <| v_skip <| p_blkN <| p_seqN <| v_ops <| s_pure (.int .i64 ((j : Int) + 1)) (fun _ q => ArithVC.mk (by omega) q) <| s_pq (.int .i64 ((j : Int) + 1)) <| s_nil ?_
  exact p_lpN ⟨j + 1, ⟨rfl, rfl, rfl, rfl⟩, ⟨E38, f39, (by (have hw := wrap_id (x31.b - 1) (by omega) (by omega)); exact ⟨by omega, links_snoc hlk (by assumption : n.links[j]? = some x31) (by omega) (fun h0 y hy => by first | omega | ((obtain rfl := Option.some.inj (hy.symm.trans (by assumption : n.links[j - 1]? = some x31))); first | assumption | exact lkCmp_lt.1 (by omega)))⟩)⟩, by omega⟩
 refine v_exit <| p_seqX <| p_lpX <| p_blkX <| p_seqN <| v_seq <| v_ops <| s_pq (.pointer (some ⟨b1, 0, none⟩)) <| s_load v_n_towers (fun _ q => bxb1.load rfl q) <| s_pure (.int .i64 (n.towers.length : Int)) (fun _ q => f27.lenVC q) <| s_callS [.int .i64 (n.towers.length : Int), .int .i64 1, .int .i64 16] (.bool (decide (1 ≤ (n.towers.length : Int) ∧ (n.towers.length : Int) ≤ 16))) rfl (l1In_ok (n.towers.length : Int) 1 16 _ ) <| s_pq (.bool (decide (1 ≤ (n.towers.length : Int) ∧ (n.towers.length : Int) ≤ 16))) ?_
 refine s_splitT rfl (fun c53 => ?_) (fun c53 => ?_)
 ·
  refine s_run rfl <| s_pq (.pointer (some ⟨b1, 1, none⟩)) <| s_run rfl <| s_load v_n_links (fun _ q => bxb1.load rfl q) <| s_run rfl <| s_pure (.int .i64 (n.links.length : Int)) (fun _ q => f28.lenVC q) <| s_run rfl <| s_pq (.bool (decide ((n.links.length : Int) ≤ 40))) <| s_pq (.bool (decide ((n.links.length : Int) ≤ 40))) <| s_pq (.bool (decide ((n.links.length : Int) ≤ 40))) <| s_nil <| p_seqN <| v_ret <| p_ret [.bool (decide ((n.links.length : Int) ≤ 40))] (.bool (decide ((n.links.length : Int) ≤ 40))) (fun _ q => q) rfl ?_
  have ho : decide (NetOk n) = (decide ((n.links.length : Int) ≤ 40)) := by first | exact net_bad (fun hn => by (have := hn.t1); (have := hn.t2); (have := hn.l2); omega) | exact net_badT (by assumption) (fun hp => absurd hp.1 (by assumption)) | exact net_badT (by assumption) (fun hp => absurd hp.2.1 (by assumption)) | exact net_badT (by assumption) (fun hp => absurd hp.2.2 (by assumption)) | exact net_badL (by assumption : n.links[j]? = some xo__) (fun hp => by (have h1 := hp.1); (have hw := wrap_id (xo__.b - 1) (by omega) (by omega)); omega) | exact net_badL (by assumption : n.links[j]? = some xo__) (fun hp => by (have h1 := hp.2 (by omega) _ (by assumption : n.links[j - 1]? = some x__)); first | contradiction | ((have h2 := lkCmp_lt.2 h1); omega)) | exact net_end hall (by assumption) hlk (by assumption) (by simp; omega)
  exact ⟨by first | (rw [ho]; done) | rfl, Eh⟩
 refine s_pass rfl <| s_pass rfl <| s_pass rfl <| s_pass rfl <| s_pq (.bool false) <| s_pq (.bool false) <| s_nil <| p_seqN <| v_ret <| p_ret [.bool false] (.bool false) (fun _ q => q) rfl ?_
 have ho : decide (NetOk n) = false := by first | exact net_bad (fun hn => by (have := hn.t1); (have := hn.t2); (have := hn.l2); omega) | exact net_badT (by assumption) (fun hp => absurd hp.1 (by assumption)) | exact net_badT (by assumption) (fun hp => absurd hp.2.1 (by assumption)) | exact net_badT (by assumption) (fun hp => absurd hp.2.2 (by assumption)) | exact net_badL (by assumption : n.links[j]? = some xo__) (fun hp => by (have h1 := hp.1); (have hw := wrap_id (xo__.b - 1) (by omega) (by omega)); omega) | exact net_badL (by assumption : n.links[j]? = some xo__) (fun hp => by (have h1 := hp.2 (by omega) _ (by assumption : n.links[j - 1]? = some x__)); first | contradiction | ((have h2 := lkCmp_lt.2 h1); omega)) | exact net_end hall (by assumption) hlk (by assumption) (by simp; omega)
 exact ⟨by first | (rw [ho]; done) | rfl, Eh⟩

theorem impl_isLink_ok (n : NetP) (v_n_towers : Value) (v_n_links : Value) (i : Int) (h : Heap) (s_n_towers : Sl h v_n_towers n.towers) (s_n_links : Sl h v_n_links n.links) : Cn f_impl_isLink [.agg #[v_n_towers, v_n_links], .int .i64 i] h fun v h' => v = .bool (decide (NetOk n ∧ (0 ≤ i ∧ i ≤ (n.links.length : Int) - 1))) ∧ Ext h h' := by
 have l63_n_towers := s_n_towers.len63
 have l63_n_links := s_n_links.len63
 refine calls_of r_impl_isLink ?_
 refine v_seq <| v_ops ?_
 refine s_box [v_n_towers, v_n_links] rfl (fun h2 b1 hbb1 hzb1 eh2 bxb1 => ?_)
 have E3 := (Ext.refl h).trans eh2
 have z4 := eh2.size
 have lbb1 := bxb1.lt
 refine s_pq (.bool false) <| s_nil <| p_seqN <| v_seq <| v_ops <| s_load (.agg #[v_n_towers, v_n_links]) (fun _ q => bxb1.loadA rfl q) ?_
 have f5 := (s_n_towers.ext eh2)
 have f6 := (s_n_links.ext eh2)
 refine s_call [.agg #[v_n_towers, v_n_links]] rfl (impl_IsNet_ok n v_n_towers v_n_links _ f5 f6) ?_
 rintro _ h7 ⟨rfl, eh7⟩
 have E8 := E3.trans eh7
 have z9 := eh7.size
 refine s_pq (.bool (decide (NetOk n))) ?_
 refine s_splitT rfl (fun c10 => ?_) (fun c10 => ?_)
 ·
  refine s_run rfl <| s_pq (.int .i64 i) <| s_run rfl <| s_pq (.pointer (some ⟨b1, 1, none⟩)) <| s_run rfl ?_
  have f11 := (bxb1.ext eh7)
  refine s_load v_n_links (fun _ q => f11.load rfl q) <| s_run rfl <| s_pure (.int .i64 (n.links.length : Int)) (fun _ q => f6.lenVC q) <| s_run rfl <| s_pure (.int .i64 ((n.links.length : Int) - 1)) (fun _ q => ArithVC.mk (by omega) q) <| s_run rfl <| s_callS [.int .i64 i, .int .i64 0, .int .i64 ((n.links.length : Int) - 1)] (.bool (decide (0 ≤ i ∧ i ≤ ((n.links.length : Int) - 1)))) rfl (within_ok i 0 ((n.links.length : Int) - 1) _ ) <| s_pq (.bool (decide (0 ≤ i ∧ i ≤ ((n.links.length : Int) - 1)))) ?_
  refine s_pq (.bool (decide (0 ≤ i ∧ i ≤ ((n.links.length : Int) - 1)))) <| s_nil <| p_seqN <| v_ret <| p_ret [.bool (decide (0 ≤ i ∧ i ≤ ((n.links.length : Int) - 1)))] (.bool (decide (0 ≤ i ∧ i ≤ ((n.links.length : Int) - 1)))) (fun _ q => q) rfl ?_
  have ho : (decide (NetOk n ∧ (0 ≤ i ∧ i ≤ (n.links.length : Int) - 1))) = (decide (0 ≤ i ∧ i ≤ ((n.links.length : Int) - 1))) := by simp [*]
  exact ⟨by first | (rw [ho]; done) | rfl, E8⟩
 refine s_pass rfl <| s_pass rfl <| s_pass rfl <| s_pass rfl <| s_pass rfl <| s_pass rfl <| s_pq (.bool false) <| s_pq (.bool false) <| s_nil <| p_seqN <| v_ret <| p_ret [.bool false] (.bool false) (fun _ q => q) rfl ?_
 have ho : (decide (NetOk n ∧ (0 ≤ i ∧ i ≤ (n.links.length : Int) - 1))) = false := by simp [*]
 exact ⟨by first | (rw [ho]; done) | rfl, E8⟩

end Go.Proofs.Ytloicopmcagikaa


