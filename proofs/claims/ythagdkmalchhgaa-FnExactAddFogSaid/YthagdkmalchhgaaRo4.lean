/- Tests of fogs, and when a message starts. Condition: none. Printed in part by a program. -/
import Derived.Test.YthagdkmalchhgaaRo3
namespace Go.Proofs.Ythagdkmalchhgaa
open Go.Vc
set_option linter.all false

abbrev FogOk (m : Nat) (x : FogD) : Prop := (0 ≤ x.link ∧ x.link ≤ (m : Int) - 1) ∧ 0 ≤ x.fr ∧ x.fr < x.til ∧ x.til ≤ 10000
abbrev fgLt (y x : FogD) : Prop := y.link < x.link ∨ (y.link = x.link ∧ y.til < x.fr)
abbrev FogsTo (m : Nat) (l : List FogD) (k : Nat) : Prop := ∀ i x, i < k → l[i]? = some x → FogOk m x ∧ (0 < i → ∀ y, l[i - 1]? = some y → fgLt y x)
def FogsOk (m : Nat) (l : List FogD) : Prop := l.length ≤ 60 ∧ FogsTo m l l.length
noncomputable instance (m : Nat) (l : List FogD) : Decidable (FogsOk m l) := Classical.propDecidable _
def fgCmp (a b : FogD) : Int := orL [cmpI a.link b.link, cmpI a.fr b.fr]
theorem fgCmp_lt {a b : FogD} : fgCmp a b < 0 ↔ (a.link < b.link ∨ (a.link = b.link ∧ a.fr < b.fr)) := by
  have h1 := @cmpI_neg a.link b.link
  have h2 := @cmpI_neg a.fr b.fr
  have h3 := @cmpI_zero a.link b.link
  have h4 := cmpI_bd a.link b.link
  have h5 := cmpI_bd a.fr b.fr
  unfold fgCmp orL orL orL
  split
  · omega
  · split <;> omega
theorem fogs_snoc {m : Nat} {l : List FogD} {k : Nat} {x : FogD} (h : FogsTo m l k) (hx : l[k]? = some x) (hp : FogOk m x) (hs : 0 < k → ∀ y, l[k - 1]? = some y → fgLt y x) : FogsTo m l (k + 1) := by
  intro i y hi hy
  by_cases e : i = k
  · subst e; rw [hx] at hy; obtain rfl := Option.some.inj hy; exact ⟨hp, hs⟩
  · exact h i y (by omega) hy
theorem fogs_bad {m : Nat} {l : List FogD} {k : Nat} {x : FogD} (hx : l[k]? = some x) (h : ¬ (FogOk m x ∧ (0 < k → ∀ y, l[k - 1]? = some y → fgLt y x))) : decide (FogsOk m l) = false :=
  decide_eq_false fun hn => h (hn.2 k x (List.getElem?_eq_some_iff.1 hx).1 hx)
theorem fogs_long {m : Nat} {l : List FogD} (h : ¬ l.length ≤ 60) : decide (FogsOk m l) = false := decide_eq_false fun hn => h hn.1
theorem fogs_end {m : Nat} {l : List FogD} {k : Nat} {b : Bool} (h : FogsTo m l k) (hk : ¬ (k : Int) < (l.length : Int)) (hb : b = true ↔ l.length ≤ 60) : decide (FogsOk m l) = b := by
  cases b
  · exact fogs_long fun hn => by have := hb.2 hn; cases this
  · exact decide_eq_true ⟨hb.1 rfl, fun i x hi hx => h i x (by omega) hx⟩
theorem FogsOk.at {m : Nat} {l : List FogD} (h : FogsOk m l) {k : Nat} {x : FogD} (hx : l[k]? = some x) : FogOk m x := (h.2 k x (List.getElem?_eq_some_iff.1 hx).1 hx).1
/-- the first second from t on from which a link is clear for s seconds -/
def stF (l : List FogD) (link t s : Int) : Int := l.foldl (fun t x => if x.link = link ∧ x.til > t ∧ x.fr < t + s then x.til else t) t
theorem stF_snoc (l : List FogD) (link t s : Int) (x : FogD) : stF (l ++ [x]) link t s = if x.link = link ∧ x.til > stF l link t s ∧ x.fr < stF l link t s + s then x.til else stF l link t s := by simp [stF]
theorem stF_bd {m : Nat} {l : List FogD} (h : FogsOk m l) (link t s : Int) (k : Nat) : t ≤ stF (l.take k) link t s ∧ (stF (l.take k) link t s ≤ t ∨ stF (l.take k) link t s ≤ 10000) := by
  induction k with
  | zero => simp [stF]
  | succ k ih =>
    by_cases hk : k < l.length
    · have hx := List.getElem?_eq_getElem hk
      have := h.at hx
      rw [snoc_get hx, stF_snoc]
      split <;> omega
    · rw [List.take_of_length_le (by omega)]; rw [List.take_of_length_le (by omega)] at ih; exact ih

theorem impl_compareFogs_ok (a : FogD) (b : FogD) (h : Heap)  : Cn f_impl_compareFogs [.agg #[.int .i64 a.link, .int .i64 a.fr, .int .i64 a.til], .agg #[.int .i64 b.link, .int .i64 b.fr, .int .i64 b.til]] h fun v h' => v = .int .i64 (fgCmp a b) ∧ Ext h h' := by
  refine calls_of r_impl_compareFogs ?_
  refine v_seq ?_
  refine v_ops ?_
  refine s_box [.int .i64 a.link, .int .i64 a.fr, .int .i64 a.til] rfl (fun h2 b1 hbb1 hzb1 eh2 bxb1 => ?_)
  have E3 := (Ext.refl h).trans eh2
  have z4 := eh2.size
  have lbb1 := bxb1.lt
  refine s_box [.int .i64 b.link, .int .i64 b.fr, .int .i64 b.til] rfl (fun h6 b5 hbb5 hzb5 eh6 bxb5 => ?_)
  have E7 := E3.trans eh6
  have z8 := eh6.size
  have lbb5 := bxb5.lt
  refine s_pure (.int .i64 0) (fun _ q => q) ?_
  refine s_nil ?_
  refine p_seqN ?_
  refine v_seq ?_
  have f9 := (bxb1.ext eh6)
  refine v_draw (DrawVC.hold ([b1] ++ [b5]) ?_)
  refine d_pureT (.pointer (some ⟨b1, 0, none⟩)) (fun _ q => q) ?_
  refine d_pureT (.pointer (some ⟨b5, 0, none⟩)) (fun _ q => q) ?_
  refine d_pureT (.pointer (some ⟨b1, 1, none⟩)) (fun _ q => q) ?_
  refine d_pureT (.pointer (some ⟨b5, 1, none⟩)) (fun _ q => q) ?_
  refine d_loadO (.int .i64 a.link) (fun _ q => f9.load rfl q) ?_
  refine d_loadO (.int .i64 b.link) (fun _ q => bxb5.load rfl q) ?_
  refine d_loadT (.int .i64 a.fr) (fun _ q => f9.take (by simp) rfl q) ?_
  refine d_loadT (.int .i64 b.fr) (fun _ q => bxb5.take (by simp) rfl q) ?_
  refine d_eff ?_
  refine s_callS [.int .i64 a.link, .int .i64 b.link] (.int .i64 (cmpI a.link b.link)) rfl (cmp_Compare_int_ok a.link b.link _ ) ?_
  refine s_nil ⟨fun _ x hx => rfl, ?_⟩
  refine d_eff ?_
  refine s_callS [.int .i64 a.fr, .int .i64 b.fr] (.int .i64 (cmpI a.fr b.fr)) rfl (cmp_Compare_int_ok a.fr b.fr _ ) ?_
  refine s_nil ⟨fun hl => (by cases hl), ?_⟩
  refine d_eff ?_
  refine s_row (α := Int) [(cmpI a.link b.link), (cmpI a.fr b.fr)] (fun _ q => seg_i rfl (seg_i rfl (seg_nil q))) rfl (by simp [maxLen]) (fun r10 h11 eh11 zh11 s_r10 fr_r10 => ?_)
  have E12 := E7.trans eh11
  have z13 := eh11.size
  have G14 := eh11
  have lt_r10 := s_r10.lt
  refine s_nil ⟨fun hl => (by cases hl), ?_⟩
  refine d_eff ?_
  refine s_call [r10] rfl (cmp_Or_int_ok r10 [(cmpI a.link b.link), (cmpI a.fr b.fr)] _ s_r10.toSl) ?_
  rintro _ h15 ⟨rfl, eh15⟩
  have E16 := E12.trans eh15
  have z17 := eh15.size
  have G18 := G14.trans eh15
  refine s_nil ⟨fun hl => (by cases hl), ?_⟩
  refine d_pureT (.int .i64 (orL [(cmpI a.link b.link), (cmpI a.fr b.fr)])) (fun _ q => q) ?_
  refine d_done ?_
  refine p_seqN ?_
  refine v_ret ?_
  refine p_ret [.int .i64 (orL [(cmpI a.link b.link), (cmpI a.fr b.fr)])] (.int .i64 (orL [(cmpI a.link b.link), (cmpI a.fr b.fr)])) (fun _ q => q) rfl ?_
  have ho : (fgCmp a b) = (orL [(cmpI a.link b.link), (cmpI a.fr b.fr)]) := by rfl
  exact ⟨by first | (rw [ho]; done) | rfl, E16⟩

theorem impl_isFog_ok (n : NetP) (v_n_towers : Value) (v_n_links : Value) (x : FogD) (h : Heap) (s_n_towers : Sl h v_n_towers n.towers) (s_n_links : Sl h v_n_links n.links) : Cn f_impl_isFog [.agg #[v_n_towers, v_n_links], .agg #[.int .i64 x.link, .int .i64 x.fr, .int .i64 x.til]] h fun v h' => v = .bool (decide (FogOk n.links.length x)) ∧ Ext h h' := by
  have lt_n_towers := s_n_towers.lt
  have l63_n_towers := s_n_towers.len63
  have lt_n_links := s_n_links.lt
  have l63_n_links := s_n_links.len63
  refine calls_of r_impl_isFog ?_
  refine v_seq ?_
  refine v_ops ?_
  refine s_box [v_n_towers, v_n_links] rfl (fun h2 b1 hbb1 hzb1 eh2 bxb1 => ?_)
  have E3 := (Ext.refl h).trans eh2
  have z4 := eh2.size
  have lbb1 := bxb1.lt
  refine s_box [.int .i64 x.link, .int .i64 x.fr, .int .i64 x.til] rfl (fun h6 b5 hbb5 hzb5 eh6 bxb5 => ?_)
  have E7 := E3.trans eh6
  have z8 := eh6.size
  have lbb5 := bxb5.lt
  refine s_pure (.bool false) (fun _ q => q) ?_
  refine s_nil ?_
  refine p_seqN ?_
  refine v_seq ?_
  refine v_ops ?_
  refine s_pure (.pointer (some ⟨b5, 0, none⟩)) (fun _ q => q) ?_
  refine s_load (.int .i64 x.link) (fun _ q => bxb5.load rfl q) ?_
  refine s_pure (.pointer (some ⟨b1, 1, none⟩)) (fun _ q => q) ?_
  have f9 := (bxb1.ext eh6)
  refine s_load v_n_links (fun _ q => f9.load rfl q) ?_
  refine s_pure (.int .i64 (n.links.length : Int)) (fun _ q => s_n_links.lenVC q) ?_
  refine s_pure (.int .i64 ((n.links.length : Int) - 1)) (fun _ q => ArithVC.mk (by omega) q) ?_
  refine s_callS [.int .i64 x.link, .int .i64 0, .int .i64 ((n.links.length : Int) - 1)] (.bool (decide (0 ≤ x.link ∧ x.link ≤ ((n.links.length : Int) - 1)))) rfl (within_ok x.link 0 ((n.links.length : Int) - 1) _ ) ?_
  refine s_pure (.bool (decide (0 ≤ x.link ∧ x.link ≤ ((n.links.length : Int) - 1)))) (fun _ q => q) ?_
  refine s_splitT rfl (fun c10 => ?_) (fun c10 => ?_)
  ·
    refine s_run rfl ?_
    refine s_pure (.pointer (some ⟨b5, 1, none⟩)) (fun _ q => q) ?_
    refine s_run rfl ?_
    refine s_load (.int .i64 x.fr) (fun _ q => bxb5.load rfl q) ?_
    refine s_run rfl ?_
    refine s_pure (.bool (decide (x.fr ≥ 0))) (fun _ q => q) ?_
    refine s_pure (.bool (decide (x.fr ≥ 0))) (fun _ q => q) ?_
    refine s_pure (.bool (decide (x.fr ≥ 0))) (fun _ q => q) ?_
    refine s_splitT rfl (fun c11 => ?_) (fun c11 => ?_)
    ·
      refine s_run rfl ?_
      refine s_pure (.pointer (some ⟨b5, 1, none⟩)) (fun _ q => q) ?_
      refine s_run rfl ?_
      refine s_load (.int .i64 x.fr) (fun _ q => bxb5.load rfl q) ?_
      refine s_run rfl ?_
      refine s_pure (.pointer (some ⟨b5, 2, none⟩)) (fun _ q => q) ?_
      refine s_run rfl ?_
      refine s_load (.int .i64 x.til) (fun _ q => bxb5.load rfl q) ?_
      refine s_run rfl ?_
      refine s_pure (.bool (decide (x.fr < x.til))) (fun _ q => q) ?_
      refine s_pure (.bool (decide (x.fr < x.til))) (fun _ q => q) ?_
      refine s_pure (.bool (decide (x.fr < x.til))) (fun _ q => q) ?_
      refine s_splitT rfl (fun c12 => ?_) (fun c12 => ?_)
      ·
        refine s_run rfl ?_
        refine s_pure (.pointer (some ⟨b5, 2, none⟩)) (fun _ q => q) ?_
        refine s_run rfl ?_
        refine s_load (.int .i64 x.til) (fun _ q => bxb5.load rfl q) ?_
        refine s_run rfl ?_
        refine s_pure (.bool (decide (x.til ≤ 10000))) (fun _ q => q) ?_
        refine s_pure (.bool (decide (x.til ≤ 10000))) (fun _ q => q) ?_
        refine s_pure (.bool (decide (x.til ≤ 10000))) (fun _ q => q) ?_
        refine s_nil ?_
        refine p_seqN ?_
        refine v_ret ?_
        refine p_ret [.bool (decide (x.til ≤ 10000))] (.bool (decide (x.til ≤ 10000))) (fun _ q => q) rfl ?_
        have ho : (decide (FogOk n.links.length x)) = (decide (x.til ≤ 10000)) := by rw [Bool.eq_iff_iff]; simp only [decide_eq_true_eq, Bool.false_eq_true, iff_false, false_iff, iff_true, true_iff]; omega
        exact ⟨by first | (rw [ho]; done) | rfl, E7⟩
      ·
        refine s_pass rfl ?_
        refine s_pass rfl ?_
        refine s_pass rfl ?_
        refine s_pure (.bool false) (fun _ q => q) ?_
        refine s_pure (.bool false) (fun _ q => q) ?_
        refine s_nil ?_
        refine p_seqN ?_
        refine v_ret ?_
        refine p_ret [.bool false] (.bool false) (fun _ q => q) rfl ?_
        have ho : (decide (FogOk n.links.length x)) = false := by rw [Bool.eq_iff_iff]; simp only [decide_eq_true_eq, Bool.false_eq_true, iff_false, false_iff, iff_true, true_iff]; omega
        exact ⟨by first | (rw [ho]; done) | rfl, E7⟩
    ·
      refine s_pass rfl ?_
      refine s_pass rfl ?_
      refine s_pass rfl ?_
      refine s_pass rfl ?_
      refine s_pass rfl ?_
      refine s_pure (.bool false) (fun _ q => q) ?_
      refine s_pure (.bool false) (fun _ q => q) ?_
      refine s_splitN rfl (by simp) ?_
      refine s_pass rfl ?_
      refine s_pass rfl ?_
      refine s_pass rfl ?_
      refine s_pure (.bool false) (fun _ q => q) ?_
      refine s_pure (.bool false) (fun _ q => q) ?_
      refine s_nil ?_
      refine p_seqN ?_
      refine v_ret ?_
      refine p_ret [.bool false] (.bool false) (fun _ q => q) rfl ?_
      have ho : (decide (FogOk n.links.length x)) = false := by rw [Bool.eq_iff_iff]; simp only [decide_eq_true_eq, Bool.false_eq_true, iff_false, false_iff, iff_true, true_iff]; omega
      exact ⟨by first | (rw [ho]; done) | rfl, E7⟩
  ·
    refine s_pass rfl ?_
    refine s_pass rfl ?_
    refine s_pass rfl ?_
    refine s_pure (.bool false) (fun _ q => q) ?_
    refine s_pure (.bool false) (fun _ q => q) ?_
    refine s_splitN rfl (by simp) ?_
    refine s_pass rfl ?_
    refine s_pass rfl ?_
    refine s_pass rfl ?_
    refine s_pass rfl ?_
    refine s_pass rfl ?_
    refine s_pure (.bool false) (fun _ q => q) ?_
    refine s_pure (.bool false) (fun _ q => q) ?_
    refine s_splitN rfl (by simp) ?_
    refine s_pass rfl ?_
    refine s_pass rfl ?_
    refine s_pass rfl ?_
    refine s_pure (.bool false) (fun _ q => q) ?_
    refine s_pure (.bool false) (fun _ q => q) ?_
    refine s_nil ?_
    refine p_seqN ?_
    refine v_ret ?_
    refine p_ret [.bool false] (.bool false) (fun _ q => q) rfl ?_
    have ho : (decide (FogOk n.links.length x)) = false := by rw [Bool.eq_iff_iff]; simp only [decide_eq_true_eq, Bool.false_eq_true, iff_false, false_iff, iff_true, true_iff]; omega
    exact ⟨by first | (rw [ho]; done) | rfl, E7⟩

theorem spec_fgFog_ok (n : NetP) (v_n_towers : Value) (v_n_links : Value) (x : FogD) (h : Heap) (s_n_towers : Sl h v_n_towers n.towers) (s_n_links : Sl h v_n_links n.links) : Cn f_spec_fgFog [.agg #[v_n_towers, v_n_links], .agg #[.int .i64 x.link, .int .i64 x.fr, .int .i64 x.til]] h fun v h' => v = .bool (decide (FogOk n.links.length x)) ∧ Ext h h' := by
  have lt_n_towers := s_n_towers.lt
  have l63_n_towers := s_n_towers.len63
  have lt_n_links := s_n_links.lt
  have l63_n_links := s_n_links.len63
  refine calls_of r_spec_fgFog ?_
  refine v_seq ?_
  refine v_ops ?_
  refine s_box [v_n_towers, v_n_links] rfl (fun h2 b1 hbb1 hzb1 eh2 bxb1 => ?_)
  have E3 := (Ext.refl h).trans eh2
  have z4 := eh2.size
  have lbb1 := bxb1.lt
  refine s_box [.int .i64 x.link, .int .i64 x.fr, .int .i64 x.til] rfl (fun h6 b5 hbb5 hzb5 eh6 bxb5 => ?_)
  have E7 := E3.trans eh6
  have z8 := eh6.size
  have lbb5 := bxb5.lt
  refine s_pure (.bool false) (fun _ q => q) ?_
  refine s_nil ?_
  refine p_seqN ?_
  refine v_seq ?_
  refine v_ops ?_
  refine s_pure (.pointer (some ⟨b5, 0, none⟩)) (fun _ q => q) ?_
  refine s_load (.int .i64 x.link) (fun _ q => bxb5.load rfl q) ?_
  refine s_pure (.pointer (some ⟨b1, 1, none⟩)) (fun _ q => q) ?_
  have f9 := (bxb1.ext eh6)
  refine s_load v_n_links (fun _ q => f9.load rfl q) ?_
  refine s_pure (.int .i64 (n.links.length : Int)) (fun _ q => s_n_links.lenVC q) ?_
  refine s_pure (.int .i64 ((n.links.length : Int) - 1)) (fun _ q => ArithVC.mk (by omega) q) ?_
  refine s_callS [.int .i64 x.link, .int .i64 0, .int .i64 ((n.links.length : Int) - 1)] (.bool (decide (0 ≤ x.link ∧ x.link ≤ ((n.links.length : Int) - 1)))) rfl (l1In_ok x.link 0 ((n.links.length : Int) - 1) _ ) ?_
  refine s_pure (.bool (decide (0 ≤ x.link ∧ x.link ≤ ((n.links.length : Int) - 1)))) (fun _ q => q) ?_
  refine s_splitT rfl (fun c10 => ?_) (fun c10 => ?_)
  ·
    refine s_run rfl ?_
    refine s_pure (.pointer (some ⟨b5, 1, none⟩)) (fun _ q => q) ?_
    refine s_run rfl ?_
    refine s_load (.int .i64 x.fr) (fun _ q => bxb5.load rfl q) ?_
    refine s_run rfl ?_
    refine s_callS [.int .i64 x.fr, .int .i64 0, .int .i64 9999] (.bool (decide (0 ≤ x.fr ∧ x.fr ≤ 9999))) rfl (l1In_ok x.fr 0 9999 _ ) ?_
    refine s_pure (.bool (decide (0 ≤ x.fr ∧ x.fr ≤ 9999))) (fun _ q => q) ?_
    refine s_pure (.bool (decide (0 ≤ x.fr ∧ x.fr ≤ 9999))) (fun _ q => q) ?_
    refine s_splitT rfl (fun c11 => ?_) (fun c11 => ?_)
    ·
      refine s_run rfl ?_
      refine s_pure (.pointer (some ⟨b5, 2, none⟩)) (fun _ q => q) ?_
      refine s_run rfl ?_
      refine s_load (.int .i64 x.til) (fun _ q => bxb5.load rfl q) ?_
      refine s_run rfl ?_
      refine s_pure (.pointer (some ⟨b5, 1, none⟩)) (fun _ q => q) ?_
      refine s_run rfl ?_
      refine s_load (.int .i64 x.fr) (fun _ q => bxb5.load rfl q) ?_
      refine s_run rfl ?_
      refine s_pure (.int .i64 (x.fr + 1)) (fun _ q => ArithVC.mk (by omega) q) ?_
      refine s_run rfl ?_
      refine s_callS [.int .i64 x.til, .int .i64 (x.fr + 1), .int .i64 10000] (.bool (decide ((x.fr + 1) ≤ x.til ∧ x.til ≤ 10000))) rfl (l1In_ok x.til (x.fr + 1) 10000 _ ) ?_
      refine s_pure (.bool (decide ((x.fr + 1) ≤ x.til ∧ x.til ≤ 10000))) (fun _ q => q) ?_
      refine s_pure (.bool (decide ((x.fr + 1) ≤ x.til ∧ x.til ≤ 10000))) (fun _ q => q) ?_
      refine s_nil ?_
      refine p_seqN ?_
      refine v_ret ?_
      refine p_ret [.bool (decide ((x.fr + 1) ≤ x.til ∧ x.til ≤ 10000))] (.bool (decide ((x.fr + 1) ≤ x.til ∧ x.til ≤ 10000))) (fun _ q => q) rfl ?_
      have ho : (decide (FogOk n.links.length x)) = (decide ((x.fr + 1) ≤ x.til ∧ x.til ≤ 10000)) := by rw [Bool.eq_iff_iff]; simp only [decide_eq_true_eq, Bool.false_eq_true, iff_false, false_iff, iff_true, true_iff]; omega
      exact ⟨by first | (rw [ho]; done) | rfl, E7⟩
    ·
      refine s_pass rfl ?_
      refine s_pass rfl ?_
      refine s_pass rfl ?_
      refine s_pass rfl ?_
      refine s_pass rfl ?_
      refine s_pass rfl ?_
      refine s_pure (.bool false) (fun _ q => q) ?_
      refine s_pure (.bool false) (fun _ q => q) ?_
      refine s_nil ?_
      refine p_seqN ?_
      refine v_ret ?_
      refine p_ret [.bool false] (.bool false) (fun _ q => q) rfl ?_
      have ho : (decide (FogOk n.links.length x)) = false := by rw [Bool.eq_iff_iff]; simp only [decide_eq_true_eq, Bool.false_eq_true, iff_false, false_iff, iff_true, true_iff]; omega
      exact ⟨by first | (rw [ho]; done) | rfl, E7⟩
  ·
    refine s_pass rfl ?_
    refine s_pass rfl ?_
    refine s_pass rfl ?_
    refine s_pure (.bool false) (fun _ q => q) ?_
    refine s_pure (.bool false) (fun _ q => q) ?_
    refine s_splitN rfl (by simp) ?_
    refine s_pass rfl ?_
    refine s_pass rfl ?_
    refine s_pass rfl ?_
    refine s_pass rfl ?_
    refine s_pass rfl ?_
    refine s_pass rfl ?_
    refine s_pure (.bool false) (fun _ q => q) ?_
    refine s_pure (.bool false) (fun _ q => q) ?_
    refine s_nil ?_
    refine p_seqN ?_
    refine v_ret ?_
    refine p_ret [.bool false] (.bool false) (fun _ q => q) rfl ?_
    have ho : (decide (FogOk n.links.length x)) = false := by rw [Bool.eq_iff_iff]; simp only [decide_eq_true_eq, Bool.false_eq_true, iff_false, false_iff, iff_true, true_iff]; omega
    exact ⟨by first | (rw [ho]; done) | rfl, E7⟩

set_option maxRecDepth 10000 in
set_option maxHeartbeats 4000000 in
theorem impl_areFogs_ok (n : NetP) (v_n_towers : Value) (v_n_links : Value) (v_l : Value) (l : List FogD) (h : Heap) (s_n_towers : Sl h v_n_towers n.towers) (s_n_links : Sl h v_n_links n.links) (s_l : Sl h v_l l) : Cn f_impl_areFogs [.agg #[v_n_towers, v_n_links], v_l] h fun v h' => v = .bool (decide (FogsOk n.links.length l)) ∧ Ext h h' := by
  have lt_n_towers := s_n_towers.lt
  have l63_n_towers := s_n_towers.len63
  have lt_n_links := s_n_links.lt
  have l63_n_links := s_n_links.len63
  have lt_l := s_l.lt
  have l63_l := s_l.len63
  refine calls_of r_impl_areFogs ?_
  refine v_seq ?_
  refine v_ops ?_
  refine s_box [v_n_towers, v_n_links] rfl (fun h2 b1 hbb1 hzb1 eh2 bxb1 => ?_)
  have E3 := (Ext.refl h).trans eh2
  have z4 := eh2.size
  have lbb1 := bxb1.lt
  refine s_pure (.bool false) (fun _ q => q) ?_
  refine s_nil ?_
  refine p_seqN ?_
  refine v_seq ?_
  refine v_seq ?_
  refine v_ops ?_
  refine s_pure v_l (fun _ q => q) ?_
  refine s_pure (.int .i64 (l.length : Int)) (fun _ q => s_l.lenVC q) ?_
  refine s_pure (.bool (decide ((l.length : Int) > 60))) (fun _ q => q) ?_
  refine s_nil ?_
  refine p_seqN ?_
  refine v_cond rfl (fun c5 => ?_) (fun c5 => ?_)
  ·
    refine v_seq ?_
    refine v_ops ?_
    refine s_pure (.bool false) (fun _ q => q) ?_
    refine s_nil ?_
    refine p_seqN ?_
    refine v_ret ?_
    refine p_seqR ?_
    refine p_ret [.bool false] (.bool false) (fun _ q => q) rfl ?_
    have ho : (decide (FogsOk n.links.length l)) = false := by first | exact fogs_long (by omega) | exact fogs_bad (by assumption : l[k]? = some xo__) (fun hp => absurd hp.1 (by assumption)) | exact fogs_bad (by assumption : l[k]? = some xo__) (fun hp => by (have h1 := hp.2 (by omega) _ (by assumption : l[k - 1]? = some x__)); (have h3 := (hall (k - 1) _ (by omega) (by assumption : l[k - 1]? = some x__)).1); first | omega | ((have h2 := fgCmp_lt (a := x__) (b := xo__)); omega)) | exact fogs_end hall (by assumption) (by simp; omega)
    exact ⟨by first | (rw [ho]; done) | rfl, E3⟩
  ·
    refine v_skip ?_
    refine p_seqN ?_
    refine v_seq ?_
    refine v_seq ?_
    refine v_ops ?_
    refine s_pure v_l (fun _ q => q) ?_
    refine s_pure (.int .i64 (l.length : Int)) (fun _ q => s_l.lenVC q) ?_
    refine s_pure (.int .i64 0) (fun _ q => q) ?_
    refine s_nil ?_
    refine p_seqN ?_
    refine v_block ?_
    refine v_loop1 (α := Nat) (fun k => [(1, v_l), (2, .pointer (some ⟨b1, 0, none⟩)), (10, v_l), (11, .int .i64 (l.length : Int)), (12, .int .i64 (k : Int))]) (fun k hh => Ext h hh ∧ Bx hh b1 [v_n_towers, v_n_links] 32 ∧ k ≤ l.length ∧ FogsTo n.links.length l k) (fun k => l.length - k) 0 ⟨rfl, rfl, rfl, rfl, rfl⟩ ⟨E3, bxb1, (by exact ⟨by omega, fun i x hi => by omega⟩)⟩ ?_
    rintro k R7 h6 ⟨Eh, bxb1, ⟨hk, hall⟩⟩
    have zEh := Eh.size
    have f8 := s_n_towers.ext Eh
    have f9 := s_n_links.ext Eh
    have f10 := s_l.ext Eh
    have lbb1 := bxb1.lt
    refine v_seq ?_
    refine v_ops ?_
    refine s_pure (.bool (decide ((k : Int) < (l.length : Int)))) (fun _ q => q) ?_
    refine s_nil ?_
    refine p_seqN ?_
    refine v_seq ?_
    refine v_cond rfl (fun c11 => ?_) (fun c11 => ?_)
    ·
      refine v_skip ?_
      refine p_seqN ?_
      refine v_seq ?_
      refine v_block ?_
      refine v_seq ?_
      refine v_ops ?_
      refine s_pure (.int .i64 (k : Int)) (fun _ q => q) ?_
      have hk12 : k < l.length := (by first | omega | (simp; omega))
      obtain ⟨x13, hx13⟩ : ∃ x, l[k]? = some x := ⟨_, List.getElem?_eq_getElem hk12⟩
      refine s_pure (.pointer (some ⟨sblk v_l, soff v_l + k * 3, none⟩)) (fun _ q => f10.idx (k := k) rfl hk12 q) ?_
      refine s_load (.agg #[.int .i64 x13.link, .int .i64 x13.fr, .int .i64 x13.til]) (fun _ q => f10.loadN hx13 rfl q) ?_
      refine s_new (fun h15 b14 hbb14 hzb14 eh15 bxb14 => ?_)
      have E16 := Eh.trans eh15
      have z17 := eh15.size
      have lbb14 := bxb14.lt
      refine s_pure (.int .i64 (k : Int)) (fun _ q => q) ?_
      refine s_stBx (.agg #[.int .i64 x13.link, .int .i64 x13.fr, .int .i64 x13.til]) [.int .i64 x13.link, .int .i64 x13.fr, .int .i64 x13.til] [.int .i64 x13.link, .int .i64 x13.fr, .int .i64 x13.til] bxb14 rfl rfl rfl rfl (by simp) (all_cons rfl (all_cons rfl (all_cons rfl all_nil))) rfl (fun h18 mh18 sh18 bxx19 => ?_)
      have E20 := E16.mod mh18 (fun b hb => by simp at hb; omega)
      refine s_nil ?_
      refine p_seqN ?_
      refine v_seq ?_
      have f21 := ((f10.ext eh15).mod mh18 (fun b hb hc => by simp at hc; have := lt_l b hb; omega))
      refine v_draw (DrawVC.hold (blks v_l) ?_)
      have f22 := ((bxb1.ext eh15).mod mh18 (by simp; omega))
      refine d_loadO (.agg #[v_n_towers, v_n_links]) (fun _ q => f22.loadA rfl q) ?_
      refine d_loadO (.agg #[.int .i64 x13.link, .int .i64 x13.fr, .int .i64 x13.til]) (fun _ q => bxx19.loadA rfl q) ?_
      refine d_eff ?_
      have f23 := ((f8.ext eh15).mod mh18 (fun b hb hc => by simp at hc; have := lt_n_towers b hb; omega))
      have f24 := ((f9.ext eh15).mod mh18 (fun b hb hc => by simp at hc; have := lt_n_links b hb; omega))
      refine s_call [.agg #[v_n_towers, v_n_links], .agg #[.int .i64 x13.link, .int .i64 x13.fr, .int .i64 x13.til]] rfl (impl_isFog_ok n v_n_towers v_n_links x13 _ f23 f24) ?_
      rintro _ h25 ⟨rfl, eh25⟩
      have E26 := E20.trans eh25
      have z27 := eh25.size
      have G28 := eh25
      refine s_nil ⟨fun _ x hx => G28.blk x (by have := lt_l x hx; omega), ?_⟩
      refine d_pureT (.bool (!(decide (FogOk n.links.length x13)))) (fun _ q => q) ?_
      refine d_pureT (.bool (!(decide (FogOk n.links.length x13)))) (fun _ q => q) ?_
      refine d_splitT rfl (fun c29 => ?_) (fun c29 => ?_)
      ·
        refine d_passT rfl ?_
        refine d_passT rfl ?_
        refine d_passT rfl ?_
        refine d_splitU rfl ?_
        refine d_passTU rfl ?_
        refine d_passTU rfl ?_
        refine d_passTU rfl ?_
        refine d_passTU rfl ?_
        refine d_passTU rfl ?_
        refine d_passOU rfl ?_
        refine d_passOU rfl ?_
        refine d_passTU rfl ?_
        refine d_passTU rfl ?_
        refine d_splitU rfl ?_
        refine d_passTU rfl ?_
        refine d_passTU rfl ?_
        refine d_passTU rfl ?_
        refine d_passTU rfl ?_
        refine d_passTU rfl ?_
        refine d_passTU rfl ?_
        refine d_passTU rfl ?_
        refine d_passOU rfl ?_
        refine d_passTU rfl ?_
        refine d_passTU rfl ?_
        refine d_splitU rfl ?_
        refine d_passTU rfl ?_
        refine d_passTU rfl ?_
        refine d_passTU rfl ?_
        refine d_passTU rfl ?_
        refine d_passTU rfl ?_
        refine d_passTU rfl ?_
        refine d_passTU rfl ?_
        refine d_passOU rfl ?_
        refine d_passTU rfl ?_
        refine d_passTU rfl ?_
        refine d_passTU rfl ?_
        refine d_passT rfl ?_
        refine d_pureT (.bool true) (fun _ q => q) ?_
        refine d_done ?_
        refine p_seqN ?_
        refine v_condY rfl rfl ?_
        refine v_seq ?_
        refine v_ops ?_
        refine s_pure (.bool false) (fun _ q => q) ?_
        refine s_nil ?_
        refine p_seqN ?_
        refine v_ret ?_
        refine p_blkR ?_
        refine p_seqR ?_
        refine p_lpR ?_
        refine p_blkR ?_
        refine p_seqR ?_
        refine p_ret [.bool false] (.bool false) (fun _ q => q) rfl ?_
        have ho : (decide (FogsOk n.links.length l)) = false := by first | exact fogs_long (by omega) | exact fogs_bad (by assumption : l[k]? = some x13) (fun hp => absurd hp.1 (by assumption)) | exact fogs_bad (by assumption : l[k]? = some x13) (fun hp => by (have h1 := hp.2 (by omega) _ (by assumption : l[k - 1]? = some x13)); (have h3 := (hall (k - 1) _ (by omega) (by assumption : l[k - 1]? = some x13)).1); first | omega | ((have h2 := fgCmp_lt (a := x13) (b := x13)); omega)) | exact fogs_end hall (by assumption) (by simp; omega)
        exact ⟨by first | (rw [ho]; done) | rfl, E26⟩
      ·
        have c29 := Classical.not_not.1 c29
        refine d_runT rfl ?_
        refine d_pureT (.int .i64 (k : Int)) (fun _ q => q) ?_
        refine d_runT rfl ?_
        refine d_pureT (.bool (decide ((k : Int) > 0))) (fun _ q => q) ?_
        refine d_runT rfl ?_
        refine d_pureT (.bool (decide ((k : Int) > 0))) (fun _ q => q) ?_
        refine d_splitT rfl (fun c30 => ?_) (fun c30 => ?_)
        ·
          refine d_runT rfl ?_
          refine d_pureT v_l (fun _ q => q) ?_
          refine d_runT rfl ?_
          refine d_pureT (.int .i64 (k : Int)) (fun _ q => q) ?_
          refine d_runT rfl ?_
          refine d_pureT (.int .i64 ((k : Int) - 1)) (fun _ q => ArithVC.mk (by omega) q) ?_
          refine d_runT rfl ?_
          have f31 := (f21.ext eh25)
          have hk32 : (k - 1) < l.length := (by first | omega | (simp; omega))
          obtain ⟨x33, hx33⟩ : ∃ x, l[(k - 1)]? = some x := ⟨_, List.getElem?_eq_getElem hk32⟩
          refine d_pureT (.pointer (some ⟨sblk v_l, soff v_l + (k - 1) * 3, none⟩)) (fun _ q => f31.idx (k := (k - 1)) (by omega) hk32 q) ?_
          refine d_runT rfl ?_
          refine d_loadT (.agg #[.int .i64 x33.link, .int .i64 x33.fr, .int .i64 x33.til]) (fun _ q => f21.takeN (fun b hb => by simp [hb]) hx33 rfl q) ?_
          refine d_runO rfl ?_
          have f34 := (bxx19.ext eh25)
          refine d_loadO (.agg #[.int .i64 x13.link, .int .i64 x13.fr, .int .i64 x13.til]) (fun _ q => f34.loadA rfl q) ?_
          refine d_runO rfl ?_
          refine d_eff ?_
          refine s_call [.agg #[.int .i64 x33.link, .int .i64 x33.fr, .int .i64 x33.til], .agg #[.int .i64 x13.link, .int .i64 x13.fr, .int .i64 x13.til]] rfl (impl_compareFogs_ok x33 x13 _ ) ?_
          rintro _ h35 ⟨rfl, eh35⟩
          have E36 := E26.trans eh35
          have z37 := eh35.size
          have G38 := G28.trans eh35
          refine s_nil ⟨fun _ x hx => G38.blk x (by have := lt_l x hx; omega), ?_⟩
          refine d_runT rfl ?_
          refine d_pureT (.bool (decide ((fgCmp x33 x13) ≥ 0))) (fun _ q => q) ?_
          refine d_runT rfl ?_
          refine d_pureT (.bool (decide ((fgCmp x33 x13) ≥ 0))) (fun _ q => q) ?_
          refine d_splitT rfl (fun c39 => ?_) (fun c39 => ?_)
          ·
            refine d_passT rfl ?_
            refine d_passT rfl ?_
            refine d_passT rfl ?_
            refine d_passT rfl ?_
            refine d_passT rfl ?_
            refine d_passT rfl ?_
            refine d_passT rfl ?_
            refine d_passO rfl ?_
            refine d_passT rfl ?_
            refine d_passT rfl ?_
            refine d_splitU rfl ?_
            refine d_passTU rfl ?_
            refine d_passTU rfl ?_
            refine d_passTU rfl ?_
            refine d_passTU rfl ?_
            refine d_passTU rfl ?_
            refine d_passTU rfl ?_
            refine d_passTU rfl ?_
            refine d_passOU rfl ?_
            refine d_passTU rfl ?_
            refine d_passT rfl ?_
            refine d_runT rfl ?_
            refine d_pureT (.bool true) (fun _ q => q) ?_
            refine d_runT rfl ?_
            refine d_pureT (.bool true) (fun _ q => q) ?_
            refine d_pureT (.bool true) (fun _ q => q) ?_
            refine d_done ?_
            refine p_seqN ?_
            refine v_condY rfl rfl ?_
            refine v_seq ?_
            refine v_ops ?_
            refine s_pure (.bool false) (fun _ q => q) ?_
            refine s_nil ?_
            refine p_seqN ?_
            refine v_ret ?_
            refine p_blkR ?_
            refine p_seqR ?_
            refine p_lpR ?_
            refine p_blkR ?_
            refine p_seqR ?_
            refine p_ret [.bool false] (.bool false) (fun _ q => q) rfl ?_
            have ho : (decide (FogsOk n.links.length l)) = false := by first | exact fogs_long (by omega) | exact fogs_bad (by assumption : l[k]? = some x13) (fun hp => absurd hp.1 (by assumption)) | exact fogs_bad (by assumption : l[k]? = some x13) (fun hp => by (have h1 := hp.2 (by omega) _ (by assumption : l[k - 1]? = some x33)); (have h3 := (hall (k - 1) _ (by omega) (by assumption : l[k - 1]? = some x33)).1); first | omega | ((have h2 := fgCmp_lt (a := x33) (b := x13)); omega)) | exact fogs_end hall (by assumption) (by simp; omega)
            exact ⟨by first | (rw [ho]; done) | rfl, E36⟩
          ·
            refine d_runT rfl ?_
            refine d_pureT v_l (fun _ q => q) ?_
            refine d_runT rfl ?_
            refine d_pureT (.int .i64 (k : Int)) (fun _ q => q) ?_
            refine d_runT rfl ?_
            refine d_pureT (.int .i64 ((k : Int) - 1)) (fun _ q => ArithVC.mk (by omega) q) ?_
            refine d_runT rfl ?_
            have f40 := (f31.ext eh35)
            refine d_pureT (.pointer (some ⟨sblk v_l, soff v_l + (k - 1) * 3, none⟩)) (fun _ q => f40.idx (k := (k - 1)) (by omega) hk32 q) ?_
            refine d_runT rfl ?_
            refine d_pureT (.pointer (some ⟨sblk v_l, soff v_l + (k - 1) * 3, none⟩)) (fun _ q => q) ?_
            refine d_runT rfl ?_
            refine d_pureT (.pointer (some ⟨b14, 0, none⟩)) (fun _ q => q) ?_
            refine d_runT rfl ?_
            refine d_loadT (.int .i64 x33.link) (fun _ q => f21.take (fun b hb => by simp [hb]) hx33 (j := 0) rfl rfl q) ?_
            refine d_runO rfl ?_
            have f41 := (f34.ext eh35)
            refine d_loadO (.int .i64 x13.link) (fun _ q => f41.load rfl q) ?_
            refine d_runT rfl ?_
            refine d_pureT (.bool (x33.link == x13.link)) (fun _ q => q) ?_
            refine d_runT rfl ?_
            refine d_pureT (.bool (x33.link == x13.link)) (fun _ q => q) ?_
            refine d_splitT rfl (fun c42 => ?_) (fun c42 => ?_)
            ·
              refine d_runT rfl ?_
              refine d_pureT v_l (fun _ q => q) ?_
              refine d_runT rfl ?_
              refine d_pureT (.int .i64 (k : Int)) (fun _ q => q) ?_
              refine d_runT rfl ?_
              refine d_pureT (.int .i64 ((k : Int) - 1)) (fun _ q => ArithVC.mk (by omega) q) ?_
              refine d_runT rfl ?_
              refine d_pureT (.pointer (some ⟨sblk v_l, soff v_l + (k - 1) * 3, none⟩)) (fun _ q => f40.idx (k := (k - 1)) (by omega) hk32 q) ?_
              refine d_runT rfl ?_
              refine d_pureT (.pointer (some ⟨sblk v_l, soff v_l + (k - 1) * 3 + 2, none⟩)) (fun _ q => q) ?_
              refine d_runT rfl ?_
              refine d_pureT (.pointer (some ⟨b14, 1, none⟩)) (fun _ q => q) ?_
              refine d_runT rfl ?_
              refine d_loadT (.int .i64 x33.til) (fun _ q => f21.take (fun b hb => by simp [hb]) hx33 (j := 2) rfl rfl q) ?_
              refine d_runO rfl ?_
              refine d_loadO (.int .i64 x13.fr) (fun _ q => f41.load rfl q) ?_
              refine d_runT rfl ?_
              refine d_pureT (.bool (decide (x33.til ≥ x13.fr))) (fun _ q => q) ?_
              refine d_runT rfl ?_
              refine d_pureT (.bool (decide (x33.til ≥ x13.fr))) (fun _ q => q) ?_
              refine d_runT rfl ?_
              refine d_pureT (.bool (decide (x33.til ≥ x13.fr))) (fun _ q => q) ?_
              refine d_runT rfl ?_
              refine d_pureT (.bool (decide (x33.til ≥ x13.fr))) (fun _ q => q) ?_
              refine d_pureT (.bool (decide (x33.til ≥ x13.fr))) (fun _ q => q) ?_
              refine d_done ?_
              refine p_seqN ?_
              refine v_cond rfl (fun c43 => ?_) (fun c43 => ?_)
              ·
                refine v_seq ?_
                refine v_ops ?_
                refine s_pure (.bool false) (fun _ q => q) ?_
                refine s_nil ?_
                refine p_seqN ?_
                refine v_ret ?_
                refine p_blkR ?_
                refine p_seqR ?_
                refine p_lpR ?_
                refine p_blkR ?_
                refine p_seqR ?_
                refine p_ret [.bool false] (.bool false) (fun _ q => q) rfl ?_
                have ho : (decide (FogsOk n.links.length l)) = false := by first | exact fogs_long (by omega) | exact fogs_bad (by assumption : l[k]? = some x13) (fun hp => absurd hp.1 (by assumption)) | exact fogs_bad (by assumption : l[k]? = some x13) (fun hp => by (have h1 := hp.2 (by omega) _ (by assumption : l[k - 1]? = some x33)); (have h3 := (hall (k - 1) _ (by omega) (by assumption : l[k - 1]? = some x33)).1); first | omega | ((have h2 := fgCmp_lt (a := x33) (b := x13)); omega)) | exact fogs_end hall (by assumption) (by simp; omega)
                exact ⟨by first | (rw [ho]; done) | rfl, E36⟩
              ·
                refine v_skip ?_
                refine p_blkN ?_
                refine p_seqN ?_
                refine v_ops ?_
                refine s_pure (.int .i64 ((k : Int) + 1)) (fun _ q => ArithVC.mk (by omega) q) ?_
                refine s_pure (.int .i64 ((k : Int) + 1)) (fun _ q => q) ?_
                refine s_nil ?_
                have f44 := ((f22.ext eh25).ext eh35)
                exact p_lpN ⟨k + 1, ⟨rfl, rfl, rfl, rfl, rfl⟩, ⟨E36, f44, (by exact ⟨by omega, fogs_snoc hall (by assumption : l[k]? = some x13) (by assumption) (fun h0 y hy => by first | omega | ((have e := Option.some.inj ((by assumption : l[k - 1]? = some x33).symm.trans hy)); subst e; first | omega | ((have h1 := fgCmp_lt.1 (by omega : fgCmp x33 x13 < 0)); omega)))⟩)⟩, by omega⟩
            ·
              refine d_passT rfl ?_
              refine d_passT rfl ?_
              refine d_passT rfl ?_
              refine d_passT rfl ?_
              refine d_passT rfl ?_
              refine d_passT rfl ?_
              refine d_passT rfl ?_
              refine d_passO rfl ?_
              refine d_passT rfl ?_
              refine d_runT rfl ?_
              refine d_pureT (.bool false) (fun _ q => q) ?_
              refine d_runT rfl ?_
              refine d_pureT (.bool false) (fun _ q => q) ?_
              refine d_runT rfl ?_
              refine d_pureT (.bool false) (fun _ q => q) ?_
              refine d_pureT (.bool false) (fun _ q => q) ?_
              refine d_done ?_
              refine p_seqN ?_
              refine v_condN rfl (by simp) ?_
              refine v_skip ?_
              refine p_blkN ?_
              refine p_seqN ?_
              refine v_ops ?_
              refine s_pure (.int .i64 ((k : Int) + 1)) (fun _ q => ArithVC.mk (by omega) q) ?_
              refine s_pure (.int .i64 ((k : Int) + 1)) (fun _ q => q) ?_
              refine s_nil ?_
              have f45 := ((f22.ext eh25).ext eh35)
              exact p_lpN ⟨k + 1, ⟨rfl, rfl, rfl, rfl, rfl⟩, ⟨E36, f45, (by exact ⟨by omega, fogs_snoc hall (by assumption : l[k]? = some x13) (by assumption) (fun h0 y hy => by first | omega | ((have e := Option.some.inj ((by assumption : l[k - 1]? = some x33).symm.trans hy)); subst e; first | omega | ((have h1 := fgCmp_lt.1 (by omega : fgCmp x33 x13 < 0)); omega)))⟩)⟩, by omega⟩
        ·
          refine d_passT rfl ?_
          refine d_passT rfl ?_
          refine d_passT rfl ?_
          refine d_passT rfl ?_
          refine d_passT rfl ?_
          refine d_passO rfl ?_
          refine d_passO rfl ?_
          refine d_passT rfl ?_
          refine d_passT rfl ?_
          refine d_splitU rfl ?_
          refine d_passTU rfl ?_
          refine d_passTU rfl ?_
          refine d_passTU rfl ?_
          refine d_passTU rfl ?_
          refine d_passTU rfl ?_
          refine d_passTU rfl ?_
          refine d_passTU rfl ?_
          refine d_passOU rfl ?_
          refine d_passTU rfl ?_
          refine d_passTU rfl ?_
          refine d_splitU rfl ?_
          refine d_passTU rfl ?_
          refine d_passTU rfl ?_
          refine d_passTU rfl ?_
          refine d_passTU rfl ?_
          refine d_passTU rfl ?_
          refine d_passTU rfl ?_
          refine d_passTU rfl ?_
          refine d_passOU rfl ?_
          refine d_passTU rfl ?_
          refine d_passTU rfl ?_
          refine d_passT rfl ?_
          refine d_runT rfl ?_
          refine d_pureT (.bool false) (fun _ q => q) ?_
          refine d_pureT (.bool false) (fun _ q => q) ?_
          refine d_done ?_
          refine p_seqN ?_
          refine v_condN rfl (by simp) ?_
          refine v_skip ?_
          refine p_blkN ?_
          refine p_seqN ?_
          refine v_ops ?_
          refine s_pure (.int .i64 ((k : Int) + 1)) (fun _ q => ArithVC.mk (by omega) q) ?_
          refine s_pure (.int .i64 ((k : Int) + 1)) (fun _ q => q) ?_
          refine s_nil ?_
          have f46 := (f22.ext eh25)
          exact p_lpN ⟨k + 1, ⟨rfl, rfl, rfl, rfl, rfl⟩, ⟨E26, f46, (by exact ⟨by omega, fogs_snoc hall (by assumption : l[k]? = some x13) (by assumption) (fun h0 y hy => by first | omega | ((have e := Option.some.inj ((by assumption : l[k - 1]? = some x13).symm.trans hy)); subst e; first | omega | ((have h1 := fgCmp_lt.1 (by omega : fgCmp x13 x13 < 0)); omega)))⟩)⟩, by omega⟩
    ·
      refine v_exit ?_
      refine p_seqX ?_
      refine p_lpX ?_
      refine p_blkX ?_
      refine p_seqN ?_
      refine v_seq ?_
      refine v_ops ?_
      refine s_pure (.bool true) (fun _ q => q) ?_
      refine s_nil ?_
      refine p_seqN ?_
      refine v_ret ?_
      refine p_ret [.bool true] (.bool true) (fun _ q => q) rfl ?_
      have ho : (decide (FogsOk n.links.length l)) = true := by first | exact fogs_long (by omega) | exact fogs_bad (by assumption : l[k]? = some xo__) (fun hp => absurd hp.1 (by assumption)) | exact fogs_bad (by assumption : l[k]? = some xo__) (fun hp => by (have h1 := hp.2 (by omega) _ (by assumption : l[k - 1]? = some x__)); (have h3 := (hall (k - 1) _ (by omega) (by assumption : l[k - 1]? = some x__)).1); first | omega | ((have h2 := fgCmp_lt (a := x__) (b := xo__)); omega)) | exact fogs_end hall (by assumption) (by simp; omega)
      exact ⟨by first | (rw [ho]; done) | rfl, Eh⟩

set_option maxRecDepth 10000 in
set_option maxHeartbeats 4000000 in
theorem spec_fgGood_ok (n : NetP) (v_n_towers : Value) (v_n_links : Value) (v_l : Value) (l : List FogD) (h : Heap) (s_n_towers : Sl h v_n_towers n.towers) (s_n_links : Sl h v_n_links n.links) (s_l : Sl h v_l l) : Cn f_spec_fgGood [.agg #[v_n_towers, v_n_links], v_l] h fun v h' => v = .bool (decide (FogsOk n.links.length l)) ∧ Ext h h' := by
  have lt_n_towers := s_n_towers.lt
  have l63_n_towers := s_n_towers.len63
  have lt_n_links := s_n_links.lt
  have l63_n_links := s_n_links.len63
  have lt_l := s_l.lt
  have l63_l := s_l.len63
  refine calls_of r_spec_fgGood ?_
  refine v_seq ?_
  refine v_ops ?_
  refine s_box [v_n_towers, v_n_links] rfl (fun h2 b1 hbb1 hzb1 eh2 bxb1 => ?_)
  have E3 := (Ext.refl h).trans eh2
  have z4 := eh2.size
  have lbb1 := bxb1.lt
  refine s_pure (.bool false) (fun _ q => q) ?_
  refine s_nil ?_
  refine p_seqN ?_
  refine v_seq ?_
  refine v_seq ?_
  refine v_ops ?_
  refine s_pure v_l (fun _ q => q) ?_
  refine s_pure (.int .i64 (l.length : Int)) (fun _ q => s_l.lenVC q) ?_
  refine s_pure (.int .i64 0) (fun _ q => q) ?_
  refine s_nil ?_
  refine p_seqN ?_
  refine v_block ?_
  refine v_loop1 (α := Nat) (fun k => [(1, v_l), (2, .pointer (some ⟨b1, 0, none⟩)), (7, v_l), (8, .int .i64 (l.length : Int)), (9, .int .i64 (k : Int))]) (fun k hh => Ext h hh ∧ Bx hh b1 [v_n_towers, v_n_links] 32 ∧ k ≤ l.length ∧ FogsTo n.links.length l k) (fun k => l.length - k) 0 ⟨rfl, rfl, rfl, rfl, rfl⟩ ⟨E3, bxb1, (by exact ⟨by omega, fun i x hi => by omega⟩)⟩ ?_
  rintro k R6 h5 ⟨Eh, bxb1, ⟨hk, hall⟩⟩
  have zEh := Eh.size
  have f7 := s_n_towers.ext Eh
  have f8 := s_n_links.ext Eh
  have f9 := s_l.ext Eh
  have lbb1 := bxb1.lt
  refine v_seq ?_
  refine v_ops ?_
  refine s_pure (.bool (decide ((k : Int) < (l.length : Int)))) (fun _ q => q) ?_
  refine s_nil ?_
  refine p_seqN ?_
  refine v_seq ?_
  refine v_cond rfl (fun c10 => ?_) (fun c10 => ?_)
  ·
    refine v_skip ?_
    refine p_seqN ?_
    refine v_seq ?_
    refine v_block ?_
    refine v_seq ?_
    refine v_ops ?_
    refine s_pure (.int .i64 (k : Int)) (fun _ q => q) ?_
    have hk11 : k < l.length := (by first | omega | (simp; omega))
    obtain ⟨x12, hx12⟩ : ∃ x, l[k]? = some x := ⟨_, List.getElem?_eq_getElem hk11⟩
    refine s_pure (.pointer (some ⟨sblk v_l, soff v_l + k * 3, none⟩)) (fun _ q => f9.idx (k := k) rfl hk11 q) ?_
    refine s_load (.agg #[.int .i64 x12.link, .int .i64 x12.fr, .int .i64 x12.til]) (fun _ q => f9.loadN hx12 rfl q) ?_
    refine s_new (fun h14 b13 hbb13 hzb13 eh14 bxb13 => ?_)
    have E15 := Eh.trans eh14
    have z16 := eh14.size
    have lbb13 := bxb13.lt
    refine s_pure (.int .i64 (k : Int)) (fun _ q => q) ?_
    refine s_stBx (.agg #[.int .i64 x12.link, .int .i64 x12.fr, .int .i64 x12.til]) [.int .i64 x12.link, .int .i64 x12.fr, .int .i64 x12.til] [.int .i64 x12.link, .int .i64 x12.fr, .int .i64 x12.til] bxb13 rfl rfl rfl rfl (by simp) (all_cons rfl (all_cons rfl (all_cons rfl all_nil))) rfl (fun h17 mh17 sh17 bxx18 => ?_)
    have E19 := E15.mod mh17 (fun b hb => by simp at hb; omega)
    refine s_nil ?_
    refine p_seqN ?_
    refine v_seq ?_
    refine v_seq ?_
    refine v_ops ?_
    have f20 := ((bxb1.ext eh14).mod mh17 (by simp; omega))
    refine s_load (.agg #[v_n_towers, v_n_links]) (fun _ q => f20.loadA rfl q) ?_
    refine s_load (.agg #[.int .i64 x12.link, .int .i64 x12.fr, .int .i64 x12.til]) (fun _ q => bxx18.loadA rfl q) ?_
    have f21 := ((f7.ext eh14).mod mh17 (fun b hb hc => by simp at hc; have := lt_n_towers b hb; omega))
    have f22 := ((f8.ext eh14).mod mh17 (fun b hb hc => by simp at hc; have := lt_n_links b hb; omega))
    refine s_call [.agg #[v_n_towers, v_n_links], .agg #[.int .i64 x12.link, .int .i64 x12.fr, .int .i64 x12.til]] rfl (spec_fgFog_ok n v_n_towers v_n_links x12 _ f21 f22) ?_
    rintro _ h23 ⟨rfl, eh23⟩
    have E24 := E19.trans eh23
    have z25 := eh23.size
    refine s_pure (.bool (!(decide (FogOk n.links.length x12)))) (fun _ q => q) ?_
    refine s_nil ?_
    refine p_seqN ?_
    refine v_cond rfl (fun c26 => ?_) (fun c26 => ?_)
    ·
      refine v_seq ?_
      refine v_ops ?_
      refine s_pure (.bool false) (fun _ q => q) ?_
      refine s_nil ?_
      refine p_seqN ?_
      refine v_ret ?_
      refine p_seqR ?_
      refine p_blkR ?_
      refine p_seqR ?_
      refine p_lpR ?_
      refine p_blkR ?_
      refine p_seqR ?_
      refine p_ret [.bool false] (.bool false) (fun _ q => q) rfl ?_
      have ho : (decide (FogsOk n.links.length l)) = false := by first | exact fogs_long (by omega) | exact fogs_bad (by assumption : l[k]? = some x12) (fun hp => absurd hp.1 (by assumption)) | exact fogs_bad (by assumption : l[k]? = some x12) (fun hp => by (have h1 := hp.2 (by omega) _ (by assumption : l[k - 1]? = some x12)); (have h3 := (hall (k - 1) _ (by omega) (by assumption : l[k - 1]? = some x12)).1); first | omega | ((have h2 := fgCmp_lt (a := x12) (b := x12)); omega)) | exact fogs_end hall (by assumption) (by simp; omega)
      exact ⟨by first | (rw [ho]; done) | rfl, E24⟩
    ·
      have c26 := Classical.not_not.1 c26
      refine v_skip ?_
      refine p_seqN ?_
      refine v_seq ?_
      refine v_ops ?_
      refine s_pure (.int .i64 (k : Int)) (fun _ q => q) ?_
      refine s_pure (.bool (decide ((k : Int) > 0))) (fun _ q => q) ?_
      refine s_pure (.bool (decide ((k : Int) > 0))) (fun _ q => q) ?_
      refine s_splitT rfl (fun c27 => ?_) (fun c27 => ?_)
      ·
        refine s_run rfl ?_
        refine s_pure v_l (fun _ q => q) ?_
        refine s_run rfl ?_
        refine s_pure (.int .i64 (k : Int)) (fun _ q => q) ?_
        refine s_run rfl ?_
        refine s_pure (.int .i64 ((k : Int) - 1)) (fun _ q => ArithVC.mk (by omega) q) ?_
        refine s_run rfl ?_
        have f28 := (((f9.ext eh14).mod mh17 (fun b hb hc => by simp at hc; have := lt_l b hb; omega)).ext eh23)
        have hk29 : (k - 1) < l.length := (by first | omega | (simp; omega))
        obtain ⟨x30, hx30⟩ : ∃ x, l[(k - 1)]? = some x := ⟨_, List.getElem?_eq_getElem hk29⟩
        refine s_pure (.pointer (some ⟨sblk v_l, soff v_l + (k - 1) * 3, none⟩)) (fun _ q => f28.idx (k := (k - 1)) (by omega) hk29 q) ?_
        refine s_run rfl ?_
        refine s_pure (.pointer (some ⟨sblk v_l, soff v_l + (k - 1) * 3, none⟩)) (fun _ q => q) ?_
        refine s_run rfl ?_
        refine s_pure (.pointer (some ⟨b13, 0, none⟩)) (fun _ q => q) ?_
        refine s_run rfl ?_
        refine s_load (.int .i64 x30.link) (fun _ q => f28.load hx30 (j := 0) rfl rfl q) ?_
        refine s_run rfl ?_
        have f31 := (bxx18.ext eh23)
        refine s_load (.int .i64 x12.link) (fun _ q => f31.load rfl q) ?_
        refine s_run rfl ?_
        refine s_pure (.bool (decide (x30.link > x12.link))) (fun _ q => q) ?_
        refine s_run rfl ?_
        refine s_pure (.bool (decide (x30.link > x12.link))) (fun _ q => q) ?_
        refine s_splitT rfl (fun c32 => ?_) (fun c32 => ?_)
        ·
          refine s_pass rfl ?_
          refine s_pass rfl ?_
          refine s_pass rfl ?_
          refine s_pass rfl ?_
          refine s_pass rfl ?_
          refine s_pass rfl ?_
          refine s_pass rfl ?_
          refine s_pass rfl ?_
          refine s_pass rfl ?_
          refine s_pass rfl ?_
          refine s_splitU rfl ?_
          refine s_passU rfl ?_
          refine s_passU rfl ?_
          refine s_passU rfl ?_
          refine s_passU rfl ?_
          refine s_passU rfl ?_
          refine s_passU rfl ?_
          refine s_passU rfl ?_
          refine s_passU rfl ?_
          refine s_passU rfl ?_
          refine s_pass rfl ?_
          refine s_run rfl ?_
          refine s_pure (.bool true) (fun _ q => q) ?_
          refine s_pure (.bool true) (fun _ q => q) ?_
          refine s_nil ?_
          refine p_seqN ?_
          refine v_condY rfl rfl ?_
          refine v_seq ?_
          refine v_ops ?_
          refine s_pure (.bool false) (fun _ q => q) ?_
          refine s_nil ?_
          refine p_seqN ?_
          refine v_ret ?_
          refine p_blkR ?_
          refine p_seqR ?_
          refine p_lpR ?_
          refine p_blkR ?_
          refine p_seqR ?_
          refine p_ret [.bool false] (.bool false) (fun _ q => q) rfl ?_
          have ho : (decide (FogsOk n.links.length l)) = false := by first | exact fogs_long (by omega) | exact fogs_bad (by assumption : l[k]? = some x12) (fun hp => absurd hp.1 (by assumption)) | exact fogs_bad (by assumption : l[k]? = some x12) (fun hp => by (have h1 := hp.2 (by omega) _ (by assumption : l[k - 1]? = some x30)); (have h3 := (hall (k - 1) _ (by omega) (by assumption : l[k - 1]? = some x30)).1); first | omega | ((have h2 := fgCmp_lt (a := x30) (b := x12)); omega)) | exact fogs_end hall (by assumption) (by simp; omega)
          exact ⟨by first | (rw [ho]; done) | rfl, E24⟩
        ·
          refine s_run rfl ?_
          refine s_pure v_l (fun _ q => q) ?_
          refine s_run rfl ?_
          refine s_pure (.int .i64 (k : Int)) (fun _ q => q) ?_
          refine s_run rfl ?_
          refine s_pure (.int .i64 ((k : Int) - 1)) (fun _ q => ArithVC.mk (by omega) q) ?_
          refine s_run rfl ?_
          refine s_pure (.pointer (some ⟨sblk v_l, soff v_l + (k - 1) * 3, none⟩)) (fun _ q => f28.idx (k := (k - 1)) (by omega) hk29 q) ?_
          refine s_run rfl ?_
          refine s_pure (.pointer (some ⟨sblk v_l, soff v_l + (k - 1) * 3, none⟩)) (fun _ q => q) ?_
          refine s_run rfl ?_
          refine s_pure (.pointer (some ⟨b13, 0, none⟩)) (fun _ q => q) ?_
          refine s_run rfl ?_
          refine s_load (.int .i64 x30.link) (fun _ q => f28.load hx30 (j := 0) rfl rfl q) ?_
          refine s_run rfl ?_
          refine s_load (.int .i64 x12.link) (fun _ q => f31.load rfl q) ?_
          refine s_run rfl ?_
          refine s_pure (.bool (x30.link == x12.link)) (fun _ q => q) ?_
          refine s_run rfl ?_
          refine s_pure (.bool (x30.link == x12.link)) (fun _ q => q) ?_
          refine s_splitT rfl (fun c33 => ?_) (fun c33 => ?_)
          ·
            refine s_run rfl ?_
            refine s_pure v_l (fun _ q => q) ?_
            refine s_run rfl ?_
            refine s_pure (.int .i64 (k : Int)) (fun _ q => q) ?_
            refine s_run rfl ?_
            refine s_pure (.int .i64 ((k : Int) - 1)) (fun _ q => ArithVC.mk (by omega) q) ?_
            refine s_run rfl ?_
            refine s_pure (.pointer (some ⟨sblk v_l, soff v_l + (k - 1) * 3, none⟩)) (fun _ q => f28.idx (k := (k - 1)) (by omega) hk29 q) ?_
            refine s_run rfl ?_
            refine s_pure (.pointer (some ⟨sblk v_l, soff v_l + (k - 1) * 3 + 2, none⟩)) (fun _ q => q) ?_
            refine s_run rfl ?_
            refine s_pure (.pointer (some ⟨b13, 1, none⟩)) (fun _ q => q) ?_
            refine s_run rfl ?_
            refine s_load (.int .i64 x30.til) (fun _ q => f28.load hx30 (j := 2) rfl rfl q) ?_
            refine s_run rfl ?_
            refine s_load (.int .i64 x12.fr) (fun _ q => f31.load rfl q) ?_
            refine s_run rfl ?_
            refine s_pure (.bool (decide (x30.til ≥ x12.fr))) (fun _ q => q) ?_
            refine s_run rfl ?_
            refine s_pure (.bool (decide (x30.til ≥ x12.fr))) (fun _ q => q) ?_
            refine s_run rfl ?_
            refine s_pure (.bool (decide (x30.til ≥ x12.fr))) (fun _ q => q) ?_
            refine s_pure (.bool (decide (x30.til ≥ x12.fr))) (fun _ q => q) ?_
            refine s_nil ?_
            refine p_seqN ?_
            refine v_cond rfl (fun c34 => ?_) (fun c34 => ?_)
            ·
              refine v_seq ?_
              refine v_ops ?_
              refine s_pure (.bool false) (fun _ q => q) ?_
              refine s_nil ?_
              refine p_seqN ?_
              refine v_ret ?_
              refine p_blkR ?_
              refine p_seqR ?_
              refine p_lpR ?_
              refine p_blkR ?_
              refine p_seqR ?_
              refine p_ret [.bool false] (.bool false) (fun _ q => q) rfl ?_
              have ho : (decide (FogsOk n.links.length l)) = false := by first | exact fogs_long (by omega) | exact fogs_bad (by assumption : l[k]? = some x12) (fun hp => absurd hp.1 (by assumption)) | exact fogs_bad (by assumption : l[k]? = some x12) (fun hp => by (have h1 := hp.2 (by omega) _ (by assumption : l[k - 1]? = some x30)); (have h3 := (hall (k - 1) _ (by omega) (by assumption : l[k - 1]? = some x30)).1); first | omega | ((have h2 := fgCmp_lt (a := x30) (b := x12)); omega)) | exact fogs_end hall (by assumption) (by simp; omega)
              exact ⟨by first | (rw [ho]; done) | rfl, E24⟩
            ·
              refine v_skip ?_
              refine p_blkN ?_
              refine p_seqN ?_
              refine v_ops ?_
              refine s_pure (.int .i64 ((k : Int) + 1)) (fun _ q => ArithVC.mk (by omega) q) ?_
              refine s_pure (.int .i64 ((k : Int) + 1)) (fun _ q => q) ?_
              refine s_nil ?_
              have f35 := (f20.ext eh23)
              exact p_lpN ⟨k + 1, ⟨rfl, rfl, rfl, rfl, rfl⟩, ⟨E24, f35, (by exact ⟨by omega, fogs_snoc hall (by assumption : l[k]? = some x12) (by assumption) (fun h0 y hy => by first | omega | ((have e := Option.some.inj ((by assumption : l[k - 1]? = some x30).symm.trans hy)); subst e; first | omega | ((have h1 := fgCmp_lt.1 (by omega : fgCmp x30 x12 < 0)); omega)))⟩)⟩, by omega⟩
          ·
            refine s_pass rfl ?_
            refine s_pass rfl ?_
            refine s_pass rfl ?_
            refine s_pass rfl ?_
            refine s_pass rfl ?_
            refine s_pass rfl ?_
            refine s_pass rfl ?_
            refine s_pass rfl ?_
            refine s_pass rfl ?_
            refine s_run rfl ?_
            refine s_pure (.bool false) (fun _ q => q) ?_
            refine s_run rfl ?_
            refine s_pure (.bool false) (fun _ q => q) ?_
            refine s_pure (.bool false) (fun _ q => q) ?_
            refine s_nil ?_
            refine p_seqN ?_
            refine v_condN rfl (by simp) ?_
            refine v_skip ?_
            refine p_blkN ?_
            refine p_seqN ?_
            refine v_ops ?_
            refine s_pure (.int .i64 ((k : Int) + 1)) (fun _ q => ArithVC.mk (by omega) q) ?_
            refine s_pure (.int .i64 ((k : Int) + 1)) (fun _ q => q) ?_
            refine s_nil ?_
            have f36 := (f20.ext eh23)
            exact p_lpN ⟨k + 1, ⟨rfl, rfl, rfl, rfl, rfl⟩, ⟨E24, f36, (by exact ⟨by omega, fogs_snoc hall (by assumption : l[k]? = some x12) (by assumption) (fun h0 y hy => by first | omega | ((have e := Option.some.inj ((by assumption : l[k - 1]? = some x30).symm.trans hy)); subst e; first | omega | ((have h1 := fgCmp_lt.1 (by omega : fgCmp x30 x12 < 0)); omega)))⟩)⟩, by omega⟩
      ·
        refine s_pass rfl ?_
        refine s_pass rfl ?_
        refine s_pass rfl ?_
        refine s_pass rfl ?_
        refine s_pass rfl ?_
        refine s_pass rfl ?_
        refine s_pass rfl ?_
        refine s_pass rfl ?_
        refine s_pass rfl ?_
        refine s_pass rfl ?_
        refine s_splitU rfl ?_
        refine s_passU rfl ?_
        refine s_passU rfl ?_
        refine s_passU rfl ?_
        refine s_passU rfl ?_
        refine s_passU rfl ?_
        refine s_passU rfl ?_
        refine s_passU rfl ?_
        refine s_passU rfl ?_
        refine s_passU rfl ?_
        refine s_passU rfl ?_
        refine s_splitU rfl ?_
        refine s_passU rfl ?_
        refine s_passU rfl ?_
        refine s_passU rfl ?_
        refine s_passU rfl ?_
        refine s_passU rfl ?_
        refine s_passU rfl ?_
        refine s_passU rfl ?_
        refine s_passU rfl ?_
        refine s_passU rfl ?_
        refine s_passU rfl ?_
        refine s_pass rfl ?_
        refine s_pure (.bool false) (fun _ q => q) ?_
        refine s_nil ?_
        refine p_seqN ?_
        refine v_condN rfl (by simp) ?_
        refine v_skip ?_
        refine p_blkN ?_
        refine p_seqN ?_
        refine v_ops ?_
        refine s_pure (.int .i64 ((k : Int) + 1)) (fun _ q => ArithVC.mk (by omega) q) ?_
        refine s_pure (.int .i64 ((k : Int) + 1)) (fun _ q => q) ?_
        refine s_nil ?_
        have f37 := (f20.ext eh23)
        exact p_lpN ⟨k + 1, ⟨rfl, rfl, rfl, rfl, rfl⟩, ⟨E24, f37, (by exact ⟨by omega, fogs_snoc hall (by assumption : l[k]? = some x12) (by assumption) (fun h0 y hy => by first | omega | ((have e := Option.some.inj ((by assumption : l[k - 1]? = some x12).symm.trans hy)); subst e; first | omega | ((have h1 := fgCmp_lt.1 (by omega : fgCmp x12 x12 < 0)); omega)))⟩)⟩, by omega⟩
  ·
    refine v_exit ?_
    refine p_seqX ?_
    refine p_lpX ?_
    refine p_blkX ?_
    refine p_seqN ?_
    refine v_seq ?_
    refine v_ops ?_
    refine s_pure v_l (fun _ q => q) ?_
    refine s_pure (.int .i64 (l.length : Int)) (fun _ q => f9.lenVC q) ?_
    refine s_pure (.bool (decide ((l.length : Int) ≤ 60))) (fun _ q => q) ?_
    refine s_pure (.bool (decide ((l.length : Int) ≤ 60))) (fun _ q => q) ?_
    refine s_nil ?_
    refine p_seqN ?_
    refine v_ret ?_
    refine p_ret [.bool (decide ((l.length : Int) ≤ 60))] (.bool (decide ((l.length : Int) ≤ 60))) (fun _ q => q) rfl ?_
    have ho : (decide (FogsOk n.links.length l)) = (decide ((l.length : Int) ≤ 60)) := by first | exact fogs_long (by omega) | exact fogs_bad (by assumption : l[k]? = some xo__) (fun hp => absurd hp.1 (by assumption)) | exact fogs_bad (by assumption : l[k]? = some xo__) (fun hp => by (have h1 := hp.2 (by omega) _ (by assumption : l[k - 1]? = some x__)); (have h3 := (hall (k - 1) _ (by omega) (by assumption : l[k - 1]? = some x__)).1); first | omega | ((have h2 := fgCmp_lt (a := x__) (b := xo__)); omega)) | exact fogs_end hall (by assumption) (by simp; omega)
    exact ⟨by first | (rw [ho]; done) | rfl, Eh⟩

theorem spec_fgTime_ok (t : Int) (h : Heap)  : Cn f_spec_fgTime [.int .i64 t] h fun v h' => v = .bool (decide (0 ≤ t ∧ t ≤ 10000)) ∧ h' = h := by
  refine calls_of r_spec_fgTime ?_
  refine v_seq ?_
  refine v_ops ?_
  refine s_pure (.bool false) (fun _ q => q) ?_
  refine s_nil ?_
  refine p_seqN ?_
  refine v_seq ?_
  refine v_ops ?_
  refine s_pure (.int .i64 t) (fun _ q => q) ?_
  refine s_callS [.int .i64 t, .int .i64 0, .int .i64 10000] (.bool (decide (0 ≤ t ∧ t ≤ 10000))) rfl (l1In_ok t 0 10000 _ ) ?_
  refine s_pure (.bool (decide (0 ≤ t ∧ t ≤ 10000))) (fun _ q => q) ?_
  refine s_nil ?_
  refine p_seqN ?_
  refine v_ret ?_
  refine p_ret [.bool (decide (0 ≤ t ∧ t ≤ 10000))] (.bool (decide (0 ≤ t ∧ t ≤ 10000))) (fun _ q => q) rfl ?_
  have ho : (decide (0 ≤ t ∧ t ≤ 10000)) = (decide (0 ≤ t ∧ t ≤ 10000)) := by simp
  exact ⟨by first | (rw [ho]; done) | rfl, rfl⟩

set_option maxRecDepth 10000 in
set_option maxHeartbeats 4000000 in
theorem impl_startAfter_ok (v_l : Value) (l : List FogD) (link : Int) (t : Int) (seconds : Int) (h : Heap) (s_l : Sl h v_l l) (m : Nat) (hf : FogsOk m l) (ht : 0 ≤ t ∧ t ≤ 1000000) (hs : 0 ≤ seconds ∧ seconds ≤ 1000) : Cn f_impl_startAfter [v_l, .int .i64 link, .int .i64 t, .int .i64 seconds] h fun v h' => v = .int .i64 (stF l link t seconds) ∧ Ext h h' := by
  have lt_l := s_l.lt
  have l63_l := s_l.len63
  refine calls_of r_impl_startAfter ?_
  refine v_seq ?_
  refine v_ops ?_
  refine s_pure (.int .i64 0) (fun _ q => q) ?_
  refine s_nil ?_
  refine p_seqN ?_
  refine v_seq ?_
  refine v_seq ?_
  refine v_ops ?_
  refine s_pure v_l (fun _ q => q) ?_
  refine s_pure (.int .i64 (l.length : Int)) (fun _ q => s_l.lenVC q) ?_
  refine s_pure (.int .i64 0) (fun _ q => q) ?_
  refine s_nil ?_
  refine p_seqN ?_
  refine v_block ?_
  refine v_loop2 (α := Nat) (β := Int) (fun k u => [(1, .int .i64 link), (2, .int .i64 u), (3, .int .i64 seconds), (11, v_l), (12, .int .i64 (l.length : Int)), (13, .int .i64 (k : Int))]) (fun k u hh => Ext h hh ∧ k ≤ l.length ∧ u = stF (l.take k) link t seconds) (fun k u => l.length - k) 0 t ⟨rfl, rfl, rfl, rfl, rfl, rfl⟩ ⟨(Ext.refl h), (by simp [stF])⟩ ?_
  rintro k u R2 h1 ⟨Eh, ⟨hk, hu⟩⟩
  have zEh := Eh.size
  have f3 := s_l.ext Eh
  have hb := stF_bd hf link t seconds k
  rw [← hu] at hb
  refine v_seq ?_
  refine v_ops ?_
  refine s_pure (.bool (decide ((k : Int) < (l.length : Int)))) (fun _ q => q) ?_
  refine s_nil ?_
  refine p_seqN ?_
  refine v_seq ?_
  refine v_cond rfl (fun c4 => ?_) (fun c4 => ?_)
  ·
    refine v_skip ?_
    refine p_seqN ?_
    refine v_seq ?_
    refine v_block ?_
    refine v_seq ?_
    refine v_ops ?_
    have hk5 : k < l.length := (by first | omega | (simp; omega))
    obtain ⟨x6, hx6⟩ : ∃ x, l[k]? = some x := ⟨_, List.getElem?_eq_getElem hk5⟩
    refine s_pure (.pointer (some ⟨sblk v_l, soff v_l + k * 3, none⟩)) (fun _ q => f3.idx (k := k) rfl hk5 q) ?_
    refine s_load (.agg #[.int .i64 x6.link, .int .i64 x6.fr, .int .i64 x6.til]) (fun _ q => f3.loadN hx6 rfl q) ?_
    refine s_new (fun h8 b7 hbb7 hzb7 eh8 bxb7 => ?_)
    have E9 := Eh.trans eh8
    have z10 := eh8.size
    have lbb7 := bxb7.lt
    refine s_stBx (.agg #[.int .i64 x6.link, .int .i64 x6.fr, .int .i64 x6.til]) [.int .i64 x6.link, .int .i64 x6.fr, .int .i64 x6.til] [.int .i64 x6.link, .int .i64 x6.fr, .int .i64 x6.til] bxb7 rfl rfl rfl rfl (by simp) (all_cons rfl (all_cons rfl (all_cons rfl all_nil))) rfl (fun h11 mh11 sh11 bxx12 => ?_)
    have E13 := E9.mod mh11 (fun b hb => by simp at hb; omega)
    refine s_nil ?_
    refine p_seqN ?_
    refine v_seq ?_
    refine v_ops ?_
    refine s_pure (.pointer (some ⟨b7, 0, none⟩)) (fun _ q => q) ?_
    refine s_load (.int .i64 x6.link) (fun _ q => bxx12.load rfl q) ?_
    refine s_pure (.int .i64 link) (fun _ q => q) ?_
    refine s_pure (.bool (x6.link == link)) (fun _ q => q) ?_
    refine s_pure (.bool (x6.link == link)) (fun _ q => q) ?_
    refine s_splitT rfl (fun c14 => ?_) (fun c14 => ?_)
    ·
      refine s_run rfl ?_
      refine s_pure (.pointer (some ⟨b7, 2, none⟩)) (fun _ q => q) ?_
      refine s_run rfl ?_
      refine s_load (.int .i64 x6.til) (fun _ q => bxx12.load rfl q) ?_
      refine s_run rfl ?_
      refine s_pure (.int .i64 u) (fun _ q => q) ?_
      refine s_run rfl ?_
      refine s_pure (.bool (decide (x6.til > u))) (fun _ q => q) ?_
      refine s_pure (.bool (decide (x6.til > u))) (fun _ q => q) ?_
      refine s_pure (.bool (decide (x6.til > u))) (fun _ q => q) ?_
      refine s_splitT rfl (fun c15 => ?_) (fun c15 => ?_)
      ·
        refine s_run rfl ?_
        refine s_pure (.pointer (some ⟨b7, 1, none⟩)) (fun _ q => q) ?_
        refine s_run rfl ?_
        refine s_load (.int .i64 x6.fr) (fun _ q => bxx12.load rfl q) ?_
        refine s_run rfl ?_
        refine s_pure (.int .i64 u) (fun _ q => q) ?_
        refine s_run rfl ?_
        refine s_pure (.int .i64 seconds) (fun _ q => q) ?_
        refine s_run rfl ?_
        refine s_pure (.int .i64 (u + seconds)) (fun _ q => ArithVC.mk (by omega) q) ?_
        refine s_run rfl ?_
        refine s_pure (.bool (decide (x6.fr < (u + seconds)))) (fun _ q => q) ?_
        refine s_pure (.bool (decide (x6.fr < (u + seconds)))) (fun _ q => q) ?_
        refine s_nil ?_
        refine p_seqN ?_
        refine v_cond rfl (fun c16 => ?_) (fun c16 => ?_)
        ·
          refine v_ops ?_
          refine s_pure (.pointer (some ⟨b7, 2, none⟩)) (fun _ q => q) ?_
          refine s_load (.int .i64 x6.til) (fun _ q => bxx12.load rfl q) ?_
          refine s_pure (.int .i64 x6.til) (fun _ q => q) ?_
          refine s_nil ?_
          refine p_blkN ?_
          refine p_seqN ?_
          refine v_ops ?_
          refine s_pure (.int .i64 ((k : Int) + 1)) (fun _ q => ArithVC.mk (by omega) q) ?_
          refine s_pure (.int .i64 ((k : Int) + 1)) (fun _ q => q) ?_
          refine s_nil ?_
          exact p_lpN ⟨k + 1, x6.til, ⟨rfl, rfl, rfl, rfl, rfl, rfl⟩, ⟨E13, (by exact ⟨by omega, by rw [snoc_get (by assumption), stF_snoc, ← hu]; first | rw [if_pos (by omega)] | rw [if_neg (by omega)]⟩)⟩, by omega⟩
        ·
          refine v_skip ?_
          refine p_blkN ?_
          refine p_seqN ?_
          refine v_ops ?_
          refine s_pure (.int .i64 ((k : Int) + 1)) (fun _ q => ArithVC.mk (by omega) q) ?_
          refine s_pure (.int .i64 ((k : Int) + 1)) (fun _ q => q) ?_
          refine s_nil ?_
          exact p_lpN ⟨k + 1, u, ⟨rfl, rfl, rfl, rfl, rfl, rfl⟩, ⟨E13, (by exact ⟨by omega, by rw [snoc_get (by assumption), stF_snoc, ← hu]; first | rw [if_pos (by omega)] | rw [if_neg (by omega)]⟩)⟩, by omega⟩
      ·
        refine s_pass rfl ?_
        refine s_pass rfl ?_
        refine s_pass rfl ?_
        refine s_pass rfl ?_
        refine s_pass rfl ?_
        refine s_pass rfl ?_
        refine s_pure (.bool false) (fun _ q => q) ?_
        refine s_nil ?_
        refine p_seqN ?_
        refine v_condN rfl (by simp) ?_
        refine v_skip ?_
        refine p_blkN ?_
        refine p_seqN ?_
        refine v_ops ?_
        refine s_pure (.int .i64 ((k : Int) + 1)) (fun _ q => ArithVC.mk (by omega) q) ?_
        refine s_pure (.int .i64 ((k : Int) + 1)) (fun _ q => q) ?_
        refine s_nil ?_
        exact p_lpN ⟨k + 1, u, ⟨rfl, rfl, rfl, rfl, rfl, rfl⟩, ⟨E13, (by exact ⟨by omega, by rw [snoc_get (by assumption), stF_snoc, ← hu]; first | rw [if_pos (by omega)] | rw [if_neg (by omega)]⟩)⟩, by omega⟩
    ·
      refine s_pass rfl ?_
      refine s_pass rfl ?_
      refine s_pass rfl ?_
      refine s_pass rfl ?_
      refine s_pure (.bool false) (fun _ q => q) ?_
      refine s_pure (.bool false) (fun _ q => q) ?_
      refine s_splitN rfl (by simp) ?_
      refine s_pass rfl ?_
      refine s_pass rfl ?_
      refine s_pass rfl ?_
      refine s_pass rfl ?_
      refine s_pass rfl ?_
      refine s_pass rfl ?_
      refine s_pure (.bool false) (fun _ q => q) ?_
      refine s_nil ?_
      refine p_seqN ?_
      refine v_condN rfl (by simp) ?_
      refine v_skip ?_
      refine p_blkN ?_
      refine p_seqN ?_
      refine v_ops ?_
      refine s_pure (.int .i64 ((k : Int) + 1)) (fun _ q => ArithVC.mk (by omega) q) ?_
      refine s_pure (.int .i64 ((k : Int) + 1)) (fun _ q => q) ?_
      refine s_nil ?_
      exact p_lpN ⟨k + 1, u, ⟨rfl, rfl, rfl, rfl, rfl, rfl⟩, ⟨E13, (by exact ⟨by omega, by rw [snoc_get (by assumption), stF_snoc, ← hu]; first | rw [if_pos (by omega)] | rw [if_neg (by omega)]⟩)⟩, by omega⟩
  ·
    refine v_exit ?_
    refine p_seqX ?_
    refine p_lpX ?_
    refine p_blkX ?_
    refine p_seqN ?_
    refine v_seq ?_
    refine v_ops ?_
    refine s_pure (.int .i64 u) (fun _ q => q) ?_
    refine s_pure (.int .i64 u) (fun _ q => q) ?_
    refine s_nil ?_
    refine p_seqN ?_
    refine v_ret ?_
    refine p_ret [.int .i64 u] (.int .i64 u) (fun _ q => q) rfl ?_
    have ho : (stF l link t seconds) = u := by rw [take_all (by assumption)] at hu; exact hu.symm
    exact ⟨by first | (rw [ho]; done) | rfl, Eh⟩

set_option maxRecDepth 10000 in
set_option maxHeartbeats 4000000 in
theorem spec_fgStart_ok (v_l : Value) (l : List FogD) (link : Int) (t : Int) (seconds : Int) (h : Heap) (s_l : Sl h v_l l) (m : Nat) (hf : FogsOk m l) (ht : 0 ≤ t ∧ t ≤ 1000000) (hs : 0 ≤ seconds ∧ seconds ≤ 1000) : Cn f_spec_fgStart [v_l, .int .i64 link, .int .i64 t, .int .i64 seconds] h fun v h' => v = .int .i64 (stF l link t seconds) ∧ Ext h h' := by
  have lt_l := s_l.lt
  have l63_l := s_l.len63
  refine calls_of r_spec_fgStart ?_
  refine v_seq ?_
  refine v_ops ?_
  refine s_pure (.int .i64 0) (fun _ q => q) ?_
  refine s_nil ?_
  refine p_seqN ?_
  refine v_seq ?_
  refine v_seq ?_
  refine v_ops ?_
  refine s_pure v_l (fun _ q => q) ?_
  refine s_pure (.int .i64 (l.length : Int)) (fun _ q => s_l.lenVC q) ?_
  refine s_pure (.int .i64 0) (fun _ q => q) ?_
  refine s_nil ?_
  refine p_seqN ?_
  refine v_block ?_
  refine v_loop2 (α := Nat) (β := Int) (fun k u => [(1, .int .i64 link), (2, .int .i64 u), (3, .int .i64 seconds), (11, v_l), (12, .int .i64 (l.length : Int)), (13, .int .i64 (k : Int))]) (fun k u hh => Ext h hh ∧ k ≤ l.length ∧ u = stF (l.take k) link t seconds) (fun k u => l.length - k) 0 t ⟨rfl, rfl, rfl, rfl, rfl, rfl⟩ ⟨(Ext.refl h), (by simp [stF])⟩ ?_
  rintro k u R2 h1 ⟨Eh, ⟨hk, hu⟩⟩
  have zEh := Eh.size
  have f3 := s_l.ext Eh
  have hb := stF_bd hf link t seconds k
  rw [← hu] at hb
  refine v_seq ?_
  refine v_ops ?_
  refine s_pure (.bool (decide ((k : Int) < (l.length : Int)))) (fun _ q => q) ?_
  refine s_nil ?_
  refine p_seqN ?_
  refine v_seq ?_
  refine v_cond rfl (fun c4 => ?_) (fun c4 => ?_)
  ·
    refine v_skip ?_
    refine p_seqN ?_
    refine v_seq ?_
    refine v_block ?_
    refine v_seq ?_
    refine v_ops ?_
    have hk5 : k < l.length := (by first | omega | (simp; omega))
    obtain ⟨x6, hx6⟩ : ∃ x, l[k]? = some x := ⟨_, List.getElem?_eq_getElem hk5⟩
    refine s_pure (.pointer (some ⟨sblk v_l, soff v_l + k * 3, none⟩)) (fun _ q => f3.idx (k := k) rfl hk5 q) ?_
    refine s_load (.agg #[.int .i64 x6.link, .int .i64 x6.fr, .int .i64 x6.til]) (fun _ q => f3.loadN hx6 rfl q) ?_
    refine s_new (fun h8 b7 hbb7 hzb7 eh8 bxb7 => ?_)
    have E9 := Eh.trans eh8
    have z10 := eh8.size
    have lbb7 := bxb7.lt
    refine s_stBx (.agg #[.int .i64 x6.link, .int .i64 x6.fr, .int .i64 x6.til]) [.int .i64 x6.link, .int .i64 x6.fr, .int .i64 x6.til] [.int .i64 x6.link, .int .i64 x6.fr, .int .i64 x6.til] bxb7 rfl rfl rfl rfl (by simp) (all_cons rfl (all_cons rfl (all_cons rfl all_nil))) rfl (fun h11 mh11 sh11 bxx12 => ?_)
    have E13 := E9.mod mh11 (fun b hb => by simp at hb; omega)
    refine s_nil ?_
    refine p_seqN ?_
    refine v_seq ?_
    refine v_ops ?_
    refine s_pure (.pointer (some ⟨b7, 0, none⟩)) (fun _ q => q) ?_
    refine s_load (.int .i64 x6.link) (fun _ q => bxx12.load rfl q) ?_
    refine s_pure (.int .i64 link) (fun _ q => q) ?_
    refine s_pure (.bool (x6.link == link)) (fun _ q => q) ?_
    refine s_pure (.bool (x6.link == link)) (fun _ q => q) ?_
    refine s_splitT rfl (fun c14 => ?_) (fun c14 => ?_)
    ·
      refine s_run rfl ?_
      refine s_pure (.int .i64 u) (fun _ q => q) ?_
      refine s_run rfl ?_
      refine s_pure (.pointer (some ⟨b7, 2, none⟩)) (fun _ q => q) ?_
      refine s_run rfl ?_
      refine s_load (.int .i64 x6.til) (fun _ q => bxx12.load rfl q) ?_
      refine s_run rfl ?_
      refine s_pure (.bool (decide (u < x6.til))) (fun _ q => q) ?_
      refine s_pure (.bool (decide (u < x6.til))) (fun _ q => q) ?_
      refine s_pure (.bool (decide (u < x6.til))) (fun _ q => q) ?_
      refine s_splitT rfl (fun c15 => ?_) (fun c15 => ?_)
      ·
        refine s_run rfl ?_
        refine s_pure (.int .i64 u) (fun _ q => q) ?_
        refine s_run rfl ?_
        refine s_pure (.int .i64 seconds) (fun _ q => q) ?_
        refine s_run rfl ?_
        refine s_pure (.int .i64 (u + seconds)) (fun _ q => ArithVC.mk (by omega) q) ?_
        refine s_run rfl ?_
        refine s_pure (.pointer (some ⟨b7, 1, none⟩)) (fun _ q => q) ?_
        refine s_run rfl ?_
        refine s_load (.int .i64 x6.fr) (fun _ q => bxx12.load rfl q) ?_
        refine s_run rfl ?_
        refine s_pure (.bool (decide ((u + seconds) > x6.fr))) (fun _ q => q) ?_
        refine s_pure (.bool (decide ((u + seconds) > x6.fr))) (fun _ q => q) ?_
        refine s_nil ?_
        refine p_seqN ?_
        refine v_cond rfl (fun c16 => ?_) (fun c16 => ?_)
        ·
          refine v_ops ?_
          refine s_pure (.pointer (some ⟨b7, 2, none⟩)) (fun _ q => q) ?_
          refine s_load (.int .i64 x6.til) (fun _ q => bxx12.load rfl q) ?_
          refine s_pure (.int .i64 x6.til) (fun _ q => q) ?_
          refine s_nil ?_
          refine p_blkN ?_
          refine p_seqN ?_
          refine v_ops ?_
          refine s_pure (.int .i64 ((k : Int) + 1)) (fun _ q => ArithVC.mk (by omega) q) ?_
          refine s_pure (.int .i64 ((k : Int) + 1)) (fun _ q => q) ?_
          refine s_nil ?_
          exact p_lpN ⟨k + 1, x6.til, ⟨rfl, rfl, rfl, rfl, rfl, rfl⟩, ⟨E13, (by exact ⟨by omega, by rw [snoc_get (by assumption), stF_snoc, ← hu]; first | rw [if_pos (by omega)] | rw [if_neg (by omega)]⟩)⟩, by omega⟩
        ·
          refine v_skip ?_
          refine p_blkN ?_
          refine p_seqN ?_
          refine v_ops ?_
          refine s_pure (.int .i64 ((k : Int) + 1)) (fun _ q => ArithVC.mk (by omega) q) ?_
          refine s_pure (.int .i64 ((k : Int) + 1)) (fun _ q => q) ?_
          refine s_nil ?_
          exact p_lpN ⟨k + 1, u, ⟨rfl, rfl, rfl, rfl, rfl, rfl⟩, ⟨E13, (by exact ⟨by omega, by rw [snoc_get (by assumption), stF_snoc, ← hu]; first | rw [if_pos (by omega)] | rw [if_neg (by omega)]⟩)⟩, by omega⟩
      ·
        refine s_pass rfl ?_
        refine s_pass rfl ?_
        refine s_pass rfl ?_
        refine s_pass rfl ?_
        refine s_pass rfl ?_
        refine s_pass rfl ?_
        refine s_pure (.bool false) (fun _ q => q) ?_
        refine s_nil ?_
        refine p_seqN ?_
        refine v_condN rfl (by simp) ?_
        refine v_skip ?_
        refine p_blkN ?_
        refine p_seqN ?_
        refine v_ops ?_
        refine s_pure (.int .i64 ((k : Int) + 1)) (fun _ q => ArithVC.mk (by omega) q) ?_
        refine s_pure (.int .i64 ((k : Int) + 1)) (fun _ q => q) ?_
        refine s_nil ?_
        exact p_lpN ⟨k + 1, u, ⟨rfl, rfl, rfl, rfl, rfl, rfl⟩, ⟨E13, (by exact ⟨by omega, by rw [snoc_get (by assumption), stF_snoc, ← hu]; first | rw [if_pos (by omega)] | rw [if_neg (by omega)]⟩)⟩, by omega⟩
    ·
      refine s_pass rfl ?_
      refine s_pass rfl ?_
      refine s_pass rfl ?_
      refine s_pass rfl ?_
      refine s_pure (.bool false) (fun _ q => q) ?_
      refine s_pure (.bool false) (fun _ q => q) ?_
      refine s_splitN rfl (by simp) ?_
      refine s_pass rfl ?_
      refine s_pass rfl ?_
      refine s_pass rfl ?_
      refine s_pass rfl ?_
      refine s_pass rfl ?_
      refine s_pass rfl ?_
      refine s_pure (.bool false) (fun _ q => q) ?_
      refine s_nil ?_
      refine p_seqN ?_
      refine v_condN rfl (by simp) ?_
      refine v_skip ?_
      refine p_blkN ?_
      refine p_seqN ?_
      refine v_ops ?_
      refine s_pure (.int .i64 ((k : Int) + 1)) (fun _ q => ArithVC.mk (by omega) q) ?_
      refine s_pure (.int .i64 ((k : Int) + 1)) (fun _ q => q) ?_
      refine s_nil ?_
      exact p_lpN ⟨k + 1, u, ⟨rfl, rfl, rfl, rfl, rfl, rfl⟩, ⟨E13, (by exact ⟨by omega, by rw [snoc_get (by assumption), stF_snoc, ← hu]; first | rw [if_pos (by omega)] | rw [if_neg (by omega)]⟩)⟩, by omega⟩
  ·
    refine v_exit ?_
    refine p_seqX ?_
    refine p_lpX ?_
    refine p_blkX ?_
    refine p_seqN ?_
    refine v_seq ?_
    refine v_ops ?_
    refine s_pure (.int .i64 u) (fun _ q => q) ?_
    refine s_pure (.int .i64 u) (fun _ q => q) ?_
    refine s_nil ?_
    refine p_seqN ?_
    refine v_ret ?_
    refine p_ret [.int .i64 u] (.int .i64 u) (fun _ q => q) rfl ?_
    have ho : (stF l link t seconds) = u := by rw [take_all (by assumption)] at hu; exact hu.symm
    exact ⟨by first | (rw [ho]; done) | rfl, Eh⟩

end Go.Proofs.Ythagdkmalchhgaa
