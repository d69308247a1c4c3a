/- Ro4, Rw2, Ro5, Ro6, Ro7. Condition: none. -/
import Derived.Test.YtgbaonaopkdlpaaMgA
/- Tests of fogs, and when a message starts. Condition: none. Printed in part by a program. -/
namespace Go.Proofs.Ytgbaonaopkdlpaa
open Go.Vc
set_option linter.all false

abbrev FogOk (m : Nat) (x : FogD) : Prop := (0 ≤ x.link ∧ x.link ≤ (m : Int) - 1) ∧ 0 ≤ x.fr ∧ x.fr < x.til ∧ x.til ≤ 10000
abbrev fgLt (y x : FogD) : Prop := y.link < x.link ∨ (y.link = x.link ∧ y.til < x.fr)
abbrev FogsTo (m : Nat) (l : List FogD) (k : Nat) : Prop := ∀ i x, i < k → l[i]? = some x → FogOk m x ∧ (0 < i → ∀ y, l[i - 1]? = some y → fgLt y x)
def FogsOk (m : Nat) (l : List FogD) : Prop := l.length ≤ 60 ∧ FogsTo m l l.length
noncomputable instance (m : Nat) (l : List FogD) : Decidable (FogsOk m l) := Classical.propDecidable _
def fgCmp (a b : FogD) : Int := orL [cmpI a.link b.link, cmpI a.fr b.fr]
theorem fgCmp_lt {a b : FogD} : fgCmp a b < 0 ↔ (a.link < b.link ∨ (a.link = b.link ∧ a.fr < b.fr)) := by
  have h1 := @cmpI_neg a.link b.link
  have h2 := @cmpI_neg a.fr b.fr
  have h3 := @cmpI_zero a.link b.link
  have h4 := cmpI_bd a.link b.link
  have h5 := cmpI_bd a.fr b.fr
  unfold fgCmp orL orL orL
  split
  · omega
  · split <;> omega
theorem fogs_snoc {m : Nat} {l : List FogD} {k : Nat} {x : FogD} (h : FogsTo m l k) (hx : l[k]? = some x) (hp : FogOk m x) (hs : 0 < k → ∀ y, l[k - 1]? = some y → fgLt y x) : FogsTo m l (k + 1) := by
  intro i y hi hy
  by_cases e : i = k
  · subst e; rw [hx] at hy; obtain rfl := Option.some.inj hy; exact ⟨hp, hs⟩
  · exact h i y (by omega) hy
theorem fogs_bad {m : Nat} {l : List FogD} {k : Nat} {x : FogD} (hx : l[k]? = some x) (h : ¬ (FogOk m x ∧ (0 < k → ∀ y, l[k - 1]? = some y → fgLt y x))) : decide (FogsOk m l) = false :=
 decide_eq_false fun hn => h (hn.2 k x (List.getElem?_eq_some_iff.1 hx).1 hx)
theorem fogs_long {m : Nat} {l : List FogD} (h : ¬ l.length ≤ 60) : decide (FogsOk m l) = false := decide_eq_false fun hn => h hn.1
theorem fogs_end {m : Nat} {l : List FogD} {k : Nat} {b : Bool} (h : FogsTo m l k) (hk : ¬ (k : Int) < (l.length : Int)) (hb : b = true ↔ l.length ≤ 60) : decide (FogsOk m l) = b := by
  cases b
  · exact fogs_long fun hn => by have := hb.2 hn; cases this
  · exact decide_eq_true ⟨hb.1 rfl, fun i x hi hx => h i x (by omega) hx⟩
theorem FogsOk.at {m : Nat} {l : List FogD} (h : FogsOk m l) {k : Nat} {x : FogD} (hx : l[k]? = some x) : FogOk m x := (h.2 k x (List.getElem?_eq_some_iff.1 hx).1 hx).1
/-- the first second from t on from which a link is clear for s seconds -/
def stF (l : List FogD) (link t s : Int) : Int := l.foldl (fun t x => if x.link = link ∧ x.til > t ∧ x.fr < t + s then x.til else t) t
theorem stF_snoc (l : List FogD) (link t s : Int) (x : FogD) : stF (l ++ [x]) link t s = if x.link = link ∧ x.til > stF l link t s ∧ x.fr < stF l link t s + s then x.til else stF l link t s := by simp [stF]
theorem stF_bd {m : Nat} {l : List FogD} (h : FogsOk m l) (link t s : Int) (k : Nat) : t ≤ stF (l.take k) link t s ∧ (stF (l.take k) link t s ≤ t ∨ stF (l.take k) link t s ≤ 10000) := by
  induction k with
  | zero => simp [stF]
  | succ k ih =>
    by_cases hk : k < l.length
    · have hx := List.getElem?_eq_getElem hk
      have := h.at hx
      rw [snoc_get hx, stF_snoc]
      split <;> omega
    · rw [List.take_of_length_le (by omega)]; rw [List.take_of_length_le (by omega)] at ih; exact ih

theorem impl_compareFogs_ok (a : FogD) (b : FogD) (h : Heap)  : Cn f_impl_compareFogs [.agg #[.int .i64 a.link, .int .i64 a.fr, .int .i64 a.til], .agg #[.int .i64 b.link, .int .i64 b.fr, .int .i64 b.til]] h fun v h' => v = .int .i64 (fgCmp a b) ∧ Ext h h' := by
 refine calls_of r_impl_compareFogs ?_
 refine v_seq <| v_ops ?_
 refine s_box [.int .i64 a.link, .int .i64 a.fr, .int .i64 a.til] rfl (fun h2 b1 hbb1 hzb1 eh2 bxb1 => ?_)
 have E3 := (Ext.refl h).trans eh2
 have z4 := eh2.size
 have lbb1 := bxb1.lt
 refine s_box [.int .i64 b.link, .int .i64 b.fr, .int .i64 b.til] rfl (fun h6 b5 hbb5 hzb5 eh6 bxb5 => ?_)
 have E7 := E3.trans eh6
 have z8 := eh6.size
 have lbb5 := bxb5.lt
 refine s_pq (.int .i64 0) <| s_nil <| p_seqN <| v_seq ?_
 have f9 := (bxb1.ext eh6)
 refine v_draw (DrawVC.hold ([b1] ++ [b5]) ?_)
 refine d_pq (.pointer (some ⟨b1, 0, none⟩)) <| d_pq (.pointer (some ⟨b5, 0, none⟩)) <| d_pq (.pointer (some ⟨b1, 1, none⟩)) <| d_pq (.pointer (some ⟨b5, 1, none⟩)) <| d_loadO (.int .i64 a.link) (fun _ q => f9.load rfl q) <| d_loadO (.int .i64 b.link) (fun _ q => bxb5.load rfl q) <| d_loadT (.int .i64 a.fr) (fun _ q => f9.take (by simp) rfl q) <| d_loadT (.int .i64 b.fr) (fun _ q => bxb5.take (by simp) rfl q) <| d_eff <| s_callS [.int .i64 a.link, .int .i64 b.link] (.int .i64 (cmpI a.link b.link)) rfl (cmp_Compare_int_ok a.link b.link _ ) ?_
 refine s_nil ⟨fun _ x hx => rfl, ?_⟩
 refine d_eff <| s_callS [.int .i64 a.fr, .int .i64 b.fr] (.int .i64 (cmpI a.fr b.fr)) rfl (cmp_Compare_int_ok a.fr b.fr _ ) ?_
 refine s_nil ⟨fun hl => (by cases hl), ?_⟩
 refine d_eff ?_
 refine s_row (α := Int) [(cmpI a.link b.link), (cmpI a.fr b.fr)] (fun _ q => seg_i rfl (seg_i rfl (seg_nil q))) rfl (by simp [maxLen]) (fun r10 h11 eh11 zh11 s_r10 fr_r10 => ?_)
 have E12 := E7.trans eh11
 have z13 := eh11.size
 refine s_nil ⟨fun hl => (by cases hl), ?_⟩
 refine d_eff <| s_call [r10] rfl (cmp_Or_int_ok r10 [(cmpI a.link b.link), (cmpI a.fr b.fr)] _ s_r10.toSl) ?_
 rintro _ h15 ⟨rfl, eh15⟩
 have E16 := E12.trans eh15
 have z17 := eh15.size
 refine s_nil ⟨fun hl => (by cases hl), ?_⟩
 refine d_pq (.int .i64 (orL [(cmpI a.link b.link), (cmpI a.fr b.fr)])) <| d_done <| p_seqN <| v_ret <| p_ret [.int .i64 (orL [(cmpI a.link b.link), (cmpI a.fr b.fr)])] (.int .i64 (orL [(cmpI a.link b.link), (cmpI a.fr b.fr)])) (fun _ q => q) rfl ?_
 have ho : (fgCmp a b) = (orL [(cmpI a.link b.link), (cmpI a.fr b.fr)]) := by rfl
 exact ⟨by first | (rw [ho]; done) | rfl, E16⟩

theorem impl_isFog_ok (n : NetP) (v_n_towers : Value) (v_n_links : Value) (x : FogD) (h : Heap) (s_n_towers : Sl h v_n_towers n.towers) (s_n_links : Sl h v_n_links n.links) : Cn f_impl_isFog [.agg #[v_n_towers, v_n_links], .agg #[.int .i64 x.link, .int .i64 x.fr, .int .i64 x.til]] h fun v h' => v = .bool (decide (FogOk n.links.length x)) ∧ Ext h h' := by
 have l63_n_towers := s_n_towers.len63
 have l63_n_links := s_n_links.len63
 refine calls_of r_impl_isFog ?_
 refine v_seq <| v_ops ?_
 refine s_box [v_n_towers, v_n_links] rfl (fun h2 b1 hbb1 hzb1 eh2 bxb1 => ?_)
 have E3 := (Ext.refl h).trans eh2
 have z4 := eh2.size
 have lbb1 := bxb1.lt
 refine s_box [.int .i64 x.link, .int .i64 x.fr, .int .i64 x.til] rfl (fun h6 b5 hbb5 hzb5 eh6 bxb5 => ?_)
 have E7 := E3.trans eh6
 have z8 := eh6.size
 have lbb5 := bxb5.lt
 refine s_pq (.bool false) <| s_nil <| p_seqN <| v_seq <| v_ops <| s_pq (.pointer (some ⟨b5, 0, none⟩)) <| s_load (.int .i64 x.link) (fun _ q => bxb5.load rfl q) <| s_pq (.pointer (some ⟨b1, 1, none⟩)) ?_
 have f9 := (bxb1.ext eh6)
 refine s_load v_n_links (fun _ q => f9.load rfl q) <| s_pure (.int .i64 (n.links.length : Int)) (fun _ q => s_n_links.lenVC q) <| s_pure (.int .i64 ((n.links.length : Int) - 1)) (fun _ q => ArithVC.mk (by omega) q) <| s_callS [.int .i64 x.link, .int .i64 0, .int .i64 ((n.links.length : Int) - 1)] (.bool (decide (0 ≤ x.link ∧ x.link ≤ ((n.links.length : Int) - 1)))) rfl (within_ok x.link 0 ((n.links.length : Int) - 1) _ ) <| s_pq (.bool (decide (0 ≤ x.link ∧ x.link ≤ ((n.links.length : Int) - 1)))) ?_
 refine s_splitT rfl (fun c10 => ?_) (fun c10 => ?_)
 ·
  refine s_run rfl <| s_pq (.pointer (some ⟨b5, 1, none⟩)) <| s_run rfl <| s_load (.int .i64 x.fr) (fun _ q => bxb5.load rfl q) <| s_run rfl <| s_pq (.bool (decide (x.fr ≥ 0))) <| s_pq (.bool (decide (x.fr ≥ 0))) <| s_pq (.bool (decide (x.fr ≥ 0))) ?_
  refine s_splitT rfl (fun c11 => ?_) (fun c11 => ?_)
  ·
   refine s_run rfl <| s_pq (.pointer (some ⟨b5, 1, none⟩)) <| s_run rfl <| s_load (.int .i64 x.fr) (fun _ q => bxb5.load rfl q) <| s_run rfl <| s_pq (.pointer (some ⟨b5, 2, none⟩)) <| s_run rfl <| s_load (.int .i64 x.til) (fun _ q => bxb5.load rfl q) <| s_run rfl <| s_pq (.bool (decide (x.fr < x.til))) <| s_pq (.bool (decide (x.fr < x.til))) <| s_pq (.bool (decide (x.fr < x.til))) ?_
   refine s_splitT rfl (fun c12 => ?_) (fun c12 => ?_)
   ·
    refine s_run rfl <| s_pq (.pointer (some ⟨b5, 2, none⟩)) <| s_run rfl <| s_load (.int .i64 x.til) (fun _ q => bxb5.load rfl q) <| s_run rfl <| s_pq (.bool (decide (x.til ≤ 10000))) <| s_pq (.bool (decide (x.til ≤ 10000))) <| s_pq (.bool (decide (x.til ≤ 10000))) <| s_nil <| p_seqN <| v_ret <| p_ret [.bool (decide (x.til ≤ 10000))] (.bool (decide (x.til ≤ 10000))) (fun _ q => q) rfl ?_
    have ho : (decide (FogOk n.links.length x)) = (decide (x.til ≤ 10000)) := by rw [Bool.eq_iff_iff]; simp only [decide_eq_true_eq, Bool.false_eq_true, iff_false, false_iff, iff_true, true_iff]; omega
    exact ⟨by first | (rw [ho]; done) | rfl, E7⟩
   refine s_pass rfl <| s_pass rfl <| s_pass rfl <| s_pq (.bool false) <| s_pq (.bool false) <| s_nil <| p_seqN <| v_ret <| p_ret [.bool false] (.bool false) (fun _ q => q) rfl ?_
   have ho : (decide (FogOk n.links.length x)) = false := by rw [Bool.eq_iff_iff]; simp only [decide_eq_true_eq, Bool.false_eq_true, iff_false, false_iff, iff_true, true_iff]; omega
   exact ⟨by first | (rw [ho]; done) | rfl, E7⟩
  refine s_pass rfl <| s_pass rfl <| s_pass rfl <| s_pass rfl <| s_pass rfl <| s_pq (.bool false) <| s_pq (.bool false) <| s_splitN rfl (by simp) <| s_pass rfl <| s_pass rfl <| s_pass rfl <| s_pq (.bool false) <| s_pq (.bool false) <| s_nil <| p_seqN <| v_ret <| p_ret [.bool false] (.bool false) (fun _ q => q) rfl ?_
  have ho : (decide (FogOk n.links.length x)) = false := by rw [Bool.eq_iff_iff]; simp only [decide_eq_true_eq, Bool.false_eq_true, iff_false, false_iff, iff_true, true_iff]; omega
  exact ⟨by first | (rw [ho]; done) | rfl, E7⟩
 refine s_pass rfl <| s_pass rfl <| s_pass rfl <| s_pq (.bool false) <| s_pq (.bool false) <| s_splitN rfl (by simp) <| s_pass rfl <| s_pass rfl <| s_pass rfl <| s_pass rfl <| s_pass rfl <| s_pq (.bool false) <| s_pq (.bool false) <| s_splitN rfl (by simp) <| s_pass rfl <| s_pass rfl <| s_pass rfl <| s_pq (.bool false) <| s_pq (.bool false) <| s_nil <| p_seqN <| v_ret <| p_ret [.bool false] (.bool false) (fun _ q => q) rfl ?_
 have ho : (decide (FogOk n.links.length x)) = false := by rw [Bool.eq_iff_iff]; simp only [decide_eq_true_eq, Bool.false_eq_true, iff_false, false_iff, iff_true, true_iff]; omega
 exact ⟨by first | (rw [ho]; done) | rfl, E7⟩

theorem spec_fgFog_ok (n : NetP) (v_n_towers : Value) (v_n_links : Value) (x : FogD) (h : Heap) (s_n_towers : Sl h v_n_towers n.towers) (s_n_links : Sl h v_n_links n.links) : Cn f_spec_fgFog [.agg #[v_n_towers, v_n_links], .agg #[.int .i64 x.link, .int .i64 x.fr, .int .i64 x.til]] h fun v h' => v = .bool (decide (FogOk n.links.length x)) ∧ Ext h h' := by
 have l63_n_towers := s_n_towers.len63
 have l63_n_links := s_n_links.len63
 refine calls_of r_spec_fgFog ?_
 refine v_seq <| v_ops ?_
 refine s_box [v_n_towers, v_n_links] rfl (fun h2 b1 hbb1 hzb1 eh2 bxb1 => ?_)
 have E3 := (Ext.refl h).trans eh2
 have z4 := eh2.size
 have lbb1 := bxb1.lt
 refine s_box [.int .i64 x.link, .int .i64 x.fr, .int .i64 x.til] rfl (fun h6 b5 hbb5 hzb5 eh6 bxb5 => ?_)
 have E7 := E3.trans eh6
 have z8 := eh6.size
 have lbb5 := bxb5.lt
 refine s_pq (.bool false) <| s_nil <| p_seqN <| v_seq <| v_ops <| s_pq (.pointer (some ⟨b5, 0, none⟩)) <| s_load (.int .i64 x.link) (fun _ q => bxb5.load rfl q) <| s_pq (.pointer (some ⟨b1, 1, none⟩)) ?_
 have f9 := (bxb1.ext eh6)
 refine s_load v_n_links (fun _ q => f9.load rfl q) <| s_pure (.int .i64 (n.links.length : Int)) (fun _ q => s_n_links.lenVC q) <| s_pure (.int .i64 ((n.links.length : Int) - 1)) (fun _ q => ArithVC.mk (by omega) q) <| s_callS [.int .i64 x.link, .int .i64 0, .int .i64 ((n.links.length : Int) - 1)] (.bool (decide (0 ≤ x.link ∧ x.link ≤ ((n.links.length : Int) - 1)))) rfl (l1In_ok x.link 0 ((n.links.length : Int) - 1) _ ) <| s_pq (.bool (decide (0 ≤ x.link ∧ x.link ≤ ((n.links.length : Int) - 1)))) ?_
 refine s_splitT rfl (fun c10 => ?_) (fun c10 => ?_)
 ·
  refine s_run rfl <| s_pq (.pointer (some ⟨b5, 1, none⟩)) <| s_run rfl <| s_load (.int .i64 x.fr) (fun _ q => bxb5.load rfl q) <| s_run rfl <| s_callS [.int .i64 x.fr, .int .i64 0, .int .i64 9999] (.bool (decide (0 ≤ x.fr ∧ x.fr ≤ 9999))) rfl (l1In_ok x.fr 0 9999 _ ) <| s_pq (.bool (decide (0 ≤ x.fr ∧ x.fr ≤ 9999))) <| s_pq (.bool (decide (0 ≤ x.fr ∧ x.fr ≤ 9999))) ?_
  refine s_splitT rfl (fun c11 => ?_) (fun c11 => ?_)
  ·
   refine s_run rfl <| s_pq (.pointer (some ⟨b5, 2, none⟩)) <| s_run rfl <| s_load (.int .i64 x.til) (fun _ q => bxb5.load rfl q) <| s_run rfl <| s_pq (.pointer (some ⟨b5, 1, none⟩)) <| s_run rfl <| s_load (.int .i64 x.fr) (fun _ q => bxb5.load rfl q) <| s_run rfl <| s_pure (.int .i64 (x.fr + 1)) (fun _ q => ArithVC.mk (by omega) q) <| s_run rfl <| s_callS [.int .i64 x.til, .int .i64 (x.fr + 1), .int .i64 10000] (.bool (decide ((x.fr + 1) ≤ x.til ∧ x.til ≤ 10000))) rfl (l1In_ok x.til (x.fr + 1) 10000 _ ) ?_
   refine s_pq (.bool (decide ((x.fr + 1) ≤ x.til ∧ x.til ≤ 10000))) <| s_pq (.bool (decide ((x.fr + 1) ≤ x.til ∧ x.til ≤ 10000))) <| s_nil <| p_seqN <| v_ret <| p_ret [.bool (decide ((x.fr + 1) ≤ x.til ∧ x.til ≤ 10000))] (.bool (decide ((x.fr + 1) ≤ x.til ∧ x.til ≤ 10000))) (fun _ q => q) rfl ?_
   have ho : (decide (FogOk n.links.length x)) = (decide ((x.fr + 1) ≤ x.til ∧ x.til ≤ 10000)) := by rw [Bool.eq_iff_iff]; simp only [decide_eq_true_eq, Bool.false_eq_true, iff_false, false_iff, iff_true, true_iff]; omega
   exact ⟨by first | (rw [ho]; done) | rfl, E7⟩
  refine s_pass rfl <| s_pass rfl <| s_pass rfl <| s_pass rfl <| s_pass rfl <| s_pass rfl <| s_pq (.bool false) <| s_pq (.bool false) <| s_nil <| p_seqN <| v_ret <| p_ret [.bool false] (.bool false) (fun _ q => q) rfl ?_
  have ho : (decide (FogOk n.links.length x)) = false := by rw [Bool.eq_iff_iff]; simp only [decide_eq_true_eq, Bool.false_eq_true, iff_false, false_iff, iff_true, true_iff]; omega
  exact ⟨by first | (rw [ho]; done) | rfl, E7⟩
 refine s_pass rfl <| s_pass rfl <| s_pass rfl <| s_pq (.bool false) <| s_pq (.bool false) <| s_splitN rfl (by simp) <| s_pass rfl <| s_pass rfl <| s_pass rfl <| s_pass rfl <| s_pass rfl <| s_pass rfl <| s_pq (.bool false) <| s_pq (.bool false) <| s_nil <| p_seqN <| v_ret <| p_ret [.bool false] (.bool false) (fun _ q => q) rfl ?_
 have ho : (decide (FogOk n.links.length x)) = false := by rw [Bool.eq_iff_iff]; simp only [decide_eq_true_eq, Bool.false_eq_true, iff_false, false_iff, iff_true, true_iff]; omega
 exact ⟨by first | (rw [ho]; done) | rfl, E7⟩

set_option maxRecDepth 10000 in
set_option maxHeartbeats 4000000 in
theorem impl_areFogs_ok (n : NetP) (v_n_towers : Value) (v_n_links : Value) (v_l : Value) (l : List FogD) (h : Heap) (s_n_towers : Sl h v_n_towers n.towers) (s_n_links : Sl h v_n_links n.links) (s_l : Sl h v_l l) : Cn f_impl_areFogs [.agg #[v_n_towers, v_n_links], v_l] h fun v h' => v = .bool (decide (FogsOk n.links.length l)) ∧ Ext h h' := by
 have lt_n_towers := s_n_towers.lt
 have l63_n_towers := s_n_towers.len63
 have lt_n_links := s_n_links.lt
 have l63_n_links := s_n_links.len63
 have lt_l := s_l.lt
 have l63_l := s_l.len63
 refine calls_of r_impl_areFogs ?_
 refine v_seq <| v_ops ?_
 refine s_box [v_n_towers, v_n_links] rfl (fun h2 b1 hbb1 hzb1 eh2 bxb1 => ?_)
 have E3 := (Ext.refl h).trans eh2
 have z4 := eh2.size
 have lbb1 := bxb1.lt
 refine s_pq (.bool false) <| s_nil <| p_seqN <| v_seq <| v_seq <| v_ops <| s_pq v_l <| s_pure (.int .i64 (l.length : Int)) (fun _ q => s_l.lenVC q) <| s_pq (.bool (decide ((l.length : Int) > 60))) <| s_nil <| p_seqN ?_
 refine v_cond rfl (fun c5 => ?_) (fun c5 => ?_)
 ·
  refine v_seq <| v_ops <| s_pq (.bool false) <| s_nil <| p_seqN <| v_ret <| p_seqR <| p_ret [.bool false] (.bool false) (fun _ q => q) rfl ?_
  have ho : (decide (FogsOk n.links.length l)) = false := by first | exact fogs_long (by omega) | exact fogs_bad (by assumption : l[k]? = some xo__) (fun hp => absurd hp.1 (by assumption)) | exact fogs_bad (by assumption : l[k]? = some xo__) (fun hp => by (have h1 := hp.2 (by omega) _ (by assumption : l[k - 1]? = some x__)); (have h3 := (hall (k - 1) _ (by omega) (by assumption : l[k - 1]? = some x__)).1); first | omega | ((have h2 := fgCmp_lt (a := x__) (b := xo__)); omega)) | exact fogs_end hall (by assumption) (by simp; omega)
  exact ⟨by first | (rw [ho]; done) | rfl, E3⟩
 refine v_skip <| p_seqN <| v_seq <| v_seq <| v_ops <| s_pq v_l <| s_pure (.int .i64 (l.length : Int)) (fun _ q => s_l.lenVC q) <| s_pq (.int .i64 0) <| s_nil <| p_seqN <| v_block <| v_loop1 (α := Nat) (fun k => [(1, v_l), (2, .pointer (some ⟨b1, 0, none⟩)), (10, v_l), (11, .int .i64 (l.length : Int)), (12, .int .i64 (k : Int))]) (fun k hh => Ext h hh ∧ Bx hh b1 [v_n_towers, v_n_links] 26 ∧ k ≤ l.length ∧ FogsTo n.links.length l k) (fun k => l.length - k) 0 ⟨rfl, rfl, rfl, rfl, rfl⟩ ⟨E3, bxb1, (by exact ⟨by omega, fun i x hi => by omega⟩)⟩ ?_
 rintro k R7 h6 ⟨Eh, bxb1, ⟨hk, hall⟩⟩
 have zEh := Eh.size
 have f9 := s_n_towers.ext Eh
 have f10 := s_n_links.ext Eh
 have f11 := s_l.ext Eh
 have lbb1 := bxb1.lt
 refine v_seq <| v_ops <| s_pq (.bool (decide ((k : Int) < (l.length : Int)))) <| s_nil <| p_seqN <| v_seq ?_
 refine v_cond rfl (fun c12 => ?_) (fun c12 => ?_)
 ·
  refine v_skip <| p_seqN <| v_seq <| v_block <| v_seq <| v_ops <| s_pq (.int .i64 (k : Int)) ?_
  have hk13 : k < l.length := (by first | omega | (simp; omega))
  obtain ⟨x14, hx14⟩ : ∃ x, l[k]? = some x := ⟨_, List.getElem?_eq_getElem hk13⟩
  refine s_pure (.pointer (some ⟨sblk v_l, soff v_l + k * 3, none⟩)) (fun _ q => f11.idx (k := k) rfl hk13 q) <| s_load (.agg #[.int .i64 x14.link, .int .i64 x14.fr, .int .i64 x14.til]) (fun _ q => f11.loadN hx14 rfl q) ?_
  refine s_new (fun h16 b15 hbb15 hzb15 eh16 bxb15 => ?_)
  have E17 := Eh.trans eh16
  have z18 := eh16.size
  have lbb15 := bxb15.lt
  refine s_pq (.int .i64 (k : Int)) ?_
  refine s_stBx (.agg #[.int .i64 x14.link, .int .i64 x14.fr, .int .i64 x14.til]) [.int .i64 x14.link, .int .i64 x14.fr, .int .i64 x14.til] [.int .i64 x14.link, .int .i64 x14.fr, .int .i64 x14.til] bxb15 rfl rfl rfl rfl (by simp) (all_cons rfl (all_cons rfl (all_cons rfl all_nil))) rfl (fun h19 mh19 sh19 bxx20 => ?_)
  have E21 := E17.mod mh19 (fun b hb => by simp at hb; omega)
  refine s_nil <| p_seqN <| v_seq ?_
  have f22 := ((f11.ext eh16).mod mh19 (fun b hb hc => by simp at hc; have := lt_l b hb; omega))
  refine v_draw (DrawVC.hold (blks v_l) ?_)
  have f23 := ((bxb1.ext eh16).mod mh19 (by simp; omega))
  refine d_loadO (.agg #[v_n_towers, v_n_links]) (fun _ q => f23.loadA rfl q) <| d_loadO (.agg #[.int .i64 x14.link, .int .i64 x14.fr, .int .i64 x14.til]) (fun _ q => bxx20.loadA rfl q) <| d_eff ?_
  have f24 := ((f9.ext eh16).mod mh19 (fun b hb hc => by simp at hc; have := lt_n_towers b hb; omega))
  have f25 := ((f10.ext eh16).mod mh19 (fun b hb hc => by simp at hc; have := lt_n_links b hb; omega))
  refine s_call [.agg #[v_n_towers, v_n_links], .agg #[.int .i64 x14.link, .int .i64 x14.fr, .int .i64 x14.til]] rfl (impl_isFog_ok n v_n_towers v_n_links x14 _ f24 f25) ?_
  rintro _ h26 ⟨rfl, eh26⟩
  have E27 := E21.trans eh26
  have z28 := eh26.size
  have G29 := eh26
  refine s_nil ⟨fun _ x hx => G29.blk x (by have := lt_l x hx; omega), ?_⟩
  refine d_pq (.bool (!(decide (FogOk n.links.length x14)))) <| d_pq (.bool (!(decide (FogOk n.links.length x14)))) ?_
  refine d_splitT rfl (fun c30 => ?_) (fun c30 => ?_)
  ·
   refine d_passT rfl <| d_passT rfl <| d_passT rfl <| d_splitU rfl <| d_passTU rfl <| d_passTU rfl <| d_passTU rfl <| d_passTU rfl <| d_passTU rfl <| d_passOU rfl <| d_passOU rfl <| d_passTU rfl <| d_passTU rfl <| d_splitU rfl <| d_passTU rfl <| d_passTU rfl <| d_passTU rfl <| d_passTU rfl <| d_passTU rfl <| d_passTU rfl <| d_passTU rfl <| d_passOU rfl <| d_passTU rfl <| d_passTU rfl <| d_splitU rfl <| d_passTU rfl <| d_passTU rfl <| d_passTU rfl <| d_passTU rfl <| d_passTU rfl <| d_passTU rfl ?_
   refine d_passTU rfl <| d_passOU rfl <| d_passTU rfl <| d_passTU rfl <| d_passTU rfl <| d_passT rfl <| d_pq (.bool true) <| d_done <| p_seqN <| v_condY rfl rfl <| v_seq <| v_ops <| s_pq (.bool false) <| s_nil <| p_seqN <| v_ret <| p_blkR <| p_seqR <| p_lpR <| p_blkR <| p_seqR <| p_ret [.bool false] (.bool false) (fun _ q => q) rfl ?_
   have ho : (decide (FogsOk n.links.length l)) = false := by first | exact fogs_long (by omega) | exact fogs_bad (by assumption : l[k]? = some x14) (fun hp => absurd hp.1 (by assumption)) | exact fogs_bad (by assumption : l[k]? = some x14) (fun hp => by (have h1 := hp.2 (by omega) _ (by assumption : l[k - 1]? = some x14)); (have h3 := (hall (k - 1) _ (by omega) (by assumption : l[k - 1]? = some x14)).1); first | omega | ((have h2 := fgCmp_lt (a := x14) (b := x14)); omega)) | exact fogs_end hall (by assumption) (by simp; omega)
   exact ⟨by first | (rw [ho]; done) | rfl, E27⟩
  have c30 := Classical.not_not.1 c30
  refine d_runT rfl <| d_pq (.int .i64 (k : Int)) <| d_runT rfl <| d_pq (.bool (decide ((k : Int) > 0))) <| d_runT rfl <| d_pq (.bool (decide ((k : Int) > 0))) ?_
  refine d_splitT rfl (fun c31 => ?_) (fun c31 => ?_)
  ·
   refine d_runT rfl <| d_pq v_l <| d_runT rfl <| d_pq (.int .i64 (k : Int)) <| d_runT rfl <| d_pureT (.int .i64 ((k : Int) - 1)) (fun _ q => ArithVC.mk (by omega) q) <| d_runT rfl ?_
   have f32 := (f22.ext eh26)
   have hk33 : (k - 1) < l.length := (by first | omega | (simp; omega))
   obtain ⟨x34, hx34⟩ : ∃ x, l[(k - 1)]? = some x := ⟨_, List.getElem?_eq_getElem hk33⟩
   refine d_pureT (.pointer (some ⟨sblk v_l, soff v_l + (k - 1) * 3, none⟩)) (fun _ q => f32.idx (k := (k - 1)) (by omega) hk33 q) <| d_runT rfl <| d_loadT (.agg #[.int .i64 x34.link, .int .i64 x34.fr, .int .i64 x34.til]) (fun _ q => f22.takeN (fun b hb => by first | exact hb | simp [hb]) hx34 rfl q) <| d_runO rfl ?_
   have f35 := (bxx20.ext eh26)
   refine d_loadO (.agg #[.int .i64 x14.link, .int .i64 x14.fr, .int .i64 x14.til]) (fun _ q => f35.loadA rfl q) <| d_runO rfl <| d_eff <| s_call [.agg #[.int .i64 x34.link, .int .i64 x34.fr, .int .i64 x34.til], .agg #[.int .i64 x14.link, .int .i64 x14.fr, .int .i64 x14.til]] rfl (impl_compareFogs_ok x34 x14 _ ) ?_
   rintro _ h36 ⟨rfl, eh36⟩
   have E37 := E27.trans eh36
   have z38 := eh36.size
   have G39 := G29.trans eh36
   refine s_nil ⟨fun _ x hx => G39.blk x (by have := lt_l x hx; omega), ?_⟩
   refine d_runT rfl <| d_pq (.bool (decide ((fgCmp x34 x14) ≥ 0))) <| d_runT rfl <| d_pq (.bool (decide ((fgCmp x34 x14) ≥ 0))) ?_
   refine d_splitT rfl (fun c40 => ?_) (fun c40 => ?_)
   ·
    refine d_passT rfl <| d_passT rfl <| d_passT rfl <| d_passT rfl <| d_passT rfl <| d_passT rfl <| d_passT rfl <| d_passO rfl <| d_passT rfl <| d_passT rfl <| d_splitU rfl <| d_passTU rfl <| d_passTU rfl <| d_passTU rfl <| d_passTU rfl <| d_passTU rfl <| d_passTU rfl <| d_passTU rfl <| d_passOU rfl <| d_passTU rfl <| d_passT rfl <| d_runT rfl <| d_pq (.bool true) <| d_runT rfl <| d_pq (.bool true) <| d_pq (.bool true) <| d_done <| p_seqN <| v_condY rfl rfl <| v_seq <| v_ops <| s_pq (.bool false) ?_
    refine s_nil <| p_seqN <| v_ret <| p_blkR <| p_seqR <| p_lpR <| p_blkR <| p_seqR <| p_ret [.bool false] (.bool false) (fun _ q => q) rfl ?_
    have ho : (decide (FogsOk n.links.length l)) = false := by first | exact fogs_long (by omega) | exact fogs_bad (by assumption : l[k]? = some x14) (fun hp => absurd hp.1 (by assumption)) | exact fogs_bad (by assumption : l[k]? = some x14) (fun hp => by (have h1 := hp.2 (by omega) _ (by assumption : l[k - 1]? = some x34)); (have h3 := (hall (k - 1) _ (by omega) (by assumption : l[k - 1]? = some x34)).1); first | omega | ((have h2 := fgCmp_lt (a := x34) (b := x14)); omega)) | exact fogs_end hall (by assumption) (by simp; omega)
    exact ⟨by first | (rw [ho]; done) | rfl, E37⟩
   refine d_runT rfl <| d_pq v_l <| d_runT rfl <| d_pq (.int .i64 (k : Int)) <| d_runT rfl <| d_pureT (.int .i64 ((k : Int) - 1)) (fun _ q => ArithVC.mk (by omega) q) <| d_runT rfl ?_
   have f41 := (f32.ext eh36)
   refine d_pureT (.pointer (some ⟨sblk v_l, soff v_l + (k - 1) * 3, none⟩)) (fun _ q => f41.idx (k := (k - 1)) (by omega) hk33 q) <| d_runT rfl <| d_pq (.pointer (some ⟨sblk v_l, soff v_l + (k - 1) * 3, none⟩)) <| d_runT rfl <| d_pq (.pointer (some ⟨b15, 0, none⟩)) <| d_runT rfl <| d_loadT (.int .i64 x34.link) (fun _ q => f22.take (fun b hb => by first | exact hb | simp [hb]) hx34 (j := 0) rfl rfl q) <| d_runO rfl ?_
   have f42 := (f35.ext eh36)
   refine d_loadO (.int .i64 x14.link) (fun _ q => f42.load rfl q) <| d_runT rfl <| d_pq (.bool (x34.link == x14.link)) <| d_runT rfl <| d_pq (.bool (x34.link == x14.link)) ?_
   refine d_splitT rfl (fun c43 => ?_) (fun c43 => ?_)
   ·
    refine d_runT rfl <| d_pq v_l <| d_runT rfl <| d_pq (.int .i64 (k : Int)) <| d_runT rfl <| d_pureT (.int .i64 ((k : Int) - 1)) (fun _ q => ArithVC.mk (by omega) q) <| d_runT rfl <| d_pureT (.pointer (some ⟨sblk v_l, soff v_l + (k - 1) * 3, none⟩)) (fun _ q => f41.idx (k := (k - 1)) (by omega) hk33 q) <| d_runT rfl <| d_pq (.pointer (some ⟨sblk v_l, soff v_l + (k - 1) * 3 + 2, none⟩)) <| d_runT rfl <| d_pq (.pointer (some ⟨b15, 1, none⟩)) <| d_runT rfl <| d_loadT (.int .i64 x34.til) (fun _ q => f22.take (fun b hb => by first | exact hb | simp [hb]) hx34 (j := 2) rfl rfl q) ?_
    refine d_runO rfl <| d_loadO (.int .i64 x14.fr) (fun _ q => f42.load rfl q) <| d_runT rfl <| d_pq (.bool (decide (x34.til ≥ x14.fr))) <| d_runT rfl <| d_pq (.bool (decide (x34.til ≥ x14.fr))) <| d_runT rfl <| d_pq (.bool (decide (x34.til ≥ x14.fr))) <| d_runT rfl <| d_pq (.bool (decide (x34.til ≥ x14.fr))) <| d_pq (.bool (decide (x34.til ≥ x14.fr))) <| d_done <| p_seqN ?_
    refine v_cond rfl (fun c44 => ?_) (fun c44 => ?_)
    ·
     refine v_seq <| v_ops <| s_pq (.bool false) <| s_nil <| p_seqN <| v_ret <| p_blkR <| p_seqR <| p_lpR <| p_blkR <| p_seqR <| p_ret [.bool false] (.bool false) (fun _ q => q) rfl ?_
     have ho : (decide (FogsOk n.links.length l)) = false := by first | exact fogs_long (by omega) | exact fogs_bad (by assumption : l[k]? = some x14) (fun hp => absurd hp.1 (by assumption)) | exact fogs_bad (by assumption : l[k]? = some x14) (fun hp => by (have h1 := hp.2 (by omega) _ (by assumption : l[k - 1]? = some x34)); (have h3 := (hall (k - 1) _ (by omega) (by assumption : l[k - 1]? = some x34)).1); first | omega | ((have h2 := fgCmp_lt (a := x34) (b := x14)); omega)) | exact fogs_end hall (by assumption) (by simp; omega)
     exact ⟨by first | (rw [ho]; done) | rfl, E37⟩
    refine v_skip <| p_blkN <| p_seqN <| v_ops <| s_pure (.int .i64 ((k : Int) + 1)) (fun _ q => ArithVC.mk (by omega) q) <| s_pq (.int .i64 ((k : Int) + 1)) <| s_nil ?_
    have f45 := ((f23.ext eh26).ext eh36)
    exact p_lpN ⟨k + 1, ⟨rfl, rfl, rfl, rfl, rfl⟩, ⟨E37, f45, (by exact ⟨by omega, fogs_snoc hall (by assumption : l[k]? = some x14) (by assumption) (fun h0 y hy => by first | omega | ((have e := Option.some.inj ((by assumption : l[k - 1]? = some x34).symm.trans hy)); subst e; first | omega | ((have h1 := fgCmp_lt.1 (by omega : fgCmp x34 x14 < 0)); omega)))⟩)⟩, by omega⟩
   refine d_passT rfl <| d_passT rfl <| d_passT rfl <| d_passT rfl <| d_passT rfl <| d_passT rfl <| d_passT rfl <| d_passO rfl <| d_passT rfl <| d_runT rfl <| d_pq (.bool false) <| d_runT rfl <| d_pq (.bool false) <| d_runT rfl <| d_pq (.bool false) <| d_pq (.bool false) <| d_done <| p_seqN <| v_condN rfl (by simp) <| v_skip <| p_blkN <| p_seqN <| v_ops <| s_pure (.int .i64 ((k : Int) + 1)) (fun _ q => ArithVC.mk (by omega) q) <| s_pq (.int .i64 ((k : Int) + 1)) <| s_nil ?_
   have f46 := ((f23.ext eh26).ext eh36)
   exact p_lpN ⟨k + 1, ⟨rfl, rfl, rfl, rfl, rfl⟩, ⟨E37, f46, (by exact ⟨by omega, fogs_snoc hall (by assumption : l[k]? = some x14) (by assumption) (fun h0 y hy => by first | omega | ((have e := Option.some.inj ((by assumption : l[k - 1]? = some x34).symm.trans hy)); subst e; first | omega | ((have h1 := fgCmp_lt.1 (by omega : fgCmp x34 x14 < 0)); omega)))⟩)⟩, by omega⟩
  refine d_passT rfl <| d_passT rfl <| d_passT rfl <| d_passT rfl <| d_passT rfl <| d_passO rfl <| d_passO rfl <| d_passT rfl <| d_passT rfl <| d_splitU rfl <| d_passTU rfl <| d_passTU rfl <| d_passTU rfl <| d_passTU rfl <| d_passTU rfl <| d_passTU rfl <| d_passTU rfl <| d_passOU rfl <| d_passTU rfl <| d_passTU rfl <| d_splitU rfl <| d_passTU rfl <| d_passTU rfl <| d_passTU rfl <| d_passTU rfl <| d_passTU rfl <| d_passTU rfl <| d_passTU rfl <| d_passOU rfl <| d_passTU rfl <| d_passTU rfl <| d_passT rfl ?_
  refine d_runT rfl <| d_pq (.bool false) <| d_pq (.bool false) <| d_done <| p_seqN <| v_condN rfl (by simp) <| v_skip <| p_blkN <| p_seqN <| v_ops <| s_pure (.int .i64 ((k : Int) + 1)) (fun _ q => ArithVC.mk (by omega) q) <| s_pq (.int .i64 ((k : Int) + 1)) <| s_nil ?_
  have f47 := (f23.ext eh26)
  exact p_lpN ⟨k + 1, ⟨rfl, rfl, rfl, rfl, rfl⟩, ⟨E27, f47, (by exact ⟨by omega, fogs_snoc hall (by assumption : l[k]? = some x14) (by assumption) (fun h0 y hy => by first | omega | ((have e := Option.some.inj ((by assumption : l[k - 1]? = some x14).symm.trans hy)); subst e; first | omega | ((have h1 := fgCmp_lt.1 (by omega : fgCmp x14 x14 < 0)); omega)))⟩)⟩, by omega⟩
 refine v_exit <| p_seqX <| p_lpX <| p_blkX <| p_seqN <| v_seq <| v_ops <| s_pq (.bool true) <| s_nil <| p_seqN <| v_ret <| p_ret [.bool true] (.bool true) (fun _ q => q) rfl ?_
 have ho : (decide (FogsOk n.links.length l)) = true := by first | exact fogs_long (by omega) | exact fogs_bad (by assumption : l[k]? = some xo__) (fun hp => absurd hp.1 (by assumption)) | exact fogs_bad (by assumption : l[k]? = some xo__) (fun hp => by (have h1 := hp.2 (by omega) _ (by assumption : l[k - 1]? = some x__)); (have h3 := (hall (k - 1) _ (by omega) (by assumption : l[k - 1]? = some x__)).1); first | omega | ((have h2 := fgCmp_lt (a := x__) (b := xo__)); omega)) | exact fogs_end hall (by assumption) (by simp; omega)
 exact ⟨by first | (rw [ho]; done) | rfl, Eh⟩

set_option maxRecDepth 10000 in
set_option maxHeartbeats 4000000 in
theorem spec_fgGood_ok (n : NetP) (v_n_towers : Value) (v_n_links : Value) (v_l : Value) (l : List FogD) (h : Heap) (s_n_towers : Sl h v_n_towers n.towers) (s_n_links : Sl h v_n_links n.links) (s_l : Sl h v_l l) : Cn f_spec_fgGood [.agg #[v_n_towers, v_n_links], v_l] h fun v h' => v = .bool (decide (FogsOk n.links.length l)) ∧ Ext h h' := by
 have lt_n_towers := s_n_towers.lt
 have l63_n_towers := s_n_towers.len63
 have lt_n_links := s_n_links.lt
 have l63_n_links := s_n_links.len63
 have lt_l := s_l.lt
 have l63_l := s_l.len63
 refine calls_of r_spec_fgGood ?_
 refine v_seq <| v_ops ?_
 refine s_box [v_n_towers, v_n_links] rfl (fun h2 b1 hbb1 hzb1 eh2 bxb1 => ?_)
 have E3 := (Ext.refl h).trans eh2
 have z4 := eh2.size
 have lbb1 := bxb1.lt
 refine s_pq (.bool false) <| s_nil <| p_seqN <| v_seq <| v_seq <| v_ops <| s_pq v_l <| s_pure (.int .i64 (l.length : Int)) (fun _ q => s_l.lenVC q) <| s_pq (.int .i64 0) <| s_nil <| p_seqN <| v_block <| v_loop1 (α := Nat) (fun k => [(1, v_l), (2, .pointer (some ⟨b1, 0, none⟩)), (7, v_l), (8, .int .i64 (l.length : Int)), (9, .int .i64 (k : Int))]) (fun k hh => Ext h hh ∧ Bx hh b1 [v_n_towers, v_n_links] 26 ∧ k ≤ l.length ∧ FogsTo n.links.length l k) (fun k => l.length - k) 0 ⟨rfl, rfl, rfl, rfl, rfl⟩ ⟨E3, bxb1, (by exact ⟨by omega, fun i x hi => by omega⟩)⟩ ?_
 rintro k R6 h5 ⟨Eh, bxb1, ⟨hk, hall⟩⟩
 have zEh := Eh.size
 have f8 := s_n_towers.ext Eh
 have f9 := s_n_links.ext Eh
 have f10 := s_l.ext Eh
 have lbb1 := bxb1.lt
 refine v_seq <| v_ops <| s_pq (.bool (decide ((k : Int) < (l.length : Int)))) <| s_nil <| p_seqN <| v_seq ?_
 refine v_cond rfl (fun c11 => ?_) (fun c11 => ?_)
 ·
  refine v_skip <| p_seqN <| v_seq <| v_block <| v_seq <| v_ops <| s_pq (.int .i64 (k : Int)) ?_
  have hk12 : k < l.length := (by first | omega | (simp; omega))
  obtain ⟨x13, hx13⟩ : ∃ x, l[k]? = some x := ⟨_, List.getElem?_eq_getElem hk12⟩
  refine s_pure (.pointer (some ⟨sblk v_l, soff v_l + k * 3, none⟩)) (fun _ q => f10.idx (k := k) rfl hk12 q) <| s_load (.agg #[.int .i64 x13.link, .int .i64 x13.fr, .int .i64 x13.til]) (fun _ q => f10.loadN hx13 rfl q) ?_
  refine s_new (fun h15 b14 hbb14 hzb14 eh15 bxb14 => ?_)
  have E16 := Eh.trans eh15
  have z17 := eh15.size
  have lbb14 := bxb14.lt
  refine s_pq (.int .i64 (k : Int)) ?_
  refine s_stBx (.agg #[.int .i64 x13.link, .int .i64 x13.fr, .int .i64 x13.til]) [.int .i64 x13.link, .int .i64 x13.fr, .int .i64 x13.til] [.int .i64 x13.link, .int .i64 x13.fr, .int .i64 x13.til] bxb14 rfl rfl rfl rfl (by simp) (all_cons rfl (all_cons rfl (all_cons rfl all_nil))) rfl (fun h18 mh18 sh18 bxx19 => ?_)
  have E20 := E16.mod mh18 (fun b hb => by simp at hb; omega)
  refine s_nil <| p_seqN <| v_seq <| v_seq <| v_ops ?_
  have f21 := ((bxb1.ext eh15).mod mh18 (by simp; omega))
  refine s_load (.agg #[v_n_towers, v_n_links]) (fun _ q => f21.loadA rfl q) <| s_load (.agg #[.int .i64 x13.link, .int .i64 x13.fr, .int .i64 x13.til]) (fun _ q => bxx19.loadA rfl q) ?_
  have f22 := ((f8.ext eh15).mod mh18 (fun b hb hc => by simp at hc; have := lt_n_towers b hb; omega))
  have f23 := ((f9.ext eh15).mod mh18 (fun b hb hc => by simp at hc; have := lt_n_links b hb; omega))
  refine s_call [.agg #[v_n_towers, v_n_links], .agg #[.int .i64 x13.link, .int .i64 x13.fr, .int .i64 x13.til]] rfl (spec_fgFog_ok n v_n_towers v_n_links x13 _ f22 f23) ?_
  rintro _ h24 ⟨rfl, eh24⟩
  have E25 := E20.trans eh24
  have z26 := eh24.size
  refine s_pq (.bool (!(decide (FogOk n.links.length x13)))) <| s_nil <| p_seqN ?_
  refine v_cond rfl (fun c27 => ?_) (fun c27 => ?_)
  ·
   refine v_seq <| v_ops <| s_pq (.bool false) <| s_nil <| p_seqN <| v_ret <| p_seqR <| p_blkR <| p_seqR <| p_lpR <| p_blkR <| p_seqR <| p_ret [.bool false] (.bool false) (fun _ q => q) rfl ?_
   have ho : (decide (FogsOk n.links.length l)) = false := by first | exact fogs_long (by omega) | exact fogs_bad (by assumption : l[k]? = some x13) (fun hp => absurd hp.1 (by assumption)) | exact fogs_bad (by assumption : l[k]? = some x13) (fun hp => by (have h1 := hp.2 (by omega) _ (by assumption : l[k - 1]? = some x13)); (have h3 := (hall (k - 1) _ (by omega) (by assumption : l[k - 1]? = some x13)).1); first | omega | ((have h2 := fgCmp_lt (a := x13) (b := x13)); omega)) | exact fogs_end hall (by assumption) (by simp; omega)
   exact ⟨by first | (rw [ho]; done) | rfl, E25⟩
  have c27 := Classical.not_not.1 c27
  refine v_skip <| p_seqN <| v_seq <| v_ops <| s_pq (.int .i64 (k : Int)) <| s_pq (.bool (decide ((k : Int) > 0))) <| s_pq (.bool (decide ((k : Int) > 0))) ?_
  refine s_splitT rfl (fun c28 => ?_) (fun c28 => ?_)
  ·
   refine s_run rfl <| s_pq v_l <| s_run rfl <| s_pq (.int .i64 (k : Int)) <| s_run rfl <| s_pure (.int .i64 ((k : Int) - 1)) (fun _ q => ArithVC.mk (by omega) q) <| s_run rfl ?_
   have f29 := (((f10.ext eh15).mod mh18 (fun b hb hc => by simp at hc; have := lt_l b hb; omega)).ext eh24)
   have hk30 : (k - 1) < l.length := (by first | omega | (simp; omega))
   obtain ⟨x31, hx31⟩ : ∃ x, l[(k - 1)]? = some x := ⟨_, List.getElem?_eq_getElem hk30⟩
   refine s_pure (.pointer (some ⟨sblk v_l, soff v_l + (k - 1) * 3, none⟩)) (fun _ q => f29.idx (k := (k - 1)) (by omega) hk30 q) <| s_run rfl <| s_pq (.pointer (some ⟨sblk v_l, soff v_l + (k - 1) * 3, none⟩)) <| s_run rfl <| s_pq (.pointer (some ⟨b14, 0, none⟩)) <| s_run rfl <| s_load (.int .i64 x31.link) (fun _ q => f29.load hx31 (j := 0) rfl rfl q) <| s_run rfl ?_
   have f32 := (bxx19.ext eh24)
   refine s_load (.int .i64 x13.link) (fun _ q => f32.load rfl q) <| s_run rfl <| s_pq (.bool (decide (x31.link > x13.link))) <| s_run rfl <| s_pq (.bool (decide (x31.link > x13.link))) ?_
   refine s_splitT rfl (fun c33 => ?_) (fun c33 => ?_)
   ·
    refine s_pass rfl <| s_pass rfl <| s_pass rfl <| s_pass rfl <| s_pass rfl <| s_pass rfl <| s_pass rfl <| s_pass rfl <| s_pass rfl <| s_pass rfl <| s_splitU rfl <| s_passU rfl <| s_passU rfl <| s_passU rfl <| s_passU rfl <| s_passU rfl <| s_passU rfl <| s_passU rfl <| s_passU rfl <| s_passU rfl <| s_pass rfl <| s_run rfl <| s_pq (.bool true) <| s_pq (.bool true) <| s_nil <| p_seqN <| v_condY rfl rfl <| v_seq <| v_ops <| s_pq (.bool false) <| s_nil <| p_seqN <| v_ret <| p_blkR <| p_seqR <| p_lpR ?_
    refine p_blkR <| p_seqR <| p_ret [.bool false] (.bool false) (fun _ q => q) rfl ?_
    have ho : (decide (FogsOk n.links.length l)) = false := by first | exact fogs_long (by omega) | exact fogs_bad (by assumption : l[k]? = some x13) (fun hp => absurd hp.1 (by assumption)) | exact fogs_bad (by assumption : l[k]? = some x13) (fun hp => by (have h1 := hp.2 (by omega) _ (by assumption : l[k - 1]? = some x31)); (have h3 := (hall (k - 1) _ (by omega) (by assumption : l[k - 1]? = some x31)).1); first | omega | ((have h2 := fgCmp_lt (a := x31) (b := x13)); omega)) | exact fogs_end hall (by assumption) (by simp; omega)
    exact ⟨by first | (rw [ho]; done) | rfl, E25⟩
   refine s_run rfl <| s_pq v_l <| s_run rfl <| s_pq (.int .i64 (k : Int)) <| s_run rfl <| s_pure (.int .i64 ((k : Int) - 1)) (fun _ q => ArithVC.mk (by omega) q) <| s_run rfl <| s_pure (.pointer (some ⟨sblk v_l, soff v_l + (k - 1) * 3, none⟩)) (fun _ q => f29.idx (k := (k - 1)) (by omega) hk30 q) <| s_run rfl <| s_pq (.pointer (some ⟨sblk v_l, soff v_l + (k - 1) * 3, none⟩)) <| s_run rfl <| s_pq (.pointer (some ⟨b14, 0, none⟩)) <| s_run rfl <| s_load (.int .i64 x31.link) (fun _ q => f29.load hx31 (j := 0) rfl rfl q) ?_
   refine s_run rfl <| s_load (.int .i64 x13.link) (fun _ q => f32.load rfl q) <| s_run rfl <| s_pq (.bool (x31.link == x13.link)) <| s_run rfl <| s_pq (.bool (x31.link == x13.link)) ?_
   refine s_splitT rfl (fun c34 => ?_) (fun c34 => ?_)
   ·
    refine s_run rfl <| s_pq v_l <| s_run rfl <| s_pq (.int .i64 (k : Int)) <| s_run rfl <| s_pure (.int .i64 ((k : Int) - 1)) (fun _ q => ArithVC.mk (by omega) q) <| s_run rfl <| s_pure (.pointer (some ⟨sblk v_l, soff v_l + (k - 1) * 3, none⟩)) (fun _ q => f29.idx (k := (k - 1)) (by omega) hk30 q) <| s_run rfl <| s_pq (.pointer (some ⟨sblk v_l, soff v_l + (k - 1) * 3 + 2, none⟩)) <| s_run rfl <| s_pq (.pointer (some ⟨b14, 1, none⟩)) <| s_run rfl <| s_load (.int .i64 x31.til) (fun _ q => f29.load hx31 (j := 2) rfl rfl q) ?_
    refine s_run rfl <| s_load (.int .i64 x13.fr) (fun _ q => f32.load rfl q) <| s_run rfl <| s_pq (.bool (decide (x31.til ≥ x13.fr))) <| s_run rfl <| s_pq (.bool (decide (x31.til ≥ x13.fr))) <| s_run rfl <| s_pq (.bool (decide (x31.til ≥ x13.fr))) <| s_pq (.bool (decide (x31.til ≥ x13.fr))) <| s_nil <| p_seqN ?_
    refine v_cond rfl (fun c35 => ?_) (fun c35 => ?_)
    ·
     refine v_seq <| v_ops <| s_pq (.bool false) <| s_nil <| p_seqN <| v_ret <| p_blkR <| p_seqR <| p_lpR <| p_blkR <| p_seqR <| p_ret [.bool false] (.bool false) (fun _ q => q) rfl ?_
     have ho : (decide (FogsOk n.links.length l)) = false := by first | exact fogs_long (by omega) | exact fogs_bad (by assumption : l[k]? = some x13) (fun hp => absurd hp.1 (by assumption)) | exact fogs_bad (by assumption : l[k]? = some x13) (fun hp => by (have h1 := hp.2 (by omega) _ (by assumption : l[k - 1]? = some x31)); (have h3 := (hall (k - 1) _ (by omega) (by assumption : l[k - 1]? = some x31)).1); first | omega | ((have h2 := fgCmp_lt (a := x31) (b := x13)); omega)) | exact fogs_end hall (by assumption) (by simp; omega)
     exact ⟨by first | (rw [ho]; done) | rfl, E25⟩
    refine v_skip <| p_blkN <| p_seqN <| v_ops <| s_pure (.int .i64 ((k : Int) + 1)) (fun _ q => ArithVC.mk (by omega) q) <| s_pq (.int .i64 ((k : Int) + 1)) <| s_nil ?_
    have f36 := (f21.ext eh24)
    exact p_lpN ⟨k + 1, ⟨rfl, rfl, rfl, rfl, rfl⟩, ⟨E25, f36, (by exact ⟨by omega, fogs_snoc hall (by assumption : l[k]? = some x13) (by assumption) (fun h0 y hy => by first | omega | ((have e := Option.some.inj ((by assumption : l[k - 1]? = some x31).symm.trans hy)); subst e; first | omega | ((have h1 := fgCmp_lt.1 (by omega : fgCmp x31 x13 < 0)); omega)))⟩)⟩, by omega⟩
   refine s_pass rfl <| s_pass rfl <| s_pass rfl <| s_pass rfl <| s_pass rfl <| s_pass rfl <| s_pass rfl <| s_pass rfl <| s_pass rfl <| s_run rfl <| s_pq (.bool false) <| s_run rfl <| s_pq (.bool false) <| s_pq (.bool false) <| s_nil <| p_seqN <| v_condN rfl (by simp) <| v_skip <| p_blkN <| p_seqN <| v_ops <| s_pure (.int .i64 ((k : Int) + 1)) (fun _ q => ArithVC.mk (by omega) q) <| s_pq (.int .i64 ((k : Int) + 1)) <| s_nil ?_
   have f37 := (f21.ext eh24)
   exact p_lpN ⟨k + 1, ⟨rfl, rfl, rfl, rfl, rfl⟩, ⟨E25, f37, (by exact ⟨by omega, fogs_snoc hall (by assumption : l[k]? = some x13) (by assumption) (fun h0 y hy => by first | omega | ((have e := Option.some.inj ((by assumption : l[k - 1]? = some x31).symm.trans hy)); subst e; first | omega | ((have h1 := fgCmp_lt.1 (by omega : fgCmp x31 x13 < 0)); omega)))⟩)⟩, by omega⟩
  refine s_pass rfl <| s_pass rfl <| s_pass rfl <| s_pass rfl <| s_pass rfl <| s_pass rfl <| s_pass rfl <| s_pass rfl <| s_pass rfl <| s_pass rfl <| s_splitU rfl <| s_passU rfl <| s_passU rfl <| s_passU rfl <| s_passU rfl <| s_passU rfl <| s_passU rfl <| s_passU rfl <| s_passU rfl <| s_passU rfl <| s_passU rfl <| s_splitU rfl <| s_passU rfl <| s_passU rfl <| s_passU rfl <| s_passU rfl <| s_passU rfl <| s_passU rfl <| s_passU rfl <| s_passU rfl <| s_passU rfl <| s_passU rfl <| s_pass rfl <| s_pq (.bool false) ?_
  refine s_nil <| p_seqN <| v_condN rfl (by simp) <| v_skip <| p_blkN <| p_seqN <| v_ops <| s_pure (.int .i64 ((k : Int) + 1)) (fun _ q => ArithVC.mk (by omega) q) <| s_pq (.int .i64 ((k : Int) + 1)) <| s_nil ?_
  have f38 := (f21.ext eh24)
  exact p_lpN ⟨k + 1, ⟨rfl, rfl, rfl, rfl, rfl⟩, ⟨E25, f38, (by exact ⟨by omega, fogs_snoc hall (by assumption : l[k]? = some x13) (by assumption) (fun h0 y hy => by first | omega | ((have e := Option.some.inj ((by assumption : l[k - 1]? = some x13).symm.trans hy)); subst e; first | omega | ((have h1 := fgCmp_lt.1 (by omega : fgCmp x13 x13 < 0)); omega)))⟩)⟩, by omega⟩
 refine v_exit <| p_seqX <| p_lpX <| p_blkX <| p_seqN <| v_seq <| v_ops <| s_pq v_l <| s_pure (.int .i64 (l.length : Int)) (fun _ q => f10.lenVC q) <| s_pq (.bool (decide ((l.length : Int) ≤ 60))) <| s_pq (.bool (decide ((l.length : Int) ≤ 60))) <| s_nil <| p_seqN <| v_ret <| p_ret [.bool (decide ((l.length : Int) ≤ 60))] (.bool (decide ((l.length : Int) ≤ 60))) (fun _ q => q) rfl ?_
 have ho : (decide (FogsOk n.links.length l)) = (decide ((l.length : Int) ≤ 60)) := by first | exact fogs_long (by omega) | exact fogs_bad (by assumption : l[k]? = some xo__) (fun hp => absurd hp.1 (by assumption)) | exact fogs_bad (by assumption : l[k]? = some xo__) (fun hp => by (have h1 := hp.2 (by omega) _ (by assumption : l[k - 1]? = some x__)); (have h3 := (hall (k - 1) _ (by omega) (by assumption : l[k - 1]? = some x__)).1); first | omega | ((have h2 := fgCmp_lt (a := x__) (b := xo__)); omega)) | exact fogs_end hall (by assumption) (by simp; omega)
 exact ⟨by first | (rw [ho]; done) | rfl, Eh⟩

theorem spec_fgTime_ok (t : Int) (h : Heap)  : Cn f_spec_fgTime [.int .i64 t] h fun v h' => v = .bool (decide (0 ≤ t ∧ t ≤ 10000)) ∧ h' = h := by
 refine calls_of r_spec_fgTime ?_
 refine v_seq <| v_ops <| s_pq (.bool false) <| s_nil <| p_seqN <| v_seq <| v_ops <| s_pq (.int .i64 t) <| s_callS [.int .i64 t, .int .i64 0, .int .i64 10000] (.bool (decide (0 ≤ t ∧ t ≤ 10000))) rfl (l1In_ok t 0 10000 _ ) <| s_pq (.bool (decide (0 ≤ t ∧ t ≤ 10000))) <| s_nil <| p_seqN <| v_ret <| p_ret [.bool (decide (0 ≤ t ∧ t ≤ 10000))] (.bool (decide (0 ≤ t ∧ t ≤ 10000))) (fun _ q => q) rfl ?_
 have ho : (decide (0 ≤ t ∧ t ≤ 10000)) = (decide (0 ≤ t ∧ t ≤ 10000)) := by simp
 exact ⟨by first | (rw [ho]; done) | rfl, rfl⟩

set_option maxRecDepth 10000 in
set_option maxHeartbeats 4000000 in
theorem impl_startAfter_ok (v_l : Value) (l : List FogD) (link : Int) (t : Int) (seconds : Int) (h : Heap) (s_l : Sl h v_l l) (m : Nat) (hf : FogsOk m l) (ht : 0 ≤ t ∧ t ≤ 1000000) (hs : 0 ≤ seconds ∧ seconds ≤ 1000) : Cn f_impl_startAfter [v_l, .int .i64 link, .int .i64 t, .int .i64 seconds] h fun v h' => v = .int .i64 (stF l link t seconds) ∧ Ext h h' := by
 have l63_l := s_l.len63
 refine calls_of r_impl_startAfter ?_
 refine v_seq <| v_ops <| s_pq (.int .i64 0) <| s_nil <| p_seqN <| v_seq <| v_seq <| v_ops <| s_pq v_l <| s_pure (.int .i64 (l.length : Int)) (fun _ q => s_l.lenVC q) <| s_pq (.int .i64 0) <| s_nil <| p_seqN <| v_block <| v_loop2 (α := Nat) (β := Int) (fun k u => [(1, .int .i64 link), (2, .int .i64 u), (3, .int .i64 seconds), (11, v_l), (12, .int .i64 (l.length : Int)), (13, .int .i64 (k : Int))]) (fun k u hh => Ext h hh ∧ k ≤ l.length ∧ u = stF (l.take k) link t seconds) (fun k u => l.length - k) 0 t ⟨rfl, rfl, rfl, rfl, rfl, rfl⟩ ⟨(Ext.refl h), (by simp [stF])⟩ ?_
 rintro k u R2 h1 ⟨Eh, ⟨hk, hu⟩⟩
 have zEh := Eh.size
 have f4 := s_l.ext Eh
 have hb := stF_bd hf link t seconds k
 rw [← hu] at hb
 refine v_seq <| v_ops <| s_pq (.bool (decide ((k : Int) < (l.length : Int)))) <| s_nil <| p_seqN <| v_seq ?_
 refine v_cond rfl (fun c5 => ?_) (fun c5 => ?_)
 ·
  refine v_skip <| p_seqN <| v_seq <| v_block <| v_seq <| v_ops ?_
  have hk6 : k < l.length := (by first | omega | (simp; omega))
  obtain ⟨x7, hx7⟩ : ∃ x, l[k]? = some x := ⟨_, List.getElem?_eq_getElem hk6⟩
  refine s_pure (.pointer (some ⟨sblk v_l, soff v_l + k * 3, none⟩)) (fun _ q => f4.idx (k := k) rfl hk6 q) <| s_load (.agg #[.int .i64 x7.link, .int .i64 x7.fr, .int .i64 x7.til]) (fun _ q => f4.loadN hx7 rfl q) ?_
  refine s_new (fun h9 b8 hbb8 hzb8 eh9 bxb8 => ?_)
  have E10 := Eh.trans eh9
  have z11 := eh9.size
  have lbb8 := bxb8.lt
  refine s_stBx (.agg #[.int .i64 x7.link, .int .i64 x7.fr, .int .i64 x7.til]) [.int .i64 x7.link, .int .i64 x7.fr, .int .i64 x7.til] [.int .i64 x7.link, .int .i64 x7.fr, .int .i64 x7.til] bxb8 rfl rfl rfl rfl (by simp) (all_cons rfl (all_cons rfl (all_cons rfl all_nil))) rfl (fun h12 mh12 sh12 bxx13 => ?_)
  have E14 := E10.mod mh12 (fun b hb => by simp at hb; omega)
  refine s_nil <| p_seqN <| v_seq <| v_ops <| s_pq (.pointer (some ⟨b8, 0, none⟩)) <| s_load (.int .i64 x7.link) (fun _ q => bxx13.load rfl q) <| s_pq (.int .i64 link) <| s_pq (.bool (x7.link == link)) <| s_pq (.bool (x7.link == link)) ?_
  refine s_splitT rfl (fun c15 => ?_) (fun c15 => ?_)
  ·
   refine s_run rfl <| s_pq (.pointer (some ⟨b8, 2, none⟩)) <| s_run rfl <| s_load (.int .i64 x7.til) (fun _ q => bxx13.load rfl q) <| s_run rfl <| s_pq (.int .i64 u) <| s_run rfl <| s_pq (.bool (decide (x7.til > u))) <| s_pq (.bool (decide (x7.til > u))) <| s_pq (.bool (decide (x7.til > u))) ?_
   refine s_splitT rfl (fun c16 => ?_) (fun c16 => ?_)
   ·
    refine s_run rfl <| s_pq (.pointer (some ⟨b8, 1, none⟩)) <| s_run rfl <| s_load (.int .i64 x7.fr) (fun _ q => bxx13.load rfl q) <| s_run rfl <| s_pq (.int .i64 u) <| s_run rfl <| s_pq (.int .i64 seconds) <| s_run rfl <| s_pure (.int .i64 (u + seconds)) (fun _ q => ArithVC.mk (by omega) q) <| s_run rfl <| s_pq (.bool (decide (x7.fr < (u + seconds)))) <| s_pq (.bool (decide (x7.fr < (u + seconds)))) <| s_nil <| p_seqN ?_
    refine v_cond rfl (fun c17 => ?_) (fun c17 => ?_)
    ·
     refine v_ops <| s_pq (.pointer (some ⟨b8, 2, none⟩)) <| s_load (.int .i64 x7.til) (fun _ q => bxx13.load rfl q) <| s_pq (.int .i64 x7.til) <| s_nil <| p_blkN <| p_seqN <| v_ops <| s_pure (.int .i64 ((k : Int) + 1)) (fun _ q => ArithVC.mk (by omega) q) <| s_pq (.int .i64 ((k : Int) + 1)) <| s_nil ?_
     exact p_lpN ⟨k + 1, x7.til, ⟨rfl, rfl, rfl, rfl, rfl, rfl⟩, ⟨E14, (by exact ⟨by omega, by rw [snoc_get (by assumption), stF_snoc, ← hu]; first | rw [if_pos (by omega)] | rw [if_neg (by omega)]⟩)⟩, by omega⟩
    refine v_skip <| p_blkN <| p_seqN <| v_ops <| s_pure (.int .i64 ((k : Int) + 1)) (fun _ q => ArithVC.mk (by omega) q) <| s_pq (.int .i64 ((k : Int) + 1)) <| s_nil ?_
    exact p_lpN ⟨k + 1, u, ⟨rfl, rfl, rfl, rfl, rfl, rfl⟩, ⟨E14, (by exact ⟨by omega, by rw [snoc_get (by assumption), stF_snoc, ← hu]; first | rw [if_pos (by omega)] | rw [if_neg (by omega)]⟩)⟩, by omega⟩
   refine s_pass rfl <| s_pass rfl <| s_pass rfl <| s_pass rfl <| s_pass rfl <| s_pass rfl <| s_pq (.bool false) <| s_nil <| p_seqN <| v_condN rfl (by simp) <| v_skip <| p_blkN <| p_seqN <| v_ops <| s_pure (.int .i64 ((k : Int) + 1)) (fun _ q => ArithVC.mk (by omega) q) <| s_pq (.int .i64 ((k : Int) + 1)) <| s_nil ?_
   exact p_lpN ⟨k + 1, u, ⟨rfl, rfl, rfl, rfl, rfl, rfl⟩, ⟨E14, (by exact ⟨by omega, by rw [snoc_get (by assumption), stF_snoc, ← hu]; first | rw [if_pos (by omega)] | rw [if_neg (by omega)]⟩)⟩, by omega⟩
  refine s_pass rfl <| s_pass rfl <| s_pass rfl <| s_pass rfl <| s_pq (.bool false) <| s_pq (.bool false) <| s_splitN rfl (by simp) <| s_pass rfl <| s_pass rfl <| s_pass rfl <| s_pass rfl <| s_pass rfl <| s_pass rfl <| s_pq (.bool false) <| s_nil <| p_seqN <| v_condN rfl (by simp) <| v_skip <| p_blkN <| p_seqN <| v_ops <| s_pure (.int .i64 ((k : Int) + 1)) (fun _ q => ArithVC.mk (by omega) q) <| s_pq (.int .i64 ((k : Int) + 1)) <| s_nil ?_
  exact p_lpN ⟨k + 1, u, ⟨rfl, rfl, rfl, rfl, rfl, rfl⟩, ⟨E14, (by exact ⟨by omega, by rw [snoc_get (by assumption), stF_snoc, ← hu]; first | rw [if_pos (by omega)] | rw [if_neg (by omega)]⟩)⟩, by omega⟩
 refine v_exit <| p_seqX <| p_lpX <| p_blkX <| p_seqN <| v_seq <| v_ops <| s_pq (.int .i64 u) <| s_pq (.int .i64 u) <| s_nil <| p_seqN <| v_ret <| p_ret [.int .i64 u] (.int .i64 u) (fun _ q => q) rfl ?_
 have ho : (stF l link t seconds) = u := by rw [take_all (by assumption)] at hu; exact hu.symm
 exact ⟨by first | (rw [ho]; done) | rfl, Eh⟩

set_option maxRecDepth 10000 in
set_option maxHeartbeats 4000000 in
theorem spec_fgStart_ok (v_l : Value) (l : List FogD) (link : Int) (t : Int) (seconds : Int) (h : Heap) (s_l : Sl h v_l l) (m : Nat) (hf : FogsOk m l) (ht : 0 ≤ t ∧ t ≤ 1000000) (hs : 0 ≤ seconds ∧ seconds ≤ 1000) : Cn f_spec_fgStart [v_l, .int .i64 link, .int .i64 t, .int .i64 seconds] h fun v h' => v = .int .i64 (stF l link t seconds) ∧ Ext h h' := by
 have l63_l := s_l.len63
 refine calls_of r_spec_fgStart ?_
 refine v_seq <| v_ops <| s_pq (.int .i64 0) <| s_nil <| p_seqN <| v_seq <| v_seq <| v_ops <| s_pq v_l <| s_pure (.int .i64 (l.length : Int)) (fun _ q => s_l.lenVC q) <| s_pq (.int .i64 0) <| s_nil <| p_seqN <| v_block <| v_loop2 (α := Nat) (β := Int) (fun k u => [(1, .int .i64 link), (2, .int .i64 u), (3, .int .i64 seconds), (11, v_l), (12, .int .i64 (l.length : Int)), (13, .int .i64 (k : Int))]) (fun k u hh => Ext h hh ∧ k ≤ l.length ∧ u = stF (l.take k) link t seconds) (fun k u => l.length - k) 0 t ⟨rfl, rfl, rfl, rfl, rfl, rfl⟩ ⟨(Ext.refl h), (by simp [stF])⟩ ?_
 rintro k u R2 h1 ⟨Eh, ⟨hk, hu⟩⟩
 have zEh := Eh.size
 have f4 := s_l.ext Eh
 have hb := stF_bd hf link t seconds k
 rw [← hu] at hb
 refine v_seq <| v_ops <| s_pq (.bool (decide ((k : Int) < (l.length : Int)))) <| s_nil <| p_seqN <| v_seq ?_
 refine v_cond rfl (fun c5 => ?_) (fun c5 => ?_)
 ·
  refine v_skip <| p_seqN <| v_seq <| v_block <| v_seq <| v_ops ?_
  have hk6 : k < l.length := (by first | omega | (simp; omega))
  obtain ⟨x7, hx7⟩ : ∃ x, l[k]? = some x := ⟨_, List.getElem?_eq_getElem hk6⟩
  refine s_pure (.pointer (some ⟨sblk v_l, soff v_l + k * 3, none⟩)) (fun _ q => f4.idx (k := k) rfl hk6 q) <| s_load (.agg #[.int .i64 x7.link, .int .i64 x7.fr, .int .i64 x7.til]) (fun _ q => f4.loadN hx7 rfl q) ?_
  refine s_new (fun h9 b8 hbb8 hzb8 eh9 bxb8 => ?_)
  have E10 := Eh.trans eh9
  have z11 := eh9.size
  have lbb8 := bxb8.lt
  refine s_stBx (.agg #[.int .i64 x7.link, .int .i64 x7.fr, .int .i64 x7.til]) [.int .i64 x7.link, .int .i64 x7.fr, .int .i64 x7.til] [.int .i64 x7.link, .int .i64 x7.fr, .int .i64 x7.til] bxb8 rfl rfl rfl rfl (by simp) (all_cons rfl (all_cons rfl (all_cons rfl all_nil))) rfl (fun h12 mh12 sh12 bxx13 => ?_)
  have E14 := E10.mod mh12 (fun b hb => by simp at hb; omega)
  refine s_nil <| p_seqN <| v_seq <| v_ops <| s_pq (.pointer (some ⟨b8, 0, none⟩)) <| s_load (.int .i64 x7.link) (fun _ q => bxx13.load rfl q) <| s_pq (.int .i64 link) <| s_pq (.bool (x7.link == link)) <| s_pq (.bool (x7.link == link)) ?_
  refine s_splitT rfl (fun c15 => ?_) (fun c15 => ?_)
  ·
   refine s_run rfl <| s_pq (.int .i64 u) <| s_run rfl <| s_pq (.pointer (some ⟨b8, 2, none⟩)) <| s_run rfl <| s_load (.int .i64 x7.til) (fun _ q => bxx13.load rfl q) <| s_run rfl <| s_pq (.bool (decide (u < x7.til))) <| s_pq (.bool (decide (u < x7.til))) <| s_pq (.bool (decide (u < x7.til))) ?_
   refine s_splitT rfl (fun c16 => ?_) (fun c16 => ?_)
   ·
    refine s_run rfl <| s_pq (.int .i64 u) <| s_run rfl <| s_pq (.int .i64 seconds) <| s_run rfl <| s_pure (.int .i64 (u + seconds)) (fun _ q => ArithVC.mk (by omega) q) <| s_run rfl <| s_pq (.pointer (some ⟨b8, 1, none⟩)) <| s_run rfl <| s_load (.int .i64 x7.fr) (fun _ q => bxx13.load rfl q) <| s_run rfl <| s_pq (.bool (decide ((u + seconds) > x7.fr))) <| s_pq (.bool (decide ((u + seconds) > x7.fr))) <| s_nil <| p_seqN ?_
    refine v_cond rfl (fun c17 => ?_) (fun c17 => ?_)
    ·
     refine v_ops <| s_pq (.pointer (some ⟨b8, 2, none⟩)) <| s_load (.int .i64 x7.til) (fun _ q => bxx13.load rfl q) <| s_pq (.int .i64 x7.til) <| s_nil <| p_blkN <| p_seqN <| v_ops <| s_pure (.int .i64 ((k : Int) + 1)) (fun _ q => ArithVC.mk (by omega) q) <| s_pq (.int .i64 ((k : Int) + 1)) <| s_nil ?_
     exact p_lpN ⟨k + 1, x7.til, ⟨rfl, rfl, rfl, rfl, rfl, rfl⟩, ⟨E14, (by exact ⟨by omega, by rw [snoc_get (by assumption), stF_snoc, ← hu]; first | rw [if_pos (by omega)] | rw [if_neg (by omega)]⟩)⟩, by omega⟩
    refine v_skip <| p_blkN <| p_seqN <| v_ops <| s_pure (.int .i64 ((k : Int) + 1)) (fun _ q => ArithVC.mk (by omega) q) <| s_pq (.int .i64 ((k : Int) + 1)) <| s_nil ?_
    exact p_lpN ⟨k + 1, u, ⟨rfl, rfl, rfl, rfl, rfl, rfl⟩, ⟨E14, (by exact ⟨by omega, by rw [snoc_get (by assumption), stF_snoc, ← hu]; first | rw [if_pos (by omega)] | rw [if_neg (by omega)]⟩)⟩, by omega⟩
   refine s_pass rfl <| s_pass rfl <| s_pass rfl <| s_pass rfl <| s_pass rfl <| s_pass rfl <| s_pq (.bool false) <| s_nil <| p_seqN <| v_condN rfl (by simp) <| v_skip <| p_blkN <| p_seqN <| v_ops <| s_pure (.int .i64 ((k : Int) + 1)) (fun _ q => ArithVC.mk (by omega) q) <| s_pq (.int .i64 ((k : Int) + 1)) <| s_nil ?_
   exact p_lpN ⟨k + 1, u, ⟨rfl, rfl, rfl, rfl, rfl, rfl⟩, ⟨E14, (by exact ⟨by omega, by rw [snoc_get (by assumption), stF_snoc, ← hu]; first | rw [if_pos (by omega)] | rw [if_neg (by omega)]⟩)⟩, by omega⟩
  refine s_pass rfl <| s_pass rfl <| s_pass rfl <| s_pass rfl <| s_pq (.bool false) <| s_pq (.bool false) <| s_splitN rfl (by simp) <| s_pass rfl <| s_pass rfl <| s_pass rfl <| s_pass rfl <| s_pass rfl <| s_pass rfl <| s_pq (.bool false) <| s_nil <| p_seqN <| v_condN rfl (by simp) <| v_skip <| p_blkN <| p_seqN <| v_ops <| s_pure (.int .i64 ((k : Int) + 1)) (fun _ q => ArithVC.mk (by omega) q) <| s_pq (.int .i64 ((k : Int) + 1)) <| s_nil ?_
  exact p_lpN ⟨k + 1, u, ⟨rfl, rfl, rfl, rfl, rfl, rfl⟩, ⟨E14, (by exact ⟨by omega, by rw [snoc_get (by assumption), stF_snoc, ← hu]; first | rw [if_pos (by omega)] | rw [if_neg (by omega)]⟩)⟩, by omega⟩
 refine v_exit <| p_seqX <| p_lpX <| p_blkX <| p_seqN <| v_seq <| v_ops <| s_pq (.int .i64 u) <| s_pq (.int .i64 u) <| s_nil <| p_seqN <| v_ret <| p_ret [.int .i64 u] (.int .i64 u) (fun _ q => q) rfl ?_
 have ho : (stF l link t seconds) = u := by rw [take_all (by assumption)] at hu; exact hu.symm
 exact ⟨by first | (rw [ho]; done) | rfl, Eh⟩

end Go.Proofs.Ytgbaonaopkdlpaa



/- The laws' helpers on rows of rows of numbers. Condition: none. Printed in part by a program. -/
namespace Go.Proofs.Ytgbaonaopkdlpaa
open Go.Vc
set_option linter.all false
theorem map_take {α β : Type} (f : α → β) (l : List α) (k : Nat) : (l.take k).map f = (l.map f).take k := List.map_take
end Go.Proofs.Ytgbaonaopkdlpaa



/- Clear windows. Condition: none. Printed in part by a program. -/
namespace Go.Proofs.Ytgbaonaopkdlpaa
open Go.Vc
set_option linter.all false

structure AskF (n : NetP) (l : List FogD) (link a b : Int) : Prop where
 hn : NetOk n
 hf : FogsOk n.links.length l
 hk : 0 ≤ link ∧ link ≤ (n.links.length : Int) - 1
 ha : 0 ≤ a
 hab : a ≤ b
 hb : b ≤ 10000
noncomputable instance (n : NetP) (l : List FogD) (link a b : Int) : Decidable (AskF n l link a b) := Classical.propDecidable _
/-- fogs of one link are in order -/
theorem FogsOk.lt {m : Nat} {l : List FogD} (h : FogsOk m l) {i j : Nat} {x y : FogD} (hx : l[i]? = some x) (hy : l[j]? = some y) (hij : i < j) : x.link ≤ y.link ∧ (x.link = y.link → x.til < y.fr) := by
  induction j generalizing y with
  | zero => omega
  | succ j ih =>
    have hj := (List.getElem?_eq_some_iff.1 hy).1
    have hz := List.getElem?_eq_getElem (show j < l.length by omega)
    have hzy := (h.2 (j + 1) y hj hy).2 (by omega) _ hz
    have hzo := h.at hz
    by_cases e : i = j
    · subst e; rw [hx] at hz; have := Option.some.inj hz; subst this; omega
    · have := ih hz (by omega)
      omega
end Go.Proofs.Ytgbaonaopkdlpaa



/- Earliest times of towers: plain laws on nets with fog (two ways to find them end alike). Condition: none. -/
namespace Go.Proofs.Ytgbaonaopkdlpaa
open Go.Vc
set_option linter.all false

/-! ### Going over a link -/
theorem stF_cons (l : List FogD) (k s t : Int) (x : FogD) : stF (x :: l) k t s = stF l k (if x.link = k ∧ x.til > t ∧ x.fr < t + s then x.til else t) s := rfl
theorem stF_ge (l : List FogD) (k s t : Int) : t ≤ stF l k t s := by
  induction l generalizing t with
  | nil => exact Int.le_refl _
  | cons x l ih =>
    rw [stF_cons]
    refine Int.le_trans ?_ (ih _)
    split <;> omega
theorem stF_mono (l : List FogD) (k s : Int) {t t' : Int} (h : t ≤ t') : stF l k t s ≤ stF l k t' s := by
  induction l generalizing t t' with
  | nil => exact h
  | cons x l ih =>
    rw [stF_cons, stF_cons]
    apply ih
    split <;> split <;> omega
theorem stF_le {m : Nat} {l : List FogD} (h : FogsOk m l) (k s t : Int) : stF l k t s ≤ t ∨ stF l k t s ≤ 10000 := by
 have := (stF_bd h k t s l.length).2
 rwa [List.take_length] at this
theorem fogs_nil (m : Nat) : FogsOk m [] := ⟨by simp, fun i x hi => by simp at hi⟩
def over (l : List FogD) (k : Int) (x : LinkD) (t : Int) : Int := stF l k t x.delay + x.delay
theorem over_mono (l : List FogD) (k : Int) (x : LinkD) {t t' : Int} (h : t ≤ t') : over l k x t ≤ over l k x t' := by
 have := stF_mono l k x.delay h
 unfold over; omega
theorem over_gt (l : List FogD) (k : Int) {x : LinkD} (t : Int) (h : 1 ≤ x.delay) : t < over l k x t := by
 have := stF_ge l k x.delay t
 unfold over; omega

/-! ### Lists of times -/
def lk (n : NetP) (k : Int) : LinkD := n.links.getD k.toNat ⟨0, 0, 0⟩
theorem lk_get {n : NetP} {k : Nat} {x : LinkD} (h : n.links[k]? = some x) : lk n (k : Int) = x := by simp [lk, h]
theorem lk_at {n : NetP} {k : Int} (h0 : 0 ≤ k) (h1 : k ≤ (n.links.length : Int) - 1) : n.links[k.toNat]? = some (lk n k) := by
 have : k.toNat < n.links.length := by omega
 simp [lk, this]
abbrev gI (out : List Int) (i : Int) : Int := out.getD i.toNat (-1)
theorem gI_get {out : List Int} {i : Nat} {v : Int} (h : out[i]? = some v) : gI out (i : Int) = v := by simp [gI, h]
theorem gI_of {out : List Int} {i : Int} (h0 : 0 ≤ i) (h1 : i < out.length) : ∃ v, out[i.toNat]? = some v ∧ gI out i = v := by
 have : i.toNat < out.length := by omega
 exact ⟨out[i.toNat], by simp [this], by simp [gI, this]⟩
theorem gI_self {out : List Int} {i : Int} {v : Int} (h0 : 0 ≤ i) (h1 : i < out.length) : gI (out.set i.toNat v) i = v := by
 have : i.toNat < out.length := by omega
 simp [gI, this]
theorem gI_ne {out : List Int} {i j : Int} {v : Int} (h0 : 0 ≤ i) (hj : 0 ≤ j) (hn : i ≠ j) : gI (out.set i.toNat v) j = gI out j := by
  have : i.toNat ≠ j.toNat := by omega
  simp [gI, List.getElem?_set_ne this]

structure Hop (n : NetP) (l : List FogD) (i u j v : Int) : Prop where
  out : ∃ (k : Nat) (x : LinkD), n.links[k]? = some x ∧ ((x.a = i ∧ x.b = j) ∨ (x.b = i ∧ x.a = j)) ∧ v = over l (k : Int) x u
inductive Rch (n : NetP) (l : List FogD) (a t : Int) : Int → Int → Prop where
  | start : Rch n l a t a t
  | hop {i u j v : Int} : Rch n l a t i u → Hop n l i u j v → Rch n l a t j v

/-- at these links nothing is to be won any more -/
abbrev LinkDone (l : List FogD) (out : List Int) (k : Nat) (x : LinkD) : Prop :=
  (0 ≤ gI out x.a → 0 ≤ gI out x.b ∧ gI out x.b ≤ over l (k : Int) x (gI out x.a)) ∧ (0 ≤ gI out x.b → 0 ≤ gI out x.a ∧ gI out x.a ≤ over l (k : Int) x (gI out x.b))
abbrev DoneTo (n : NetP) (l : List FogD) (out : List Int) (m : Nat) : Prop := ∀ (k : Nat) (x : LinkD), k < m → n.links[k]? = some x → LinkDone l out k x
structure Tms (n : NetP) (l : List FogD) (a t : Int) (out : List Int) : Prop where
  len : out.length = n.towers.length
  neg : ∀ v ∈ out, v = -1 ∨ 0 ≤ v
  rch : ∀ (i : Nat) (v : Int), out[i]? = some v → 0 ≤ v → Rch n l a t (i : Int) v
  top : 0 ≤ gI out a ∧ gI out a ≤ t
structure Arr (n : NetP) (l : List FogD) (a t : Int) (out : List Int) : Prop where
  tms : Tms n l a t out
  done : DoneTo n l out n.links.length

theorem Arr.least {n : NetP} {l : List FogD} {a t : Int} {out : List Int} (h : Arr n l a t out) {i u : Int} (hr : Rch n l a t i u) : 0 ≤ gI out i ∧ gI out i ≤ u := by
  induction hr with
  | start => exact h.tms.top
  | @hop i u j v hr hh ih =>
    obtain ⟨k, x, hx, hd, rfl⟩ := hh.out
    have hk := (List.getElem?_eq_some_iff.1 hx).1
    obtain ⟨d1, d2⟩ := h.done k x hk hx
    rcases hd with ⟨rfl, rfl⟩ | ⟨rfl, rfl⟩
    · exact ⟨(d1 ih.1).1, Int.le_trans (d1 ih.1).2 (over_mono l _ x ih.2)⟩
    · exact ⟨(d2 ih.1).1, Int.le_trans (d2 ih.1).2 (over_mono l _ x ih.2)⟩
theorem Arr.uniq {n : NetP} {l : List FogD} {a t : Int} {o1 o2 : List Int} (h1 : Arr n l a t o1) (h2 : Arr n l a t o2) : o1 = o2 := by
  have key : ∀ {p q : List Int}, Arr n l a t p → Arr n l a t q → ∀ (i : Nat) (v : Int), p[i]? = some v → 0 ≤ v → 0 ≤ gI q i ∧ gI q i ≤ v := fun hp hq i v hv h0 => hq.least (hp.tms.rch i v hv h0)
  apply List.ext_getElem?
  intro i
  by_cases hi : i < n.towers.length
  · obtain ⟨v1, e1⟩ : ∃ v, o1[i]? = some v := ⟨_, List.getElem?_eq_getElem (by rw [h1.tms.len]; exact hi)⟩
    obtain ⟨v2, e2⟩ : ∃ v, o2[i]? = some v := ⟨_, List.getElem?_eq_getElem (by rw [h2.tms.len]; exact hi)⟩
    rw [e1, e2]
    have n1 := h1.tms.neg v1 (List.mem_of_getElem? e1)
    have n2 := h2.tms.neg v2 (List.mem_of_getElem? e2)
    have k1 := key h1 h2 i v1 e1
    have k2 := key h2 h1 i v2 e2
    rw [gI_get e2] at k1
    rw [gI_get e1] at k2
    congr 1
    omega
  · rw [List.getElem?_eq_none (by rw [h1.tms.len]; omega), List.getElem?_eq_none (by rw [h2.tms.len]; omega)]
theorem NetOk.at {n : NetP} (h : NetOk n) {k : Nat} {x : LinkD} (hx : n.links[k]? = some x) : LinkOk n.towers.length x := (h.lnk k x (List.getElem?_eq_some_iff.1 hx).1 hx).1
theorem Rch.ge {n : NetP} {l : List FogD} {a t : Int} (hn : NetOk n) {i u : Int} (h : Rch n l a t i u) : t ≤ u := by
  induction h with
  | start => exact Int.le_refl _
  | hop hr hh ih =>
    obtain ⟨k, x, hx, hd, rfl⟩ := hh.out
    exact Int.le_trans ih (Int.le_of_lt (over_gt l _ _ (hn.at hx).2.2.2.1))
theorem Rch.tower {n : NetP} {l : List FogD} {a t : Int} (hn : NetOk n) (ha : 0 ≤ a ∧ a ≤ (n.towers.length : Int) - 1) {i u : Int} (h : Rch n l a t i u) : 0 ≤ i ∧ i ≤ (n.towers.length : Int) - 1 := by
  cases h with
  | start => exact ha
  | hop hr hh =>
    obtain ⟨k, x, hx, hd, rfl⟩ := hh.out
    have := hn.at hx
    omega
theorem least_nat {p : Nat → Prop} (h : ∃ n, p n) : ∃ n, p n ∧ ∀ m, p m → n ≤ m := by
  classical
  obtain ⟨n, hn⟩ := h
  induction n using Nat.strongRecOn with
  | _ n ih =>
    by_cases hm : ∃ m, m < n ∧ p m
    · obtain ⟨m, h1, h2⟩ := hm
      exact ih m h1 h2
    · exact ⟨n, hn, fun m hp => by
        by_cases e : m < n
        · exact absurd ⟨m, e, hp⟩ hm
        · omega⟩
noncomputable def best (n : NetP) (l : List FogD) (a t i : Int) : Int := open Classical in if h : ∃ u : Nat, Rch n l a t i (u : Int) then ((Classical.choose (least_nat h) : Nat) : Int) else -1
theorem best_some {n : NetP} {l : List FogD} {a t i u : Int} (h : Rch n l a t i u) (h0 : 0 ≤ u) : 0 ≤ best n l a t i ∧ best n l a t i ≤ u ∧ Rch n l a t i (best n l a t i) := by
 classical
 have he : ∃ u : Nat, Rch n l a t i (u : Int) := ⟨u.toNat, by rw [show ((u.toNat : Nat) : Int) = u by omega]; exact h⟩
 unfold best
 rw [dif_pos he]
 obtain ⟨h1, h3⟩ := Classical.choose_spec (least_nat he)
 have h2 := h3 u.toNat (by rw [show ((u.toNat : Nat) : Int) = u by omega]; exact h)
 exact ⟨by omega, by omega, h1⟩
theorem best_spec (n : NetP) (l : List FogD) (a t i : Int) : best n l a t i = -1 ∨ (0 ≤ best n l a t i ∧ Rch n l a t i (best n l a t i)) := by
  classical
  unfold best
  by_cases he : ∃ u : Nat, Rch n l a t i (u : Int)
  · rw [dif_pos he]; exact .inr ⟨by omega, (Classical.choose_spec (least_nat he)).1⟩
  · rw [dif_neg he]; exact .inl rfl
noncomputable def arrOf (n : NetP) (l : List FogD) (a t : Int) : List Int := (List.range n.towers.length).map fun i : Nat => best n l a t (i : Int)
theorem arrOf_get {n : NetP} {l : List FogD} {a t i : Int} (h0 : 0 ≤ i) (h1 : i ≤ (n.towers.length : Int) - 1) : gI (arrOf n l a t) i = best n l a t i := by
 have : i.toNat < n.towers.length := by omega
 simp only [gI, arrOf, List.getD_eq_getElem?_getD, List.getElem?_map, List.getElem?_range this, Option.map_some, Option.getD_some]
 rw [show ((i.toNat : Nat) : Int) = i by omega]
theorem arrOf_arr {n : NetP} {l : List FogD} {a t : Int} (hn : NetOk n) (ha : 0 ≤ a ∧ a ≤ (n.towers.length : Int) - 1) (ht : 0 ≤ t) : Arr n l a t (arrOf n l a t) := by
  have edge : ∀ {i j : Int} {k : Nat} {x : LinkD}, n.links[k]? = some x → ((x.a = i ∧ x.b = j) ∨ (x.b = i ∧ x.a = j)) → 0 ≤ gI (arrOf n l a t) i → 0 ≤ gI (arrOf n l a t) j ∧ gI (arrOf n l a t) j ≤ over l (k : Int) x (gI (arrOf n l a t) i) := by
    intro i j k x hx hd h0
    have hok := hn.at hx
    rw [arrOf_get (by omega) (by omega)] at h0 ⊢
    rw [arrOf_get (by omega) (by omega)]
    rcases best_spec n l a t i with h1 | ⟨h1, h2⟩
    · omega
    · have := over_gt l (k : Int) (best n l a t i) hok.2.2.2.1
      have h3 := best_some (.hop h2 ⟨k, x, hx, hd, rfl⟩) (by omega)
      exact ⟨h3.1, h3.2.1⟩
  refine ⟨⟨by simp [arrOf], fun v hv => ?_, fun i v hi hv => ?_, ?_⟩, fun k x hk hx => ⟨edge hx (.inl ⟨rfl, rfl⟩), edge hx (.inr ⟨rfl, rfl⟩)⟩⟩
  · simp only [arrOf, List.mem_map] at hv
    obtain ⟨i, hi, rfl⟩ := hv
    rcases best_spec n l a t i with h1 | h1
    · exact .inl h1
    · exact .inr h1.1
  · have hil : i < n.towers.length := by
      have := (List.getElem?_eq_some_iff.1 hi).1
      simpa [arrOf] using this
    have := gI_get hi
    rw [arrOf_get (by omega) (by omega)] at this
    rcases best_spec n l a t (i : Int) with h1 | h1
    · omega
    · rw [this] at h1; exact h1.2
  · rw [arrOf_get ha.1 ha.2]
    have := best_some (n := n) (l := l) (.start (n := n) (l := l) (a := a) (t := t)) ht
    exact ⟨this.1, this.2.1⟩
theorem arrOf_eq {n : NetP} {l : List FogD} {a t : Int} {out : List Int} (hn : NetOk n) (ha : 0 ≤ a ∧ a ≤ (n.towers.length : Int) - 1) (ht : 0 ≤ t) (h : Arr n l a t out) : out = arrOf n l a t := h.uniq (arrOf_arr hn ha ht)

/-! ### How great times grow, and how often they can be bettered -/
def cnt (out : List Int) : Nat := (out.map fun v => if 0 ≤ v then 1 else 0).sum
def potO (out : List Int) : Nat := (out.map fun v => if v < 0 then 20000 else v.toNat).sum
theorem sum_set {f : Int → Nat} : ∀ {l : List Int} {i : Nat} {v : Int} (y : Int), l[i]? = some v → ((l.set i y).map f).sum + f v = (l.map f).sum + f y
  | [], i, v, y, h => by simp at h
  | x :: l, 0, v, y, h => by simp at h; subst h; simp; omega
  | x :: l, i + 1, v, y, h => by
    have := sum_set (f := f) (l := l) (i := i) y (by simpa using h)
    simp only [List.set_cons_succ, List.map_cons, List.sum_cons]; omega
theorem cnt_le (out : List Int) : cnt out ≤ out.length := by
  induction out with
  | nil => simp [cnt]
  | cons x l ih => simp only [cnt, List.map_cons, List.sum_cons, List.length_cons] at *; split <;> omega
/-- times so far: not too great -/
structure Bnd (out : List Int) : Prop where
  le : ∀ v ∈ out, v ≤ 10000 + 60 * (cnt out : Int) - 60
theorem Bnd.top {n : NetP} (hn : NetOk n) {out : List Int} (hl : out.length = n.towers.length) (h : Bnd out) : ∀ v ∈ out, v ≤ 10900 := by
 intro v hv
 have := h.le v hv
 have := cnt_le out
 have := hn.t2
 omega
theorem over_le {m : Nat} {l : List FogD} (hf : FogsOk m l) {k : Int} {x : LinkD} (hd : x.delay ≤ 60) {t : Int} {c : Nat} (h : t ≤ 10000 + 60 * (c : Int) - 60) (hc : 1 ≤ c) : over l k x t ≤ 10000 + 60 * (c : Int) := by
 have := stF_le hf k x.delay t
 unfold over
 omega
/-- one time is bettered -/
theorem better {n : NetP} {l : List FogD} {a t : Int} {m : Nat} (hf : FogsOk m l) {out : List Int} (hT : Tms n l a t out) (hB : Bnd out) (h16 : n.towers.length ≤ 16) (ha : 0 ≤ a) {k : Nat} {x : LinkD} (hx : n.links[k]? = some x) (hd : 1 ≤ x.delay ∧ x.delay ≤ 60)
    {i j : Nat} {u w : Int} (he : (x.a = (i : Int) ∧ x.b = (j : Int)) ∨ (x.b = (i : Int) ∧ x.a = (j : Int))) (hu : out[i]? = some u) (h0 : 0 ≤ u) (hw : out[j]? = some w) (hb : w < 0 ∨ over l (k : Int) x u < w) :
    Tms n l a t (out.set j (over l (k : Int) x u)) ∧ Bnd (out.set j (over l (k : Int) x u)) ∧ potO (out.set j (over l (k : Int) x u)) < potO out := by
  have hgt := over_gt l (k : Int) u hd.1
  have hlt : j < out.length := (List.getElem?_eq_some_iff.1 hw).1
  have hcnt := sum_set (f := fun v : Int => if 0 ≤ v then 1 else 0) (over l (k : Int) x u) hw
  have hpot := sum_set (f := fun v : Int => if v < 0 then 20000 else v.toNat) (over l (k : Int) x u) hw
  have hc1 : 1 ≤ cnt out := by
    have h1 := sum_set (f := fun v : Int => if 0 ≤ v then 1 else 0) (-1) hu
    simp only [cnt]
    rw [if_pos h0] at h1
    simp at h1
    omega
  have hcu := hB.le u (List.mem_of_getElem? hu)
  have hov := over_le hf hd.2 (k := (k : Int)) hcu hc1
  have hbw := hB.le w (List.mem_of_getElem? hw)
  have hc16 := cnt_le out
  refine ⟨⟨by simp [hT.len], fun v hv => ?_, fun q v hq hv => ?_, ?_⟩, ⟨fun v hv => ?_⟩, ?_⟩
  · rcases List.mem_or_eq_of_mem_set hv with hv | rfl
    · exact hT.neg v hv
    · omega
  · by_cases e : q = j
    · subst e
      rw [List.getElem?_set_self hlt] at hq
      obtain rfl := Option.some.inj hq
      exact .hop (hT.rch i u hu h0) ⟨k, x, hx, he, rfl⟩
    · rw [List.getElem?_set_ne (Ne.symm e)] at hq
      exact hT.rch q v hq hv
  · by_cases e : a = (j : Int)
    · subst e
      have hg := gI_get hw
      have h2 := gI_self (v := over l (k : Int) x u) (out := out) (i := (j : Int)) (by omega) (by omega)
      have h1 := hT.top
      rw [hg] at h1
      simp only [Int.toNat_natCast] at h2
      rw [h2]
      omega
    · have h2 := gI_ne (out := out) (i := (j : Int)) (j := a) (v := over l (k : Int) x u) (by omega) ha (fun q => e q.symm)
      simp only [Int.toNat_natCast] at h2
      rw [h2]; exact hT.top
  · simp only [cnt] at *
    rw [if_pos (by omega : 0 ≤ over l (k : Int) x u)] at hcnt
    rcases List.mem_or_eq_of_mem_set hv with hv | rfl
    · have := hB.le v hv
      simp only [cnt] at this
      split at hcnt <;> omega
    · split at hcnt <;> omega
  · simp only [potO]
    rw [if_neg (by omega : ¬ over l (k : Int) x u < 0)] at hpot
    have hlen := hT.len
    split at hpot <;> omega

/-! ### The first way: all links are gone over again and again until nothing changes -/
def end1 (x : LinkD) (e : Nat) : Int := if e = 0 then x.a else x.b
def end2 (x : LinkD) (e : Nat) : Int := if e = 0 then x.b else x.a
abbrev Half (l : List FogD) (out : List Int) (k : Nat) (x : LinkD) (e : Nat) : Prop := 0 ≤ gI out (end1 x e) → 0 ≤ gI out (end2 x e) ∧ gI out (end2 x e) ≤ over l (k : Int) x (gI out (end1 x e))
theorem half_both {l : List FogD} {out : List Int} {k : Nat} {x : LinkD} (h : ∀ e, e < 2 → Half l out k x e) : LinkDone l out k x := by
 have h0 := h 0 (by omega)
 have h1 := h 1 (by omega)
 simp only [Half, end1, end2] at h0 h1
 exact ⟨h0, h1⟩
theorem done_snoc {n : NetP} {l : List FogD} {out : List Int} {m : Nat} {x : LinkD} (h : DoneTo n l out m) (hx : n.links[m]? = some x) (hd : LinkDone l out m x) : DoneTo n l out (m + 1) := by
  intro k y hk hy
  by_cases e : k = m
  · subst e; rw [hx] at hy; obtain rfl := Option.some.inj hy; exact hd
  · exact h k y (by omega) hy
/-- what holds on the way; p0: the bettering left when this round began -/
structure BF (n : NetP) (l : List FogD) (a t : Int) (out : List Int) (grown : Bool) (k p0 : Nat) : Prop where
  tms : Tms n l a t out
  bnd : Bnd out
  done : grown = false → DoneTo n l out k
  pot : potO out + (if grown = true then 1 else 0) ≤ p0
structure BFh (n : NetP) (l : List FogD) (a t : Int) (out : List Int) (grown : Bool) (k p0 : Nat) (x : LinkD) (e : Nat) : Prop where
  bf : BF n l a t out grown k p0
  half : grown = false → ∀ e', e' < e → Half l out k x e'
theorem BFh.start {n : NetP} {l : List FogD} {a t : Int} {out : List Int} {grown : Bool} {k p0 : Nat} {x : LinkD} (h : BF n l a t out grown k p0) : BFh n l a t out grown k p0 x 0 := ⟨h, fun _ e' he => by omega⟩
theorem BFh.next {n : NetP} {l : List FogD} {a t : Int} {out : List Int} {grown : Bool} {k p0 e : Nat} {x : LinkD} (h : BFh n l a t out grown k p0 x e) (hh : Half l out k x e) : BFh n l a t out grown k p0 x (e + 1) :=
  ⟨h.bf, fun hg e' he => by
    by_cases q : e' = e
    · subst q; exact hh
    · exact h.half hg e' (by omega)⟩
theorem BFh.ends {n : NetP} {l : List FogD} {a t : Int} {out : List Int} {grown : Bool} {k p0 e : Nat} {x : LinkD} (h : BFh n l a t out grown k p0 x e) (he : 2 ≤ e) (hx : n.links[k]? = some x) : BF n l a t out grown (k + 1) p0 :=
 ⟨h.bf.tms, h.bf.bnd, fun hg => done_snoc (h.bf.done hg) hx (half_both fun e' h' => h.half hg e' (by omega)), h.bf.pot⟩
theorem BFh.set {n : NetP} {l : List FogD} {a t : Int} {m : Nat} {out : List Int} {grown : Bool} {k p0 e : Nat} {x : LinkD} (hf : FogsOk m l) (hn : NetOk n) (ha : 0 ≤ a) (h : BFh n l a t out grown k p0 x e) (hx : n.links[k]? = some x)
    {i j : Nat} {u w : Int} (hi : end1 x e = (i : Int)) (hj : end2 x e = (j : Int)) (hu : out[i]? = some u) (h0 : 0 ≤ u) (hw : out[j]? = some w) (hb : w < 0 ∨ over l (k : Int) x u < w) : BFh n l a t (out.set j (over l (k : Int) x u)) true k p0 x (e + 1) := by
  have hok := hn.at hx
  have he : (x.a = (i : Int) ∧ x.b = (j : Int)) ∨ (x.b = (i : Int) ∧ x.a = (j : Int)) := by
    unfold end1 at hi; unfold end2 at hj
    split at hi
    · rw [if_pos (by assumption)] at hj; exact .inl ⟨hi, hj⟩
    · rw [if_neg (by assumption)] at hj; exact .inr ⟨hi, hj⟩
  obtain ⟨b1, b2, b3⟩ := better hf h.bf.tms h.bf.bnd hn.t2 ha hx ⟨hok.2.2.2.1, hok.2.2.2.2⟩ he hu h0 hw hb
  have hp := h.bf.pot
  refine ⟨⟨b1, b2, fun q => (by cases q), ?_⟩, fun q => (by cases q)⟩
  rw [if_pos rfl]
  split at hp <;> omega
theorem BF.arr {n : NetP} {l : List FogD} {a t : Int} {out : List Int} {k p0 : Nat} (h : BF n l a t out false k p0) (hk : n.links.length ≤ k) : Arr n l a t out := ⟨h.tms, fun j x hj hx => h.done rfl j x (by omega) hx⟩
/-- times at the start -/
theorem arr_start {n : NetP} {l : List FogD} {a t : Int} (ha : 0 ≤ a ∧ a ≤ (n.towers.length : Int) - 1) (ht : 0 ≤ t ∧ t ≤ 10000) : Tms n l a t ((List.replicate n.towers.length (-1)).set a.toNat t) ∧ Bnd ((List.replicate n.towers.length (-1)).set a.toNat t) := by
  have hlt : a.toNat < n.towers.length := by omega
  have hg := gI_self (v := t) (out := List.replicate n.towers.length (-1)) ha.1 (by simp; omega)
  refine ⟨⟨by simp, fun v hv => ?_, fun i v hi hv => ?_, by rw [hg]; omega⟩, ⟨fun v hv => ?_⟩⟩
  · rcases List.mem_or_eq_of_mem_set hv with hv | rfl
    · exact .inl (List.mem_replicate.1 hv).2
    · exact .inr ht.1
  · by_cases e : i = a.toNat
    · subst e
      rw [List.getElem?_set_self (by simpa using hlt)] at hi
      obtain rfl := Option.some.inj hi
      rw [show ((a.toNat : Nat) : Int) = a by omega]
      exact .start
    · rw [List.getElem?_set_ne (Ne.symm e)] at hi
      have := (List.mem_replicate.1 (List.mem_of_getElem? hi)).2
      omega
  · have h1 := sum_set (f := fun v : Int => if 0 ≤ v then 1 else 0) (l := List.replicate n.towers.length (-1)) (i := a.toNat) (v := -1) t (by simp [hlt])
    have h2 : 1 ≤ cnt ((List.replicate n.towers.length (-1)).set a.toNat t) := by
      simp only [cnt]
      rw [if_pos ht.1] at h1
      simp only [Int.reduceNeg, Int.neg_nonneg, Int.reduceLE, ↓reduceIte, Nat.add_zero] at h1
      omega
    rcases List.mem_or_eq_of_mem_set hv with hv | rfl
    · have := (List.mem_replicate.1 hv).2; omega
    · omega

/-! ### The second way: tower by tower, the earliest first -/
abbrev Closed (n : NetP) (l : List FogD) (out : List Int) (i : Int) (m : Nat) : Prop := ∀ (k : Nat) (x : LinkD), k < m → n.links[k]? = some x →
  (x.a = i → 0 ≤ gI out x.b ∧ gI out x.b ≤ over l (k : Int) x (gI out x.a)) ∧ (x.b = i → 0 ≤ gI out x.a ∧ gI out x.a ≤ over l (k : Int) x (gI out x.b))
structure Dij (n : NetP) (l : List FogD) (a t : Int) (out : List Int) (done : List Bool) : Prop where
  tms : Tms n l a t out
  bnd : Bnd out
  len : done.length = n.towers.length
  cl : ∀ (i : Nat), done[i]? = some true → 0 ≤ gI out (i : Int) ∧ Closed n l out (i : Int) n.links.length
  ord : ∀ (i j : Nat), done[i]? = some true → done[j]? = some false → 0 ≤ gI out (j : Int) → gI out (i : Int) ≤ gI out (j : Int)
/-- the least one not yet done among the first k -/
structure Least (out : List Int) (done : List Bool) (k : Nat) (i : Int) : Prop where
  no : i < 0 → ∀ j, j < k → done[j]? = some false → gI out (j : Int) < 0
  yes : 0 ≤ i → i < k ∧ done[i.toNat]? = some false ∧ 0 ≤ gI out i ∧ ∀ j, j < k → done[j]? = some false → 0 ≤ gI out (j : Int) → gI out i ≤ gI out (j : Int)
theorem Least.start (out : List Int) (done : List Bool) : Least out done 0 (-1) := ⟨fun _ j hj => by omega, fun h => by omega⟩
theorem Least.keep {out : List Int} {done : List Bool} {k : Nat} {i : Int} (h : Least out done k i) (hk : done[k]? = some true ∨ gI out (k : Int) < 0 ∨ (0 ≤ i ∧ gI out i ≤ gI out (k : Int))) : Least out done (k + 1) i := by
  refine ⟨fun hi j hj hd => ?_, fun hi => ?_⟩
  · by_cases e : j = k
    · subst e
      rcases hk with hk | hk | hk
      · rw [hk] at hd; cases hd
      · exact hk
      · omega
    · exact h.no hi j (by omega) hd
  · obtain ⟨h1, h2, h3, h4⟩ := h.yes hi
    refine ⟨by omega, h2, h3, fun j hj hd h0 => ?_⟩
    by_cases e : j = k
    · subst e
      rcases hk with hk | hk | hk
      · rw [hk] at hd; cases hd
      · omega
      · exact hk.2
    · exact h4 j (by omega) hd h0
theorem Least.take {out : List Int} {done : List Bool} {k : Nat} {i : Int} (h : Least out done k i) (hd : done[k]? = some false) (h0 : 0 ≤ gI out (k : Int)) (hl : i < 0 ∨ gI out (k : Int) < gI out i) : Least out done (k + 1) (k : Int) := by
  refine ⟨fun hi => by omega, fun _ => ⟨by omega, by simpa using hd, h0, fun j hj hdj hj0 => ?_⟩⟩
  by_cases e : j = k
  · subst e; exact Int.le_refl _
  · rcases hl with hl | hl
    · have := h.no hl j (by omega) hdj; omega
    · by_cases hi : i < 0
      · have := h.no hi j (by omega) hdj; omega
      · have := (h.yes (by omega)).2.2.2 j (by omega) hdj hj0; omega
/-- tower i is being done: its first m links have been looked at -/
structure DijR (n : NetP) (l : List FogD) (a t : Int) (out : List Int) (done : List Bool) (i : Nat) (u : Int) (m : Nat) : Prop where
  tms : Tms n l a t out
  bnd : Bnd out
  len : done.length = n.towers.length
  at_ : out[i]? = some u
  pos : 0 ≤ u
  isd : done[i]? = some true
  cl : ∀ (j : Nat), done[j]? = some true → j ≠ i → 0 ≤ gI out (j : Int) ∧ Closed n l out (j : Int) n.links.length
  cli : Closed n l out (i : Int) m
  below : ∀ (j : Nat), done[j]? = some true → gI out (j : Int) ≤ u
  above : ∀ (j : Nat), done[j]? = some false → 0 ≤ gI out (j : Int) → u ≤ gI out (j : Int)
theorem set_bool {done : List Bool} {i j : Nat} {b : Bool} (h : (done.set i true)[j]? = some b) : (j = i ∧ b = true) ∨ (j ≠ i ∧ done[j]? = some b) := by
  by_cases e : j = i
  · subst e
    have hj : j < done.length := by
      have := (List.getElem?_eq_some_iff.1 h).1
      simpa using this
    rw [List.getElem?_set_self hj] at h
    exact .inl ⟨rfl, (Option.some.inj h).symm⟩
  · rw [List.getElem?_set_ne (Ne.symm e)] at h
    exact .inr ⟨e, h⟩
theorem Dij.pick {n : NetP} {l : List FogD} {a t : Int} {out : List Int} {done : List Bool} (h : Dij n l a t out done) {k : Nat} (hk : n.towers.length ≤ k) {i : Nat} {u : Int} (hl : Least out done k (i : Int)) (hu : out[i]? = some u) : DijR n l a t out (done.set i true) i u 0 := by
  obtain ⟨h1, h2, h3, h4⟩ := hl.yes (by omega)
  simp only [Int.toNat_natCast] at h2
  rw [gI_get hu] at h3 h4
  have hi : i < done.length := (List.getElem?_eq_some_iff.1 h2).1
  refine ⟨h.tms, h.bnd, by simp [h.len], hu, h3, by rw [List.getElem?_set_self hi], fun j hj hne => ?_, fun k x hk => by omega, fun j hj => ?_, fun j hj h0 => ?_⟩
  · rcases set_bool hj with ⟨e, _⟩ | ⟨_, hj⟩
    · exact absurd e hne
    · exact h.cl j hj
  · rcases set_bool hj with ⟨e, _⟩ | ⟨_, hj⟩
    · subst e; rw [gI_get hu]; exact Int.le_refl _
    · have := h.ord j i hj h2 (by rw [gI_get hu]; exact h3)
      rw [gI_get hu] at this; exact this
  · rcases set_bool hj with ⟨_, e⟩ | ⟨_, hj⟩
    · cases e
    · have hjl : j < done.length := (List.getElem?_eq_some_iff.1 hj).1
      exact h4 j (by have := h.len; omega) hj h0
theorem DijR.ends {n : NetP} {l : List FogD} {a t : Int} {out : List Int} {done : List Bool} {i : Nat} {u : Int} {m : Nat} (h : DijR n l a t out done i u m) (hm : n.links.length ≤ m) : Dij n l a t out done := by
  refine ⟨h.tms, h.bnd, h.len, fun j hj => ?_, fun j j' hj hj' h0 => ?_⟩
  · by_cases e : j = i
    · subst e
      exact ⟨by rw [gI_get h.at_]; exact h.pos, fun k x hk hx => h.cli k x (by omega) hx⟩
    · exact h.cl j hj e
  · exact Int.le_trans (h.below j hj) (h.above j' hj' h0)
/-- the other end of a link, or -1 -/
def othr (x : LinkD) (i : Int) : Int := if i = x.a then x.b else if i = x.b then x.a else -1
theorem othr_ends {m : Nat} {x : LinkD} (h : LinkOk m x) {i j : Nat} (ho : othr x (i : Int) = (j : Int)) : (x.a = (i : Int) ∧ x.b = (j : Int)) ∨ (x.b = (i : Int) ∧ x.a = (j : Int)) := by
  unfold othr at ho
  split at ho
  · left; omega
  · split at ho
    · right; omega
    · omega
theorem othr_bd {m : Nat} {x : LinkD} (h : LinkOk m x) (i : Int) : -1 ≤ othr x i ∧ othr x i < (m : Int) := by
  unfold othr; split
  · omega
  · split <;> omega
theorem closed_snoc {n : NetP} {l : List FogD} {out : List Int} {i : Int} {m : Nat} {x : LinkD} (h : Closed n l out i m) (hx : n.links[m]? = some x) (hc : (x.a = i → 0 ≤ gI out x.b ∧ gI out x.b ≤ over l (m : Int) x (gI out x.a)) ∧ (x.b = i → 0 ≤ gI out x.a ∧ gI out x.a ≤ over l (m : Int) x (gI out x.b))) : Closed n l out i (m + 1) := by
  intro k y hk hy
  by_cases e : k = m
  · subst e; rw [hx] at hy; obtain rfl := Option.some.inj hy; exact hc
  · exact h k y (by omega) hy
/-- the link does not end here -/
theorem DijR.skip {n : NetP} {l : List FogD} {a t : Int} {out : List Int} {done : List Bool} {i : Nat} {u : Int} {m : Nat} {x : LinkD} (hn : NetOk n) (h : DijR n l a t out done i u m) (hx : n.links[m]? = some x) (ho : othr x (i : Int) < 0) : DijR n l a t out done i u (m + 1) := by
  have hok := hn.at hx
  refine { h with cli := closed_snoc h.cli hx ?_ }
  unfold othr at ho
  split at ho
  · omega
  · split at ho
    · omega
    · exact ⟨fun e => by omega, fun e => by omega⟩
theorem DijR.keep {n : NetP} {l : List FogD} {a t : Int} {out : List Int} {done : List Bool} {i : Nat} {u : Int} {m : Nat} {x : LinkD} (hn : NetOk n) (h : DijR n l a t out done i u m) (hx : n.links[m]? = some x) {j : Nat} {w : Int} (ho : othr x (i : Int) = (j : Int)) (hw : out[j]? = some w) (h0 : 0 ≤ w) (hb : w ≤ over l (m : Int) x u) : DijR n l a t out done i u (m + 1) := by
  have hok := hn.at hx
  have he := othr_ends hok ho
  refine { h with cli := closed_snoc h.cli hx ?_ }
  have gi := gI_get h.at_
  have gj := gI_get hw
  rcases he with ⟨e1, e2⟩ | ⟨e1, e2⟩
  · refine ⟨fun _ => ?_, fun e => by omega⟩
    rw [e1, e2, gi, gj]; exact ⟨h0, hb⟩
  · refine ⟨fun e => by omega, fun _ => ?_⟩
    rw [e1, e2, gi, gj]; exact ⟨h0, hb⟩
theorem DijR.set {n : NetP} {l : List FogD} {a t : Int} {q : Nat} {out : List Int} {done : List Bool} {i : Nat} {u : Int} {m : Nat} {x : LinkD} (hf : FogsOk q l) (hn : NetOk n) (ha : 0 ≤ a) (h : DijR n l a t out done i u m) (hx : n.links[m]? = some x) {j : Nat} {w : Int} (ho : othr x (i : Int) = (j : Int)) (hw : out[j]? = some w) (hb : w < 0 ∨ over l (m : Int) x u < w) : DijR n l a t (out.set j (over l (m : Int) x u)) done i u (m + 1) := by
  have hok := hn.at hx
  have he := othr_ends hok ho
  have hgt := over_gt l (m : Int) u hok.2.2.2.1
  obtain ⟨b1, b2, b3⟩ := better hf h.tms h.bnd hn.t2 ha hx ⟨hok.2.2.2.1, hok.2.2.2.2⟩ he h.at_ h.pos hw hb
  have hij : i ≠ j := by omega
  have hjl : j < out.length := (List.getElem?_eq_some_iff.1 hw).1
  have hpos := h.pos
  have hself : gI (out.set j (over l (m : Int) x u)) (j : Int) = over l (m : Int) x u := by
    have := gI_self (out := out) (i := (j : Int)) (v := over l (m : Int) x u) (by omega) (by omega)
    simpa using this
  have hother : ∀ c : Int, 0 ≤ c → c ≠ (j : Int) → gI (out.set j (over l (m : Int) x u)) c = gI out c := by
    intro c hc hne
    have := gI_ne (out := out) (i := (j : Int)) (j := c) (v := over l (m : Int) x u) (by omega) hc (fun e => hne e.symm)
    simpa using this
  have hjd : done[j]? ≠ some true := by
    intro hc
    have h1 := h.below j hc
    have h2 := (h.cl j hc (fun e => hij e.symm)).1
    rw [gI_get hw] at h1 h2
    omega
  have hle : ∀ c : Int, 0 ≤ c → 0 ≤ gI out c → 0 ≤ gI (out.set j (over l (m : Int) x u)) c ∧ gI (out.set j (over l (m : Int) x u)) c ≤ gI out c := by
    intro c hc h0
    by_cases e : c = (j : Int)
    · subst e; rw [hself]; rw [gI_get hw] at h0 ⊢; omega
    · rw [hother c hc e]; exact ⟨h0, Int.le_refl _⟩
  have hcl : ∀ (d : Nat) (m' : Nat), d ≠ j → Closed n l out (d : Int) m' → Closed n l (out.set j (over l (m : Int) x u)) (d : Int) m' := by
    intro d m' hd hc k y hk hy
    obtain ⟨c1, c2⟩ := hc k y hk hy
    have hyo := hn.at hy
    refine ⟨fun e => ?_, fun e => ?_⟩
    · obtain ⟨g1, g2⟩ := c1 e
      have := hle y.b (by omega) g1
      rw [hother y.a (by omega) (by omega)]
      exact ⟨this.1, Int.le_trans this.2 g2⟩
    · obtain ⟨g1, g2⟩ := c2 e
      have := hle y.a (by omega) g1
      rw [hother y.b (by omega) (by omega)]
      exact ⟨this.1, Int.le_trans this.2 g2⟩
  have hiu : gI (out.set j (over l (m : Int) x u)) (i : Int) = u := by rw [hother i (by omega) (by omega), gI_get h.at_]
  refine ⟨b1, b2, h.len, by rw [List.getElem?_set_ne (Ne.symm hij)]; exact h.at_, h.pos, h.isd, fun d hd hne => ?_, ?_, fun d hd => ?_, fun d hd h0 => ?_⟩
  · have hdj : d ≠ j := fun e => hjd (e ▸ hd)
    obtain ⟨g1, g2⟩ := h.cl d hd hne
    exact ⟨(hle d (by omega) g1).1, hcl d _ hdj g2⟩
  · refine closed_snoc (hcl i m hij h.cli) hx ?_
    rcases he with ⟨e1, e2⟩ | ⟨e1, e2⟩
    · refine ⟨fun _ => ?_, fun e => by omega⟩
      rw [e1, e2, hiu, hself]; omega
    · refine ⟨fun e => by omega, fun _ => ?_⟩
      rw [e1, e2, hiu, hself]; omega
  · have hdj : d ≠ j := fun e => hjd (e ▸ hd)
    rw [hother d (by omega) (by omega)]; exact h.below d hd
  · by_cases e : d = j
    · subst e; rw [hself]; omega
    · rw [hother d (by omega) (by omega)] at h0 ⊢; exact h.above d hd h0
theorem Dij.arr {n : NetP} {l : List FogD} {a t : Int} {out : List Int} {done : List Bool} (hn : NetOk n) (h : Dij n l a t out done) {k : Nat} (hk : n.towers.length ≤ k) {i : Int} (hl : Least out done k i) (hi : i < 0) : Arr n l a t out := by
  refine ⟨h.tms, fun k' x hk' hx => ?_⟩
  have hok := hn.at hx
  have hd : ∀ c : Int, 0 ≤ c → c < (n.towers.length : Int) → 0 ≤ gI out c → done[c.toNat]? = some true := by
    intro c h0 h1 h2
    have hcl : c.toNat < done.length := by have := h.len; omega
    cases hb : done[c.toNat] with
    | true => rw [List.getElem?_eq_getElem hcl, hb]
    | false =>
      have := hl.no hi c.toNat (by omega) (by rw [List.getElem?_eq_getElem hcl, hb])
      rw [show ((c.toNat : Nat) : Int) = c by omega] at this
      omega
  refine ⟨fun h0 => ?_, fun h0 => ?_⟩
  · have := (h.cl _ (hd x.a (by omega) (by omega) h0)).2 k' x hk' hx
    exact this.1 (by omega)
  · have := (h.cl _ (hd x.b (by omega) (by omega) h0)).2 k' x hk' hx
    exact this.2 (by omega)
/-- how many are not yet done -/
def undone (done : List Bool) : Nat := (done.map fun b => if b = true then 0 else 1).sum
theorem undone_set : ∀ {done : List Bool} {i : Nat}, done[i]? = some false → undone (done.set i true) < undone done
  | [], i, h => by simp at h
  | b :: l, 0, h => by simp at h; subst h; simp [undone]
  | b :: l, i + 1, h => by
    have := undone_set (done := l) (i := i) (by simpa using h)
    simp only [undone, List.set_cons_succ, List.map_cons, List.sum_cons] at *; omega
theorem Dij.start {n : NetP} {l : List FogD} {a t : Int} {out : List Int} (hT : Tms n l a t out) (hB : Bnd out) : Dij n l a t out (List.replicate n.towers.length false) := by
  have hf : ∀ (i : Nat), (List.replicate n.towers.length false)[i]? = some true → False := by
    intro i hi
    have := (List.mem_replicate.1 (List.mem_of_getElem? hi)).2
    cases this
  exact ⟨hT, hB, by simp, fun i hi => (hf i hi).elim, fun i j hi => (hf i hi).elim⟩
end Go.Proofs.Ytgbaonaopkdlpaa



/- Ways: plain laws. Condition: none. -/
namespace Go.Proofs.Ytgbaonaopkdlpaa
open Go.Vc
set_option linter.all false

/-! ### What is asked -/
structure WayAsk (n : NetP) (l : List FogD) (a b t : Int) : Prop where
 hn : NetOk n
 ha : 0 ≤ a ∧ a ≤ (n.towers.length : Int) - 1
 hb : 0 ≤ b ∧ b ≤ (n.towers.length : Int) - 1
 hf : FogsOk n.links.length l
 ht : 0 ≤ t ∧ t ≤ 10000
noncomputable instance (n : NetP) (l : List FogD) (a b t : Int) : Decidable (WayAsk n l a b t) := Classical.propDecidable _
theorem wayAsk_iff {n : NetP} {l : List FogD} {a b t : Int} : WayAsk n l a b t ↔ NetOk n ∧ (0 ≤ a ∧ a ≤ (n.towers.length : Int) - 1) ∧ (0 ≤ b ∧ b ≤ (n.towers.length : Int) - 1) ∧ FogsOk n.links.length l ∧ (0 ≤ t ∧ t ≤ 10000) :=
 ⟨fun h => ⟨h.hn, h.ha, h.hb, h.hf, h.ht⟩, fun ⟨h1, h2, h3, h4, h5⟩ => ⟨h1, h2, h3, h4, h5⟩⟩
theorem WayAsk.arr {n : NetP} {l : List FogD} {a b t : Int} (h : WayAsk n l a b t) : Arr n l a t (arrOf n l a t) := arrOf_arr h.hn h.ha h.ht.1
theorem arrOf_len (n : NetP) (l : List FogD) (a t : Int) : (arrOf n l a t).length = n.towers.length := by simp [arrOf]

/-! ### Who was before -/
theorem Arr.pred {n : NetP} {l : List FogD} {a t : Int} {out : List Int} (h : Arr n l a t out) {i : Int} (hi : 0 ≤ i) (hl : i ≤ (n.towers.length : Int) - 1) (h0 : 0 ≤ gI out i) (hne : i ≠ a) :
    ∃ (p : Int) (k : Nat) (x : LinkD), n.links[k]? = some x ∧ ((x.a = p ∧ x.b = i) ∨ (x.b = p ∧ x.a = i)) ∧ 0 ≤ gI out p ∧ over l (k : Int) x (gI out p) = gI out i := by
  obtain ⟨v, hv, hg⟩ := gI_of (out := out) hi (by rw [h.tms.len]; omega)
  rw [hg] at h0
  have hr := h.tms.rch i.toNat v hv h0
  rw [show ((i.toNat : Nat) : Int) = i by omega] at hr
  cases hr with
  | start => exact absurd rfl hne
  | @hop p u _ _ hr hh =>
    obtain ⟨k, x, hx, hd, he⟩ := hh.out
    have hk := (List.getElem?_eq_some_iff.1 hx).1
    have hlp := h.least hr
    obtain ⟨d1, d2⟩ := h.done k x hk hx
    have hm := over_mono l (k : Int) x hlp.2
    refine ⟨p, k, x, hx, hd, hlp.1, ?_⟩
    rcases hd with ⟨rfl, rfl⟩ | ⟨rfl, rfl⟩
    · have := d1 hlp.1; omega
    · have := d2 hlp.1; omega

/-! ### No time is very late -/
def rnk (out : List Int) (v : Int) : Nat := (out.map fun w => if 0 ≤ w ∧ w ≤ v then 1 else 0).sum
theorem rnk_mono (out : List Int) {v v' : Int} (h : v ≤ v') : rnk out v ≤ rnk out v' := by
  induction out with
  | nil => simp [rnk]
  | cons x l ih =>
    simp only [rnk, List.map_cons, List.sum_cons] at *
    split <;> split <;> omega
theorem rnk_lt {out : List Int} {v v' w : Int} (h : v < w) (h' : w ≤ v') (h0 : 0 ≤ w) (hm : w ∈ out) : rnk out v + 1 ≤ rnk out v' := by
  induction out with
  | nil => cases hm
  | cons x l ih =>
    have hmo := rnk_mono l (show v ≤ v' by omega)
    simp only [rnk, List.map_cons, List.sum_cons] at *
    rcases List.mem_cons.1 hm with rfl | hm
    · rw [if_neg (by omega), if_pos (by omega)]; omega
    · have := ih hm
      split <;> split <;> omega
theorem rnk_le (out : List Int) (v : Int) : rnk out v ≤ out.length := by
  induction out with
  | nil => simp [rnk]
  | cons x l ih => simp only [rnk, List.map_cons, List.sum_cons, List.length_cons] at *; split <;> omega
theorem Arr.bound {n : NetP} {l : List FogD} {a t : Int} {out : List Int} {m : Nat} (hf : FogsOk m l) (hn : NetOk n) (ht : t ≤ 10000) (h : Arr n l a t out) : ∀ v ∈ out, v ≤ 10960 := by
  have key : ∀ (c : Nat) (i : Nat) (v : Int), v.toNat ≤ c → out[i]? = some v → 0 ≤ v → v ≤ 10000 + 60 * (rnk out v : Int) := by
    intro c
    induction c with
    | zero => intro i v hc hv h0; omega
    | succ c ih =>
      intro i v hc hv h0
      by_cases he : (i : Int) = a
      · have := h.tms.top
        rw [← he, gI_get hv] at this
        omega
      · have hil : i < out.length := (List.getElem?_eq_some_iff.1 hv).1
        obtain ⟨p, k, x, hx, hd, hp0, hpo⟩ := h.pred (i := (i : Int)) (by omega) (by have := h.tms.len; omega) (by rw [gI_get hv]; exact h0) he
        have hok := hn.at hx
        rw [gI_get hv] at hpo
        obtain ⟨w, hw, hg⟩ := gI_of (out := out) (i := p) (by omega) (by rw [h.tms.len]; omega)
        rw [hg] at hpo hp0
        have hlt := over_gt l (k : Int) w hok.2.2.2.1
        have := ih p.toNat w (by omega) hw hp0
        have hr := rnk_lt (out := out) (v := w) (v' := v) (w := v) (by omega) (Int.le_refl _) h0 (List.mem_of_getElem? hv)
        have hs := stF_le hf (k : Int) x.delay w
        unfold over at hpo
        omega
  intro v hv
  by_cases h0 : 0 ≤ v
  · obtain ⟨i, hi, rfl⟩ := List.getElem_of_mem hv
    have h1 := key _ i _ (Nat.le_refl _) (List.getElem?_eq_getElem hi) h0
    have h2 := rnk_le out out[i]
    have h3 := h.tms.len
    have h4 := hn.t2
    omega
  · omega
theorem WayAsk.le {n : NetP} {l : List FogD} {a b t : Int} (h : WayAsk n l a b t) (i : Int) : -1 ≤ gI (arrOf n l a t) i ∧ gI (arrOf n l a t) i ≤ 10960 := by
  have ha := h.arr
  have hb := ha.bound h.hf h.hn h.ht.2
  have hg := ha.tms.neg
  simp only [gI, List.getD_eq_getElem?_getD]
  cases hq : (arrOf n l a t)[i.toNat]? with
  | none => simp
  | some v =>
    have hm := List.mem_of_getElem? hq
    have h1 := hb v hm
    have h2 := hg v hm
    simp only [Option.getD_some]
    omega

/-! ### Later starts arrive later -/
theorem Rch.mono {n : NetP} {l : List FogD} {a t t' : Int} (ht : t' ≤ t) {i u : Int} (h : Rch n l a t i u) : ∃ u', u' ≤ u ∧ Rch n l a t' i u' := by
  induction h with
  | start => exact ⟨t', ht, .start⟩
  | hop hr hh ih =>
    obtain ⟨u', hu, hr'⟩ := ih
    obtain ⟨k, x, hx, hd, rfl⟩ := hh.out
    exact ⟨over l k x u', over_mono l _ x hu, .hop hr' ⟨k, x, hx, hd, rfl⟩⟩
theorem Rch.any {n : NetP} {l l' : List FogD} {a t t' : Int} {i u : Int} (h : Rch n l a t i u) : ∃ u', Rch n l' a t' i u' := by
  induction h with
  | start => exact ⟨t', .start⟩
  | hop hr hh ih =>
    obtain ⟨u', hr'⟩ := ih
    obtain ⟨k, x, hx, hd, rfl⟩ := hh.out
    exact ⟨over l' k x u', .hop hr' ⟨k, x, hx, hd, rfl⟩⟩
theorem arr_mono {n : NetP} {l : List FogD} {a t t' : Int} (hn : NetOk n) (ha : 0 ≤ a ∧ a ≤ (n.towers.length : Int) - 1) (h0 : 0 ≤ t') (ht : t' ≤ t) {i : Int} (hi : 0 ≤ i ∧ i ≤ (n.towers.length : Int) - 1) : gI (arrOf n l a t') i ≤ gI (arrOf n l a t) i := by
  have h1 := arrOf_arr (l := l) hn ha (show 0 ≤ t by omega)
  have h2 := arrOf_arr (l := l) hn ha h0
  rw [arrOf_get hi.1 hi.2, arrOf_get hi.1 hi.2]
  rcases best_spec n l a t i with h3 | ⟨h3, h4⟩
  · rcases best_spec n l a t' i with h5 | ⟨h5, h6⟩
    · omega
    · obtain ⟨u, hu⟩ := h6.any (l' := l) (t' := t)
      have := hu.ge hn
      have := best_some hu (by omega)
      omega
  · obtain ⟨u, hu, hr⟩ := h4.mono ht
    have := hr.ge hn
    have := best_some hr (by omega)
    omega
theorem arr_some {n : NetP} {l l' : List FogD} {a t t' : Int} (hn : NetOk n) (ha : 0 ≤ a ∧ a ≤ (n.towers.length : Int) - 1) (h0 : 0 ≤ t) (h0' : 0 ≤ t') {i : Int} (hi : 0 ≤ i ∧ i ≤ (n.towers.length : Int) - 1) (h : 0 ≤ gI (arrOf n l a t) i) : 0 ≤ gI (arrOf n l' a t') i := by
  rw [arrOf_get hi.1 hi.2] at h ⊢
  rcases best_spec n l a t i with h3 | ⟨h3, h4⟩
  · omega
  · obtain ⟨u, hu⟩ := h4.any (l' := l') (t' := t')
    have := hu.ge hn
    exact (best_some hu (by omega)).1

/-! ### First arrivals -/
noncomputable def firstOf (n : NetP) (l : List FogD) (a b t : Int) : Int × Bool := if WayAsk n l a b t ∧ 0 ≤ gI (arrOf n l a t) b then (gI (arrOf n l a t) b, true) else (0, false)
theorem first_no {n : NetP} {l : List FogD} {a b t : Int} (h : ¬ WayAsk n l a b t) : firstOf n l a b t = (0, false) := by rw [firstOf, if_neg fun hc => h hc.1]
theorem first_neg {n : NetP} {l : List FogD} {a b t : Int} (h : gI (arrOf n l a t) b < 0) : firstOf n l a b t = (0, false) := by rw [firstOf, if_neg fun hc => by omega]
theorem first_yes {n : NetP} {l : List FogD} {a b t : Int} (h : WayAsk n l a b t) (h0 : 0 ≤ gI (arrOf n l a t) b) : firstOf n l a b t = (gI (arrOf n l a t) b, true) := by rw [firstOf, if_pos ⟨h, h0⟩]
theorem first_bd (n : NetP) (l : List FogD) (a b t : Int) : 0 ≤ (firstOf n l a b t).1 ∧ (firstOf n l a b t).1 ≤ 10960 := by
  unfold firstOf
  split
  · rename_i h; have := h.1.le b; exact ⟨h.2, this.2⟩
  · simp
theorem wayAsk_plain {n : NetP} {l : List FogD} {a b t : Int} (h : WayAsk n l a b t) : WayAsk n [] a b 0 := ⟨h.hn, h.ha, h.hb, fogs_nil _, by omega⟩
noncomputable def fogDelay (n : NetP) (l : List FogD) (a b t : Int) : Int × Bool := if (firstOf n l a b t).2 = true then ((firstOf n l a b t).1 - t - (firstOf n [] a b 0).1, true) else (0, false)

/-! ### The latest start -/
structure IsLate (n : NetP) (l : List FogD) (a b t s : Int) : Prop where
 bd : 0 ≤ s ∧ s ≤ t
 yes : gI (arrOf n l a s) b ≤ t
 no : ∀ q, s < q → q ≤ t → t < gI (arrOf n l a q) b
theorem IsLate.uniq {n : NetP} {l : List FogD} {a b t s s' : Int} (h : IsLate n l a b t s) (h' : IsLate n l a b t s') : s = s' := by
  have h1 := h.bd; have h2 := h'.bd; have h3 := h.yes; have h4 := h'.yes
  by_cases e : s < s'
  · have := h.no s' e (by omega); omega
  · by_cases e' : s' < s
    · have := h'.no s e' (by omega); omega
    · omega
noncomputable def lateOf (n : NetP) (l : List FogD) (a b t : Int) : Int := open Classical in if h : ∃ s, IsLate n l a b t s then Classical.choose h else 0
theorem lateOf_eq {n : NetP} {l : List FogD} {a b t s : Int} (h : IsLate n l a b t s) : s = lateOf n l a b t := by
 have he : ∃ s, IsLate n l a b t s := ⟨s, h⟩
 unfold lateOf
 rw [dif_pos he]
 exact h.uniq (Classical.choose_spec he)
/-- on the way of halving -/
structure Late (n : NetP) (l : List FogD) (a b t lo hi : Int) : Prop where
 bd : 0 ≤ lo ∧ lo ≤ hi ∧ hi ≤ t
 yes : gI (arrOf n l a lo) b ≤ t
 no : ∀ q, hi < q → q ≤ t → t < gI (arrOf n l a q) b
theorem Late.start {n : NetP} {l : List FogD} {a b t : Int} (ht : 0 ≤ t) (h : ¬ gI (arrOf n l a 0) b > t) : Late n l a b t 0 t := ⟨by omega, by omega, fun q h1 h2 => by omega⟩
theorem Late.up {n : NetP} {l : List FogD} {a b t lo hi m : Int} (h : Late n l a b t lo hi) (hm : lo ≤ m ∧ m ≤ hi) (hy : gI (arrOf n l a m) b ≤ t) : Late n l a b t m hi := ⟨by have := h.bd; omega, hy, h.no⟩
theorem Late.down {n : NetP} {l : List FogD} {a b t lo hi m : Int} (hw : WayAsk n l a b t) (h : Late n l a b t lo hi) (hm : lo < m ∧ m ≤ hi) (hy : ¬ gI (arrOf n l a m) b ≤ t) : Late n l a b t lo (m - 1) :=
 ⟨by have := h.bd; omega, h.yes, fun q h1 h2 => by
  have h3 := h.bd
  have := arr_mono (l := l) hw.hn hw.ha (t := q) (t' := m) (by omega) (by omega) hw.hb
  omega⟩
theorem Late.ends {n : NetP} {l : List FogD} {a b t lo hi : Int} (h : Late n l a b t lo hi) (he : ¬ lo < hi) : lo = lateOf n l a b t := by
 have hb := h.bd
 exact lateOf_eq ⟨by omega, h.yes, fun q h1 h2 => h.no q (by omega) h2⟩
theorem late_any {n : NetP} {l : List FogD} {a b t s : Int} (hw : WayAsk n l a b t) (h : ¬ gI (arrOf n l a 0) b < 0) (hs : 0 ≤ s) : 0 ≤ gI (arrOf n l a s) b := arr_some (l := l) (t := 0) hw.hn hw.ha (by omega) hs hw.hb (by omega)
noncomputable def latest (n : NetP) (l : List FogD) (a b t : Int) : Int × Bool := if WayAsk n l a b t ∧ 0 ≤ gI (arrOf n l a 0) b ∧ gI (arrOf n l a 0) b ≤ t then (lateOf n l a b t, true) else (0, false)

/-! ### The net without a link -/
theorem lkLt_trans {x y z : LinkD} (h : lkLt x y) (h' : lkLt y z) : lkLt x z := by unfold lkLt at *; omega
/-! ### The link between two towers -/
abbrev btw (a b : Int) (x : LinkD) : Bool := decide ((x.a = a ∧ x.b = b) ∨ (x.a = b ∧ x.b = a))
def lkI (n : NetP) (a b : Int) : Int := firstF (btw a b) n.links 0
theorem firstF_spec {α : Type} (p : α → Bool) : ∀ (xs : List α) (i : Nat), (firstF p xs i = -1 ∧ ∀ x ∈ xs, p x = false) ∨ ∃ (j : Nat) (x : α), firstF p xs i = ((i + j : Nat) : Int) ∧ xs[j]? = some x ∧ p x = true ∧ ∀ (q : Nat) (y : α), q < j → xs[q]? = some y → p y = false
  | [], i => .inl ⟨rfl, by simp⟩
  | x :: xs, i => by
    simp only [firstF]
    cases hp : p x with
    | true => exact .inr ⟨0, x, by simp, rfl, hp, fun q y hq => by omega⟩
    | false =>
      simp only [cond_false]
      rcases firstF_spec p xs (i + 1) with ⟨h1, h2⟩ | ⟨j, y, h1, h2, h3, h4⟩
      · left
        refine ⟨h1, fun y hy => ?_⟩
        rcases List.mem_cons.1 hy with rfl | hy
        · exact hp
        · exact h2 y hy
      · right
        refine ⟨j + 1, y, by rw [h1]; omega, by simpa using h2, h3, fun q z hq hz => ?_⟩
        cases q with
        | zero => simp at hz; subst hz; exact hp
        | succ q => exact h4 q z (by omega) (by simpa using hz)
theorem lkLt_of {n : NetP} (h : NetOk n) {i j : Nat} {x y : LinkD} (hx : n.links[i]? = some x) (hy : n.links[j]? = some y) (hij : i < j) : lkLt x y := by
  induction j generalizing y with
  | zero => omega
  | succ j ih =>
    have hj := (List.getElem?_eq_some_iff.1 hy).1
    have hz := List.getElem?_eq_getElem (show j < n.links.length by omega)
    have hzy := (h.lnk (j + 1) y hj hy).2 (by omega) _ hz
    by_cases e : i = j
    · subst e; rw [hx] at hz; have := Option.some.inj hz; subst this; exact hzy
    · exact lkLt_trans (ih hz (by omega)) hzy
theorem lkI_spec {n : NetP} (h : NetOk n) (a b : Int) : (lkI n a b = -1 ∧ ∀ x ∈ n.links, btw a b x = false) ∨ ∃ (k : Nat) (x : LinkD), lkI n a b = (k : Int) ∧ n.links[k]? = some x ∧ btw a b x = true ∧ ∀ (q : Nat) (y : LinkD), n.links[q]? = some y → btw a b y = true → q = k := by
  rcases firstF_spec (btw a b) n.links 0 with h1 | ⟨j, x, h1, h2, h3, h4⟩
  · exact .inl h1
  · right
    refine ⟨j, x, by rw [lkI, h1]; omega, h2, h3, fun q y hq hy => ?_⟩
    have e1 := h.at h2
    have e2 := h.at hq
    simp only [btw, decide_eq_true_eq] at h3 hy
    rcases Nat.lt_trichotomy q j with e | e | e
    · have := lkLt_of h hq h2 e
      unfold lkLt at this; omega
    · exact e
    · have := lkLt_of h h2 hq e
      unfold lkLt at this; omega
theorem lkI_bd {n : NetP} (h : NetOk n) (a b : Int) : -1 ≤ lkI n a b ∧ lkI n a b ≤ (n.links.length : Int) - 1 := by
  rcases lkI_spec h a b with h1 | ⟨k, x, h1, h2, _⟩
  · omega
  · have := (List.getElem?_eq_some_iff.1 h2).1; omega

/-! ### The tower before another one -/
structure Good (n : NetP) (l : List FogD) (first : List Int) (i p : Int) : Prop where
  pos : 0 ≤ gI first p
  out : ∃ (k : Nat) (x : LinkD), n.links[k]? = some x ∧ btw p i x = true ∧ over l (k : Int) x (gI first p) = gI first i
theorem good_lk {n : NetP} (hn : NetOk n) {l : List FogD} {first : List Int} {i p : Int} : Good n l first i p ↔ (0 ≤ lkI n p i ∧ 0 ≤ gI first p ∧ over l (lkI n p i) (lk n (lkI n p i)) (gI first p) = gI first i) := by
  constructor
  · rintro ⟨h1, k, x, h2, h3, h4⟩
    rcases lkI_spec hn p i with ⟨_, h5⟩ | ⟨k', x', h5, h6, _, h7⟩
    · rw [h5 x (List.mem_of_getElem? h2)] at h3; cases h3
    · obtain rfl := h7 k x h2 h3
      rw [h5, lk_get h2]
      exact ⟨by omega, h1, h4⟩
  · rintro ⟨h1, h2, h3⟩
    rcases lkI_spec hn p i with ⟨h5, _⟩ | ⟨k', x', h5, h6, h7, _⟩
    · omega
    · rw [h5, lk_get h6] at h3
      exact ⟨h2, k', x', h6, h7, h3⟩
structure IsPrev (n : NetP) (l : List FogD) (first : List Int) (i p : Int) : Prop where
  bd : 0 ≤ p
  good : Good n l first i p
  least : ∀ q, 0 ≤ q → q < p → ¬ Good n l first i q
theorem IsPrev.uniq {n : NetP} {l : List FogD} {first : List Int} {i p p' : Int} (h : IsPrev n l first i p) (h' : IsPrev n l first i p') : p = p' := by
  have h1 := h.bd; have h2 := h'.bd
  by_cases e : p < p'
  · exact absurd h.good (h'.least p h1 e)
  · by_cases e' : p' < p
    · exact absurd h'.good (h.least p' h2 e')
    · omega
noncomputable def prevOf (n : NetP) (l : List FogD) (first : List Int) (i : Int) : Int := open Classical in if h : ∃ p, IsPrev n l first i p then Classical.choose h else -1
theorem prevOf_eq {n : NetP} {l : List FogD} {first : List Int} {i p : Int} (h : IsPrev n l first i p) : p = prevOf n l first i := by
 have he : ∃ p, IsPrev n l first i p := ⟨p, h⟩
 unfold prevOf
 rw [dif_pos he]
 exact h.uniq (Classical.choose_spec he)
theorem Good.tower {n : NetP} (hn : NetOk n) {l : List FogD} {first : List Int} {i p : Int} (h : Good n l first i p) : 0 ≤ p ∧ p ≤ (n.towers.length : Int) - 1 := by
 obtain ⟨k, x, hx, hb, _⟩ := h.out
 have := hn.at hx
 simp only [btw, decide_eq_true_eq] at hb
 omega
theorem Good.lt {n : NetP} (hn : NetOk n) {l : List FogD} {first : List Int} {i p : Int} (h : Good n l first i p) : gI first p < gI first i := by
 obtain ⟨k, x, hx, hb, ho⟩ := h.out
 have h1 := hn.at hx
 have := over_gt l (k : Int) (gI first p) h1.2.2.2.1
 omega
theorem Arr.good {n : NetP} {l : List FogD} {a t : Int} {out : List Int} (h : Arr n l a t out) {i : Int} (hi : 0 ≤ i) (hl : i ≤ (n.towers.length : Int) - 1) (h0 : 0 ≤ gI out i) (hne : i ≠ a) : ∃ p, Good n l out i p := by
  obtain ⟨p, k, x, hx, hd, hp, ho⟩ := h.pred hi hl h0 hne
  exact ⟨p, hp, k, x, hx, by simp only [btw, decide_eq_true_eq]; omega, ho⟩
/-- the way to i, found from its end -/
noncomputable def wayL (n : NetP) (l : List FogD) (first : List Int) (a : Int) : Nat → Int → List Int
  | 0, i => [i]
  | f + 1, i => if i = a then [i] else wayL n l first a f (prevOf n l first i) ++ [i]
/-! ### Along a way -/
structure WayOk (n : NetP) (way : List Int) : Prop where
  len : 1 ≤ way.length ∧ way.length ≤ 16
  all : AllIn 0 ((n.towers.length : Int) - 1) way
  step : ∀ (i : Nat) (x : Int), way[i]? = some x → x ∉ way.take i ∧ (0 < i → ∀ y, way[i - 1]? = some y → 0 ≤ lkI n y x)
noncomputable instance (n : NetP) (way : List Int) : Decidable (WayOk n way) := Classical.propDecidable _
/-- the first k towers of a way are well -/
abbrev WayTo (n : NetP) (way : List Int) (k : Nat) : Prop := ∀ (i : Nat) (x : Int), i < k → way[i]? = some x → x ∉ way.take i ∧ (0 < i → ∀ y, way[i - 1]? = some y → 0 ≤ lkI n y x)
theorem way_snoc {n : NetP} {way : List Int} {k : Nat} {x : Int} (h : WayTo n way k) (hx : way[k]? = some x) (h1 : x ∉ way.take k) (h2 : 0 < k → ∀ y, way[k - 1]? = some y → 0 ≤ lkI n y x) : WayTo n way (k + 1) := by
  intro i y hi hy
  by_cases e : i = k
  · subst e; rw [hx] at hy; obtain rfl := Option.some.inj hy; exact ⟨h1, h2⟩
  · exact h i y (by omega) hy
theorem way_end {n : NetP} {way : List Int} {k : Nat} (hl : 1 ≤ way.length ∧ way.length ≤ 16) (ha : AllIn 0 ((n.towers.length : Int) - 1) way) (h : WayTo n way k) (hk : ¬ (k : Int) < (way.length : Int)) : decide (WayOk n way) = true :=
 decide_eq_true ⟨hl, ha, fun i x hx => h i x (by have := (List.getElem?_eq_some_iff.1 hx).1; omega) hx⟩
theorem way_bad {n : NetP} {way : List Int} {k : Nat} {x : Int} (hx : way[k]? = some x) (h : ¬ (x ∉ way.take k ∧ (0 < k → ∀ y, way[k - 1]? = some y → 0 ≤ lkI n y x))) : decide (WayOk n way) = false := decide_eq_false fun hn => h (hn.step k x hx)
theorem way_bad1 {n : NetP} {way : List Int} (h : ¬ (1 ≤ way.length ∧ way.length ≤ 16)) : decide (WayOk n way) = false := decide_eq_false fun hn => h hn.len
theorem way_bad2 {n : NetP} {way : List Int} (h : ¬ AllIn 0 ((n.towers.length : Int) - 1) way) : decide (WayOk n way) = false := decide_eq_false fun hn => h hn.all
def linksTo (n : NetP) (way : List Int) (k : Nat) : List Int := (List.range k).map fun i : Nat => lkI n (gI way (i : Int)) (gI way ((i : Int) + 1))
def linksOf (n : NetP) (way : List Int) : List Int := linksTo n way (way.length - 1)
theorem linksTo_len (n : NetP) (way : List Int) (k : Nat) : (linksTo n way k).length = k := by simp [linksTo]
theorem linksTo_succ (n : NetP) (way : List Int) (k : Nat) : linksTo n way (k + 1) = linksTo n way k ++ [lkI n (gI way (k : Int)) (gI way ((k : Int) + 1))] := by simp [linksTo, List.range_succ]
theorem linksTo_at {n : NetP} {way : List Int} {k : Nat} {x y : Int} (hx : way[k]? = some x) (hy : way[k + 1]? = some y) : linksTo n way (k + 1) = linksTo n way k ++ [lkI n x y] := by
 rw [linksTo_succ, gI_get hx, show ((k : Int) + 1) = ((k + 1 : Nat) : Int) by omega, gI_get hy]
theorem linksTo_take (n : NetP) (way : List Int) {k m : Nat} (h : k ≤ m) : (linksTo n way m).take k = linksTo n way k := by
 simp only [linksTo, ← List.map_take, List.take_range]
 rw [Nat.min_eq_left h]
theorem linksOf_at {n : NetP} {way : List Int} {k : Nat} {x y : Int} (hx : way[k]? = some x) (hy : way[k + 1]? = some y) : (linksOf n way)[k]? = some (lkI n x y) := by
 have hk := (List.getElem?_eq_some_iff.1 hy).1
 have h1 : (linksOf n way).take (k + 1) = linksTo n way (k + 1) := linksTo_take n way (by omega)
 have h2 : ((linksOf n way).take (k + 1))[k]? = some (lkI n x y) := by
  rw [h1, linksTo_at hx hy, List.getElem?_append_right (by rw [linksTo_len]; omega), linksTo_len, Nat.sub_self]; rfl
 rwa [List.getElem?_take_of_lt (by omega)] at h2
theorem WayOk.links {n : NetP} {way : List Int} (hn : NetOk n) (h : WayOk n way) {k : Nat} {z : Int} (hz : (linksOf n way)[k]? = some z) : 0 ≤ z ∧ z ≤ (n.links.length : Int) - 1 := by
 have hk := (List.getElem?_eq_some_iff.1 hz).1
 rw [linksOf, linksTo_len] at hk
 have hx := List.getElem?_eq_getElem (show k < way.length by omega)
 have hy := List.getElem?_eq_getElem (show k + 1 < way.length by omega)
 rw [linksOf_at hx hy] at hz
 obtain rfl := Option.some.inj hz
 exact ⟨(h.step (k + 1) _ hy).2 (by omega) _ hx, (lkI_bd hn _ _).2⟩
theorem WayOk.link {n : NetP} {way : List Int} (h : WayOk n way) {k : Nat} {x y : Int} (hx : way[k]? = some x) (hy : way[k + 1]? = some y) : 0 ≤ lkI n x y := (h.step (k + 1) y hy).2 (by omega) x hx
def alStep (n : NetP) (l : List FogD) (s : Int × List Int) (k : Int) : Int × List Int := (over l k (lk n k) s.1, s.2 ++ [over l k (lk n k) s.1 - s.1 - (lk n k).delay])
def alTo (n : NetP) (l : List FogD) (ks : List Int) (t : Int) : Int × List Int := ks.foldl (alStep n l) (t, [])
theorem alTo_snoc (n : NetP) (l : List FogD) (ks : List Int) (t : Int) (k : Int) : alTo n l (ks ++ [k]) t = alStep n l (alTo n l ks t) k := by simp [alTo]
theorem alTo_len (n : NetP) (l : List FogD) (ks : List Int) (t : Int) : (alTo n l ks t).2.length = ks.length := by
  have : ∀ (ks : List Int) (s : Int × List Int), (ks.foldl (alStep n l) s).2.length = s.2.length + ks.length := by
    intro ks
    induction ks with
    | nil => intro s; simp
    | cons k ks ih => intro s; simp only [List.foldl_cons, ih, alStep, List.length_append, List.length_cons, List.length_nil]; omega
  simpa [alTo] using this ks (t, [])
/-- times on the way -/
theorem alTo_bd {n : NetP} {l : List FogD} {way : List Int} {t : Int} {m : Nat} (hn : NetOk n) (hf : FogsOk m l) (hw : WayOk n way) (ht : 0 ≤ t ∧ t ≤ 10000) : ∀ k, k ≤ (linksOf n way).length → t ≤ (alTo n l ((linksOf n way).take k) t).1 ∧ (alTo n l ((linksOf n way).take k) t).1 ≤ 10000 + 60 * (k : Int) := by
  intro k
  induction k with
  | zero => intro _; simp [alTo]; exact ht.2
  | succ k ih =>
    intro hk
    have hz := List.getElem?_eq_getElem (show k < (linksOf n way).length by omega)
    have hzb := hw.links hn hz
    generalize (linksOf n way)[k] = z at hz hzb
    rw [snoc_get hz, alTo_snoc]
    have h1 := ih (by omega)
    simp only [alStep]
    have hx := lk_at (n := n) hzb.1 hzb.2
    have hok := hn.at hx
    have h2 := over_gt l z (x := lk n z) (alTo n l ((linksOf n way).take k) t).1 hok.2.2.2.1
    have h3 := stF_le hf z (lk n z).delay (alTo n l ((linksOf n way).take k) t).1
    refine ⟨by omega, ?_⟩
    unfold over
    omega
structure AlongAsk (n : NetP) (l : List FogD) (way : List Int) (t : Int) : Prop where
  hn : NetOk n
  hf : FogsOk n.links.length l
  ht : 0 ≤ t ∧ t ≤ 10000
  hw : WayOk n way
noncomputable instance (n : NetP) (l : List FogD) (way : List Int) (t : Int) : Decidable (AlongAsk n l way t) := Classical.propDecidable _
noncomputable def alongOf (n : NetP) (l : List FogD) (way : List Int) (t : Int) : Int × List Int × Bool := if AlongAsk n l way t then ((alTo n l (linksOf n way) t).1, (alTo n l (linksOf n way) t).2, true) else (0, [], false)
theorem along_no {n : NetP} {l : List FogD} {way : List Int} {t : Int} (h : ¬ AlongAsk n l way t) : alongOf n l way t = (0, [], false) := by rw [alongOf, if_neg h]
theorem along_yes {n : NetP} {l : List FogD} {way : List Int} {t : Int} (h : AlongAsk n l way t) : alongOf n l way t = ((alTo n l (linksOf n way) t).1, (alTo n l (linksOf n way) t).2, true) := by rw [alongOf, if_pos h]
/-- the wait before a link -/
theorem alTo_wait {n : NetP} {l : List FogD} {ks : List Int} {t : Int} {k : Nat} {z w : Int} (hz : ks[k]? = some z) (hw : (alTo n l ks t).2[k]? = some w) : (alTo n l (ks.take (k + 1)) t).1 = (alTo n l (ks.take k) t).1 + (w + (lk n z).delay) := by
  have gen : ∀ (ks : List Int) (s : Int × List Int) (k : Nat) (z w : Int), ks[k]? = some z → (ks.foldl (alStep n l) s).2[s.2.length + k]? = some w → ((ks.take (k + 1)).foldl (alStep n l) s).1 = ((ks.take k).foldl (alStep n l) s).1 + (w + (lk n z).delay) := by
    intro ks
    have pre : ∀ (ks : List Int) (s : Int × List Int) (i : Nat), i < s.2.length → (ks.foldl (alStep n l) s).2[i]? = s.2[i]? := by
      intro ks
      induction ks with
      | nil => intro s i hi; rfl
      | cons y ks ih =>
        intro s i hi
        rw [List.foldl_cons, ih _ _ (by simp [alStep]; omega)]
        simp only [alStep]
        rw [List.getElem?_append_left hi]
    induction ks with
    | nil => intro s k z w hz; simp at hz
    | cons y ks ih =>
      intro s k z w hz hw
      cases k with
      | zero =>
        simp at hz; subst hz
        rw [List.foldl_cons, pre _ _ _ (by simp [alStep])] at hw
        simp only [alStep, Nat.add_zero, List.getElem?_append_right (Nat.le_refl _), Nat.sub_self, List.getElem?_cons_zero] at hw
        have := Option.some.inj hw
        simp only [List.take_succ_cons, List.take_zero, List.foldl_cons, List.foldl_nil, alStep]
        omega
      | succ k =>
        simp only [List.take_succ_cons, List.foldl_cons]
        refine ih _ _ _ _ (by simpa using hz) ?_
        rw [List.foldl_cons] at hw
        rw [show (alStep n l s y).2.length + k = s.2.length + (k + 1) by simp [alStep]; omega]
        exact hw
  exact gen ks (t, []) k z w hz (by simpa [alTo] using hw)
end Go.Proofs.Ytgbaonaopkdlpaa


