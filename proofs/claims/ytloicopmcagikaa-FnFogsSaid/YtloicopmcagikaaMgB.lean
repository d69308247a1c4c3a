/- Ro4, Rw2, Ro5, Ro13. Condition: none. -/
import Derived.Test.YtloicopmcagikaaMgA
/- Tests of fogs, and when a message starts. Condition: none. Printed in part by a program. -/
namespace Go.Proofs.Ytloicopmcagikaa
open Go.Vc
set_option linter.all false

abbrev FogOk (m : Nat) (x : FogD) : Prop := (0 ≤ x.link ∧ x.link ≤ (m : Int) - 1) ∧ 0 ≤ x.fr ∧ x.fr < x.til ∧ x.til ≤ 10000
abbrev fgLt (y x : FogD) : Prop := y.link < x.link ∨ (y.link = x.link ∧ y.til < x.fr)
abbrev FogsTo (m : Nat) (l : List FogD) (k : Nat) : Prop := ∀ i x, i < k → l[i]? = some x → FogOk m x ∧ (0 < i → ∀ y, l[i - 1]? = some y → fgLt y x)
def FogsOk (m : Nat) (l : List FogD) : Prop := l.length ≤ 60 ∧ FogsTo m l l.length
noncomputable instance (m : Nat) (l : List FogD) : Decidable (FogsOk m l) := Classical.propDecidable _
def fgCmp (a b : FogD) : Int := orL [cmpI a.link b.link, cmpI a.fr b.fr]
theorem fgCmp_lt {a b : FogD} : fgCmp a b < 0 ↔ (a.link < b.link ∨ (a.link = b.link ∧ a.fr < b.fr)) := by
  have h1 := @cmpI_neg a.link b.link
  have h2 := @cmpI_neg a.fr b.fr
  have h3 := @cmpI_zero a.link b.link
  have h4 := cmpI_bd a.link b.link
  have h5 := cmpI_bd a.fr b.fr
  unfold fgCmp orL orL orL
  split
  · omega
  · split <;> omega
theorem fogs_snoc {m : Nat} {l : List FogD} {k : Nat} {x : FogD} (h : FogsTo m l k) (hx : l[k]? = some x) (hp : FogOk m x) (hs : 0 < k → ∀ y, l[k - 1]? = some y → fgLt y x) : FogsTo m l (k + 1) := by
  intro i y hi hy
  by_cases e : i = k
  · subst e; rw [hx] at hy; obtain rfl := Option.some.inj hy; exact ⟨hp, hs⟩
  · exact h i y (by omega) hy
theorem fogs_bad {m : Nat} {l : List FogD} {k : Nat} {x : FogD} (hx : l[k]? = some x) (h : ¬ (FogOk m x ∧ (0 < k → ∀ y, l[k - 1]? = some y → fgLt y x))) : decide (FogsOk m l) = false :=
 decide_eq_false fun hn => h (hn.2 k x (List.getElem?_eq_some_iff.1 hx).1 hx)
theorem fogs_long {m : Nat} {l : List FogD} (h : ¬ l.length ≤ 60) : decide (FogsOk m l) = false := decide_eq_false fun hn => h hn.1
theorem fogs_end {m : Nat} {l : List FogD} {k : Nat} {b : Bool} (h : FogsTo m l k) (hk : ¬ (k : Int) < (l.length : Int)) (hb : b = true ↔ l.length ≤ 60) : decide (FogsOk m l) = b := by
  cases b
  · exact fogs_long fun hn => by have := hb.2 hn; cases this
  · exact decide_eq_true ⟨hb.1 rfl, fun i x hi hx => h i x (by omega) hx⟩
theorem FogsOk.at {m : Nat} {l : List FogD} (h : FogsOk m l) {k : Nat} {x : FogD} (hx : l[k]? = some x) : FogOk m x := (h.2 k x (List.getElem?_eq_some_iff.1 hx).1 hx).1
/-- the first second from t on from which a link is clear for s seconds -/
def stF (l : List FogD) (link t s : Int) : Int := l.foldl (fun t x => if x.link = link ∧ x.til > t ∧ x.fr < t + s then x.til else t) t
theorem stF_snoc (l : List FogD) (link t s : Int) (x : FogD) : stF (l ++ [x]) link t s = if x.link = link ∧ x.til > stF l link t s ∧ x.fr < stF l link t s + s then x.til else stF l link t s := by simp [stF]
theorem stF_bd {m : Nat} {l : List FogD} (h : FogsOk m l) (link t s : Int) (k : Nat) : t ≤ stF (l.take k) link t s ∧ (stF (l.take k) link t s ≤ t ∨ stF (l.take k) link t s ≤ 10000) := by
  induction k with
  | zero => simp [stF]
  | succ k ih =>
    by_cases hk : k < l.length
    · have hx := List.getElem?_eq_getElem hk
      have := h.at hx
      rw [snoc_get hx, stF_snoc]
      split <;> omega
    · rw [List.take_of_length_le (by omega)]; rw [List.take_of_length_le (by omega)] at ih; exact ih

theorem impl_compareFogs_ok (a : FogD) (b : FogD) (h : Heap)  : Cn f_impl_compareFogs [.agg #[.int .i64 a.link, .int .i64 a.fr, .int .i64 a.til], .agg #[.int .i64 b.link, .int .i64 b.fr, .int .i64 b.til]] h fun v h' => v = .int .i64 (fgCmp a b) ∧ Ext h h' := by
 refine calls_of r_impl_compareFogs ?_
 refine v_seq <| v_ops ?_
 refine s_box [.int .i64 a.link, .int .i64 a.fr, .int .i64 a.til] rfl (fun h2 b1 hbb1 hzb1 eh2 bxb1 => ?_)
 have E3 := (Ext.refl h).trans eh2
 have z4 := eh2.size
 have lbb1 := bxb1.lt
 refine s_box [.int .i64 b.link, .int .i64 b.fr, .int .i64 b.til] rfl (fun h6 b5 hbb5 hzb5 eh6 bxb5 => ?_)
 have E7 := E3.trans eh6
 have z8 := eh6.size
 have lbb5 := bxb5.lt
 refine s_pq (.int .i64 0) <| s_nil <| p_seqN <| v_seq ?_
 have f9 := (bxb1.ext eh6)
 refine v_draw (DrawVC.hold ([b1] ++ [b5]) ?_)
 refine d_pq (.pointer (some ⟨b1, 0, none⟩)) <| d_pq (.pointer (some ⟨b5, 0, none⟩)) <| d_pq (.pointer (some ⟨b1, 1, none⟩)) <| d_pq (.pointer (some ⟨b5, 1, none⟩)) <| d_loadO (.int .i64 a.link) (fun _ q => f9.load rfl q) <| d_loadO (.int .i64 b.link) (fun _ q => bxb5.load rfl q) <| d_loadT (.int .i64 a.fr) (fun _ q => f9.take (by simp) rfl q) <| d_loadT (.int .i64 b.fr) (fun _ q => bxb5.take (by simp) rfl q) <| d_eff <| s_callS [.int .i64 a.link, .int .i64 b.link] (.int .i64 (cmpI a.link b.link)) rfl (cmp_Compare_int_ok a.link b.link _ ) ?_
 refine s_nil ⟨fun _ x hx => rfl, ?_⟩
 refine d_eff <| s_callS [.int .i64 a.fr, .int .i64 b.fr] (.int .i64 (cmpI a.fr b.fr)) rfl (cmp_Compare_int_ok a.fr b.fr _ ) ?_
 refine s_nil ⟨fun hl => (by cases hl), ?_⟩
 refine d_eff ?_
 refine s_row (α := Int) [(cmpI a.link b.link), (cmpI a.fr b.fr)] (fun _ q => seg_i rfl (seg_i rfl (seg_nil q))) rfl (by simp [maxLen]) (fun r10 h11 eh11 zh11 s_r10 fr_r10 => ?_)
 have E12 := E7.trans eh11
 have z13 := eh11.size
 refine s_nil ⟨fun hl => (by cases hl), ?_⟩
 refine d_eff <| s_call [r10] rfl (cmp_Or_int_ok r10 [(cmpI a.link b.link), (cmpI a.fr b.fr)] _ s_r10.toSl) ?_
 rintro _ h15 ⟨rfl, eh15⟩
 have E16 := E12.trans eh15
 have z17 := eh15.size
 refine s_nil ⟨fun hl => (by cases hl), ?_⟩
 refine d_pq (.int .i64 (orL [(cmpI a.link b.link), (cmpI a.fr b.fr)])) <| d_done <| p_seqN <| v_ret <| p_ret [.int .i64 (orL [(cmpI a.link b.link), (cmpI a.fr b.fr)])] (.int .i64 (orL [(cmpI a.link b.link), (cmpI a.fr b.fr)])) (fun _ q => q) rfl ?_
 have ho : (fgCmp a b) = (orL [(cmpI a.link b.link), (cmpI a.fr b.fr)]) := by rfl
 exact ⟨by first | (rw [ho]; done) | rfl, E16⟩

theorem impl_isFog_ok (n : NetP) (v_n_towers : Value) (v_n_links : Value) (x : FogD) (h : Heap) (s_n_towers : Sl h v_n_towers n.towers) (s_n_links : Sl h v_n_links n.links) : Cn f_impl_isFog [.agg #[v_n_towers, v_n_links], .agg #[.int .i64 x.link, .int .i64 x.fr, .int .i64 x.til]] h fun v h' => v = .bool (decide (FogOk n.links.length x)) ∧ Ext h h' := by
 have l63_n_towers := s_n_towers.len63
 have l63_n_links := s_n_links.len63
 refine calls_of r_impl_isFog ?_
 refine v_seq <| v_ops ?_
 refine s_box [v_n_towers, v_n_links] rfl (fun h2 b1 hbb1 hzb1 eh2 bxb1 => ?_)
 have E3 := (Ext.refl h).trans eh2
 have z4 := eh2.size
 have lbb1 := bxb1.lt
 refine s_box [.int .i64 x.link, .int .i64 x.fr, .int .i64 x.til] rfl (fun h6 b5 hbb5 hzb5 eh6 bxb5 => ?_)
 have E7 := E3.trans eh6
 have z8 := eh6.size
 have lbb5 := bxb5.lt
 refine s_pq (.bool false) <| s_nil <| p_seqN <| v_seq <| v_ops <| s_pq (.pointer (some ⟨b5, 0, none⟩)) <| s_load (.int .i64 x.link) (fun _ q => bxb5.load rfl q) <| s_pq (.pointer (some ⟨b1, 1, none⟩)) ?_
 have f9 := (bxb1.ext eh6)
 refine s_load v_n_links (fun _ q => f9.load rfl q) <| s_pure (.int .i64 (n.links.length : Int)) (fun _ q => s_n_links.lenVC q) <| s_pure (.int .i64 ((n.links.length : Int) - 1)) (fun _ q => ArithVC.mk (by omega) q) <| s_callS [.int .i64 x.link, .int .i64 0, .int .i64 ((n.links.length : Int) - 1)] (.bool (decide (0 ≤ x.link ∧ x.link ≤ ((n.links.length : Int) - 1)))) rfl (within_ok x.link 0 ((n.links.length : Int) - 1) _ ) <| s_pq (.bool (decide (0 ≤ x.link ∧ x.link ≤ ((n.links.length : Int) - 1)))) ?_
 refine s_splitT rfl (fun c10 => ?_) (fun c10 => ?_)
 ·
  refine s_run rfl <| s_pq (.pointer (some ⟨b5, 1, none⟩)) <| s_run rfl <| s_load (.int .i64 x.fr) (fun _ q => bxb5.load rfl q) <| s_run rfl <| s_pq (.bool (decide (x.fr ≥ 0))) <| s_pq (.bool (decide (x.fr ≥ 0))) <| s_pq (.bool (decide (x.fr ≥ 0))) ?_
  refine s_splitT rfl (fun c11 => ?_) (fun c11 => ?_)
  ·
   refine s_run rfl <| s_pq (.pointer (some ⟨b5, 1, none⟩)) <| s_run rfl <| s_load (.int .i64 x.fr) (fun _ q => bxb5.load rfl q) <| s_run rfl <| s_pq (.pointer (some ⟨b5, 2, none⟩)) <| s_run rfl <| s_load (.int .i64 x.til) (fun _ q => bxb5.load rfl q) <| s_run rfl <| s_pq (.bool (decide (x.fr < x.til))) <| s_pq (.bool (decide (x.fr < x.til))) <| s_pq (.bool (decide (x.fr < x.til))) ?_
   refine s_splitT rfl (fun c12 => ?_) (fun c12 => ?_)
   ·
    refine s_run rfl <| s_pq (.pointer (some ⟨b5, 2, none⟩)) <| s_run rfl <| s_load (.int .i64 x.til) (fun _ q => bxb5.load rfl q) <| s_run rfl <| s_pq (.bool (decide (x.til ≤ 10000))) <| s_pq (.bool (decide (x.til ≤ 10000))) <| s_pq (.bool (decide (x.til ≤ 10000))) <| s_nil <| p_seqN <| v_ret <| p_ret [.bool (decide (x.til ≤ 10000))] (.bool (decide (x.til ≤ 10000))) (fun _ q => q) rfl ?_
    have ho : (decide (FogOk n.links.length x)) = (decide (x.til ≤ 10000)) := by rw [Bool.eq_iff_iff]; simp only [decide_eq_true_eq, Bool.false_eq_true, iff_false, false_iff, iff_true, true_iff]; omega
    exact ⟨by first | (rw [ho]; done) | rfl, E7⟩
   refine s_pass rfl <| s_pass rfl <| s_pass rfl <| s_pq (.bool false) <| s_pq (.bool false) <| s_nil <| p_seqN <| v_ret <| p_ret [.bool false] (.bool false) (fun _ q => q) rfl ?_
   have ho : (decide (FogOk n.links.length x)) = false := by rw [Bool.eq_iff_iff]; simp only [decide_eq_true_eq, Bool.false_eq_true, iff_false, false_iff, iff_true, true_iff]; omega
   exact ⟨by first | (rw [ho]; done) | rfl, E7⟩
  refine s_pass rfl <| s_pass rfl <| s_pass rfl <| s_pass rfl <| s_pass rfl <| s_pq (.bool false) <| s_pq (.bool false) <| s_splitN rfl (by simp) <| s_pass rfl <| s_pass rfl <| s_pass rfl <| s_pq (.bool false) <| s_pq (.bool false) <| s_nil <| p_seqN <| v_ret <| p_ret [.bool false] (.bool false) (fun _ q => q) rfl ?_
  have ho : (decide (FogOk n.links.length x)) = false := by rw [Bool.eq_iff_iff]; simp only [decide_eq_true_eq, Bool.false_eq_true, iff_false, false_iff, iff_true, true_iff]; omega
  exact ⟨by first | (rw [ho]; done) | rfl, E7⟩
 refine s_pass rfl <| s_pass rfl <| s_pass rfl <| s_pq (.bool false) <| s_pq (.bool false) <| s_splitN rfl (by simp) <| s_pass rfl <| s_pass rfl <| s_pass rfl <| s_pass rfl <| s_pass rfl <| s_pq (.bool false) <| s_pq (.bool false) <| s_splitN rfl (by simp) <| s_pass rfl <| s_pass rfl <| s_pass rfl <| s_pq (.bool false) <| s_pq (.bool false) <| s_nil <| p_seqN <| v_ret <| p_ret [.bool false] (.bool false) (fun _ q => q) rfl ?_
 have ho : (decide (FogOk n.links.length x)) = false := by rw [Bool.eq_iff_iff]; simp only [decide_eq_true_eq, Bool.false_eq_true, iff_false, false_iff, iff_true, true_iff]; omega
 exact ⟨by first | (rw [ho]; done) | rfl, E7⟩

theorem spec_fgFog_ok (n : NetP) (v_n_towers : Value) (v_n_links : Value) (x : FogD) (h : Heap) (s_n_towers : Sl h v_n_towers n.towers) (s_n_links : Sl h v_n_links n.links) : Cn f_spec_fgFog [.agg #[v_n_towers, v_n_links], .agg #[.int .i64 x.link, .int .i64 x.fr, .int .i64 x.til]] h fun v h' => v = .bool (decide (FogOk n.links.length x)) ∧ Ext h h' := by
 have l63_n_towers := s_n_towers.len63
 have l63_n_links := s_n_links.len63
 refine calls_of r_spec_fgFog ?_
 refine v_seq <| v_ops ?_
 refine s_box [v_n_towers, v_n_links] rfl (fun h2 b1 hbb1 hzb1 eh2 bxb1 => ?_)
 have E3 := (Ext.refl h).trans eh2
 have z4 := eh2.size
 have lbb1 := bxb1.lt
 refine s_box [.int .i64 x.link, .int .i64 x.fr, .int .i64 x.til] rfl (fun h6 b5 hbb5 hzb5 eh6 bxb5 => ?_)
 have E7 := E3.trans eh6
 have z8 := eh6.size
 have lbb5 := bxb5.lt
 refine s_pq (.bool false) <| s_nil <| p_seqN <| v_seq <| v_ops <| s_pq (.pointer (some ⟨b5, 0, none⟩)) <| s_load (.int .i64 x.link) (fun _ q => bxb5.load rfl q) <| s_pq (.pointer (some ⟨b1, 1, none⟩)) ?_
 have f9 := (bxb1.ext eh6)
 refine s_load v_n_links (fun _ q => f9.load rfl q) <| s_pure (.int .i64 (n.links.length : Int)) (fun _ q => s_n_links.lenVC q) <| s_pure (.int .i64 ((n.links.length : Int) - 1)) (fun _ q => ArithVC.mk (by omega) q) <| s_callS [.int .i64 x.link, .int .i64 0, .int .i64 ((n.links.length : Int) - 1)] (.bool (decide (0 ≤ x.link ∧ x.link ≤ ((n.links.length : Int) - 1)))) rfl (l1In_ok x.link 0 ((n.links.length : Int) - 1) _ ) <| s_pq (.bool (decide (0 ≤ x.link ∧ x.link ≤ ((n.links.length : Int) - 1)))) ?_
 refine s_splitT rfl (fun c10 => ?_) (fun c10 => ?_)
 ·
  refine s_run rfl <| s_pq (.pointer (some ⟨b5, 1, none⟩)) <| s_run rfl <| s_load (.int .i64 x.fr) (fun _ q => bxb5.load rfl q) <| s_run rfl <| s_callS [.int .i64 x.fr, .int .i64 0, .int .i64 9999] (.bool (decide (0 ≤ x.fr ∧ x.fr ≤ 9999))) rfl (l1In_ok x.fr 0 9999 _ ) <| s_pq (.bool (decide (0 ≤ x.fr ∧ x.fr ≤ 9999))) <| s_pq (.bool (decide (0 ≤ x.fr ∧ x.fr ≤ 9999))) ?_
  refine s_splitT rfl (fun c11 => ?_) (fun c11 => ?_)
  ·
   refine s_run rfl <| s_pq (.pointer (some ⟨b5, 2, none⟩)) <| s_run rfl <| s_load (.int .i64 x.til) (fun _ q => bxb5.load rfl q) <| s_run rfl <| s_pq (.pointer (some ⟨b5, 1, none⟩)) <| s_run rfl <| s_load (.int .i64 x.fr) (fun _ q => bxb5.load rfl q) <| s_run rfl <| s_pure (.int .i64 (x.fr + 1)) (fun _ q => ArithVC.mk (by omega) q) <| s_run rfl <| s_callS [.int .i64 x.til, .int .i64 (x.fr + 1), .int .i64 10000] (.bool (decide ((x.fr + 1) ≤ x.til ∧ x.til ≤ 10000))) rfl (l1In_ok x.til (x.fr + 1) 10000 _ ) ?_
   refine s_pq (.bool (decide ((x.fr + 1) ≤ x.til ∧ x.til ≤ 10000))) <| s_pq (.bool (decide ((x.fr + 1) ≤ x.til ∧ x.til ≤ 10000))) <| s_nil <| p_seqN <| v_ret <| p_ret [.bool (decide ((x.fr + 1) ≤ x.til ∧ x.til ≤ 10000))] (.bool (decide ((x.fr + 1) ≤ x.til ∧ x.til ≤ 10000))) (fun _ q => q) rfl ?_
   have ho : (decide (FogOk n.links.length x)) = (decide ((x.fr + 1) ≤ x.til ∧ x.til ≤ 10000)) := by rw [Bool.eq_iff_iff]; simp only [decide_eq_true_eq, Bool.false_eq_true, iff_false, false_iff, iff_true, true_iff]; omega
   exact ⟨by first | (rw [ho]; done) | rfl, E7⟩
  refine s_pass rfl <| s_pass rfl <| s_pass rfl <| s_pass rfl <| s_pass rfl <| s_pass rfl <| s_pq (.bool false) <| s_pq (.bool false) <| s_nil <| p_seqN <| v_ret <| p_ret [.bool false] (.bool false) (fun _ q => q) rfl ?_
  have ho : (decide (FogOk n.links.length x)) = false := by rw [Bool.eq_iff_iff]; simp only [decide_eq_true_eq, Bool.false_eq_true, iff_false, false_iff, iff_true, true_iff]; omega
  exact ⟨by first | (rw [ho]; done) | rfl, E7⟩
 refine s_pass rfl <| s_pass rfl <| s_pass rfl <| s_pq (.bool false) <| s_pq (.bool false) <| s_splitN rfl (by simp) <| s_pass rfl <| s_pass rfl <| s_pass rfl <| s_pass rfl <| s_pass rfl <| s_pass rfl <| s_pq (.bool false) <| s_pq (.bool false) <| s_nil <| p_seqN <| v_ret <| p_ret [.bool false] (.bool false) (fun _ q => q) rfl ?_
 have ho : (decide (FogOk n.links.length x)) = false := by rw [Bool.eq_iff_iff]; simp only [decide_eq_true_eq, Bool.false_eq_true, iff_false, false_iff, iff_true, true_iff]; omega
 exact ⟨by first | (rw [ho]; done) | rfl, E7⟩

set_option maxRecDepth 10000 in
set_option maxHeartbeats 4000000 in
theorem impl_areFogs_ok (n : NetP) (v_n_towers : Value) (v_n_links : Value) (v_l : Value) (l : List FogD) (h : Heap) (s_n_towers : Sl h v_n_towers n.towers) (s_n_links : Sl h v_n_links n.links) (s_l : Sl h v_l l) : Cn f_impl_areFogs [.agg #[v_n_towers, v_n_links], v_l] h fun v h' => v = .bool (decide (FogsOk n.links.length l)) ∧ Ext h h' := by
 have lt_n_towers := s_n_towers.lt
 have l63_n_towers := s_n_towers.len63
 have lt_n_links := s_n_links.lt
 have l63_n_links := s_n_links.len63
 have lt_l := s_l.lt
 have l63_l := s_l.len63
 refine calls_of r_impl_areFogs ?_
 refine v_seq <| v_ops ?_
 refine s_box [v_n_towers, v_n_links] rfl (fun h2 b1 hbb1 hzb1 eh2 bxb1 => ?_)
 have E3 := (Ext.refl h).trans eh2
 have z4 := eh2.size
 have lbb1 := bxb1.lt
 refine s_pq (.bool false) <| s_nil <| p_seqN <| v_seq <| v_seq <| v_ops <| s_pq v_l <| s_pure (.int .i64 (l.length : Int)) (fun _ q => s_l.lenVC q) <| s_pq (.bool (decide ((l.length : Int) > 60))) <| s_nil <| p_seqN ?_
 refine v_cond rfl (fun c5 => ?_) (fun c5 => ?_)
 ·
  refine v_seq <| v_ops <| s_pq (.bool false) <| s_nil <| p_seqN <| v_ret <| p_seqR <| p_ret [.bool false] (.bool false) (fun _ q => q) rfl ?_
  have ho : (decide (FogsOk n.links.length l)) = false := by first | exact fogs_long (by omega) | exact fogs_bad (by assumption : l[k]? = some xo__) (fun hp => absurd hp.1 (by assumption)) | exact fogs_bad (by assumption : l[k]? = some xo__) (fun hp => by (have h1 := hp.2 (by omega) _ (by assumption : l[k - 1]? = some x__)); (have h3 := (hall (k - 1) _ (by omega) (by assumption : l[k - 1]? = some x__)).1); first | omega | ((have h2 := fgCmp_lt (a := x__) (b := xo__)); omega)) | exact fogs_end hall (by assumption) (by simp; omega)
  exact ⟨by first | (rw [ho]; done) | rfl, E3⟩
 refine v_skip <| p_seqN <| v_seq <| v_seq <| v_ops <| s_pq v_l <| s_pure (.int .i64 (l.length : Int)) (fun _ q => s_l.lenVC q) <| s_pq (.int .i64 0) <| s_nil <| p_seqN <| v_block <| v_loop1 (α := Nat) (fun k => [(1, v_l), (2, .pointer (some ⟨b1, 0, none⟩)), (10, v_l), (11, .int .i64 (l.length : Int)), (12, .int .i64 (k : Int))]) (fun k hh => Ext h hh ∧ Bx hh b1 [v_n_towers, v_n_links] 27 ∧ k ≤ l.length ∧ FogsTo n.links.length l k) (fun k => l.length - k) 0 ⟨rfl, rfl, rfl, rfl, rfl⟩ ⟨E3, bxb1, (by exact ⟨by omega, fun i x hi => by omega⟩)⟩ ?_
 rintro k R7 h6 ⟨Eh, bxb1, ⟨hk, hall⟩⟩
 have zEh := Eh.size
 have f9 := s_n_towers.ext Eh
 have f10 := s_n_links.ext Eh
 have f11 := s_l.ext Eh
 have lbb1 := bxb1.lt
 refine v_seq <| v_ops <| s_pq (.bool (decide ((k : Int) < (l.length : Int)))) <| s_nil <| p_seqN <| v_seq ?_
 refine v_cond rfl (fun c12 => ?_) (fun c12 => ?_)
 ·
  refine v_skip <| p_seqN <| v_seq <| v_block <| v_seq <| v_ops <| s_pq (.int .i64 (k : Int)) ?_
  have hk13 : k < l.length := (by first | omega | (simp; omega))
  obtain ⟨x14, hx14⟩ : ∃ x, l[k]? = some x := ⟨_, List.getElem?_eq_getElem hk13⟩
  refine s_pure (.pointer (some ⟨sblk v_l, soff v_l + k * 3, none⟩)) (fun _ q => f11.idx (k := k) rfl hk13 q) <| s_load (.agg #[.int .i64 x14.link, .int .i64 x14.fr, .int .i64 x14.til]) (fun _ q => f11.loadN hx14 rfl q) ?_
  refine s_new (fun h16 b15 hbb15 hzb15 eh16 bxb15 => ?_)
  have E17 := Eh.trans eh16
  have z18 := eh16.size
  have lbb15 := bxb15.lt
  refine s_pq (.int .i64 (k : Int)) ?_
  refine s_stBx (.agg #[.int .i64 x14.link, .int .i64 x14.fr, .int .i64 x14.til]) [.int .i64 x14.link, .int .i64 x14.fr, .int .i64 x14.til] [.int .i64 x14.link, .int .i64 x14.fr, .int .i64 x14.til] bxb15 rfl rfl rfl rfl (by simp) (all_cons rfl (all_cons rfl (all_cons rfl all_nil))) rfl (fun h19 mh19 sh19 bxx20 => ?_)
  have E21 := E17.mod mh19 (fun b hb => by simp at hb; omega)
  refine s_nil <| p_seqN <| v_seq ?_
  have f22 := ((f11.ext eh16).mod mh19 (fun b hb hc => by simp at hc; have := lt_l b hb; omega))
  refine v_draw (DrawVC.hold (blks v_l) ?_)
  have f23 := ((bxb1.ext eh16).mod mh19 (by simp; omega))
  refine d_loadO (.agg #[v_n_towers, v_n_links]) (fun _ q => f23.loadA rfl q) <| d_loadO (.agg #[.int .i64 x14.link, .int .i64 x14.fr, .int .i64 x14.til]) (fun _ q => bxx20.loadA rfl q) <| d_eff ?_
  have f24 := ((f9.ext eh16).mod mh19 (fun b hb hc => by simp at hc; have := lt_n_towers b hb; omega))
  have f25 := ((f10.ext eh16).mod mh19 (fun b hb hc => by simp at hc; have := lt_n_links b hb; omega))
  refine s_call [.agg #[v_n_towers, v_n_links], .agg #[.int .i64 x14.link, .int .i64 x14.fr, .int .i64 x14.til]] rfl (impl_isFog_ok n v_n_towers v_n_links x14 _ f24 f25) ?_
  rintro _ h26 ⟨rfl, eh26⟩
  have E27 := E21.trans eh26
  have z28 := eh26.size
  have G29 := eh26
  refine s_nil ⟨fun _ x hx => G29.blk x (by have := lt_l x hx; omega), ?_⟩
  refine d_pq (.bool (!(decide (FogOk n.links.length x14)))) <| d_pq (.bool (!(decide (FogOk n.links.length x14)))) ?_
  refine d_splitT rfl (fun c30 => ?_) (fun c30 => ?_)
  ·
   refine d_passT rfl <| d_passT rfl <| d_passT rfl <| d_splitU rfl <| d_passTU rfl <| d_passTU rfl <| d_passTU rfl <| d_passTU rfl <| d_passTU rfl <| d_passOU rfl <| d_passOU rfl <| d_passTU rfl <| d_passTU rfl <| d_splitU rfl <| d_passTU rfl <| d_passTU rfl <| d_passTU rfl <| d_passTU rfl <| d_passTU rfl <| d_passTU rfl <| d_passTU rfl <| d_passOU rfl <| d_passTU rfl <| d_passTU rfl <| d_splitU rfl <| d_passTU rfl <| d_passTU rfl <| d_passTU rfl <| d_passTU rfl <| d_passTU rfl <| d_passTU rfl ?_
   refine d_passTU rfl <| d_passOU rfl <| d_passTU rfl <| d_passTU rfl <| d_passTU rfl <| d_passT rfl <| d_pq (.bool true) <| d_done <| p_seqN <| v_condY rfl rfl <| v_seq <| v_ops <| s_pq (.bool false) <| s_nil <| p_seqN <| v_ret <| p_blkR <| p_seqR <| p_lpR <| p_blkR <| p_seqR <| p_ret [.bool false] (.bool false) (fun _ q => q) rfl ?_
   have ho : (decide (FogsOk n.links.length l)) = false := by first | exact fogs_long (by omega) | exact fogs_bad (by assumption : l[k]? = some x14) (fun hp => absurd hp.1 (by assumption)) | exact fogs_bad (by assumption : l[k]? = some x14) (fun hp => by (have h1 := hp.2 (by omega) _ (by assumption : l[k - 1]? = some x14)); (have h3 := (hall (k - 1) _ (by omega) (by assumption : l[k - 1]? = some x14)).1); first | omega | ((have h2 := fgCmp_lt (a := x14) (b := x14)); omega)) | exact fogs_end hall (by assumption) (by simp; omega)
   exact ⟨by first | (rw [ho]; done) | rfl, E27⟩
  have c30 := Classical.not_not.1 c30
  refine d_runT rfl <| d_pq (.int .i64 (k : Int)) <| d_runT rfl <| d_pq (.bool (decide ((k : Int) > 0))) <| d_runT rfl <| d_pq (.bool (decide ((k : Int) > 0))) ?_
  refine d_splitT rfl (fun c31 => ?_) (fun c31 => ?_)
  ·
   refine d_runT rfl <| d_pq v_l <| d_runT rfl <| d_pq (.int .i64 (k : Int)) <| d_runT rfl <| d_pureT (.int .i64 ((k : Int) - 1)) (fun _ q => ArithVC.mk (by omega) q) <| d_runT rfl ?_
   have f32 := (f22.ext eh26)
   have hk33 : (k - 1) < l.length := (by first | omega | (simp; omega))
   obtain ⟨x34, hx34⟩ : ∃ x, l[(k - 1)]? = some x := ⟨_, List.getElem?_eq_getElem hk33⟩
   refine d_pureT (.pointer (some ⟨sblk v_l, soff v_l + (k - 1) * 3, none⟩)) (fun _ q => f32.idx (k := (k - 1)) (by omega) hk33 q) <| d_runT rfl <| d_loadT (.agg #[.int .i64 x34.link, .int .i64 x34.fr, .int .i64 x34.til]) (fun _ q => f22.takeN (fun b hb => by first | exact hb | simp [hb]) hx34 rfl q) <| d_runO rfl ?_
   have f35 := (bxx20.ext eh26)
   refine d_loadO (.agg #[.int .i64 x14.link, .int .i64 x14.fr, .int .i64 x14.til]) (fun _ q => f35.loadA rfl q) <| d_runO rfl <| d_eff <| s_call [.agg #[.int .i64 x34.link, .int .i64 x34.fr, .int .i64 x34.til], .agg #[.int .i64 x14.link, .int .i64 x14.fr, .int .i64 x14.til]] rfl (impl_compareFogs_ok x34 x14 _ ) ?_
   rintro _ h36 ⟨rfl, eh36⟩
   have E37 := E27.trans eh36
   have z38 := eh36.size
   have G39 := G29.trans eh36
   refine s_nil ⟨fun _ x hx => G39.blk x (by have := lt_l x hx; omega), ?_⟩
   refine d_runT rfl <| d_pq (.bool (decide ((fgCmp x34 x14) ≥ 0))) <| d_runT rfl <| d_pq (.bool (decide ((fgCmp x34 x14) ≥ 0))) ?_
   refine d_splitT rfl (fun c40 => ?_) (fun c40 => ?_)
   ·
    refine d_passT rfl <| d_passT rfl <| d_passT rfl <| d_passT rfl <| d_passT rfl <| d_passT rfl <| d_passT rfl <| d_passO rfl <| d_passT rfl <| d_passT rfl <| d_splitU rfl <| d_passTU rfl <| d_passTU rfl <| d_passTU rfl <| d_passTU rfl <| d_passTU rfl <| d_passTU rfl <| d_passTU rfl <| d_passOU rfl <| d_passTU rfl <| d_passT rfl <| d_runT rfl <| d_pq (.bool true) <| d_runT rfl <| d_pq (.bool true) <| d_pq (.bool true) <| d_done <| p_seqN <| v_condY rfl rfl <| v_seq <| v_ops <| s_pq (.bool false) ?_
    refine s_nil <| p_seqN <| v_ret <| p_blkR <| p_seqR <| p_lpR <| p_blkR <| p_seqR <| p_ret [.bool false] (.bool false) (fun _ q => q) rfl ?_
    have ho : (decide (FogsOk n.links.length l)) = false := by first | exact fogs_long (by omega) | exact fogs_bad (by assumption : l[k]? = some x14) (fun hp => absurd hp.1 (by assumption)) | exact fogs_bad (by assumption : l[k]? = some x14) (fun hp => by (have h1 := hp.2 (by omega) _ (by assumption : l[k - 1]? = some x34)); (have h3 := (hall (k - 1) _ (by omega) (by assumption : l[k - 1]? = some x34)).1); first | omega | ((have h2 := fgCmp_lt (a := x34) (b := x14)); omega)) | exact fogs_end hall (by assumption) (by simp; omega)
    exact ⟨by first | (rw [ho]; done) | rfl, E37⟩
   refine d_runT rfl <| d_pq v_l <| d_runT rfl <| d_pq (.int .i64 (k : Int)) <| d_runT rfl <| d_pureT (.int .i64 ((k : Int) - 1)) (fun _ q => ArithVC.mk (by omega) q) <| d_runT rfl ?_
   have f41 := (f32.ext eh36)
   refine d_pureT (.pointer (some ⟨sblk v_l, soff v_l + (k - 1) * 3, none⟩)) (fun _ q => f41.idx (k := (k - 1)) (by omega) hk33 q) <| d_runT rfl <| d_pq (.pointer (some ⟨sblk v_l, soff v_l + (k - 1) * 3, none⟩)) <| d_runT rfl <| d_pq (.pointer (some ⟨b15, 0, none⟩)) <| d_runT rfl <| d_loadT (.int .i64 x34.link) (fun _ q => f22.take (fun b hb => by first | exact hb | simp [hb]) hx34 (j := 0) rfl rfl q) <| d_runO rfl ?_
   have f42 := (f35.ext eh36)
   refine d_loadO (.int .i64 x14.link) (fun _ q => f42.load rfl q) <| d_runT rfl <| d_pq (.bool (x34.link == x14.link)) <| d_runT rfl <| d_pq (.bool (x34.link == x14.link)) ?_
   refine d_splitT rfl (fun c43 => ?_) (fun c43 => ?_)
   ·
    refine d_runT rfl <| d_pq v_l <| d_runT rfl <| d_pq (.int .i64 (k : Int)) <| d_runT rfl <| d_pureT (.int .i64 ((k : Int) - 1)) (fun _ q => ArithVC.mk (by omega) q) <| d_runT rfl <| d_pureT (.pointer (some ⟨sblk v_l, soff v_l + (k - 1) * 3, none⟩)) (fun _ q => f41.idx (k := (k - 1)) (by omega) hk33 q) <| d_runT rfl <| d_pq (.pointer (some ⟨sblk v_l, soff v_l + (k - 1) * 3 + 2, none⟩)) <| d_runT rfl <| d_pq (.pointer (some ⟨b15, 1, none⟩)) <| d_runT rfl <| d_loadT (.int .i64 x34.til) (fun _ q => f22.take (fun b hb => by first | exact hb | simp [hb]) hx34 (j := 2) rfl rfl q) ?_
    refine d_runO rfl <| d_loadO (.int .i64 x14.fr) (fun _ q => f42.load rfl q) <| d_runT rfl <| d_pq (.bool (decide (x34.til ≥ x14.fr))) <| d_runT rfl <| d_pq (.bool (decide (x34.til ≥ x14.fr))) <| d_runT rfl <| d_pq (.bool (decide (x34.til ≥ x14.fr))) <| d_runT rfl <| d_pq (.bool (decide (x34.til ≥ x14.fr))) <| d_pq (.bool (decide (x34.til ≥ x14.fr))) <| d_done <| p_seqN ?_
    refine v_cond rfl (fun c44 => ?_) (fun c44 => ?_)
    ·
     refine v_seq <| v_ops <| s_pq (.bool false) <| s_nil <| p_seqN <| v_ret <| p_blkR <| p_seqR <| p_lpR <| p_blkR <| p_seqR <| p_ret [.bool false] (.bool false) (fun _ q => q) rfl ?_
     have ho : (decide (FogsOk n.links.length l)) = false := by first | exact fogs_long (by omega) | exact fogs_bad (by assumption : l[k]? = some x14) (fun hp => absurd hp.1 (by assumption)) | exact fogs_bad (by assumption : l[k]? = some x14) (fun hp => by (have h1 := hp.2 (by omega) _ (by assumption : l[k - 1]? = some x34)); (have h3 := (hall (k - 1) _ (by omega) (by assumption : l[k - 1]? = some x34)).1); first | omega | ((have h2 := fgCmp_lt (a := x34) (b := x14)); omega)) | exact fogs_end hall (by assumption) (by simp; omega)
     exact ⟨by first | (rw [ho]; done) | rfl, E37⟩
    refine v_skip <| p_blkN <| p_seqN <| v_ops <| s_pure (.int .i64 ((k : Int) + 1)) (fun _ q => ArithVC.mk (by omega) q) <| s_pq (.int .i64 ((k : Int) + 1)) <| s_nil ?_
    have f45 := ((f23.ext eh26).ext eh36)
    exact p_lpN ⟨k + 1, ⟨rfl, rfl, rfl, rfl, rfl⟩, ⟨E37, f45, (by exact ⟨by omega, fogs_snoc hall (by assumption : l[k]? = some x14) (by assumption) (fun h0 y hy => by first | omega | ((have e := Option.some.inj ((by assumption : l[k - 1]? = some x34).symm.trans hy)); subst e; first | omega | ((have h1 := fgCmp_lt.1 (by omega : fgCmp x34 x14 < 0)); omega)))⟩)⟩, by omega⟩
   refine d_passT rfl <| d_passT rfl <| d_passT rfl <| d_passT rfl <| d_passT rfl <| d_passT rfl <| d_passT rfl <| d_passO rfl <| d_passT rfl <| d_runT rfl <| d_pq (.bool false) <| d_runT rfl <| d_pq (.bool false) <| d_runT rfl <| d_pq (.bool false) <| d_pq (.bool false) <| d_done <| p_seqN <| v_condN rfl (by simp) <| v_skip <| p_blkN <| p_seqN <| v_ops <| s_pure (.int .i64 ((k : Int) + 1)) (fun _ q => ArithVC.mk (by omega) q) <| s_pq (.int .i64 ((k : Int) + 1)) <| s_nil ?_
   have f46 := ((f23.ext eh26).ext eh36)
   exact p_lpN ⟨k + 1, ⟨rfl, rfl, rfl, rfl, rfl⟩, ⟨E37, f46, (by exact ⟨by omega, fogs_snoc hall (by assumption : l[k]? = some x14) (by assumption) (fun h0 y hy => by first | omega | ((have e := Option.some.inj ((by assumption : l[k - 1]? = some x34).symm.trans hy)); subst e; first | omega | ((have h1 := fgCmp_lt.1 (by omega : fgCmp x34 x14 < 0)); omega)))⟩)⟩, by omega⟩
  refine d_passT rfl <| d_passT rfl <| d_passT rfl <| d_passT rfl <| d_passT rfl <| d_passO rfl <| d_passO rfl <| d_passT rfl <| d_passT rfl <| d_splitU rfl <| d_passTU rfl <| d_passTU rfl <| d_passTU rfl <| d_passTU rfl <| d_passTU rfl <| d_passTU rfl <| d_passTU rfl <| d_passOU rfl <| d_passTU rfl <| d_passTU rfl <| d_splitU rfl <| d_passTU rfl <| d_passTU rfl <| d_passTU rfl <| d_passTU rfl <| d_passTU rfl <| d_passTU rfl <| d_passTU rfl <| d_passOU rfl <| d_passTU rfl <| d_passTU rfl <| d_passT rfl ?_
  refine d_runT rfl <| d_pq (.bool false) <| d_pq (.bool false) <| d_done <| p_seqN <| v_condN rfl (by simp) <| v_skip <| p_blkN <| p_seqN <| v_ops <| s_pure (.int .i64 ((k : Int) + 1)) (fun _ q => ArithVC.mk (by omega) q) <| s_pq (.int .i64 ((k : Int) + 1)) <| s_nil ?_
  have f47 := (f23.ext eh26)
  exact p_lpN ⟨k + 1, ⟨rfl, rfl, rfl, rfl, rfl⟩, ⟨E27, f47, (by exact ⟨by omega, fogs_snoc hall (by assumption : l[k]? = some x14) (by assumption) (fun h0 y hy => by first | omega | ((have e := Option.some.inj ((by assumption : l[k - 1]? = some x14).symm.trans hy)); subst e; first | omega | ((have h1 := fgCmp_lt.1 (by omega : fgCmp x14 x14 < 0)); omega)))⟩)⟩, by omega⟩
 refine v_exit <| p_seqX <| p_lpX <| p_blkX <| p_seqN <| v_seq <| v_ops <| s_pq (.bool true) <| s_nil <| p_seqN <| v_ret <| p_ret [.bool true] (.bool true) (fun _ q => q) rfl ?_
 have ho : (decide (FogsOk n.links.length l)) = true := by first | exact fogs_long (by omega) | exact fogs_bad (by assumption : l[k]? = some xo__) (fun hp => absurd hp.1 (by assumption)) | exact fogs_bad (by assumption : l[k]? = some xo__) (fun hp => by (have h1 := hp.2 (by omega) _ (by assumption : l[k - 1]? = some x__)); (have h3 := (hall (k - 1) _ (by omega) (by assumption : l[k - 1]? = some x__)).1); first | omega | ((have h2 := fgCmp_lt (a := x__) (b := xo__)); omega)) | exact fogs_end hall (by assumption) (by simp; omega)
 exact ⟨by first | (rw [ho]; done) | rfl, Eh⟩

set_option maxRecDepth 10000 in
set_option maxHeartbeats 4000000 in
theorem spec_fgGood_ok (n : NetP) (v_n_towers : Value) (v_n_links : Value) (v_l : Value) (l : List FogD) (h : Heap) (s_n_towers : Sl h v_n_towers n.towers) (s_n_links : Sl h v_n_links n.links) (s_l : Sl h v_l l) : Cn f_spec_fgGood [.agg #[v_n_towers, v_n_links], v_l] h fun v h' => v = .bool (decide (FogsOk n.links.length l)) ∧ Ext h h' := by
 have lt_n_towers := s_n_towers.lt
 have l63_n_towers := s_n_towers.len63
 have lt_n_links := s_n_links.lt
 have l63_n_links := s_n_links.len63
 have lt_l := s_l.lt
 have l63_l := s_l.len63
 refine calls_of r_spec_fgGood ?_
 refine v_seq <| v_ops ?_
 refine s_box [v_n_towers, v_n_links] rfl (fun h2 b1 hbb1 hzb1 eh2 bxb1 => ?_)
 have E3 := (Ext.refl h).trans eh2
 have z4 := eh2.size
 have lbb1 := bxb1.lt
 refine s_pq (.bool false) <| s_nil <| p_seqN <| v_seq <| v_seq <| v_ops <| s_pq v_l <| s_pure (.int .i64 (l.length : Int)) (fun _ q => s_l.lenVC q) <| s_pq (.int .i64 0) <| s_nil <| p_seqN <| v_block <| v_loop1 (α := Nat) (fun k => [(1, v_l), (2, .pointer (some ⟨b1, 0, none⟩)), (7, v_l), (8, .int .i64 (l.length : Int)), (9, .int .i64 (k : Int))]) (fun k hh => Ext h hh ∧ Bx hh b1 [v_n_towers, v_n_links] 27 ∧ k ≤ l.length ∧ FogsTo n.links.length l k) (fun k => l.length - k) 0 ⟨rfl, rfl, rfl, rfl, rfl⟩ ⟨E3, bxb1, (by exact ⟨by omega, fun i x hi => by omega⟩)⟩ ?_
 rintro k R6 h5 ⟨Eh, bxb1, ⟨hk, hall⟩⟩
 have zEh := Eh.size
 have f8 := s_n_towers.ext Eh
 have f9 := s_n_links.ext Eh
 have f10 := s_l.ext Eh
 have lbb1 := bxb1.lt
 refine v_seq <| v_ops <| s_pq (.bool (decide ((k : Int) < (l.length : Int)))) <| s_nil <| p_seqN <| v_seq ?_
 refine v_cond rfl (fun c11 => ?_) (fun c11 => ?_)
 ·
  refine v_skip <| p_seqN <| v_seq <| v_block <| v_seq <| v_ops <| s_pq (.int .i64 (k : Int)) ?_
  have hk12 : k < l.length := (by first | omega | (simp; omega))
  obtain ⟨x13, hx13⟩ : ∃ x, l[k]? = some x := ⟨_, List.getElem?_eq_getElem hk12⟩
  refine s_pure (.pointer (some ⟨sblk v_l, soff v_l + k * 3, none⟩)) (fun _ q => f10.idx (k := k) rfl hk12 q) <| s_load (.agg #[.int .i64 x13.link, .int .i64 x13.fr, .int .i64 x13.til]) (fun _ q => f10.loadN hx13 rfl q) ?_
  refine s_new (fun h15 b14 hbb14 hzb14 eh15 bxb14 => ?_)
  have E16 := Eh.trans eh15
  have z17 := eh15.size
  have lbb14 := bxb14.lt
  refine s_pq (.int .i64 (k : Int)) ?_
  refine s_stBx (.agg #[.int .i64 x13.link, .int .i64 x13.fr, .int .i64 x13.til]) [.int .i64 x13.link, .int .i64 x13.fr, .int .i64 x13.til] [.int .i64 x13.link, .int .i64 x13.fr, .int .i64 x13.til] bxb14 rfl rfl rfl rfl (by simp) (all_cons rfl (all_cons rfl (all_cons rfl all_nil))) rfl (fun h18 mh18 sh18 bxx19 => ?_)
  have E20 := E16.mod mh18 (fun b hb => by simp at hb; omega)
  refine s_nil <| p_seqN <| v_seq <| v_seq <| v_ops ?_
  have f21 := ((bxb1.ext eh15).mod mh18 (by simp; omega))
  refine s_load (.agg #[v_n_towers, v_n_links]) (fun _ q => f21.loadA rfl q) <| s_load (.agg #[.int .i64 x13.link, .int .i64 x13.fr, .int .i64 x13.til]) (fun _ q => bxx19.loadA rfl q) ?_
  have f22 := ((f8.ext eh15).mod mh18 (fun b hb hc => by simp at hc; have := lt_n_towers b hb; omega))
  have f23 := ((f9.ext eh15).mod mh18 (fun b hb hc => by simp at hc; have := lt_n_links b hb; omega))
  refine s_call [.agg #[v_n_towers, v_n_links], .agg #[.int .i64 x13.link, .int .i64 x13.fr, .int .i64 x13.til]] rfl (spec_fgFog_ok n v_n_towers v_n_links x13 _ f22 f23) ?_
  rintro _ h24 ⟨rfl, eh24⟩
  have E25 := E20.trans eh24
  have z26 := eh24.size
  refine s_pq (.bool (!(decide (FogOk n.links.length x13)))) <| s_nil <| p_seqN ?_
  refine v_cond rfl (fun c27 => ?_) (fun c27 => ?_)
  ·
   refine v_seq <| v_ops <| s_pq (.bool false) <| s_nil <| p_seqN <| v_ret <| p_seqR <| p_blkR <| p_seqR <| p_lpR <| p_blkR <| p_seqR <| p_ret [.bool false] (.bool false) (fun _ q => q) rfl ?_
   have ho : (decide (FogsOk n.links.length l)) = false := by first | exact fogs_long (by omega) | exact fogs_bad (by assumption : l[k]? = some x13) (fun hp => absurd hp.1 (by assumption)) | exact fogs_bad (by assumption : l[k]? = some x13) (fun hp => by (have h1 := hp.2 (by omega) _ (by assumption : l[k - 1]? = some x13)); (have h3 := (hall (k - 1) _ (by omega) (by assumption : l[k - 1]? = some x13)).1); first | omega | ((have h2 := fgCmp_lt (a := x13) (b := x13)); omega)) | exact fogs_end hall (by assumption) (by simp; omega)
   exact ⟨by first | (rw [ho]; done) | rfl, E25⟩
  have c27 := Classical.not_not.1 c27
  refine v_skip <| p_seqN <| v_seq <| v_ops <| s_pq (.int .i64 (k : Int)) <| s_pq (.bool (decide ((k : Int) > 0))) <| s_pq (.bool (decide ((k : Int) > 0))) ?_
  refine s_splitT rfl (fun c28 => ?_) (fun c28 => ?_)
  ·
   refine s_run rfl <| s_pq v_l <| s_run rfl <| s_pq (.int .i64 (k : Int)) <| s_run rfl <| s_pure (.int .i64 ((k : Int) - 1)) (fun _ q => ArithVC.mk (by omega) q) <| s_run rfl ?_
   have f29 := (((f10.ext eh15).mod mh18 (fun b hb hc => by simp at hc; have := lt_l b hb; omega)).ext eh24)
   have hk30 : (k - 1) < l.length := (by first | omega | (simp; omega))
   obtain ⟨x31, hx31⟩ : ∃ x, l[(k - 1)]? = some x := ⟨_, List.getElem?_eq_getElem hk30⟩
   refine s_pure (.pointer (some ⟨sblk v_l, soff v_l + (k - 1) * 3, none⟩)) (fun _ q => f29.idx (k := (k - 1)) (by omega) hk30 q) <| s_run rfl <| s_pq (.pointer (some ⟨sblk v_l, soff v_l + (k - 1) * 3, none⟩)) <| s_run rfl <| s_pq (.pointer (some ⟨b14, 0, none⟩)) <| s_run rfl <| s_load (.int .i64 x31.link) (fun _ q => f29.load hx31 (j := 0) rfl rfl q) <| s_run rfl ?_
   have f32 := (bxx19.ext eh24)
   refine s_load (.int .i64 x13.link) (fun _ q => f32.load rfl q) <| s_run rfl <| s_pq (.bool (decide (x31.link > x13.link))) <| s_run rfl <| s_pq (.bool (decide (x31.link > x13.link))) ?_
   refine s_splitT rfl (fun c33 => ?_) (fun c33 => ?_)
   ·
    refine s_pass rfl <| s_pass rfl <| s_pass rfl <| s_pass rfl <| s_pass rfl <| s_pass rfl <| s_pass rfl <| s_pass rfl <| s_pass rfl <| s_pass rfl <| s_splitU rfl <| s_passU rfl <| s_passU rfl <| s_passU rfl <| s_passU rfl <| s_passU rfl <| s_passU rfl <| s_passU rfl <| s_passU rfl <| s_passU rfl <| s_pass rfl <| s_run rfl <| s_pq (.bool true) <| s_pq (.bool true) <| s_nil <| p_seqN <| v_condY rfl rfl <| v_seq <| v_ops <| s_pq (.bool false) <| s_nil <| p_seqN <| v_ret <| p_blkR <| p_seqR <| p_lpR ?_
    refine p_blkR <| p_seqR <| p_ret [.bool false] (.bool false) (fun _ q => q) rfl ?_
    have ho : (decide (FogsOk n.links.length l)) = false := by first | exact fogs_long (by omega) | exact fogs_bad (by assumption : l[k]? = some x13) (fun hp => absurd hp.1 (by assumption)) | exact fogs_bad (by assumption : l[k]? = some x13) (fun hp => by (have h1 := hp.2 (by omega) _ (by assumption : l[k - 1]? = some x31)); (have h3 := (hall (k - 1) _ (by omega) (by assumption : l[k - 1]? = some x31)).1); first | omega | ((have h2 := fgCmp_lt (a := x31) (b := x13)); omega)) | exact fogs_end hall (by assumption) (by simp; omega)
    exact ⟨by first | (rw [ho]; done) | rfl, E25⟩
   refine s_run rfl <| s_pq v_l <| s_run rfl <| s_pq (.int .i64 (k : Int)) <| s_run rfl <| s_pure (.int .i64 ((k : Int) - 1)) (fun _ q => ArithVC.mk (by omega) q) <| s_run rfl <| s_pure (.pointer (some ⟨sblk v_l, soff v_l + (k - 1) * 3, none⟩)) (fun _ q => f29.idx (k := (k - 1)) (by omega) hk30 q) <| s_run rfl <| s_pq (.pointer (some ⟨sblk v_l, soff v_l + (k - 1) * 3, none⟩)) <| s_run rfl <| s_pq (.pointer (some ⟨b14, 0, none⟩)) <| s_run rfl <| s_load (.int .i64 x31.link) (fun _ q => f29.load hx31 (j := 0) rfl rfl q) ?_
   refine s_run rfl <| s_load (.int .i64 x13.link) (fun _ q => f32.load rfl q) <| s_run rfl <| s_pq (.bool (x31.link == x13.link)) <| s_run rfl <| s_pq (.bool (x31.link == x13.link)) ?_
   refine s_splitT rfl (fun c34 => ?_) (fun c34 => ?_)
   ·
    refine s_run rfl <| s_pq v_l <| s_run rfl <| s_pq (.int .i64 (k : Int)) <| s_run rfl <| s_pure (.int .i64 ((k : Int) - 1)) (fun _ q => ArithVC.mk (by omega) q) <| s_run rfl <| s_pure (.pointer (some ⟨sblk v_l, soff v_l + (k - 1) * 3, none⟩)) (fun _ q => f29.idx (k := (k - 1)) (by omega) hk30 q) <| s_run rfl <| s_pq (.pointer (some ⟨sblk v_l, soff v_l + (k - 1) * 3 + 2, none⟩)) <| s_run rfl <| s_pq (.pointer (some ⟨b14, 1, none⟩)) <| s_run rfl <| s_load (.int .i64 x31.til) (fun _ q => f29.load hx31 (j := 2) rfl rfl q) ?_
    refine s_run rfl <| s_load (.int .i64 x13.fr) (fun _ q => f32.load rfl q) <| s_run rfl <| s_pq (.bool (decide (x31.til ≥ x13.fr))) <| s_run rfl <| s_pq (.bool (decide (x31.til ≥ x13.fr))) <| s_run rfl <| s_pq (.bool (decide (x31.til ≥ x13.fr))) <| s_pq (.bool (decide (x31.til ≥ x13.fr))) <| s_nil <| p_seqN ?_
    refine v_cond rfl (fun c35 => ?_) (fun c35 => ?_)
    ·
     refine v_seq <| v_ops <| s_pq (.bool false) <| s_nil <| p_seqN <| v_ret <| p_blkR <| p_seqR <| p_lpR <| p_blkR <| p_seqR <| p_ret [.bool false] (.bool false) (fun _ q => q) rfl ?_
     have ho : (decide (FogsOk n.links.length l)) = false := by first | exact fogs_long (by omega) | exact fogs_bad (by assumption : l[k]? = some x13) (fun hp => absurd hp.1 (by assumption)) | exact fogs_bad (by assumption : l[k]? = some x13) (fun hp => by (have h1 := hp.2 (by omega) _ (by assumption : l[k - 1]? = some x31)); (have h3 := (hall (k - 1) _ (by omega) (by assumption : l[k - 1]? = some x31)).1); first | omega | ((have h2 := fgCmp_lt (a := x31) (b := x13)); omega)) | exact fogs_end hall (by assumption) (by simp; omega)
     exact ⟨by first | (rw [ho]; done) | rfl, E25⟩
    refine v_skip <| p_blkN <| p_seqN <| v_ops <| s_pure (.int .i64 ((k : Int) + 1)) (fun _ q => ArithVC.mk (by omega) q) <| s_pq (.int .i64 ((k : Int) + 1)) <| s_nil ?_
    have f36 := (f21.ext eh24)
    exact p_lpN ⟨k + 1, ⟨rfl, rfl, rfl, rfl, rfl⟩, ⟨E25, f36, (by exact ⟨by omega, fogs_snoc hall (by assumption : l[k]? = some x13) (by assumption) (fun h0 y hy => by first | omega | ((have e := Option.some.inj ((by assumption : l[k - 1]? = some x31).symm.trans hy)); subst e; first | omega | ((have h1 := fgCmp_lt.1 (by omega : fgCmp x31 x13 < 0)); omega)))⟩)⟩, by omega⟩
   refine s_pass rfl <| s_pass rfl <| s_pass rfl <| s_pass rfl <| s_pass rfl <| s_pass rfl <| s_pass rfl <| s_pass rfl <| s_pass rfl <| s_run rfl <| s_pq (.bool false) <| s_run rfl <| s_pq (.bool false) <| s_pq (.bool false) <| s_nil <| p_seqN <| v_condN rfl (by simp) <| v_skip <| p_blkN <| p_seqN <| v_ops <| s_pure (.int .i64 ((k : Int) + 1)) (fun _ q => ArithVC.mk (by omega) q) <| s_pq (.int .i64 ((k : Int) + 1)) <| s_nil ?_
   have f37 := (f21.ext eh24)
   exact p_lpN ⟨k + 1, ⟨rfl, rfl, rfl, rfl, rfl⟩, ⟨E25, f37, (by exact ⟨by omega, fogs_snoc hall (by assumption : l[k]? = some x13) (by assumption) (fun h0 y hy => by first | omega | ((have e := Option.some.inj ((by assumption : l[k - 1]? = some x31).symm.trans hy)); subst e; first | omega | ((have h1 := fgCmp_lt.1 (by omega : fgCmp x31 x13 < 0)); omega)))⟩)⟩, by omega⟩
  refine s_pass rfl <| s_pass rfl <| s_pass rfl <| s_pass rfl <| s_pass rfl <| s_pass rfl <| s_pass rfl <| s_pass rfl <| s_pass rfl <| s_pass rfl <| s_splitU rfl <| s_passU rfl <| s_passU rfl <| s_passU rfl <| s_passU rfl <| s_passU rfl <| s_passU rfl <| s_passU rfl <| s_passU rfl <| s_passU rfl <| s_passU rfl <| s_splitU rfl <| s_passU rfl <| s_passU rfl <| s_passU rfl <| s_passU rfl <| s_passU rfl <| s_passU rfl <| s_passU rfl <| s_passU rfl <| s_passU rfl <| s_passU rfl <| s_pass rfl <| s_pq (.bool false) ?_
  refine s_nil <| p_seqN <| v_condN rfl (by simp) <| v_skip <| p_blkN <| p_seqN <| v_ops <| s_pure (.int .i64 ((k : Int) + 1)) (fun _ q => ArithVC.mk (by omega) q) <| s_pq (.int .i64 ((k : Int) + 1)) <| s_nil ?_
  have f38 := (f21.ext eh24)
  exact p_lpN ⟨k + 1, ⟨rfl, rfl, rfl, rfl, rfl⟩, ⟨E25, f38, (by exact ⟨by omega, fogs_snoc hall (by assumption : l[k]? = some x13) (by assumption) (fun h0 y hy => by first | omega | ((have e := Option.some.inj ((by assumption : l[k - 1]? = some x13).symm.trans hy)); subst e; first | omega | ((have h1 := fgCmp_lt.1 (by omega : fgCmp x13 x13 < 0)); omega)))⟩)⟩, by omega⟩
 refine v_exit <| p_seqX <| p_lpX <| p_blkX <| p_seqN <| v_seq <| v_ops <| s_pq v_l <| s_pure (.int .i64 (l.length : Int)) (fun _ q => f10.lenVC q) <| s_pq (.bool (decide ((l.length : Int) ≤ 60))) <| s_pq (.bool (decide ((l.length : Int) ≤ 60))) <| s_nil <| p_seqN <| v_ret <| p_ret [.bool (decide ((l.length : Int) ≤ 60))] (.bool (decide ((l.length : Int) ≤ 60))) (fun _ q => q) rfl ?_
 have ho : (decide (FogsOk n.links.length l)) = (decide ((l.length : Int) ≤ 60)) := by first | exact fogs_long (by omega) | exact fogs_bad (by assumption : l[k]? = some xo__) (fun hp => absurd hp.1 (by assumption)) | exact fogs_bad (by assumption : l[k]? = some xo__) (fun hp => by (have h1 := hp.2 (by omega) _ (by assumption : l[k - 1]? = some x__)); (have h3 := (hall (k - 1) _ (by omega) (by assumption : l[k - 1]? = some x__)).1); first | omega | ((have h2 := fgCmp_lt (a := x__) (b := xo__)); omega)) | exact fogs_end hall (by assumption) (by simp; omega)
 exact ⟨by first | (rw [ho]; done) | rfl, Eh⟩

theorem spec_fgTime_ok (t : Int) (h : Heap)  : Cn f_spec_fgTime [.int .i64 t] h fun v h' => v = .bool (decide (0 ≤ t ∧ t ≤ 10000)) ∧ h' = h := by
 refine calls_of r_spec_fgTime ?_
 refine v_seq <| v_ops <| s_pq (.bool false) <| s_nil <| p_seqN <| v_seq <| v_ops <| s_pq (.int .i64 t) <| s_callS [.int .i64 t, .int .i64 0, .int .i64 10000] (.bool (decide (0 ≤ t ∧ t ≤ 10000))) rfl (l1In_ok t 0 10000 _ ) <| s_pq (.bool (decide (0 ≤ t ∧ t ≤ 10000))) <| s_nil <| p_seqN <| v_ret <| p_ret [.bool (decide (0 ≤ t ∧ t ≤ 10000))] (.bool (decide (0 ≤ t ∧ t ≤ 10000))) (fun _ q => q) rfl ?_
 have ho : (decide (0 ≤ t ∧ t ≤ 10000)) = (decide (0 ≤ t ∧ t ≤ 10000)) := by simp
 exact ⟨by first | (rw [ho]; done) | rfl, rfl⟩

set_option maxRecDepth 10000 in
set_option maxHeartbeats 4000000 in
theorem impl_startAfter_ok (v_l : Value) (l : List FogD) (link : Int) (t : Int) (seconds : Int) (h : Heap) (s_l : Sl h v_l l) (m : Nat) (hf : FogsOk m l) (ht : 0 ≤ t ∧ t ≤ 1000000) (hs : 0 ≤ seconds ∧ seconds ≤ 1000) : Cn f_impl_startAfter [v_l, .int .i64 link, .int .i64 t, .int .i64 seconds] h fun v h' => v = .int .i64 (stF l link t seconds) ∧ Ext h h' := by
 have l63_l := s_l.len63
 refine calls_of r_impl_startAfter ?_
 refine v_seq <| v_ops <| s_pq (.int .i64 0) <| s_nil <| p_seqN <| v_seq <| v_seq <| v_ops <| s_pq v_l <| s_pure (.int .i64 (l.length : Int)) (fun _ q => s_l.lenVC q) <| s_pq (.int .i64 0) <| s_nil <| p_seqN <| v_block <| v_loop2 (α := Nat) (β := Int) (fun k u => [(1, .int .i64 link), (2, .int .i64 u), (3, .int .i64 seconds), (11, v_l), (12, .int .i64 (l.length : Int)), (13, .int .i64 (k : Int))]) (fun k u hh => Ext h hh ∧ k ≤ l.length ∧ u = stF (l.take k) link t seconds) (fun k u => l.length - k) 0 t ⟨rfl, rfl, rfl, rfl, rfl, rfl⟩ ⟨(Ext.refl h), (by simp [stF])⟩ ?_
 rintro k u R2 h1 ⟨Eh, ⟨hk, hu⟩⟩
 have zEh := Eh.size
 have f4 := s_l.ext Eh
 have hb := stF_bd hf link t seconds k
 rw [← hu] at hb
 refine v_seq <| v_ops <| s_pq (.bool (decide ((k : Int) < (l.length : Int)))) <| s_nil <| p_seqN <| v_seq ?_
 refine v_cond rfl (fun c5 => ?_) (fun c5 => ?_)
 ·
  refine v_skip <| p_seqN <| v_seq <| v_block <| v_seq <| v_ops ?_
  have hk6 : k < l.length := (by first | omega | (simp; omega))
  obtain ⟨x7, hx7⟩ : ∃ x, l[k]? = some x := ⟨_, List.getElem?_eq_getElem hk6⟩
  refine s_pure (.pointer (some ⟨sblk v_l, soff v_l + k * 3, none⟩)) (fun _ q => f4.idx (k := k) rfl hk6 q) <| s_load (.agg #[.int .i64 x7.link, .int .i64 x7.fr, .int .i64 x7.til]) (fun _ q => f4.loadN hx7 rfl q) ?_
  refine s_new (fun h9 b8 hbb8 hzb8 eh9 bxb8 => ?_)
  have E10 := Eh.trans eh9
  have z11 := eh9.size
  have lbb8 := bxb8.lt
  refine s_stBx (.agg #[.int .i64 x7.link, .int .i64 x7.fr, .int .i64 x7.til]) [.int .i64 x7.link, .int .i64 x7.fr, .int .i64 x7.til] [.int .i64 x7.link, .int .i64 x7.fr, .int .i64 x7.til] bxb8 rfl rfl rfl rfl (by simp) (all_cons rfl (all_cons rfl (all_cons rfl all_nil))) rfl (fun h12 mh12 sh12 bxx13 => ?_)
  have E14 := E10.mod mh12 (fun b hb => by simp at hb; omega)
  refine s_nil <| p_seqN <| v_seq <| v_ops <| s_pq (.pointer (some ⟨b8, 0, none⟩)) <| s_load (.int .i64 x7.link) (fun _ q => bxx13.load rfl q) <| s_pq (.int .i64 link) <| s_pq (.bool (x7.link == link)) <| s_pq (.bool (x7.link == link)) ?_
  refine s_splitT rfl (fun c15 => ?_) (fun c15 => ?_)
  ·
   refine s_run rfl <| s_pq (.pointer (some ⟨b8, 2, none⟩)) <| s_run rfl <| s_load (.int .i64 x7.til) (fun _ q => bxx13.load rfl q) <| s_run rfl <| s_pq (.int .i64 u) <| s_run rfl <| s_pq (.bool (decide (x7.til > u))) <| s_pq (.bool (decide (x7.til > u))) <| s_pq (.bool (decide (x7.til > u))) ?_
   refine s_splitT rfl (fun c16 => ?_) (fun c16 => ?_)
   ·
    refine s_run rfl <| s_pq (.pointer (some ⟨b8, 1, none⟩)) <| s_run rfl <| s_load (.int .i64 x7.fr) (fun _ q => bxx13.load rfl q) <| s_run rfl <| s_pq (.int .i64 u) <| s_run rfl <| s_pq (.int .i64 seconds) <| s_run rfl <| s_pure (.int .i64 (u + seconds)) (fun _ q => ArithVC.mk (by omega) q) <| s_run rfl <| s_pq (.bool (decide (x7.fr < (u + seconds)))) <| s_pq (.bool (decide (x7.fr < (u + seconds)))) <| s_nil <| p_seqN ?_
    refine v_cond rfl (fun c17 => ?_) (fun c17 => ?_)
    ·
     refine v_ops <| s_pq (.pointer (some ⟨b8, 2, none⟩)) <| s_load (.int .i64 x7.til) (fun _ q => bxx13.load rfl q) <| s_pq (.int .i64 x7.til) <| s_nil <| p_blkN <| p_seqN <| v_ops <| s_pure (.int .i64 ((k : Int) + 1)) (fun _ q => ArithVC.mk (by omega) q) <| s_pq (.int .i64 ((k : Int) + 1)) <| s_nil ?_
     exact p_lpN ⟨k + 1, x7.til, ⟨rfl, rfl, rfl, rfl, rfl, rfl⟩, ⟨E14, (by exact ⟨by omega, by rw [snoc_get (by assumption), stF_snoc, ← hu]; first | rw [if_pos (by omega)] | rw [if_neg (by omega)]⟩)⟩, by omega⟩
    refine v_skip <| p_blkN <| p_seqN <| v_ops <| s_pure (.int .i64 ((k : Int) + 1)) (fun _ q => ArithVC.mk (by omega) q) <| s_pq (.int .i64 ((k : Int) + 1)) <| s_nil ?_
    exact p_lpN ⟨k + 1, u, ⟨rfl, rfl, rfl, rfl, rfl, rfl⟩, ⟨E14, (by exact ⟨by omega, by rw [snoc_get (by assumption), stF_snoc, ← hu]; first | rw [if_pos (by omega)] | rw [if_neg (by omega)]⟩)⟩, by omega⟩
   refine s_pass rfl <| s_pass rfl <| s_pass rfl <| s_pass rfl <| s_pass rfl <| s_pass rfl <| s_pq (.bool false) <| s_nil <| p_seqN <| v_condN rfl (by simp) <| v_skip <| p_blkN <| p_seqN <| v_ops <| s_pure (.int .i64 ((k : Int) + 1)) (fun _ q => ArithVC.mk (by omega) q) <| s_pq (.int .i64 ((k : Int) + 1)) <| s_nil ?_
   exact p_lpN ⟨k + 1, u, ⟨rfl, rfl, rfl, rfl, rfl, rfl⟩, ⟨E14, (by exact ⟨by omega, by rw [snoc_get (by assumption), stF_snoc, ← hu]; first | rw [if_pos (by omega)] | rw [if_neg (by omega)]⟩)⟩, by omega⟩
  refine s_pass rfl <| s_pass rfl <| s_pass rfl <| s_pass rfl <| s_pq (.bool false) <| s_pq (.bool false) <| s_splitN rfl (by simp) <| s_pass rfl <| s_pass rfl <| s_pass rfl <| s_pass rfl <| s_pass rfl <| s_pass rfl <| s_pq (.bool false) <| s_nil <| p_seqN <| v_condN rfl (by simp) <| v_skip <| p_blkN <| p_seqN <| v_ops <| s_pure (.int .i64 ((k : Int) + 1)) (fun _ q => ArithVC.mk (by omega) q) <| s_pq (.int .i64 ((k : Int) + 1)) <| s_nil ?_
  exact p_lpN ⟨k + 1, u, ⟨rfl, rfl, rfl, rfl, rfl, rfl⟩, ⟨E14, (by exact ⟨by omega, by rw [snoc_get (by assumption), stF_snoc, ← hu]; first | rw [if_pos (by omega)] | rw [if_neg (by omega)]⟩)⟩, by omega⟩
 refine v_exit <| p_seqX <| p_lpX <| p_blkX <| p_seqN <| v_seq <| v_ops <| s_pq (.int .i64 u) <| s_pq (.int .i64 u) <| s_nil <| p_seqN <| v_ret <| p_ret [.int .i64 u] (.int .i64 u) (fun _ q => q) rfl ?_
 have ho : (stF l link t seconds) = u := by rw [take_all (by assumption)] at hu; exact hu.symm
 exact ⟨by first | (rw [ho]; done) | rfl, Eh⟩

end Go.Proofs.Ytloicopmcagikaa



/- The laws' helpers on rows of rows of numbers. Condition: none. Printed in part by a program. -/
namespace Go.Proofs.Ytloicopmcagikaa
open Go.Vc
set_option linter.all false
end Go.Proofs.Ytloicopmcagikaa



/- Clear windows. Condition: none. Printed in part by a program. -/
namespace Go.Proofs.Ytloicopmcagikaa
open Go.Vc
set_option linter.all false

structure AskF (n : NetP) (l : List FogD) (link a b : Int) : Prop where
 hn : NetOk n
 hf : FogsOk n.links.length l
 hk : 0 ≤ link ∧ link ≤ (n.links.length : Int) - 1
 ha : 0 ≤ a
 hab : a ≤ b
 hb : b ≤ 10000
noncomputable instance (n : NetP) (l : List FogD) (link a b : Int) : Decidable (AskF n l link a b) := Classical.propDecidable _
theorem askF_iff {n : NetP} {l : List FogD} {link a b : Int} : AskF n l link a b ↔ NetOk n ∧ FogsOk n.links.length l ∧ (0 ≤ link ∧ link ≤ (n.links.length : Int) - 1) ∧ 0 ≤ a ∧ a ≤ b ∧ b ≤ 10000 :=
 ⟨fun h => ⟨h.hn, h.hf, h.hk, h.ha, h.hab, h.hb⟩, fun ⟨h1, h2, h3, h4, h5, h6⟩ => ⟨h1, h2, h3, h4, h5, h6⟩⟩
/-- fogs of one link are in order -/
theorem FogsOk.lt {m : Nat} {l : List FogD} (h : FogsOk m l) {i j : Nat} {x y : FogD} (hx : l[i]? = some x) (hy : l[j]? = some y) (hij : i < j) : x.link ≤ y.link ∧ (x.link = y.link → x.til < y.fr) := by
  induction j generalizing y with
  | zero => omega
  | succ j ih =>
    have hj := (List.getElem?_eq_some_iff.1 hy).1
    have hz := List.getElem?_eq_getElem (show j < l.length by omega)
    have hzy := (h.2 (j + 1) y hj hy).2 (by omega) _ hz
    have hzo := h.at hz
    by_cases e : i = j
    · subst e; rw [hx] at hz; have := Option.some.inj hz; subst this; omega
    · have := ih hz (by omega)
      omega
def cwStep (link a b : Int) (s : Int × List (List Int)) (x : FogD) : Int × List (List Int) := if x.link ≠ link ∨ x.til ≤ a ∨ x.fr ≥ b then s else (x.til, if x.fr > s.1 then s.2 ++ [[s.1, x.fr]] else s.2)
def csStep (link b : Int) (s : Int × List (List Int)) (x : FogD) : Int × List (List Int) := if x.link ≠ link ∨ x.til ≤ s.1 then s else (x.til, if s.1 < (if x.fr < b then x.fr else b) then s.2 ++ [[s.1, (if x.fr < b then x.fr else b)]] else s.2)
def cwTo (l : List FogD) (link a b : Int) : Int × List (List Int) := l.foldl (cwStep link a b) (a, [])
def csTo (l : List FogD) (link a b : Int) : Int × List (List Int) := l.foldl (csStep link b) (a, [])
theorem cwTo_snoc (l : List FogD) (link a b : Int) (x : FogD) : cwTo (l ++ [x]) link a b = cwStep link a b (cwTo l link a b) x := by simp [cwTo]
theorem csTo_snoc (l : List FogD) (link a b : Int) (x : FogD) : csTo (l ++ [x]) link a b = csStep link b (csTo l link a b) x := by simp [csTo]
def winEnd (b : Int) (s : Int × List (List Int)) : List (List Int) := if s.1 < b then s.2 ++ [[s.1, b]] else s.2
theorem win_same {m : Nat} {l : List FogD} (h : FogsOk m l) {link a b : Int} (hab : a ≤ b) : ∀ k, k ≤ l.length →
    (a ≤ (csTo (l.take k) link a b).1 ∧ ∀ j y, k ≤ j → l[j]? = some y → y.link = link → (csTo (l.take k) link a b).1 = a ∨ (csTo (l.take k) link a b).1 < y.fr) ∧
    (cwTo (l.take k) link a b = csTo (l.take k) link a b ∨ ((csTo (l.take k) link a b).1 > b ∧ (csTo (l.take k) link a b).2 = winEnd b (cwTo (l.take k) link a b) ∧ ∀ j y, k ≤ j → l[j]? = some y → y.link = link → y.fr ≥ b)) := by
  intro k
  induction k with
  | zero => intro _; exact ⟨⟨by simp [csTo], fun j y _ _ _ => .inl (by simp [csTo])⟩, .inl (by simp [cwTo, csTo])⟩
  | succ k ih =>
    intro hk
    obtain ⟨⟨h1, h2⟩, h3⟩ := ih (by omega)
    have hx := List.getElem?_eq_getElem (show k < l.length by omega)
    generalize l[k] = x at hx
    have hxo := h.at hx
    rw [snoc_get hx, cwTo_snoc, csTo_snoc]
    generalize hc : csTo (l.take k) link a b = c at *
    generalize hw : cwTo (l.take k) link a b = w at *
    obtain ⟨c1, c2⟩ := c
    obtain ⟨w1, w2⟩ := w
    simp only at h1 h2 h3 ⊢
    have hnext : ∀ j y, k + 1 ≤ j → l[j]? = some y → y.link = link → x.link = link → x.til < y.fr := fun j y hj hy hl hxl => (h.lt hx hy (by omega)).2 (by omega)
    by_cases hl : x.link = link
    · have h2x := h2 k x (Nat.le_refl k) hx hl
      by_cases ht : x.til ≤ c1
      · have hca : c1 = a := by omega
        have hs : csStep link b (c1, c2) x = (c1, c2) := by unfold csStep; rw [if_pos (.inr ht)]
        have hw' : cwStep link a b (w1, w2) x = (w1, w2) := by unfold cwStep; rw [if_pos (.inr (.inl (by omega)))]
        rw [hs, hw']
        exact ⟨⟨h1, fun j y hj hy hyl => h2 j y (by omega) hy hyl⟩, h3.imp id fun ⟨q1, q2, q3⟩ => ⟨q1, q2, fun j y hj hy hyl => q3 j y (by omega) hy hyl⟩⟩
      · have hs : csStep link b (c1, c2) x = (x.til, if c1 < (if x.fr < b then x.fr else b) then c2 ++ [[c1, (if x.fr < b then x.fr else b)]] else c2) := by unfold csStep; rw [if_neg (by omega)]
        rw [hs]
        refine ⟨⟨by simp only; omega, fun j y hj hy hyl => .inr (by simp only; exact hnext j y hj hy hyl hl)⟩, ?_⟩
        rcases h3 with h3 | ⟨q1, q2, q3⟩
        · obtain ⟨rfl, rfl⟩ := Prod.mk.inj h3
          by_cases hb : x.fr ≥ b
          · right
            have hw' : cwStep link a b (w1, w2) x = (w1, w2) := by unfold cwStep; rw [if_pos (.inr (.inr hb))]
            have hm : (if x.fr < b then x.fr else b) = b := if_neg (by omega)
            rw [hw', hm]
            exact ⟨by simp only; omega, by simp only [winEnd], fun j y hj hy hyl => by have := hnext j y hj hy hyl hl; omega⟩
          · left
            have hw' : cwStep link a b (w1, w2) x = (x.til, if x.fr > w1 then w2 ++ [[w1, x.fr]] else w2) := by unfold cwStep; rw [if_neg (by omega)]
            have hm : (if x.fr < b then x.fr else b) = x.fr := if_pos (by omega)
            rw [hw', hm]
        · right
          have hfr := q3 k x (Nat.le_refl k) hx hl
          have hw' : cwStep link a b (w1, w2) x = (w1, w2) := by unfold cwStep; rw [if_pos (.inr (.inr hfr))]
          have hm : (if x.fr < b then x.fr else b) = b := if_neg (by omega)
          rw [hw', hm, if_neg (by omega)]
          exact ⟨by simp only; omega, q2, fun j y hj hy hyl => q3 j y (by omega) hy hyl⟩
    · have hs : csStep link b (c1, c2) x = (c1, c2) := by unfold csStep; rw [if_pos (.inl hl)]
      have hw' : cwStep link a b (w1, w2) x = (w1, w2) := by unfold cwStep; rw [if_pos (.inl hl)]
      rw [hs, hw']
      exact ⟨⟨h1, fun j y hj hy hyl => h2 j y (by omega) hy hyl⟩, h3.imp id fun ⟨q1, q2, q3⟩ => ⟨q1, q2, fun j y hj hy hyl => q3 j y (by omega) hy hyl⟩⟩
theorem win_eq {m : Nat} {l : List FogD} (h : FogsOk m l) {link a b : Int} (hab : a ≤ b) : winEnd b (csTo l link a b) = winEnd b (cwTo l link a b) := by
  have := (win_same h (link := link) hab l.length (Nat.le_refl _)).2
  rw [List.take_length] at this
  rcases this with h1 | ⟨h1, h2, _⟩
  · rw [h1]
  · rw [winEnd, if_neg (by omega), h2]
noncomputable def cwOut (n : NetP) (l : List FogD) (link a b : Int) : List (List Int) × Bool := if AskF n l link a b then (winEnd b (cwTo l link a b), true) else ([], false)
theorem cw_no {n : NetP} {l : List FogD} {link a b : Int} (h : ¬ AskF n l link a b) : cwOut n l link a b = ([], false) := by rw [cwOut, if_neg h]
theorem cw_len (l : List FogD) (link a b : Int) : (cwTo l link a b).2.length ≤ l.length ∧ ∀ r ∈ (cwTo l link a b).2, r.length = 2 := by
  have : ∀ (l : List FogD) (s : Int × List (List Int)), (∀ r ∈ s.2, r.length = 2) → (l.foldl (cwStep link a b) s).2.length ≤ s.2.length + l.length ∧ ∀ r ∈ (l.foldl (cwStep link a b) s).2, r.length = 2 := by
    intro l
    induction l with
    | nil => intro s hs; exact ⟨by simp, hs⟩
    | cons x l ih =>
      intro s hs
      have h1 : (cwStep link a b s x).2.length ≤ s.2.length + 1 ∧ ∀ r ∈ (cwStep link a b s x).2, r.length = 2 := by
        unfold cwStep
        split
        · exact ⟨by omega, hs⟩
        · simp only
          split
          · refine ⟨by simp, fun r hr => ?_⟩
            rcases List.mem_append.1 hr with hr | hr
            · exact hs r hr
            · obtain rfl := List.mem_singleton.1 hr; rfl
          · exact ⟨by omega, hs⟩
      have := ih _ h1.2
      simp only [List.foldl_cons, List.length_cons]
      exact ⟨by omega, this.2⟩
  have := this l (a, []) (by simp)
  simpa [cwTo] using this
set_option maxRecDepth 10000 in
set_option maxHeartbeats 4000000 in
theorem impl_fogAsked_ok (n : NetP) (v_n_towers : Value) (v_n_links : Value) (v_l : Value) (l : List FogD) (link : Int) (a : Int) (b : Int) (h : Heap) (s_n_towers : Sl h v_n_towers n.towers) (s_n_links : Sl h v_n_links n.links) (s_l : Sl h v_l l) : Cn f_impl_fogAsked [.agg #[v_n_towers, v_n_links], v_l, .int .i64 link, .int .i64 a, .int .i64 b] h fun v h' => v = .bool (decide (AskF n l link a b)) ∧ Ext h h' := by
 have l63_n_towers := s_n_towers.len63
 have l63_n_links := s_n_links.len63
 have l63_l := s_l.len63
 refine calls_of r_impl_fogAsked ?_
 refine v_seq <| v_ops ?_
 refine s_box [v_n_towers, v_n_links] rfl (fun h2 b1 hbb1 hzb1 eh2 bxb1 => ?_)
 have E3 := (Ext.refl h).trans eh2
 have z4 := eh2.size
 have lbb1 := bxb1.lt
 refine s_pq (.bool false) <| s_nil <| p_seqN <| v_seq <| v_ops <| s_load (.agg #[v_n_towers, v_n_links]) (fun _ q => bxb1.loadA rfl q) <| s_pq (.int .i64 link) ?_
 have f5 := (s_n_towers.ext eh2)
 have f6 := (s_n_links.ext eh2)
 refine s_call [.agg #[v_n_towers, v_n_links], .int .i64 link] rfl (impl_isLink_ok n v_n_towers v_n_links link _ f5 f6) ?_
 rintro _ h7 ⟨rfl, eh7⟩
 have E8 := E3.trans eh7
 have z9 := eh7.size
 refine s_pq (.bool (decide (NetOk n ∧ (0 ≤ link ∧ link ≤ (n.links.length : Int) - 1)))) ?_
 refine s_splitT rfl (fun c10 => ?_) (fun c10 => ?_)
 ·
  refine s_run rfl ?_
  have f11 := (bxb1.ext eh7)
  refine s_load (.agg #[v_n_towers, v_n_links]) (fun _ q => f11.loadA rfl q) <| s_run rfl <| s_pq v_l <| s_run rfl ?_
  have f12 := (f5.ext eh7)
  have f13 := (f6.ext eh7)
  have f14 := ((s_l.ext eh2).ext eh7)
  refine s_call [.agg #[v_n_towers, v_n_links], v_l] rfl (impl_areFogs_ok n v_n_towers v_n_links v_l l _ f12 f13 f14) ?_
  rintro _ h15 ⟨rfl, eh15⟩
  have E16 := E8.trans eh15
  have z17 := eh15.size
  refine s_pq (.bool (decide (FogsOk n.links.length l))) <| s_pq (.bool (decide (FogsOk n.links.length l))) ?_
  refine s_splitT rfl (fun c18 => ?_) (fun c18 => ?_)
  ·
   refine s_run rfl <| s_pq (.int .i64 a) <| s_run rfl <| s_pq (.bool (decide (a ≥ 0))) <| s_pq (.bool (decide (a ≥ 0))) <| s_pq (.bool (decide (a ≥ 0))) ?_
   refine s_splitT rfl (fun c19 => ?_) (fun c19 => ?_)
   ·
    refine s_run rfl <| s_pq (.int .i64 a) <| s_run rfl <| s_pq (.int .i64 b) <| s_run rfl <| s_pq (.bool (decide (a ≤ b))) <| s_pq (.bool (decide (a ≤ b))) <| s_pq (.bool (decide (a ≤ b))) ?_
    refine s_splitT rfl (fun c20 => ?_) (fun c20 => ?_)
    ·
     refine s_run rfl <| s_pq (.int .i64 b) <| s_run rfl <| s_pq (.bool (decide (b ≤ 10000))) <| s_pq (.bool (decide (b ≤ 10000))) <| s_pq (.bool (decide (b ≤ 10000))) <| s_nil <| p_seqN <| v_ret <| p_ret [.bool (decide (b ≤ 10000))] (.bool (decide (b ≤ 10000))) (fun _ q => q) rfl ?_
     have ho : (decide (AskF n l link a b)) = (decide (b ≤ 10000)) := by first | (simp only [askF_iff]; simp [*]; done) | (simp only [askF_iff]; simp [*]; intros; omega) | (rw [decide_eq_false_iff_not, askF_iff]; rintro ⟨h1, h2, h3, h4⟩; exact (by assumption : ¬ (NetOk n ∧ 0 ≤ link ∧ _)) ⟨h1, h3⟩)
     exact ⟨by first | (rw [ho]; done) | rfl, E16⟩
    refine s_pass rfl <| s_pass rfl <| s_pq (.bool false) <| s_pq (.bool false) <| s_nil <| p_seqN <| v_ret <| p_ret [.bool false] (.bool false) (fun _ q => q) rfl ?_
    have ho : (decide (AskF n l link a b)) = false := by first | (simp only [askF_iff]; simp [*]; done) | (simp only [askF_iff]; simp [*]; intros; omega) | (rw [decide_eq_false_iff_not, askF_iff]; rintro ⟨h1, h2, h3, h4⟩; exact (by assumption : ¬ (NetOk n ∧ 0 ≤ link ∧ _)) ⟨h1, h3⟩)
    exact ⟨by first | (rw [ho]; done) | rfl, E16⟩
   refine s_pass rfl <| s_pass rfl <| s_pass rfl <| s_pq (.bool false) <| s_pq (.bool false) <| s_splitN rfl (by simp) <| s_pass rfl <| s_pass rfl <| s_pq (.bool false) <| s_pq (.bool false) <| s_nil <| p_seqN <| v_ret <| p_ret [.bool false] (.bool false) (fun _ q => q) rfl ?_
   have ho : (decide (AskF n l link a b)) = false := by first | (simp only [askF_iff]; simp [*]; done) | (simp only [askF_iff]; simp [*]; intros; omega) | (rw [decide_eq_false_iff_not, askF_iff]; rintro ⟨h1, h2, h3, h4⟩; exact (by assumption : ¬ (NetOk n ∧ 0 ≤ link ∧ _)) ⟨h1, h3⟩)
   exact ⟨by first | (rw [ho]; done) | rfl, E16⟩
  refine s_pass rfl <| s_pass rfl <| s_pq (.bool false) <| s_pq (.bool false) <| s_splitN rfl (by simp) <| s_pass rfl <| s_pass rfl <| s_pass rfl <| s_pq (.bool false) <| s_pq (.bool false) <| s_splitN rfl (by simp) <| s_pass rfl <| s_pass rfl <| s_pq (.bool false) <| s_pq (.bool false) <| s_nil <| p_seqN <| v_ret <| p_ret [.bool false] (.bool false) (fun _ q => q) rfl ?_
  have ho : (decide (AskF n l link a b)) = false := by first | (simp only [askF_iff]; simp [*]; done) | (simp only [askF_iff]; simp [*]; intros; omega) | (rw [decide_eq_false_iff_not, askF_iff]; rintro ⟨h1, h2, h3, h4⟩; exact (by assumption : ¬ (NetOk n ∧ 0 ≤ link ∧ _)) ⟨h1, h3⟩)
  exact ⟨by first | (rw [ho]; done) | rfl, E16⟩
 refine s_pass rfl <| s_pass rfl <| s_pass rfl <| s_pq (.bool false) <| s_pq (.bool false) <| s_splitN rfl (by simp) <| s_pass rfl <| s_pass rfl <| s_pq (.bool false) <| s_pq (.bool false) <| s_splitN rfl (by simp) <| s_pass rfl <| s_pass rfl <| s_pass rfl <| s_pq (.bool false) <| s_pq (.bool false) <| s_splitN rfl (by simp) <| s_pass rfl <| s_pass rfl <| s_pq (.bool false) <| s_pq (.bool false) <| s_nil <| p_seqN <| v_ret <| p_ret [.bool false] (.bool false) (fun _ q => q) rfl ?_
 have ho : (decide (AskF n l link a b)) = false := by first | (simp only [askF_iff]; simp [*]; done) | (simp only [askF_iff]; simp [*]; intros; omega) | (rw [decide_eq_false_iff_not, askF_iff]; rintro ⟨h1, h2, h3, h4⟩; exact (by assumption : ¬ (NetOk n ∧ 0 ≤ link ∧ _)) ⟨h1, h3⟩)
 exact ⟨by first | (rw [ho]; done) | rfl, E8⟩

theorem spec_fgHas_ok (n : NetP) (v_n_towers : Value) (v_n_links : Value) (v_l : Value) (l : List FogD) (link : Int) (h : Heap) (s_n_towers : Sl h v_n_towers n.towers) (s_n_links : Sl h v_n_links n.links) (s_l : Sl h v_l l) : Cn f_spec_fgHas [.agg #[v_n_towers, v_n_links], v_l, .int .i64 link] h fun v h' => v = .bool (decide (NetOk n ∧ FogsOk n.links.length l ∧ (0 ≤ link ∧ link ≤ (n.links.length : Int) - 1))) ∧ Ext h h' := by
 have l63_n_towers := s_n_towers.len63
 have l63_n_links := s_n_links.len63
 have l63_l := s_l.len63
 refine calls_of r_spec_fgHas ?_
 refine v_seq <| v_ops ?_
 refine s_box [v_n_towers, v_n_links] rfl (fun h2 b1 hbb1 hzb1 eh2 bxb1 => ?_)
 have E3 := (Ext.refl h).trans eh2
 have z4 := eh2.size
 have lbb1 := bxb1.lt
 refine s_pq (.bool false) <| s_nil <| p_seqN <| v_seq <| v_ops <| s_load (.agg #[v_n_towers, v_n_links]) (fun _ q => bxb1.loadA rfl q) ?_
 have f5 := (s_n_towers.ext eh2)
 have f6 := (s_n_links.ext eh2)
 refine s_call [.agg #[v_n_towers, v_n_links]] rfl (spec_neGood_ok n v_n_towers v_n_links _ f5 f6) ?_
 rintro _ h7 ⟨rfl, eh7⟩
 have E8 := E3.trans eh7
 have z9 := eh7.size
 refine s_pq (.bool (decide (NetOk n))) ?_
 refine s_splitT rfl (fun c10 => ?_) (fun c10 => ?_)
 ·
  refine s_run rfl ?_
  have f11 := (bxb1.ext eh7)
  refine s_load (.agg #[v_n_towers, v_n_links]) (fun _ q => f11.loadA rfl q) <| s_run rfl <| s_pq v_l <| s_run rfl ?_
  have f12 := (f5.ext eh7)
  have f13 := (f6.ext eh7)
  have f14 := ((s_l.ext eh2).ext eh7)
  refine s_call [.agg #[v_n_towers, v_n_links], v_l] rfl (spec_fgGood_ok n v_n_towers v_n_links v_l l _ f12 f13 f14) ?_
  rintro _ h15 ⟨rfl, eh15⟩
  have E16 := E8.trans eh15
  have z17 := eh15.size
  refine s_pq (.bool (decide (FogsOk n.links.length l))) <| s_pq (.bool (decide (FogsOk n.links.length l))) ?_
  refine s_splitT rfl (fun c18 => ?_) (fun c18 => ?_)
  ·
   refine s_run rfl <| s_pq (.int .i64 link) <| s_run rfl <| s_pq (.pointer (some ⟨b1, 1, none⟩)) <| s_run rfl ?_
   have f19 := (f11.ext eh15)
   refine s_load v_n_links (fun _ q => f19.load rfl q) <| s_run rfl <| s_pure (.int .i64 (n.links.length : Int)) (fun _ q => f13.lenVC q) <| s_run rfl <| s_pure (.int .i64 ((n.links.length : Int) - 1)) (fun _ q => ArithVC.mk (by omega) q) <| s_run rfl <| s_callS [.int .i64 link, .int .i64 0, .int .i64 ((n.links.length : Int) - 1)] (.bool (decide (0 ≤ link ∧ link ≤ ((n.links.length : Int) - 1)))) rfl (l1In_ok link 0 ((n.links.length : Int) - 1) _ ) <| s_pq (.bool (decide (0 ≤ link ∧ link ≤ ((n.links.length : Int) - 1)))) ?_
   refine s_pq (.bool (decide (0 ≤ link ∧ link ≤ ((n.links.length : Int) - 1)))) <| s_nil <| p_seqN <| v_ret <| p_ret [.bool (decide (0 ≤ link ∧ link ≤ ((n.links.length : Int) - 1)))] (.bool (decide (0 ≤ link ∧ link ≤ ((n.links.length : Int) - 1)))) (fun _ q => q) rfl ?_
   have ho : (decide (NetOk n ∧ FogsOk n.links.length l ∧ (0 ≤ link ∧ link ≤ (n.links.length : Int) - 1))) = (decide (0 ≤ link ∧ link ≤ ((n.links.length : Int) - 1))) := by simp [*]
   exact ⟨by first | (rw [ho]; done) | rfl, E16⟩
  refine s_pass rfl <| s_pass rfl <| s_pass rfl <| s_pass rfl <| s_pass rfl <| s_pass rfl <| s_pq (.bool false) <| s_pq (.bool false) <| s_nil <| p_seqN <| v_ret <| p_ret [.bool false] (.bool false) (fun _ q => q) rfl ?_
  have ho : (decide (NetOk n ∧ FogsOk n.links.length l ∧ (0 ≤ link ∧ link ≤ (n.links.length : Int) - 1))) = false := by simp [*]
  exact ⟨by first | (rw [ho]; done) | rfl, E16⟩
 refine s_pass rfl <| s_pass rfl <| s_pass rfl <| s_pq (.bool false) <| s_pq (.bool false) <| s_splitN rfl (by simp) <| s_pass rfl <| s_pass rfl <| s_pass rfl <| s_pass rfl <| s_pass rfl <| s_pass rfl <| s_pq (.bool false) <| s_pq (.bool false) <| s_nil <| p_seqN <| v_ret <| p_ret [.bool false] (.bool false) (fun _ q => q) rfl ?_
 have ho : (decide (NetOk n ∧ FogsOk n.links.length l ∧ (0 ≤ link ∧ link ≤ (n.links.length : Int) - 1))) = false := by simp [*]
 exact ⟨by first | (rw [ho]; done) | rfl, E8⟩

theorem spec_fgSpan_ok (n : NetP) (v_n_towers : Value) (v_n_links : Value) (v_l : Value) (l : List FogD) (link : Int) (a : Int) (b : Int) (h : Heap) (s_n_towers : Sl h v_n_towers n.towers) (s_n_links : Sl h v_n_links n.links) (s_l : Sl h v_l l) : Cn f_spec_fgSpan [.agg #[v_n_towers, v_n_links], v_l, .int .i64 link, .int .i64 a, .int .i64 b] h fun v h' => v = .bool (decide (AskF n l link a b)) ∧ Ext h h' := by
 have l63_n_towers := s_n_towers.len63
 have l63_n_links := s_n_links.len63
 have l63_l := s_l.len63
 refine calls_of r_spec_fgSpan ?_
 refine v_seq <| v_ops ?_
 refine s_box [v_n_towers, v_n_links] rfl (fun h2 b1 hbb1 hzb1 eh2 bxb1 => ?_)
 have E3 := (Ext.refl h).trans eh2
 have z4 := eh2.size
 have lbb1 := bxb1.lt
 refine s_pq (.bool false) <| s_nil <| p_seqN <| v_seq <| v_ops <| s_load (.agg #[v_n_towers, v_n_links]) (fun _ q => bxb1.loadA rfl q) <| s_pq v_l <| s_pq (.int .i64 link) ?_
 have f5 := (s_n_towers.ext eh2)
 have f6 := (s_n_links.ext eh2)
 have f7 := (s_l.ext eh2)
 refine s_call [.agg #[v_n_towers, v_n_links], v_l, .int .i64 link] rfl (spec_fgHas_ok n v_n_towers v_n_links v_l l link _ f5 f6 f7) ?_
 rintro _ h8 ⟨rfl, eh8⟩
 have E9 := E3.trans eh8
 have z10 := eh8.size
 refine s_pq (.bool (decide (NetOk n ∧ FogsOk n.links.length l ∧ (0 ≤ link ∧ link ≤ (n.links.length : Int) - 1)))) ?_
 refine s_splitT rfl (fun c11 => ?_) (fun c11 => ?_)
 ·
  refine s_run rfl <| s_pq (.int .i64 a) <| s_run rfl <| s_callS [.int .i64 a] (.bool (decide (0 ≤ a ∧ a ≤ 10000))) rfl (spec_fgTime_ok a _ ) <| s_pq (.bool (decide (0 ≤ a ∧ a ≤ 10000))) <| s_pq (.bool (decide (0 ≤ a ∧ a ≤ 10000))) ?_
  refine s_splitT rfl (fun c12 => ?_) (fun c12 => ?_)
  ·
   refine s_run rfl <| s_pq (.int .i64 b) <| s_run rfl <| s_callS [.int .i64 b] (.bool (decide (0 ≤ b ∧ b ≤ 10000))) rfl (spec_fgTime_ok b _ ) <| s_pq (.bool (decide (0 ≤ b ∧ b ≤ 10000))) <| s_pq (.bool (decide (0 ≤ b ∧ b ≤ 10000))) ?_
   refine s_splitT rfl (fun c13 => ?_) (fun c13 => ?_)
   ·
    refine s_run rfl <| s_pq (.int .i64 a) <| s_run rfl <| s_pq (.int .i64 b) <| s_run rfl <| s_pq (.bool (decide (a ≤ b))) <| s_pq (.bool (decide (a ≤ b))) <| s_pq (.bool (decide (a ≤ b))) <| s_nil <| p_seqN <| v_ret <| p_ret [.bool (decide (a ≤ b))] (.bool (decide (a ≤ b))) (fun _ q => q) rfl ?_
    have ho : (decide (AskF n l link a b)) = (decide (a ≤ b)) := by simp only [askF_iff]; first | (simp [*]; done) | (rw [Bool.eq_iff_iff]; simp only [decide_eq_true_eq, Bool.false_eq_true, iff_false, false_iff, iff_true, true_iff]; first | omega | (intro hh; apply (by assumption : ¬ (NetOk _ ∧ _)); exact ⟨hh.1, hh.2.1, hh.2.2.1⟩) | (constructor <;> intro hh <;> first | omega | exact ⟨(by assumption : NetOk _ ∧ _).1, (by assumption : NetOk _ ∧ _).2.1, (by assumption : NetOk _ ∧ _).2.2, by omega⟩))
    exact ⟨by first | (rw [ho]; done) | rfl, E9⟩
   refine s_pass rfl <| s_pass rfl <| s_pass rfl <| s_pq (.bool false) <| s_pq (.bool false) <| s_nil <| p_seqN <| v_ret <| p_ret [.bool false] (.bool false) (fun _ q => q) rfl ?_
   have ho : (decide (AskF n l link a b)) = false := by simp only [askF_iff]; first | (simp [*]; done) | (rw [Bool.eq_iff_iff]; simp only [decide_eq_true_eq, Bool.false_eq_true, iff_false, false_iff, iff_true, true_iff]; first | omega | (intro hh; apply (by assumption : ¬ (NetOk _ ∧ _)); exact ⟨hh.1, hh.2.1, hh.2.2.1⟩) | (constructor <;> intro hh <;> first | omega | exact ⟨(by assumption : NetOk _ ∧ _).1, (by assumption : NetOk _ ∧ _).2.1, (by assumption : NetOk _ ∧ _).2.2, by omega⟩))
   exact ⟨by first | (rw [ho]; done) | rfl, E9⟩
  refine s_pass rfl <| s_pass rfl <| s_pq (.bool false) <| s_pq (.bool false) <| s_splitN rfl (by simp) <| s_pass rfl <| s_pass rfl <| s_pass rfl <| s_pq (.bool false) <| s_pq (.bool false) <| s_nil <| p_seqN <| v_ret <| p_ret [.bool false] (.bool false) (fun _ q => q) rfl ?_
  have ho : (decide (AskF n l link a b)) = false := by simp only [askF_iff]; first | (simp [*]; done) | (rw [Bool.eq_iff_iff]; simp only [decide_eq_true_eq, Bool.false_eq_true, iff_false, false_iff, iff_true, true_iff]; first | omega | (intro hh; apply (by assumption : ¬ (NetOk _ ∧ _)); exact ⟨hh.1, hh.2.1, hh.2.2.1⟩) | (constructor <;> intro hh <;> first | omega | exact ⟨(by assumption : NetOk _ ∧ _).1, (by assumption : NetOk _ ∧ _).2.1, (by assumption : NetOk _ ∧ _).2.2, by omega⟩))
  exact ⟨by first | (rw [ho]; done) | rfl, E9⟩
 refine s_pass rfl <| s_pass rfl <| s_pq (.bool false) <| s_pq (.bool false) <| s_splitN rfl (by simp) <| s_pass rfl <| s_pass rfl <| s_pq (.bool false) <| s_pq (.bool false) <| s_splitN rfl (by simp) <| s_pass rfl <| s_pass rfl <| s_pass rfl <| s_pq (.bool false) <| s_pq (.bool false) <| s_nil <| p_seqN <| v_ret <| p_ret [.bool false] (.bool false) (fun _ q => q) rfl ?_
 have ho : (decide (AskF n l link a b)) = false := by simp only [askF_iff]; first | (simp [*]; done) | (rw [Bool.eq_iff_iff]; simp only [decide_eq_true_eq, Bool.false_eq_true, iff_false, false_iff, iff_true, true_iff]; first | omega | (intro hh; apply (by assumption : ¬ (NetOk _ ∧ _)); exact ⟨hh.1, hh.2.1, hh.2.2.1⟩) | (constructor <;> intro hh <;> first | omega | exact ⟨(by assumption : NetOk _ ∧ _).1, (by assumption : NetOk _ ∧ _).2.1, (by assumption : NetOk _ ∧ _).2.2, by omega⟩))
 exact ⟨by first | (rw [ho]; done) | rfl, E9⟩

theorem spec_l1Least_ok (a : Int) (b : Int) (h : Heap)  : Cn f_spec_l1Least [.int .i64 a, .int .i64 b] h fun v h' => v = .int .i64 (if a < b then a else b) ∧ h' = h := by
 refine calls_of r_spec_l1Least ?_
 refine v_seq <| v_ops <| s_pq (.int .i64 0) <| s_nil <| p_seqN <| v_seq <| v_seq <| v_ops <| s_pq (.int .i64 a) <| s_pq (.int .i64 b) <| s_pq (.bool (decide (a < b))) <| s_nil <| p_seqN ?_
 refine v_cond rfl (fun c1 => ?_) (fun c1 => ?_)
 ·
  refine v_seq <| v_ops <| s_pq (.int .i64 a) <| s_pq (.int .i64 a) <| s_nil <| p_seqN <| v_ret <| p_seqR <| p_ret [.int .i64 a] (.int .i64 a) (fun _ q => q) rfl ?_
  have ho : (if a < b then a else b) = a := by simp [*]
  exact ⟨by first | (rw [ho]; done) | rfl, rfl⟩
 refine v_skip <| p_seqN <| v_seq <| v_ops <| s_pq (.int .i64 b) <| s_pq (.int .i64 b) <| s_nil <| p_seqN <| v_ret <| p_ret [.int .i64 b] (.int .i64 b) (fun _ q => q) rfl ?_
 have ho : (if a < b then a else b) = b := by simp [*]
 exact ⟨by first | (rw [ho]; done) | rfl, rfl⟩

set_option maxRecDepth 10000 in
set_option maxHeartbeats 4000000 in
theorem impl_ClearWindows_ok (n : NetP) (v_n_towers : Value) (v_n_links : Value) (v_l : Value) (l : List FogD) (link : Int) (a : Int) (b : Int) (h : Heap) (s_n_towers : Sl h v_n_towers n.towers) (s_n_links : Sl h v_n_links n.links) (s_l : Sl h v_l l) : Cn f_impl_ClearWindows [.agg #[v_n_towers, v_n_links], v_l, .int .i64 link, .int .i64 a, .int .i64 b] h fun v h' => ∃ r0 : Value, ∃ qr0 : List RowI, v = .tuple #[r0, .bool ((cwOut n l link a b).2)] ∧ DeepO h' r0 qr0 h.size ∧ qr0.map RowI.sig = (cwOut n l link a b).1 ∧ Ext h h' := by
 have l63_n_towers := s_n_towers.len63
 have l63_n_links := s_n_links.len63
 have l63_l := s_l.len63
 refine calls_of r_impl_ClearWindows ?_
 refine v_seq <| v_ops ?_
 refine s_box [v_n_towers, v_n_links] rfl (fun h2 b1 hbb1 hzb1 eh2 bxb1 => ?_)
 have E3 := (Ext.refl h).trans eh2
 have z4 := eh2.size
 have lbb1 := bxb1.lt
 refine s_pq (.slice none 0 0) <| s_pq (.bool false) <| s_nil <| p_seqN <| v_seq <| v_seq <| v_ops <| s_load (.agg #[v_n_towers, v_n_links]) (fun _ q => bxb1.loadA rfl q) <| s_pq v_l <| s_pq (.int .i64 link) <| s_pq (.int .i64 a) <| s_pq (.int .i64 b) ?_
 have f5 := (s_n_towers.ext eh2)
 have f6 := (s_n_links.ext eh2)
 have f7 := (s_l.ext eh2)
 refine s_call [.agg #[v_n_towers, v_n_links], v_l, .int .i64 link, .int .i64 a, .int .i64 b] rfl (impl_fogAsked_ok n v_n_towers v_n_links v_l l link a b _ f5 f6 f7) ?_
 rintro _ h8 ⟨rfl, eh8⟩
 have E9 := E3.trans eh8
 have z10 := eh8.size
 refine s_pq (.bool (!(decide (AskF n l link a b)))) <| s_nil <| p_seqN ?_
 refine v_cond rfl (fun c11 => ?_) (fun c11 => ?_)
 ·
  refine v_seq <| v_ops <| s_pq (.slice none 0 0) <| s_pq (.bool false) <| s_nil <| p_seqN <| v_ret <| p_seqR <| p_ret [.slice none 0 0, .bool false] (.tuple #[.slice none 0 0, .bool false]) (fun _ q => q) rfl ?_
  have ho : cwOut n l link a b = ([], false) := by first | exact cw_no (by assumption) | (rw [take_all (by assumption)] at hs; rw [cwOut, if_pos (by assumption), ← hs, winEnd]; simp only [List.map_append]; first | (rw [if_pos (by omega)]; rfl) | (rw [if_neg (by omega)]; done))
  exact ⟨(.slice none 0 0), [], by first | (rw [ho]; done) | rfl, DeepO.nil _ _, (congrArg (fun o => o.1) ho).symm, E9⟩
 have c11 := Classical.not_not.1 c11
 refine v_skip <| p_seqN <| v_seq <| v_ops <| s_pq (.slice none 0 0) <| s_nil <| p_seqN <| v_seq <| v_ops <| s_pq (.int .i64 a) <| s_pq (.int .i64 a) <| s_nil <| p_seqN <| v_seq <| v_seq <| v_ops <| s_pq v_l <| s_pure (.int .i64 (l.length : Int)) (fun _ q => f7.lenVC q) <| s_pq (.int .i64 0) <| s_nil <| p_seqN <| v_block <| v_loop4 (α := Nat) (β := Int) (γ := List RowI) (δ := Value) (fun k u ps o => [(2, .int .i64 link), (3, .int .i64 a), (4, .int .i64 b), (12, o), (13, .int .i64 u), (24, v_l), (25, .int .i64 (l.length : Int)), (26, .int .i64 (k : Int))]) (fun k u ps o hh => Ext h hh ∧ DeepO hh o ps h.size ∧ k ≤ l.length ∧ (u, ps.map RowI.sig) = cwTo (l.take k) link a b) (fun k u ps o => l.length - k) 0 a [] (.slice none 0 0) ⟨rfl, rfl, rfl, rfl, rfl, rfl, rfl, rfl⟩ ⟨E9, (DeepO.nil _ _), (by simp [cwTo])⟩ ?_
 rintro k u ps o R13 h12 ⟨Eh, s_o, ⟨hk, hs⟩⟩
 have zEh := Eh.size
 have f17 := s_l.ext Eh
 have lt_o := s_o.lt
 have fr_o := s_o.fr
 have hf : FogsOk n.links.length l := (by assumption : AskF n l link a b).hf
 have h60 := hf.1
 have hpl : ps.length ≤ k := (by (have h1 := (cw_len (l.take k) link a b).1); rw [← hs] at h1; simp at h1; omega)
 refine v_seq <| v_ops <| s_pq (.bool (decide ((k : Int) < (l.length : Int)))) <| s_nil <| p_seqN <| v_seq ?_
 refine v_cond rfl (fun c18 => ?_) (fun c18 => ?_)
 ·
  refine v_skip <| p_seqN <| v_seq <| v_block <| v_seq <| v_ops ?_
  have hk19 : k < l.length := (by first | omega | (simp; omega))
  obtain ⟨x20, hx20⟩ : ∃ x, l[k]? = some x := ⟨_, List.getElem?_eq_getElem hk19⟩
  refine s_pure (.pointer (some ⟨sblk v_l, soff v_l + k * 3, none⟩)) (fun _ q => f17.idx (k := k) rfl hk19 q) <| s_load (.agg #[.int .i64 x20.link, .int .i64 x20.fr, .int .i64 x20.til]) (fun _ q => f17.loadN hx20 rfl q) ?_
  refine s_new (fun h22 b21 hbb21 hzb21 eh22 bxb21 => ?_)
  have E23 := Eh.trans eh22
  have z24 := eh22.size
  have lbb21 := bxb21.lt
  refine s_stBx (.agg #[.int .i64 x20.link, .int .i64 x20.fr, .int .i64 x20.til]) [.int .i64 x20.link, .int .i64 x20.fr, .int .i64 x20.til] [.int .i64 x20.link, .int .i64 x20.fr, .int .i64 x20.til] bxb21 rfl rfl rfl rfl (by simp) (all_cons rfl (all_cons rfl (all_cons rfl all_nil))) rfl (fun h25 mh25 sh25 bxx26 => ?_)
  have E27 := E23.mod mh25 (fun b hb => by simp at hb; omega)
  refine s_nil <| p_seqN <| v_seq <| v_seq <| v_ops <| s_pq (.pointer (some ⟨b21, 0, none⟩)) <| s_load (.int .i64 x20.link) (fun _ q => bxx26.load rfl q) <| s_pq (.int .i64 link) <| s_pq (.bool (x20.link != link)) <| s_pq (.bool (x20.link != link)) ?_
  refine s_splitT rfl (fun c28 => ?_) (fun c28 => ?_)
  ·
   refine s_pass rfl <| s_pass rfl <| s_pass rfl <| s_pass rfl <| s_pq (.bool true) <| s_pq (.bool true) <| s_splitY rfl rfl <| s_pass rfl <| s_pass rfl <| s_pass rfl <| s_pass rfl <| s_pq (.bool true) <| s_nil <| p_seqN <| v_condY rfl rfl <| v_exit <| p_seqX <| p_blkX <| p_seqN <| v_ops <| s_pure (.int .i64 ((k : Int) + 1)) (fun _ q => ArithVC.mk (by omega) q) <| s_pq (.int .i64 ((k : Int) + 1)) <| s_nil ?_
   have f29 := ((s_o.ext eh22).mod mh25 (fun b hb hc => by simp at hc; have := lt_o b hb; omega))
   exact p_lpN ⟨k + 1, u, ps, o, ⟨rfl, rfl, rfl, rfl, rfl, rfl, rfl, rfl⟩, ⟨E27, (f29.mono (by omega)), (by exact ⟨by omega, by rw [snoc_get (by assumption), cwTo_snoc, ← hs, cwStep]; first | rw [if_pos (by omega)] | (rw [if_neg (by omega)]; simp only [List.map_append]; first | (rw [if_pos (by omega)]; rfl) | (rw [if_neg (by omega)]; done))⟩)⟩, by omega⟩
  have c28 := Classical.not_not.1 c28
  refine s_run rfl <| s_pq (.pointer (some ⟨b21, 2, none⟩)) <| s_run rfl <| s_load (.int .i64 x20.til) (fun _ q => bxx26.load rfl q) <| s_run rfl <| s_pq (.int .i64 a) <| s_run rfl <| s_pq (.bool (decide (x20.til ≤ a))) <| s_pq (.bool (decide (x20.til ≤ a))) <| s_pq (.bool (decide (x20.til ≤ a))) ?_
  refine s_splitT rfl (fun c30 => ?_) (fun c30 => ?_)
  ·
   refine s_pass rfl <| s_pass rfl <| s_pass rfl <| s_pass rfl <| s_pq (.bool true) <| s_nil <| p_seqN <| v_condY rfl rfl <| v_exit <| p_seqX <| p_blkX <| p_seqN <| v_ops <| s_pure (.int .i64 ((k : Int) + 1)) (fun _ q => ArithVC.mk (by omega) q) <| s_pq (.int .i64 ((k : Int) + 1)) <| s_nil ?_
   have f31 := ((s_o.ext eh22).mod mh25 (fun b hb hc => by simp at hc; have := lt_o b hb; omega))
   exact p_lpN ⟨k + 1, u, ps, o, ⟨rfl, rfl, rfl, rfl, rfl, rfl, rfl, rfl⟩, ⟨E27, (f31.mono (by omega)), (by exact ⟨by omega, by rw [snoc_get (by assumption), cwTo_snoc, ← hs, cwStep]; first | rw [if_pos (by omega)] | (rw [if_neg (by omega)]; simp only [List.map_append]; first | (rw [if_pos (by omega)]; rfl) | (rw [if_neg (by omega)]; done))⟩)⟩, by omega⟩
  refine s_run rfl <| s_pq (.pointer (some ⟨b21, 1, none⟩)) <| s_run rfl <| s_load (.int .i64 x20.fr) (fun _ q => bxx26.load rfl q) <| s_run rfl <| s_pq (.int .i64 b) <| s_run rfl <| s_pq (.bool (decide (x20.fr ≥ b))) <| s_pq (.bool (decide (x20.fr ≥ b))) <| s_nil <| p_seqN ?_
  refine v_cond rfl (fun c32 => ?_) (fun c32 => ?_)
  ·
   refine v_exit <| p_seqX <| p_blkX <| p_seqN <| v_ops <| s_pure (.int .i64 ((k : Int) + 1)) (fun _ q => ArithVC.mk (by omega) q) <| s_pq (.int .i64 ((k : Int) + 1)) <| s_nil ?_
   have f33 := ((s_o.ext eh22).mod mh25 (fun b hb hc => by simp at hc; have := lt_o b hb; omega))
   exact p_lpN ⟨k + 1, u, ps, o, ⟨rfl, rfl, rfl, rfl, rfl, rfl, rfl, rfl⟩, ⟨E27, (f33.mono (by omega)), (by exact ⟨by omega, by rw [snoc_get (by assumption), cwTo_snoc, ← hs, cwStep]; first | rw [if_pos (by omega)] | (rw [if_neg (by omega)]; simp only [List.map_append]; first | (rw [if_pos (by omega)]; rfl) | (rw [if_neg (by omega)]; done))⟩)⟩, by omega⟩
  refine v_skip <| p_seqN <| v_seq <| v_seq <| v_ops <| s_pq (.pointer (some ⟨b21, 1, none⟩)) <| s_load (.int .i64 x20.fr) (fun _ q => bxx26.load rfl q) <| s_pq (.int .i64 u) <| s_pq (.bool (decide (x20.fr > u))) <| s_nil <| p_seqN ?_
  refine v_cond rfl (fun c34 => ?_) (fun c34 => ?_)
  ·
   refine v_ops <| s_pq o <| s_pq (.int .i64 u) <| s_pq (.pointer (some ⟨b21, 1, none⟩)) <| s_load (.int .i64 x20.fr) (fun _ q => bxx26.load rfl q) ?_
   refine s_row (α := Int) [u, x20.fr] (fun _ q => seg_i rfl (seg_i rfl (seg_nil q))) rfl (by simp [maxLen]) (fun r35 h36 eh36 zh36 s_r35 fr_r35 => ?_)
   have E37 := E27.trans eh36
   have z38 := eh36.size
   obtain ⟨sv39, rfl⟩ := s_r35.sv
   refine s_row (α := RowI) [(⟨sv39, [u, x20.fr]⟩ : RowI)] (fun _ q => seg_sl s_r35 rfl (seg_nil q)) rfl (by simp [maxLen]) (fun r40 h41 eh41 zh41 s_r40 fr_r40 => ?_)
   have E42 := E37.trans eh41
   have z43 := eh41.size
   have f46 := (s_r35.ext eh41)
   have f47 := ((((s_o.ext eh22).mod mh25 (fun b hb hc => by simp at hc; have := lt_o b hb; omega)).ext eh36).ext eh41)
   refine s_app f47.row s_r40 rfl rfl rfl (by simp [maxLen]; omega) (by simp; omega) (fun r44 h45 mh45 zh45 s_r44 ab_r44 => ?_)
   have D_r44 := DeepO.snoc (e := (⟨sv39, [u, x20.fr]⟩ : RowI)) f47 f46 (fr_r35.mono (by omega)) (fun b hb hc => by have := fr_r35 b hb; have := lt_o b hc; omega) (by omega) mh45 s_r44 ab_r44
   have E48 := E42.mod mh45 (fun b hb => by have := (fun b hb => fr_o b (mem_fpts.2 (.inl hb))) b hb; omega)
   refine s_pq r44 <| s_nil <| p_seqN <| v_ops <| s_pq (.pointer (some ⟨b21, 2, none⟩)) ?_
   have f53 := (((bxx26.ext eh36).ext eh41).mod mh45 (fun hc => by have := (fun b hb => lt_o b (mem_fpts.2 (.inl hb))) _ hc; omega))
   refine s_load (.int .i64 x20.til) (fun _ q => f53.load rfl q) <| s_pq (.int .i64 x20.til) <| s_nil <| p_blkN <| p_seqN <| v_ops <| s_pure (.int .i64 ((k : Int) + 1)) (fun _ q => ArithVC.mk (by omega) q) <| s_pq (.int .i64 ((k : Int) + 1)) <| s_nil ?_
   exact p_lpN ⟨k + 1, x20.til, (ps ++ [(⟨sv39, [u, x20.fr]⟩ : RowI)]), r44, ⟨rfl, rfl, rfl, rfl, rfl, rfl, rfl, rfl⟩, ⟨E48, (D_r44.mono (by omega)), (by exact ⟨by omega, by rw [snoc_get (by assumption), cwTo_snoc, ← hs, cwStep]; first | rw [if_pos (by omega)] | (rw [if_neg (by omega)]; simp only [List.map_append]; first | (rw [if_pos (by omega)]; rfl) | (rw [if_neg (by omega)]; done))⟩)⟩, by omega⟩
  refine v_skip <| p_seqN <| v_ops <| s_pq (.pointer (some ⟨b21, 2, none⟩)) <| s_load (.int .i64 x20.til) (fun _ q => bxx26.load rfl q) <| s_pq (.int .i64 x20.til) <| s_nil <| p_blkN <| p_seqN <| v_ops <| s_pure (.int .i64 ((k : Int) + 1)) (fun _ q => ArithVC.mk (by omega) q) <| s_pq (.int .i64 ((k : Int) + 1)) <| s_nil ?_
  have f54 := ((s_o.ext eh22).mod mh25 (fun b hb hc => by simp at hc; have := lt_o b hb; omega))
  exact p_lpN ⟨k + 1, x20.til, ps, o, ⟨rfl, rfl, rfl, rfl, rfl, rfl, rfl, rfl⟩, ⟨E27, (f54.mono (by omega)), (by exact ⟨by omega, by rw [snoc_get (by assumption), cwTo_snoc, ← hs, cwStep]; first | rw [if_pos (by omega)] | (rw [if_neg (by omega)]; simp only [List.map_append]; first | (rw [if_pos (by omega)]; rfl) | (rw [if_neg (by omega)]; done))⟩)⟩, by omega⟩
 refine v_exit <| p_seqX <| p_lpX <| p_blkX <| p_seqN <| v_seq <| v_seq <| v_ops <| s_pq (.int .i64 u) <| s_pq (.int .i64 b) <| s_pq (.bool (decide (u < b))) <| s_nil <| p_seqN ?_
 refine v_cond rfl (fun c55 => ?_) (fun c55 => ?_)
 ·
  refine v_ops <| s_pq o <| s_pq (.int .i64 u) <| s_pq (.int .i64 b) ?_
  refine s_row (α := Int) [u, b] (fun _ q => seg_i rfl (seg_i rfl (seg_nil q))) rfl (by simp [maxLen]) (fun r56 h57 eh57 zh57 s_r56 fr_r56 => ?_)
  have E58 := Eh.trans eh57
  have z59 := eh57.size
  obtain ⟨sv60, rfl⟩ := s_r56.sv
  refine s_row (α := RowI) [(⟨sv60, [u, b]⟩ : RowI)] (fun _ q => seg_sl s_r56 rfl (seg_nil q)) rfl (by simp [maxLen]) (fun r61 h62 eh62 zh62 s_r61 fr_r61 => ?_)
  have E63 := E58.trans eh62
  have z64 := eh62.size
  have f67 := (s_r56.ext eh62)
  have f68 := ((s_o.ext eh57).ext eh62)
  refine s_app f68.row s_r61 rfl rfl rfl (by simp [maxLen]; omega) (by simp; omega) (fun r65 h66 mh66 zh66 s_r65 ab_r65 => ?_)
  have D_r65 := DeepO.snoc (e := (⟨sv60, [u, b]⟩ : RowI)) f68 f67 (fr_r56.mono (by omega)) (fun b hb hc => by have := fr_r56 b hb; have := lt_o b hc; omega) (by omega) mh66 s_r65 ab_r65
  have E69 := E63.mod mh66 (fun b hb => by have := (fun b hb => fr_o b (mem_fpts.2 (.inl hb))) b hb; omega)
  refine s_pq r65 <| s_nil <| p_seqN <| v_seq <| v_ops <| s_pq r65 <| s_pq r65 <| s_pq (.bool true) <| s_nil <| p_seqN <| v_ret <| p_ret [r65, .bool true] (.tuple #[r65, .bool true]) (fun _ q => q) rfl ?_
  have ho : cwOut n l link a b = (((ps ++ [(⟨sv60, [u, b]⟩ : RowI)]).map RowI.sig), true) := by first | exact cw_no (by assumption) | (rw [take_all (by assumption)] at hs; rw [cwOut, if_pos (by assumption), ← hs, winEnd]; simp only [List.map_append]; first | (rw [if_pos (by omega)]; rfl) | (rw [if_neg (by omega)]; done))
  exact ⟨r65, (ps ++ [(⟨sv60, [u, b]⟩ : RowI)]), by first | (rw [ho]; done) | rfl, (D_r65.mono (by omega)), (congrArg (fun o => o.1) ho).symm, E69⟩
 refine v_skip <| p_seqN <| v_seq <| v_ops <| s_pq o <| s_pq o <| s_pq (.bool true) <| s_nil <| p_seqN <| v_ret <| p_ret [o, .bool true] (.tuple #[o, .bool true]) (fun _ q => q) rfl ?_
 have ho : cwOut n l link a b = ((ps.map RowI.sig), true) := by first | exact cw_no (by assumption) | (rw [take_all (by assumption)] at hs; rw [cwOut, if_pos (by assumption), ← hs, winEnd]; simp only [List.map_append]; first | (rw [if_pos (by omega)]; rfl) | (rw [if_neg (by omega)]; done))
 exact ⟨o, ps, by first | (rw [ho]; done) | rfl, (s_o.mono (by omega)), (congrArg (fun o => o.1) ho).symm, Eh⟩


theorem cs_len (l : List FogD) (link a b : Int) : (csTo l link a b).2.length ≤ l.length := by
  have : ∀ (l : List FogD) (s : Int × List (List Int)), (l.foldl (csStep link b) s).2.length ≤ s.2.length + l.length := by
    intro l
    induction l with
    | nil => intro s; simp
    | cons x l ih =>
      intro s
      have h1 : (csStep link b s x).2.length ≤ s.2.length + 1 := by
        unfold csStep
        split
        · omega
        · simp only
          generalize (if x.fr < b then x.fr else b) = e
          split
          · simp
          · omega
      have := ih (csStep link b s x)
      simp only [List.foldl_cons, List.length_cons]
      omega
  have := this l (a, [])
  simpa [csTo] using this


theorem csStep_no {link b u : Int} {r : List (List Int)} {x : FogD} (h : x.link ≠ link ∨ x.til ≤ u) : csStep link b (u, r) x = (u, r) := by rw [csStep, if_pos h]
theorem csStep_add {link b u : Int} {r : List (List Int)} {x : FogD} (h : x.link = link) (h2 : u < x.til) (h3 : u < (if x.fr < b then x.fr else b)) : csStep link b (u, r) x = (x.til, r ++ [[u, if x.fr < b then x.fr else b]]) := by rw [csStep, if_neg (by simp only; intro hh; rcases hh with hh | hh <;> omega), if_pos h3]
theorem csStep_keep {link b u : Int} {r : List (List Int)} {x : FogD} (h : x.link = link) (h2 : u < x.til) (h3 : ¬ u < (if x.fr < b then x.fr else b)) : csStep link b (u, r) x = (x.til, r) := by rw [csStep, if_neg (by simp only; intro hh; rcases hh with hh | hh <;> omega), if_neg h3]

set_option maxRecDepth 10000 in
set_option maxHeartbeats 4000000 in
theorem spec_ClearWindows_ok (n : NetP) (v_n_towers : Value) (v_n_links : Value) (v_l : Value) (l : List FogD) (link : Int) (a : Int) (b : Int) (h : Heap) (s_n_towers : Sl h v_n_towers n.towers) (s_n_links : Sl h v_n_links n.links) (s_l : Sl h v_l l) : Cn f_spec_ClearWindows [.agg #[v_n_towers, v_n_links], v_l, .int .i64 link, .int .i64 a, .int .i64 b] h fun v h' => ∃ r0 : Value, ∃ qr0 : List RowI, v = .tuple #[r0, .bool ((cwOut n l link a b).2)] ∧ DeepO h' r0 qr0 h.size ∧ qr0.map RowI.sig = (cwOut n l link a b).1 ∧ Ext h h' := by
 have l63_n_towers := s_n_towers.len63
 have l63_n_links := s_n_links.len63
 have l63_l := s_l.len63
 refine calls_of r_spec_ClearWindows ?_
 refine v_seq <| v_ops ?_
 refine s_box [v_n_towers, v_n_links] rfl (fun h2 b1 hbb1 hzb1 eh2 bxb1 => ?_)
 have E3 := (Ext.refl h).trans eh2
 have z4 := eh2.size
 have lbb1 := bxb1.lt
 refine s_pq (.slice none 0 0) <| s_pq (.bool false) <| s_nil <| p_seqN <| v_seq <| v_seq <| v_ops <| s_load (.agg #[v_n_towers, v_n_links]) (fun _ q => bxb1.loadA rfl q) <| s_pq v_l <| s_pq (.int .i64 link) <| s_pq (.int .i64 a) <| s_pq (.int .i64 b) ?_
 have f5 := (s_n_towers.ext eh2)
 have f6 := (s_n_links.ext eh2)
 have f7 := (s_l.ext eh2)
 refine s_call [.agg #[v_n_towers, v_n_links], v_l, .int .i64 link, .int .i64 a, .int .i64 b] rfl (spec_fgSpan_ok n v_n_towers v_n_links v_l l link a b _ f5 f6 f7) ?_
 rintro _ h8 ⟨rfl, eh8⟩
 have E9 := E3.trans eh8
 have z10 := eh8.size
 refine s_pq (.bool (!(decide (AskF n l link a b)))) <| s_nil <| p_seqN ?_
 refine v_cond rfl (fun c11 => ?_) (fun c11 => ?_)
 ·
  refine v_seq <| v_ops <| s_pq (.slice none 0 0) <| s_pq (.bool false) <| s_nil <| p_seqN <| v_ret <| p_seqR <| p_ret [.slice none 0 0, .bool false] (.tuple #[.slice none 0 0, .bool false]) (fun _ q => q) rfl ?_
  have ho : cwOut n l link a b = ([], false) := by first | exact cw_no (by assumption) | (rw [take_all (by assumption)] at hs; rw [cwOut, if_pos (by assumption), ← win_eq (by assumption : AskF n l link a b).hf (by assumption : AskF n l link a b).hab, ← hs, winEnd]; simp only [List.map_append]; first | (rw [if_pos (by omega)]; rfl) | (rw [if_neg (by omega)]; done))
  exact ⟨(.slice none 0 0), [], by first | (rw [ho]; done) | rfl, DeepO.nil _ _, (congrArg (fun o => o.1) ho).symm, E9⟩
 have c11 := Classical.not_not.1 c11
 refine v_skip <| p_seqN <| v_seq <| v_ops <| s_pq (.slice none 0 0) <| s_nil <| p_seqN <| v_seq <| v_seq <| v_ops <| s_pq v_l <| s_pure (.int .i64 (l.length : Int)) (fun _ q => f7.lenVC q) <| s_pq (.int .i64 0) <| s_nil <| p_seqN <| v_block <| v_loop4 (α := Nat) (β := Int) (γ := List RowI) (δ := Value) (fun k u ps o => [(2, .int .i64 link), (3, .int .i64 u), (4, .int .i64 b), (12, o), (23, v_l), (24, .int .i64 (l.length : Int)), (25, .int .i64 (k : Int))]) (fun k u ps o hh => Ext h hh ∧ DeepO hh o ps h.size ∧ k ≤ l.length ∧ (u, ps.map RowI.sig) = csTo (l.take k) link a b) (fun k u ps o => l.length - k) 0 a [] (.slice none 0 0) ⟨rfl, rfl, rfl, rfl, rfl, rfl, rfl⟩ ⟨E9, (DeepO.nil _ _), (by simp [csTo])⟩ ?_
 rintro k u ps o R13 h12 ⟨Eh, s_o, ⟨hk, hs⟩⟩
 have zEh := Eh.size
 have f17 := s_l.ext Eh
 have lt_o := s_o.lt
 have fr_o := s_o.fr
 have hf : FogsOk n.links.length l := (by assumption : AskF n l link a b).hf
 have h60 := hf.1
 have hpl : ps.length ≤ k := (by (have h1 := cs_len (l.take k) link a b); rw [← hs] at h1; simp at h1; omega)
 refine v_seq <| v_ops <| s_pq (.bool (decide ((k : Int) < (l.length : Int)))) <| s_nil <| p_seqN <| v_seq ?_
 refine v_cond rfl (fun c18 => ?_) (fun c18 => ?_)
 ·
  refine v_skip <| p_seqN <| v_seq <| v_block <| v_seq <| v_ops ?_
  have hk19 : k < l.length := (by first | omega | (simp; omega))
  obtain ⟨x20, hx20⟩ : ∃ x, l[k]? = some x := ⟨_, List.getElem?_eq_getElem hk19⟩
  refine s_pure (.pointer (some ⟨sblk v_l, soff v_l + k * 3, none⟩)) (fun _ q => f17.idx (k := k) rfl hk19 q) <| s_load (.agg #[.int .i64 x20.link, .int .i64 x20.fr, .int .i64 x20.til]) (fun _ q => f17.loadN hx20 rfl q) ?_
  refine s_new (fun h22 b21 hbb21 hzb21 eh22 bxb21 => ?_)
  have E23 := Eh.trans eh22
  have z24 := eh22.size
  have lbb21 := bxb21.lt
  refine s_stBx (.agg #[.int .i64 x20.link, .int .i64 x20.fr, .int .i64 x20.til]) [.int .i64 x20.link, .int .i64 x20.fr, .int .i64 x20.til] [.int .i64 x20.link, .int .i64 x20.fr, .int .i64 x20.til] bxb21 rfl rfl rfl rfl (by simp) (all_cons rfl (all_cons rfl (all_cons rfl all_nil))) rfl (fun h25 mh25 sh25 bxx26 => ?_)
  have E27 := E23.mod mh25 (fun b hb => by simp at hb; omega)
  refine s_nil <| p_seqN <| v_seq <| v_seq <| v_ops <| s_pq (.pointer (some ⟨b21, 0, none⟩)) <| s_load (.int .i64 x20.link) (fun _ q => bxx26.load rfl q) <| s_pq (.int .i64 link) <| s_pq (.bool (x20.link != link)) <| s_pq (.bool (x20.link != link)) ?_
  refine s_splitT rfl (fun c28 => ?_) (fun c28 => ?_)
  ·
   refine s_pass rfl <| s_pass rfl <| s_pass rfl <| s_pass rfl <| s_pq (.bool true) <| s_nil <| p_seqN <| v_condY rfl rfl <| v_exit <| p_seqX <| p_blkX <| p_seqN <| v_ops <| s_pure (.int .i64 ((k : Int) + 1)) (fun _ q => ArithVC.mk (by omega) q) <| s_pq (.int .i64 ((k : Int) + 1)) <| s_nil ?_
   have f29 := ((s_o.ext eh22).mod mh25 (fun b hb hc => by simp at hc; have := lt_o b hb; omega))
   exact p_lpN ⟨k + 1, u, ps, o, ⟨rfl, rfl, rfl, rfl, rfl, rfl, rfl⟩, ⟨E27, (f29.mono (by omega)), (by exact ⟨by omega, by (rw [snoc_get (by assumption), csTo_snoc, ← hs]); first | (rw [csStep_no (by omega)]; done) | (rw [csStep_add (by omega) (by omega) (by assumption), List.map_append]; rfl) | (rw [csStep_keep (by omega) (by omega) (by assumption)]; done)⟩)⟩, by omega⟩
  have c28 := Classical.not_not.1 c28
  refine s_run rfl <| s_pq (.pointer (some ⟨b21, 2, none⟩)) <| s_run rfl <| s_load (.int .i64 x20.til) (fun _ q => bxx26.load rfl q) <| s_run rfl <| s_pq (.int .i64 u) <| s_run rfl <| s_pq (.bool (decide (x20.til ≤ u))) <| s_pq (.bool (decide (x20.til ≤ u))) <| s_nil <| p_seqN ?_
  refine v_cond rfl (fun c30 => ?_) (fun c30 => ?_)
  ·
   refine v_exit <| p_seqX <| p_blkX <| p_seqN <| v_ops <| s_pure (.int .i64 ((k : Int) + 1)) (fun _ q => ArithVC.mk (by omega) q) <| s_pq (.int .i64 ((k : Int) + 1)) <| s_nil ?_
   have f31 := ((s_o.ext eh22).mod mh25 (fun b hb hc => by simp at hc; have := lt_o b hb; omega))
   exact p_lpN ⟨k + 1, u, ps, o, ⟨rfl, rfl, rfl, rfl, rfl, rfl, rfl⟩, ⟨E27, (f31.mono (by omega)), (by exact ⟨by omega, by (rw [snoc_get (by assumption), csTo_snoc, ← hs]); first | (rw [csStep_no (by omega)]; done) | (rw [csStep_add (by omega) (by omega) (by assumption), List.map_append]; rfl) | (rw [csStep_keep (by omega) (by omega) (by assumption)]; done)⟩)⟩, by omega⟩
  refine v_skip <| p_seqN <| v_seq <| v_seq <| v_ops <| s_pq (.pointer (some ⟨b21, 1, none⟩)) <| s_load (.int .i64 x20.fr) (fun _ q => bxx26.load rfl q) <| s_pq (.int .i64 b) <| s_callS [.int .i64 x20.fr, .int .i64 b] (.int .i64 (if x20.fr < b then x20.fr else b)) rfl (spec_l1Least_ok x20.fr b _ ) <| s_pq (.int .i64 (if x20.fr < b then x20.fr else b)) <| s_nil <| p_seqN <| v_seq <| v_ops <| s_pq (.int .i64 u) <| s_pq (.int .i64 (if x20.fr < b then x20.fr else b)) <| s_pq (.bool (decide (u < (if x20.fr < b then x20.fr else b)))) ?_
  refine s_nil <| p_seqN ?_
  refine v_cond rfl (fun c32 => ?_) (fun c32 => ?_)
  ·
   refine v_ops <| s_pq o <| s_pq (.int .i64 u) <| s_pq (.int .i64 (if x20.fr < b then x20.fr else b)) ?_
   refine s_row (α := Int) [u, (if x20.fr < b then x20.fr else b)] (fun _ q => seg_i rfl (seg_i rfl (seg_nil q))) rfl (by simp [maxLen]) (fun r33 h34 eh34 zh34 s_r33 fr_r33 => ?_)
   have E35 := E27.trans eh34
   have z36 := eh34.size
   obtain ⟨sv37, rfl⟩ := s_r33.sv
   refine s_row (α := RowI) [(⟨sv37, [u, (if x20.fr < b then x20.fr else b)]⟩ : RowI)] (fun _ q => seg_sl s_r33 rfl (seg_nil q)) rfl (by simp [maxLen]) (fun r38 h39 eh39 zh39 s_r38 fr_r38 => ?_)
   have E40 := E35.trans eh39
   have z41 := eh39.size
   have f44 := (s_r33.ext eh39)
   have f45 := ((((s_o.ext eh22).mod mh25 (fun b hb hc => by simp at hc; have := lt_o b hb; omega)).ext eh34).ext eh39)
   refine s_app f45.row s_r38 rfl rfl rfl (by simp [maxLen]; omega) (by simp; omega) (fun r42 h43 mh43 zh43 s_r42 ab_r42 => ?_)
   have D_r42 := DeepO.snoc (e := (⟨sv37, [u, (if x20.fr < b then x20.fr else b)]⟩ : RowI)) f45 f44 (fr_r33.mono (by omega)) (fun b hb hc => by have := fr_r33 b hb; have := lt_o b hc; omega) (by omega) mh43 s_r42 ab_r42
   have E46 := E40.mod mh43 (fun b hb => by have := (fun b hb => fr_o b (mem_fpts.2 (.inl hb))) b hb; omega)
   refine s_pq r42 <| s_nil <| p_seqN <| v_ops <| s_pq (.pointer (some ⟨b21, 2, none⟩)) ?_
   have f51 := (((bxx26.ext eh34).ext eh39).mod mh43 (fun hc => by have := (fun b hb => lt_o b (mem_fpts.2 (.inl hb))) _ hc; omega))
   refine s_load (.int .i64 x20.til) (fun _ q => f51.load rfl q) <| s_pq (.int .i64 x20.til) <| s_nil <| p_blkN <| p_seqN <| v_ops <| s_pure (.int .i64 ((k : Int) + 1)) (fun _ q => ArithVC.mk (by omega) q) <| s_pq (.int .i64 ((k : Int) + 1)) <| s_nil ?_
   exact p_lpN ⟨k + 1, x20.til, (ps ++ [(⟨sv37, [u, (if x20.fr < b then x20.fr else b)]⟩ : RowI)]), r42, ⟨rfl, rfl, rfl, rfl, rfl, rfl, rfl⟩, ⟨E46, (D_r42.mono (by omega)), (by exact ⟨by omega, by (rw [snoc_get (by assumption), csTo_snoc, ← hs]); first | (rw [csStep_no (by omega)]; done) | (rw [csStep_add (by omega) (by omega) (by assumption), List.map_append]; rfl) | (rw [csStep_keep (by omega) (by omega) (by assumption)]; done)⟩)⟩, by omega⟩
  refine v_skip <| p_seqN <| v_ops <| s_pq (.pointer (some ⟨b21, 2, none⟩)) <| s_load (.int .i64 x20.til) (fun _ q => bxx26.load rfl q) <| s_pq (.int .i64 x20.til) <| s_nil <| p_blkN <| p_seqN <| v_ops <| s_pure (.int .i64 ((k : Int) + 1)) (fun _ q => ArithVC.mk (by omega) q) <| s_pq (.int .i64 ((k : Int) + 1)) <| s_nil ?_
  have f52 := ((s_o.ext eh22).mod mh25 (fun b hb hc => by simp at hc; have := lt_o b hb; omega))
  exact p_lpN ⟨k + 1, x20.til, ps, o, ⟨rfl, rfl, rfl, rfl, rfl, rfl, rfl⟩, ⟨E27, (f52.mono (by omega)), (by exact ⟨by omega, by (rw [snoc_get (by assumption), csTo_snoc, ← hs]); first | (rw [csStep_no (by omega)]; done) | (rw [csStep_add (by omega) (by omega) (by assumption), List.map_append]; rfl) | (rw [csStep_keep (by omega) (by omega) (by assumption)]; done)⟩)⟩, by omega⟩
 refine v_exit <| p_seqX <| p_lpX <| p_blkX <| p_seqN <| v_seq <| v_seq <| v_ops <| s_pq (.int .i64 u) <| s_pq (.int .i64 b) <| s_pq (.bool (decide (u < b))) <| s_nil <| p_seqN ?_
 refine v_cond rfl (fun c53 => ?_) (fun c53 => ?_)
 ·
  refine v_ops <| s_pq o <| s_pq (.int .i64 u) <| s_pq (.int .i64 b) ?_
  refine s_row (α := Int) [u, b] (fun _ q => seg_i rfl (seg_i rfl (seg_nil q))) rfl (by simp [maxLen]) (fun r54 h55 eh55 zh55 s_r54 fr_r54 => ?_)
  have E56 := Eh.trans eh55
  have z57 := eh55.size
  obtain ⟨sv58, rfl⟩ := s_r54.sv
  refine s_row (α := RowI) [(⟨sv58, [u, b]⟩ : RowI)] (fun _ q => seg_sl s_r54 rfl (seg_nil q)) rfl (by simp [maxLen]) (fun r59 h60 eh60 zh60 s_r59 fr_r59 => ?_)
  have E61 := E56.trans eh60
  have z62 := eh60.size
  have f65 := (s_r54.ext eh60)
  have f66 := ((s_o.ext eh55).ext eh60)
  refine s_app f66.row s_r59 rfl rfl rfl (by simp [maxLen]; omega) (by simp; omega) (fun r63 h64 mh64 zh64 s_r63 ab_r63 => ?_)
  have D_r63 := DeepO.snoc (e := (⟨sv58, [u, b]⟩ : RowI)) f66 f65 (fr_r54.mono (by omega)) (fun b hb hc => by have := fr_r54 b hb; have := lt_o b hc; omega) (by omega) mh64 s_r63 ab_r63
  have E67 := E61.mod mh64 (fun b hb => by have := (fun b hb => fr_o b (mem_fpts.2 (.inl hb))) b hb; omega)
  refine s_pq r63 <| s_nil <| p_seqN <| v_seq <| v_ops <| s_pq r63 <| s_pq r63 <| s_pq (.bool true) <| s_nil <| p_seqN <| v_ret <| p_ret [r63, .bool true] (.tuple #[r63, .bool true]) (fun _ q => q) rfl ?_
  have ho : cwOut n l link a b = (((ps ++ [(⟨sv58, [u, b]⟩ : RowI)]).map RowI.sig), true) := by first | exact cw_no (by assumption) | (rw [take_all (by assumption)] at hs; rw [cwOut, if_pos (by assumption), ← win_eq (by assumption : AskF n l link a b).hf (by assumption : AskF n l link a b).hab, ← hs, winEnd]; simp only [List.map_append]; first | (rw [if_pos (by omega)]; rfl) | (rw [if_neg (by omega)]; done))
  exact ⟨r63, (ps ++ [(⟨sv58, [u, b]⟩ : RowI)]), by first | (rw [ho]; done) | rfl, (D_r63.mono (by omega)), (congrArg (fun o => o.1) ho).symm, E67⟩
 refine v_skip <| p_seqN <| v_seq <| v_ops <| s_pq o <| s_pq o <| s_pq (.bool true) <| s_nil <| p_seqN <| v_ret <| p_ret [o, .bool true] (.tuple #[o, .bool true]) (fun _ q => q) rfl ?_
 have ho : cwOut n l link a b = ((ps.map RowI.sig), true) := by first | exact cw_no (by assumption) | (rw [take_all (by assumption)] at hs; rw [cwOut, if_pos (by assumption), ← win_eq (by assumption : AskF n l link a b).hf (by assumption : AskF n l link a b).hab, ← hs, winEnd]; simp only [List.map_append]; first | (rw [if_pos (by omega)]; rfl) | (rw [if_neg (by omega)]; done))
 exact ⟨o, ps, by first | (rw [ho]; done) | rfl, (s_o.mono (by omega)), (congrArg (fun o => o.1) ho).symm, Eh⟩

end Go.Proofs.Ytloicopmcagikaa



/- One fog more: plain laws. Condition: none. -/
namespace Go.Proofs.Ytloicopmcagikaa
open Go.Vc
set_option linter.all false

def mrg (x y : FogD) : FogD := ⟨x.link, if y.fr < x.fr then y.fr else x.fr, if y.til > x.til then y.til else x.til⟩
abbrev tch (x y : FogD) : Prop := y.link = x.link ∧ y.fr ≤ x.til ∧ x.fr ≤ y.til
def adStep (s : FogD × List FogD × Nat) (y : FogD) : FogD × List FogD × Nat :=
 if tch s.1 y then (mrg s.1 y, s.2.1, s.2.2) else (s.1, s.2.1 ++ [y], if y.link < s.1.link ∨ (y.link = s.1.link ∧ y.fr < s.1.fr) then s.2.1.length + 1 else s.2.2)
def ad (x0 : FogD) (l : List FogD) : FogD × List FogD × Nat := l.foldl adStep (x0, [], 0)
theorem ad_snoc (x0 : FogD) (l : List FogD) (y : FogD) : ad x0 (l ++ [y]) = adStep (ad x0 l) y := by simp [ad]
theorem ad_touch {x0 x y : FogD} {l o : List FogD} {j : Nat} (h : ad x0 l = (x, o, j)) (ht : tch x y) : ad x0 (l ++ [y]) = (mrg x y, o, j) := by rw [ad_snoc, h, adStep, if_pos ht]
theorem ad_less {x0 x y : FogD} {l o : List FogD} {j : Nat} (h : ad x0 l = (x, o, j)) (ht : ¬ tch x y) (hl : y.link < x.link ∨ (y.link = x.link ∧ y.fr < x.fr)) : ad x0 (l ++ [y]) = (x, o ++ [y], o.length + 1) := by rw [ad_snoc, h, adStep, if_neg ht, if_pos hl]
theorem ad_more {x0 x y : FogD} {l o : List FogD} {j : Nat} (h : ad x0 l = (x, o, j)) (ht : ¬ tch x y) (hl : ¬ (y.link < x.link ∨ (y.link = x.link ∧ y.fr < x.fr))) : ad x0 (l ++ [y]) = (x, o ++ [y], j) := by rw [ad_snoc, h, adStep, if_neg ht, if_neg hl]
theorem ad_len (x0 : FogD) (l : List FogD) : (ad x0 l).2.1.length ≤ l.length := by
  have : ∀ (l : List FogD) (s : FogD × List FogD × Nat), (l.foldl adStep s).2.1.length ≤ s.2.1.length + l.length := by
    intro l
    induction l with
    | nil => intro s; simp
    | cons y l ih =>
      intro s
      have h1 : (adStep s y).2.1.length ≤ s.2.1.length + 1 := by unfold adStep; split <;> simp
      have := ih (adStep s y)
      simp only [List.foldl_cons, List.length_cons]; omega
  simpa [ad] using this l (x0, [], 0)
/-- what holds on the way through the fogs -/
structure AdOk (m : Nat) (l : List FogD) (x0 : FogD) (k : Nat) (s : FogD × List FogD × Nat) : Prop where
  ok : FogOk m s.1
  lk : s.1.link = x0.link
  oks : ∀ y ∈ s.2.1, FogOk m y
  pw : s.2.1.Pairwise fgLt
  nx : ∀ y ∈ s.2.1, ∀ (i : Nat) (z : FogD), k ≤ i → l[i]? = some z → fgLt y z
  jle : s.2.2 ≤ s.2.1.length
  bef : ∀ y ∈ s.2.1.take s.2.2, fgLt y s.1
  aft : ∀ y ∈ s.2.1.drop s.2.2, fgLt s.1 y
theorem fgLt_at {m : Nat} {l : List FogD} (h : FogsOk m l) {i j : Nat} {x y : FogD} (hx : l[i]? = some x) (hy : l[j]? = some y) (hij : i < j) : fgLt x y := by
  induction j generalizing y with
  | zero => omega
  | succ j ih =>
    have hj := (List.getElem?_eq_some_iff.1 hy).1
    have hz := List.getElem?_eq_getElem (show j < l.length by omega)
    have hzy := (h.2 (j + 1) y hj hy).2 (by omega) _ hz
    have hzo := h.at hz
    by_cases e : i = j
    · subst e; rw [hx] at hz; have := Option.some.inj hz; subst this; exact hzy
    · have := ih hz (by omega)
      unfold fgLt at *; omega
theorem ad_ok {m : Nat} {l : List FogD} {x0 : FogD} (h : FogsOk m l) (hx0 : FogOk m x0) : ∀ k, k ≤ l.length → AdOk m l x0 k (ad x0 (l.take k)) := by
  intro k
  induction k with
  | zero => intro _; exact ⟨hx0, rfl, by simp [ad], by simp [ad], by simp [ad], by simp [ad], by simp [ad], by simp [ad]⟩
  | succ k ih =>
    intro hk
    have hA := ih (by omega)
    have hy := List.getElem?_eq_getElem (show k < l.length by omega)
    generalize l[k] = y at hy
    have hyo := h.at hy
    rw [snoc_get hy]
    generalize hs : ad x0 (l.take k) = s at hA
    obtain ⟨x, o, j⟩ := s
    obtain ⟨a1, a2, a3, a4, a5, a6, a7, a8⟩ := hA
    simp only at a1 a2 a3 a4 a5 a6 a7 a8
    have hoy : ∀ z ∈ o, fgLt z y := fun z hz => a5 z hz k y (Nat.le_refl _) hy
    -- if something lies behind x, then so does y
    have hbeh : j < o.length → fgLt x y := by
      intro hj
      have hz : o[j] ∈ o.drop j := by rw [List.drop_eq_getElem_cons hj]; exact List.mem_cons_self ..
      have h1 := a8 _ hz
      have hzo := List.mem_of_mem_drop hz
      have h2 := hoy _ hzo
      have h3 := a3 _ hzo
      unfold fgLt at *; omega
    by_cases ht : tch x y
    · rw [ad_touch hs ht]
      have hj : j = o.length := by
        by_cases e : j < o.length
        · have := hbeh e; unfold fgLt at this; unfold tch at ht; omega
        · omega
      have hfr : (mrg x y).fr = x.fr ∨ (mrg x y).fr = y.fr := by simp only [mrg]; split <;> omega
      have htil : (mrg x y).til = x.til ∨ (mrg x y).til = y.til := by simp only [mrg]; split <;> omega
      have hlk : (mrg x y).link = x.link := rfl
      have hb1 : (mrg x y).fr ≤ x.fr ∧ (mrg x y).fr ≤ y.fr := by simp only [mrg]; split <;> omega
      have hb2 : x.til ≤ (mrg x y).til := by simp only [mrg]; split <;> omega
      refine ⟨?_, hlk.trans a2, a3, a4, fun z hz i w hi hw => a5 z hz i w (by omega) hw, a6, fun z hz => ?_, fun z hz => ?_⟩
      · unfold FogOk at *; simp only; omega
      · have h1 := a7 z hz
        have h2 := hoy z (List.mem_of_mem_take hz)
        unfold fgLt tch at *; simp only; omega
      · simp only at hz; rw [hj, List.drop_length] at hz; cases hz
    · by_cases hl : y.link < x.link ∨ (y.link = x.link ∧ y.fr < x.fr)
      · rw [ad_less hs ht hl]
        have hj : j = o.length := by
          by_cases e : j < o.length
          · have := hbeh e; unfold fgLt at this; unfold FogOk at a1; omega
          · omega
        have hyx : fgLt y x := by unfold fgLt tch FogOk at *; omega
        refine ⟨a1, a2, fun z hz => ?_, ?_, fun z hz i w hi hw => ?_, by simp, fun z hz => ?_, fun z hz => ?_⟩
        · rcases List.mem_append.1 hz with hz | hz
          · exact a3 z hz
          · obtain rfl := List.mem_singleton.1 hz; exact hyo
        · simp only
          rw [List.pairwise_append]
          exact ⟨a4, List.pairwise_singleton _ _, fun z hz w hw => by obtain rfl := List.mem_singleton.1 hw; exact hoy z hz⟩
        · rcases List.mem_append.1 hz with hz | hz
          · exact a5 z hz i w (by omega) hw
          · obtain rfl := List.mem_singleton.1 hz; exact fgLt_at h hy hw (by omega)
        · have hz' := List.mem_of_mem_take hz
          rcases List.mem_append.1 hz' with hz' | hz'
          · exact a7 z (by rw [hj, List.take_length]; exact hz')
          · obtain rfl := List.mem_singleton.1 hz'; exact hyx
        · simp only at hz
          rw [List.drop_of_length_le (by simp)] at hz; cases hz
      · rw [ad_more hs ht hl]
        have hxy : fgLt x y := by unfold fgLt tch FogOk at *; omega
        refine ⟨a1, a2, fun z hz => ?_, ?_, fun z hz i w hi hw => ?_, by simp; omega, fun z hz => ?_, fun z hz => ?_⟩
        · rcases List.mem_append.1 hz with hz | hz
          · exact a3 z hz
          · obtain rfl := List.mem_singleton.1 hz; exact hyo
        · simp only
          rw [List.pairwise_append]
          exact ⟨a4, List.pairwise_singleton _ _, fun z hz w hw => by obtain rfl := List.mem_singleton.1 hw; exact hoy z hz⟩
        · rcases List.mem_append.1 hz with hz | hz
          · exact a5 z hz i w (by omega) hw
          · obtain rfl := List.mem_singleton.1 hz; exact fgLt_at h hy hw (by omega)
        · simp only at hz
          rw [List.take_append_of_le_length a6] at hz
          exact a7 z hz
        · simp only at hz
          rw [List.drop_append_of_le_length a6] at hz
          rcases List.mem_append.1 hz with hz | hz
          · exact a8 z hz
          · obtain rfl := List.mem_singleton.1 hz; exact hxy
/-- the fogs with one more in its place -/
def adR (s : FogD × List FogD × Nat) : List FogD := s.2.1.take s.2.2 ++ s.1 :: s.2.1.drop s.2.2
theorem adR_len (s : FogD × List FogD × Nat) : (adR s).length = s.2.1.length + 1 := by
 have := congrArg List.length (List.take_append_drop s.2.2 s.2.1)
 simp only [adR, List.length_append, List.length_cons] at *; omega
theorem adR_perm (s : FogD × List FogD × Nat) : (adR s).Perm (s.2.1 ++ [s.1]) := by
 unfold adR
 refine List.Perm.trans (List.perm_middle) ?_
 rw [List.take_append_drop]
 exact (List.perm_append_singleton s.1 s.2.1).symm
theorem AdOk.pairs {m : Nat} {l : List FogD} {x0 : FogD} {k : Nat} {s : FogD × List FogD × Nat} (h : AdOk m l x0 k s) : (adR s).Pairwise fgLt ∧ ∀ y ∈ adR s, FogOk m y := by
  have hs := List.take_append_drop s.2.2 s.2.1
  have hp := h.pw
  rw [← hs, List.pairwise_append] at hp
  refine ⟨?_, fun y hy => ?_⟩
  · unfold adR
    rw [List.pairwise_append]
    refine ⟨hp.1, List.pairwise_cons.2 ⟨h.aft, hp.2.1⟩, fun y hy z hz => ?_⟩
    rcases List.mem_cons.1 hz with rfl | hz
    · exact h.bef y hy
    · exact hp.2.2 y hy z hz
  · unfold adR at hy
    rcases List.mem_append.1 hy with hy | hy
    · exact h.oks y (List.mem_of_mem_take hy)
    · rcases List.mem_cons.1 hy with rfl | hy
      · exact h.ok
      · exact h.oks y (List.mem_of_mem_drop hy)
theorem fogsOk_of {m : Nat} {R : List FogD} (h : R.Pairwise fgLt) (ho : ∀ y ∈ R, FogOk m y) : FogsOk m R ↔ R.length ≤ 60 := by
 refine ⟨fun q => q.1, fun q => ⟨q, fun i x hi hx => ⟨ho x (List.mem_of_getElem? hx), fun h0 y hy => ?_⟩⟩⟩
 have hyl := (List.getElem?_eq_some_iff.1 hy).1
 have := List.pairwise_iff_getElem.1 h (i - 1) i hyl hi (by omega)
 rw [(List.getElem?_eq_some_iff.1 hy).2, (List.getElem?_eq_some_iff.1 hx).2] at this
 exact this
theorem fgLt_cmp {m : Nat} {x y : FogD} (hx : FogOk m x) (h : fgLt x y) : fgCmp x y < 0 := fgCmp_lt.2 (by unfold fgLt FogOk at *; omega)
/-- there is one order of such fogs -/
theorem sorted_one {R : List FogD} (h : R.Pairwise fun x y => fgCmp x y < 0) : ∀ {ys : List FogD}, ys.Perm R → (∀ (i j : Nat) (x y : FogD), i < j → ys[i]? = some x → ys[j]? = some y → ¬ fgCmp y x < 0) → ys = R := by
  induction R with
  | nil => intro ys hp _; exact hp.eq_nil
  | cons r R ih =>
    intro ys hp hs
    cases ys with
    | nil => exact absurd hp.symm.eq_nil (by simp)
    | cons y ys =>
      have hr := List.pairwise_cons.1 h
      have hy : y = r := by
        have h1 : y ∈ r :: R := hp.mem_iff.1 (List.mem_cons_self ..)
        have h2 : r ∈ y :: ys := hp.mem_iff.2 (List.mem_cons_self ..)
        rcases List.mem_cons.1 h1 with e | h1
        · exact e
        · rcases List.mem_cons.1 h2 with e | h2
          · exact e.symm
          · obtain ⟨j, hj⟩ := List.getElem?_of_mem h2
            have := hs 0 (j + 1) y r (by omega) rfl (by simpa using hj)
            exact absurd (hr.1 y h1) this
      subst hy
      rw [ih hr.2 (List.Perm.cons_inv hp) (fun i j a b hij ha hb => hs (i + 1) (j + 1) a b (by omega) (by simpa using ha) (by simpa using hb))]
structure AddAsk (n : NetP) (l : List FogD) (x : FogD) : Prop where
  hn : NetOk n
  hf : FogsOk n.links.length l
  hx : FogOk n.links.length x
  h60 : (ad x l).2.1.length + 1 ≤ 60
noncomputable instance (n : NetP) (l : List FogD) (x : FogD) : Decidable (AddAsk n l x) := Classical.propDecidable _
noncomputable def addOut (n : NetP) (l : List FogD) (x : FogD) : List FogD × Bool := if AddAsk n l x then (adR (ad x l), true) else ([], false)
theorem add_no {n : NetP} {l : List FogD} {x : FogD} (h : ¬ AddAsk n l x) : addOut n l x = ([], false) := by rw [addOut, if_neg h]
theorem add_yes {n : NetP} {l : List FogD} {x : FogD} (h : AddAsk n l x) : addOut n l x = (adR (ad x l), true) := by rw [addOut, if_pos h]
/-- the first program sorts -/
theorem add_sort {m : Nat} {l : List FogD} {x0 x : FogD} {o ys : List FogD} {j : Nat} (h : FogsOk m l) (hx0 : FogOk m x0) (hs : ad x0 l = (x, o, j)) (hp : ys.Perm (o ++ [x])) (hy : ∀ (i j : Nat) (x y : FogD), i < j → ys[i]? = some x → ys[j]? = some y → ¬ fgCmp y x < 0) : ys = adR (ad x0 l) := by
  have hA := ad_ok h hx0 l.length (Nat.le_refl _)
  rw [List.take_length] at hA
  obtain ⟨p1, p2⟩ := hA.pairs
  refine sorted_one ?_ (List.Perm.trans hp ?_) hy
  · refine List.Pairwise.imp_of_mem (fun {a b} ha hb hab => fgLt_cmp (p2 a ha) hab) p1
  · rw [hs]; exact (adR_perm (x, o, j)).symm
/-- the second one tests what it has -/
theorem add_test {m : Nat} {l : List FogD} {x0 : FogD} (h : FogsOk m l) (hx0 : FogOk m x0) : FogsOk m (adR (ad x0 l)) ↔ (ad x0 l).2.1.length + 1 ≤ 60 := by
 have hA := ad_ok h hx0 l.length (Nat.le_refl _)
 rw [List.take_length] at hA
 obtain ⟨p1, p2⟩ := hA.pairs
 rw [fogsOk_of p1 p2, adR_len]
end Go.Proofs.Ytloicopmcagikaa


