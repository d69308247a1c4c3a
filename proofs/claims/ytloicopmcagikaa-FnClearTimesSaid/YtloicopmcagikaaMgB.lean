/- Ro4, Rw2, Ro5. Condition: none. -/
import Derived.Test.YtloicopmcagikaaMgA
/- Tests of fogs, and when a message starts. Condition: none. Printed in part by a program. -/
namespace Go.Proofs.Ytloicopmcagikaa
open Go.Vc
set_option linter.all false

abbrev FogOk (m : Nat) (x : FogD) : Prop := (0 ≤ x.link ∧ x.link ≤ (m : Int) - 1) ∧ 0 ≤ x.fr ∧ x.fr < x.til ∧ x.til ≤ 10000
abbrev fgLt (y x : FogD) : Prop := y.link < x.link ∨ (y.link = x.link ∧ y.til < x.fr)
abbrev FogsTo (m : Nat) (l : List FogD) (k : Nat) : Prop := ∀ i x, i < k → l[i]? = some x → FogOk m x ∧ (0 < i → ∀ y, l[i - 1]? = some y → fgLt y x)
def FogsOk (m : Nat) (l : List FogD) : Prop := l.length ≤ 60 ∧ FogsTo m l l.length
noncomputable instance (m : Nat) (l : List FogD) : Decidable (FogsOk m l) := Classical.propDecidable _
def fgCmp (a b : FogD) : Int := orL [cmpI a.link b.link, cmpI a.fr b.fr]
theorem fgCmp_lt {a b : FogD} : fgCmp a b < 0 ↔ (a.link < b.link ∨ (a.link = b.link ∧ a.fr < b.fr)) := by
  have h1 := @cmpI_neg a.link b.link
  have h2 := @cmpI_neg a.fr b.fr
  have h3 := @cmpI_zero a.link b.link
  have h4 := cmpI_bd a.link b.link
  have h5 := cmpI_bd a.fr b.fr
  unfold fgCmp orL orL orL
  split
  · omega
  · split <;> omega
theorem fogs_snoc {m : Nat} {l : List FogD} {k : Nat} {x : FogD} (h : FogsTo m l k) (hx : l[k]? = some x) (hp : FogOk m x) (hs : 0 < k → ∀ y, l[k - 1]? = some y → fgLt y x) : FogsTo m l (k + 1) := by
  intro i y hi hy
  by_cases e : i = k
  · subst e; rw [hx] at hy; obtain rfl := Option.some.inj hy; exact ⟨hp, hs⟩
  · exact h i y (by omega) hy
theorem fogs_bad {m : Nat} {l : List FogD} {k : Nat} {x : FogD} (hx : l[k]? = some x) (h : ¬ (FogOk m x ∧ (0 < k → ∀ y, l[k - 1]? = some y → fgLt y x))) : decide (FogsOk m l) = false :=
 decide_eq_false fun hn => h (hn.2 k x (List.getElem?_eq_some_iff.1 hx).1 hx)
theorem fogs_long {m : Nat} {l : List FogD} (h : ¬ l.length ≤ 60) : decide (FogsOk m l) = false := decide_eq_false fun hn => h hn.1
theorem fogs_end {m : Nat} {l : List FogD} {k : Nat} {b : Bool} (h : FogsTo m l k) (hk : ¬ (k : Int) < (l.length : Int)) (hb : b = true ↔ l.length ≤ 60) : decide (FogsOk m l) = b := by
  cases b
  · exact fogs_long fun hn => by have := hb.2 hn; cases this
  · exact decide_eq_true ⟨hb.1 rfl, fun i x hi hx => h i x (by omega) hx⟩
theorem FogsOk.at {m : Nat} {l : List FogD} (h : FogsOk m l) {k : Nat} {x : FogD} (hx : l[k]? = some x) : FogOk m x := (h.2 k x (List.getElem?_eq_some_iff.1 hx).1 hx).1
/-- the first second from t on from which a link is clear for s seconds -/
def stF (l : List FogD) (link t s : Int) : Int := l.foldl (fun t x => if x.link = link ∧ x.til > t ∧ x.fr < t + s then x.til else t) t
theorem stF_snoc (l : List FogD) (link t s : Int) (x : FogD) : stF (l ++ [x]) link t s = if x.link = link ∧ x.til > stF l link t s ∧ x.fr < stF l link t s + s then x.til else stF l link t s := by simp [stF]
theorem stF_bd {m : Nat} {l : List FogD} (h : FogsOk m l) (link t s : Int) (k : Nat) : t ≤ stF (l.take k) link t s ∧ (stF (l.take k) link t s ≤ t ∨ stF (l.take k) link t s ≤ 10000) := by
  induction k with
  | zero => simp [stF]
  | succ k ih =>
    by_cases hk : k < l.length
    · have hx := List.getElem?_eq_getElem hk
      have := h.at hx
      rw [snoc_get hx, stF_snoc]
      split <;> omega
    · rw [List.take_of_length_le (by omega)]; rw [List.take_of_length_le (by omega)] at ih; exact ih

theorem impl_compareFogs_ok (a : FogD) (b : FogD) (h : Heap)  : Cn f_impl_compareFogs [.agg #[.int .i64 a.link, .int .i64 a.fr, .int .i64 a.til], .agg #[.int .i64 b.link, .int .i64 b.fr, .int .i64 b.til]] h fun v h' => v = .int .i64 (fgCmp a b) ∧ Ext h h' := by
 refine calls_of r_impl_compareFogs ?_
 refine v_seq <| v_ops ?_
 refine s_box [.int .i64 a.link, .int .i64 a.fr, .int .i64 a.til] rfl (fun h2 b1 hbb1 hzb1 eh2 bxb1 => ?_)
 have E3 := (Ext.refl h).trans eh2
 have z4 := eh2.size
 have lbb1 := bxb1.lt
 refine s_box [.int .i64 b.link, .int .i64 b.fr, .int .i64 b.til] rfl (fun h6 b5 hbb5 hzb5 eh6 bxb5 => ?_)
 have E7 := E3.trans eh6
 have z8 := eh6.size
 have lbb5 := bxb5.lt
 refine s_pq (.int .i64 0) <| s_nil <| p_seqN <| v_seq ?_
 have f9 := (bxb1.ext eh6)
 refine v_draw (DrawVC.hold ([b1] ++ [b5]) ?_)
 refine d_pq (.pointer (some ⟨b1, 0, none⟩)) <| d_pq (.pointer (some ⟨b5, 0, none⟩)) <| d_pq (.pointer (some ⟨b1, 1, none⟩)) <| d_pq (.pointer (some ⟨b5, 1, none⟩)) <| d_loadO (.int .i64 a.link) (fun _ q => f9.load rfl q) <| d_loadO (.int .i64 b.link) (fun _ q => bxb5.load rfl q) <| d_loadT (.int .i64 a.fr) (fun _ q => f9.take (by simp) rfl q) <| d_loadT (.int .i64 b.fr) (fun _ q => bxb5.take (by simp) rfl q) <| d_eff <| s_callS [.int .i64 a.link, .int .i64 b.link] (.int .i64 (cmpI a.link b.link)) rfl (cmp_Compare_int_ok a.link b.link _ ) ?_
 refine s_nil ⟨fun _ x hx => rfl, ?_⟩
 refine d_eff <| s_callS [.int .i64 a.fr, .int .i64 b.fr] (.int .i64 (cmpI a.fr b.fr)) rfl (cmp_Compare_int_ok a.fr b.fr _ ) ?_
 refine s_nil ⟨fun hl => (by cases hl), ?_⟩
 refine d_eff ?_
 refine s_row (α := Int) [(cmpI a.link b.link), (cmpI a.fr b.fr)] (fun _ q => seg_i rfl (seg_i rfl (seg_nil q))) rfl (by simp [maxLen]) (fun r10 h11 eh11 zh11 s_r10 fr_r10 => ?_)
 have E12 := E7.trans eh11
 have z13 := eh11.size
 refine s_nil ⟨fun hl => (by cases hl), ?_⟩
 refine d_eff <| s_call [r10] rfl (cmp_Or_int_ok r10 [(cmpI a.link b.link), (cmpI a.fr b.fr)] _ s_r10.toSl) ?_
 rintro _ h15 ⟨rfl, eh15⟩
 have E16 := E12.trans eh15
 have z17 := eh15.size
 refine s_nil ⟨fun hl => (by cases hl), ?_⟩
 refine d_pq (.int .i64 (orL [(cmpI a.link b.link), (cmpI a.fr b.fr)])) <| d_done <| p_seqN <| v_ret <| p_ret [.int .i64 (orL [(cmpI a.link b.link), (cmpI a.fr b.fr)])] (.int .i64 (orL [(cmpI a.link b.link), (cmpI a.fr b.fr)])) (fun _ q => q) rfl ?_
 have ho : (fgCmp a b) = (orL [(cmpI a.link b.link), (cmpI a.fr b.fr)]) := by rfl
 exact ⟨by first | (rw [ho]; done) | rfl, E16⟩

theorem impl_isFog_ok (n : NetP) (v_n_towers : Value) (v_n_links : Value) (x : FogD) (h : Heap) (s_n_towers : Sl h v_n_towers n.towers) (s_n_links : Sl h v_n_links n.links) : Cn f_impl_isFog [.agg #[v_n_towers, v_n_links], .agg #[.int .i64 x.link, .int .i64 x.fr, .int .i64 x.til]] h fun v h' => v = .bool (decide (FogOk n.links.length x)) ∧ Ext h h' := by
 have l63_n_towers := s_n_towers.len63
 have l63_n_links := s_n_links.len63
 refine calls_of r_impl_isFog ?_
 refine v_seq <| v_ops ?_
 refine s_box [v_n_towers, v_n_links] rfl (fun h2 b1 hbb1 hzb1 eh2 bxb1 => ?_)
 have E3 := (Ext.refl h).trans eh2
 have z4 := eh2.size
 have lbb1 := bxb1.lt
 refine s_box [.int .i64 x.link, .int .i64 x.fr, .int .i64 x.til] rfl (fun h6 b5 hbb5 hzb5 eh6 bxb5 => ?_)
 have E7 := E3.trans eh6
 have z8 := eh6.size
 have lbb5 := bxb5.lt
 refine s_pq (.bool false) <| s_nil <| p_seqN <| v_seq <| v_ops <| s_pq (.pointer (some ⟨b5, 0, none⟩)) <| s_load (.int .i64 x.link) (fun _ q => bxb5.load rfl q) <| s_pq (.pointer (some ⟨b1, 1, none⟩)) ?_
 have f9 := (bxb1.ext eh6)
 refine s_load v_n_links (fun _ q => f9.load rfl q) <| s_pure (.int .i64 (n.links.length : Int)) (fun _ q => s_n_links.lenVC q) <| s_pure (.int .i64 ((n.links.length : Int) - 1)) (fun _ q => ArithVC.mk (by omega) q) <| s_callS [.int .i64 x.link, .int .i64 0, .int .i64 ((n.links.length : Int) - 1)] (.bool (decide (0 ≤ x.link ∧ x.link ≤ ((n.links.length : Int) - 1)))) rfl (within_ok x.link 0 ((n.links.length : Int) - 1) _ ) <| s_pq (.bool (decide (0 ≤ x.link ∧ x.link ≤ ((n.links.length : Int) - 1)))) ?_
 refine s_splitT rfl (fun c10 => ?_) (fun c10 => ?_)
 ·
  refine s_run rfl <| s_pq (.pointer (some ⟨b5, 1, none⟩)) <| s_run rfl <| s_load (.int .i64 x.fr) (fun _ q => bxb5.load rfl q) <| s_run rfl <| s_pq (.bool (decide (x.fr ≥ 0))) <| s_pq (.bool (decide (x.fr ≥ 0))) <| s_pq (.bool (decide (x.fr ≥ 0))) ?_
  refine s_splitT rfl (fun c11 => ?_) (fun c11 => ?_)
  ·
   refine s_run rfl <| s_pq (.pointer (some ⟨b5, 1, none⟩)) <| s_run rfl <| s_load (.int .i64 x.fr) (fun _ q => bxb5.load rfl q) <| s_run rfl <| s_pq (.pointer (some ⟨b5, 2, none⟩)) <| s_run rfl <| s_load (.int .i64 x.til) (fun _ q => bxb5.load rfl q) <| s_run rfl <| s_pq (.bool (decide (x.fr < x.til))) <| s_pq (.bool (decide (x.fr < x.til))) <| s_pq (.bool (decide (x.fr < x.til))) ?_
   refine s_splitT rfl (fun c12 => ?_) (fun c12 => ?_)
   ·
    refine s_run rfl <| s_pq (.pointer (some ⟨b5, 2, none⟩)) <| s_run rfl <| s_load (.int .i64 x.til) (fun _ q => bxb5.load rfl q) <| s_run rfl <| s_pq (.bool (decide (x.til ≤ 10000))) <| s_pq (.bool (decide (x.til ≤ 10000))) <| s_pq (.bool (decide (x.til ≤ 10000))) <| s_nil <| p_seqN <| v_ret <| p_ret [.bool (decide (x.til ≤ 10000))] (.bool (decide (x.til ≤ 10000))) (fun _ q => q) rfl ?_
    have ho : (decide (FogOk n.links.length x)) = (decide (x.til ≤ 10000)) := by rw [Bool.eq_iff_iff]; simp only [decide_eq_true_eq, Bool.false_eq_true, iff_false, false_iff, iff_true, true_iff]; omega
    exact ⟨by first | (rw [ho]; done) | rfl, E7⟩
   refine s_pass rfl <| s_pass rfl <| s_pass rfl <| s_pq (.bool false) <| s_pq (.bool false) <| s_nil <| p_seqN <| v_ret <| p_ret [.bool false] (.bool false) (fun _ q => q) rfl ?_
   have ho : (decide (FogOk n.links.length x)) = false := by rw [Bool.eq_iff_iff]; simp only [decide_eq_true_eq, Bool.false_eq_true, iff_false, false_iff, iff_true, true_iff]; omega
   exact ⟨by first | (rw [ho]; done) | rfl, E7⟩
  refine s_pass rfl <| s_pass rfl <| s_pass rfl <| s_pass rfl <| s_pass rfl <| s_pq (.bool false) <| s_pq (.bool false) <| s_splitN rfl (by simp) <| s_pass rfl <| s_pass rfl <| s_pass rfl <| s_pq (.bool false) <| s_pq (.bool false) <| s_nil <| p_seqN <| v_ret <| p_ret [.bool false] (.bool false) (fun _ q => q) rfl ?_
  have ho : (decide (FogOk n.links.length x)) = false := by rw [Bool.eq_iff_iff]; simp only [decide_eq_true_eq, Bool.false_eq_true, iff_false, false_iff, iff_true, true_iff]; omega
  exact ⟨by first | (rw [ho]; done) | rfl, E7⟩
 refine s_pass rfl <| s_pass rfl <| s_pass rfl <| s_pq (.bool false) <| s_pq (.bool false) <| s_splitN rfl (by simp) <| s_pass rfl <| s_pass rfl <| s_pass rfl <| s_pass rfl <| s_pass rfl <| s_pq (.bool false) <| s_pq (.bool false) <| s_splitN rfl (by simp) <| s_pass rfl <| s_pass rfl <| s_pass rfl <| s_pq (.bool false) <| s_pq (.bool false) <| s_nil <| p_seqN <| v_ret <| p_ret [.bool false] (.bool false) (fun _ q => q) rfl ?_
 have ho : (decide (FogOk n.links.length x)) = false := by rw [Bool.eq_iff_iff]; simp only [decide_eq_true_eq, Bool.false_eq_true, iff_false, false_iff, iff_true, true_iff]; omega
 exact ⟨by first | (rw [ho]; done) | rfl, E7⟩

theorem spec_fgFog_ok (n : NetP) (v_n_towers : Value) (v_n_links : Value) (x : FogD) (h : Heap) (s_n_towers : Sl h v_n_towers n.towers) (s_n_links : Sl h v_n_links n.links) : Cn f_spec_fgFog [.agg #[v_n_towers, v_n_links], .agg #[.int .i64 x.link, .int .i64 x.fr, .int .i64 x.til]] h fun v h' => v = .bool (decide (FogOk n.links.length x)) ∧ Ext h h' := by
 have l63_n_towers := s_n_towers.len63
 have l63_n_links := s_n_links.len63
 refine calls_of r_spec_fgFog ?_
 refine v_seq <| v_ops ?_
 refine s_box [v_n_towers, v_n_links] rfl (fun h2 b1 hbb1 hzb1 eh2 bxb1 => ?_)
 have E3 := (Ext.refl h).trans eh2
 have z4 := eh2.size
 have lbb1 := bxb1.lt
 refine s_box [.int .i64 x.link, .int .i64 x.fr, .int .i64 x.til] rfl (fun h6 b5 hbb5 hzb5 eh6 bxb5 => ?_)
 have E7 := E3.trans eh6
 have z8 := eh6.size
 have lbb5 := bxb5.lt
 refine s_pq (.bool false) <| s_nil <| p_seqN <| v_seq <| v_ops <| s_pq (.pointer (some ⟨b5, 0, none⟩)) <| s_load (.int .i64 x.link) (fun _ q => bxb5.load rfl q) <| s_pq (.pointer (some ⟨b1, 1, none⟩)) ?_
 have f9 := (bxb1.ext eh6)
 refine s_load v_n_links (fun _ q => f9.load rfl q) <| s_pure (.int .i64 (n.links.length : Int)) (fun _ q => s_n_links.lenVC q) <| s_pure (.int .i64 ((n.links.length : Int) - 1)) (fun _ q => ArithVC.mk (by omega) q) <| s_callS [.int .i64 x.link, .int .i64 0, .int .i64 ((n.links.length : Int) - 1)] (.bool (decide (0 ≤ x.link ∧ x.link ≤ ((n.links.length : Int) - 1)))) rfl (l1In_ok x.link 0 ((n.links.length : Int) - 1) _ ) <| s_pq (.bool (decide (0 ≤ x.link ∧ x.link ≤ ((n.links.length : Int) - 1)))) ?_
 refine s_splitT rfl (fun c10 => ?_) (fun c10 => ?_)
 ·
  refine s_run rfl <| s_pq (.pointer (some ⟨b5, 1, none⟩)) <| s_run rfl <| s_load (.int .i64 x.fr) (fun _ q => bxb5.load rfl q) <| s_run rfl <| s_callS [.int .i64 x.fr, .int .i64 0, .int .i64 9999] (.bool (decide (0 ≤ x.fr ∧ x.fr ≤ 9999))) rfl (l1In_ok x.fr 0 9999 _ ) <| s_pq (.bool (decide (0 ≤ x.fr ∧ x.fr ≤ 9999))) <| s_pq (.bool (decide (0 ≤ x.fr ∧ x.fr ≤ 9999))) ?_
  refine s_splitT rfl (fun c11 => ?_) (fun c11 => ?_)
  ·
   refine s_run rfl <| s_pq (.pointer (some ⟨b5, 2, none⟩)) <| s_run rfl <| s_load (.int .i64 x.til) (fun _ q => bxb5.load rfl q) <| s_run rfl <| s_pq (.pointer (some ⟨b5, 1, none⟩)) <| s_run rfl <| s_load (.int .i64 x.fr) (fun _ q => bxb5.load rfl q) <| s_run rfl <| s_pure (.int .i64 (x.fr + 1)) (fun _ q => ArithVC.mk (by omega) q) <| s_run rfl <| s_callS [.int .i64 x.til, .int .i64 (x.fr + 1), .int .i64 10000] (.bool (decide ((x.fr + 1) ≤ x.til ∧ x.til ≤ 10000))) rfl (l1In_ok x.til (x.fr + 1) 10000 _ ) ?_
   refine s_pq (.bool (decide ((x.fr + 1) ≤ x.til ∧ x.til ≤ 10000))) <| s_pq (.bool (decide ((x.fr + 1) ≤ x.til ∧ x.til ≤ 10000))) <| s_nil <| p_seqN <| v_ret <| p_ret [.bool (decide ((x.fr + 1) ≤ x.til ∧ x.til ≤ 10000))] (.bool (decide ((x.fr + 1) ≤ x.til ∧ x.til ≤ 10000))) (fun _ q => q) rfl ?_
   have ho : (decide (FogOk n.links.length x)) = (decide ((x.fr + 1) ≤ x.til ∧ x.til ≤ 10000)) := by rw [Bool.eq_iff_iff]; simp only [decide_eq_true_eq, Bool.false_eq_true, iff_false, false_iff, iff_true, true_iff]; omega
   exact ⟨by first | (rw [ho]; done) | rfl, E7⟩
  refine s_pass rfl <| s_pass rfl <| s_pass rfl <| s_pass rfl <| s_pass rfl <| s_pass rfl <| s_pq (.bool false) <| s_pq (.bool false) <| s_nil <| p_seqN <| v_ret <| p_ret [.bool false] (.bool false) (fun _ q => q) rfl ?_
  have ho : (decide (FogOk n.links.length x)) = false := by rw [Bool.eq_iff_iff]; simp only [decide_eq_true_eq, Bool.false_eq_true, iff_false, false_iff, iff_true, true_iff]; omega
  exact ⟨by first | (rw [ho]; done) | rfl, E7⟩
 refine s_pass rfl <| s_pass rfl <| s_pass rfl <| s_pq (.bool false) <| s_pq (.bool false) <| s_splitN rfl (by simp) <| s_pass rfl <| s_pass rfl <| s_pass rfl <| s_pass rfl <| s_pass rfl <| s_pass rfl <| s_pq (.bool false) <| s_pq (.bool false) <| s_nil <| p_seqN <| v_ret <| p_ret [.bool false] (.bool false) (fun _ q => q) rfl ?_
 have ho : (decide (FogOk n.links.length x)) = false := by rw [Bool.eq_iff_iff]; simp only [decide_eq_true_eq, Bool.false_eq_true, iff_false, false_iff, iff_true, true_iff]; omega
 exact ⟨by first | (rw [ho]; done) | rfl, E7⟩

set_option maxRecDepth 10000 in
set_option maxHeartbeats 4000000 in
theorem impl_areFogs_ok (n : NetP) (v_n_towers : Value) (v_n_links : Value) (v_l : Value) (l : List FogD) (h : Heap) (s_n_towers : Sl h v_n_towers n.towers) (s_n_links : Sl h v_n_links n.links) (s_l : Sl h v_l l) : Cn f_impl_areFogs [.agg #[v_n_towers, v_n_links], v_l] h fun v h' => v = .bool (decide (FogsOk n.links.length l)) ∧ Ext h h' := by
 have lt_n_towers := s_n_towers.lt
 have l63_n_towers := s_n_towers.len63
 have lt_n_links := s_n_links.lt
 have l63_n_links := s_n_links.len63
 have lt_l := s_l.lt
 have l63_l := s_l.len63
 refine calls_of r_impl_areFogs ?_
 refine v_seq <| v_ops ?_
 refine s_box [v_n_towers, v_n_links] rfl (fun h2 b1 hbb1 hzb1 eh2 bxb1 => ?_)
 have E3 := (Ext.refl h).trans eh2
 have z4 := eh2.size
 have lbb1 := bxb1.lt
 refine s_pq (.bool false) <| s_nil <| p_seqN <| v_seq <| v_seq <| v_ops <| s_pq v_l <| s_pure (.int .i64 (l.length : Int)) (fun _ q => s_l.lenVC q) <| s_pq (.bool (decide ((l.length : Int) > 60))) <| s_nil <| p_seqN ?_
 refine v_cond rfl (fun c5 => ?_) (fun c5 => ?_)
 ·
  refine v_seq <| v_ops <| s_pq (.bool false) <| s_nil <| p_seqN <| v_ret <| p_seqR <| p_ret [.bool false] (.bool false) (fun _ q => q) rfl ?_
  have ho : (decide (FogsOk n.links.length l)) = false := by first | exact fogs_long (by omega) | exact fogs_bad (by assumption : l[k]? = some xo__) (fun hp => absurd hp.1 (by assumption)) | exact fogs_bad (by assumption : l[k]? = some xo__) (fun hp => by (have h1 := hp.2 (by omega) _ (by assumption : l[k - 1]? = some x__)); (have h3 := (hall (k - 1) _ (by omega) (by assumption : l[k - 1]? = some x__)).1); first | omega | ((have h2 := fgCmp_lt (a := x__) (b := xo__)); omega)) | exact fogs_end hall (by assumption) (by simp; omega)
  exact ⟨by first | (rw [ho]; done) | rfl, E3⟩
 refine v_skip <| p_seqN <| v_seq <| v_seq <| v_ops <| s_pq v_l <| s_pure (.int .i64 (l.length : Int)) (fun _ q => s_l.lenVC q) <| s_pq (.int .i64 0) <| s_nil <| p_seqN <| v_block <| v_loop1 (α := Nat) (fun k => [(1, v_l), (2, .pointer (some ⟨b1, 0, none⟩)), (10, v_l), (11, .int .i64 (l.length : Int)), (12, .int .i64 (k : Int))]) (fun k hh => Ext h hh ∧ Bx hh b1 [v_n_towers, v_n_links] 27 ∧ k ≤ l.length ∧ FogsTo n.links.length l k) (fun k => l.length - k) 0 ⟨rfl, rfl, rfl, rfl, rfl⟩ ⟨E3, bxb1, (by exact ⟨by omega, fun i x hi => by omega⟩)⟩ ?_
 rintro k R7 h6 ⟨Eh, bxb1, ⟨hk, hall⟩⟩
 have zEh := Eh.size
 have f9 := s_n_towers.ext Eh
 have f10 := s_n_links.ext Eh
 have f11 := s_l.ext Eh
 have lbb1 := bxb1.lt
 refine v_seq <| v_ops <| s_pq (.bool (decide ((k : Int) < (l.length : Int)))) <| s_nil <| p_seqN <| v_seq ?_
 refine v_cond rfl (fun c12 => ?_) (fun c12 => ?_)
 ·
  refine v_skip <| p_seqN <| v_seq <| v_block <| v_seq <| v_ops <| s_pq (.int .i64 (k : Int)) ?_
  have hk13 : k < l.length := (by first | omega | (simp; omega))
  obtain ⟨x14, hx14⟩ : ∃ x, l[k]? = some x := ⟨_, List.getElem?_eq_getElem hk13⟩
  refine s_pure (.pointer (some ⟨sblk v_l, soff v_l + k * 3, none⟩)) (fun _ q => f11.idx (k := k) rfl hk13 q) <| s_load (.agg #[.int .i64 x14.link, .int .i64 x14.fr, .int .i64 x14.til]) (fun _ q => f11.loadN hx14 rfl q) ?_
  refine s_new (fun h16 b15 hbb15 hzb15 eh16 bxb15 => ?_)
  have E17 := Eh.trans eh16
  have z18 := eh16.size
  have lbb15 := bxb15.lt
  refine s_pq (.int .i64 (k : Int)) ?_
  refine s_stBx (.agg #[.int .i64 x14.link, .int .i64 x14.fr, .int .i64 x14.til]) [.int .i64 x14.link, .int .i64 x14.fr, .int .i64 x14.til] [.int .i64 x14.link, .int .i64 x14.fr, .int .i64 x14.til] bxb15 rfl rfl rfl rfl (by simp) (all_cons rfl (all_cons rfl (all_cons rfl all_nil))) rfl (fun h19 mh19 sh19 bxx20 => ?_)
  have E21 := E17.mod mh19 (fun b hb => by simp at hb; omega)
  refine s_nil <| p_seqN <| v_seq ?_
  have f22 := ((f11.ext eh16).mod mh19 (fun b hb hc => by simp at hc; have := lt_l b hb; omega))
  refine v_draw (DrawVC.hold (blks v_l) ?_)
  have f23 := ((bxb1.ext eh16).mod mh19 (by simp; omega))
  refine d_loadO (.agg #[v_n_towers, v_n_links]) (fun _ q => f23.loadA rfl q) <| d_loadO (.agg #[.int .i64 x14.link, .int .i64 x14.fr, .int .i64 x14.til]) (fun _ q => bxx20.loadA rfl q) <| d_eff ?_
  have f24 := ((f9.ext eh16).mod mh19 (fun b hb hc => by simp at hc; have := lt_n_towers b hb; omega))
  have f25 := ((f10.ext eh16).mod mh19 (fun b hb hc => by simp at hc; have := lt_n_links b hb; omega))
  refine s_call [.agg #[v_n_towers, v_n_links], .agg #[.int .i64 x14.link, .int .i64 x14.fr, .int .i64 x14.til]] rfl (impl_isFog_ok n v_n_towers v_n_links x14 _ f24 f25) ?_
  rintro _ h26 ⟨rfl, eh26⟩
  have E27 := E21.trans eh26
  have z28 := eh26.size
  have G29 := eh26
  refine s_nil ⟨fun _ x hx => G29.blk x (by have := lt_l x hx; omega), ?_⟩
  refine d_pq (.bool (!(decide (FogOk n.links.length x14)))) <| d_pq (.bool (!(decide (FogOk n.links.length x14)))) ?_
  refine d_splitT rfl (fun c30 => ?_) (fun c30 => ?_)
  ·
   refine d_passT rfl <| d_passT rfl <| d_passT rfl <| d_splitU rfl <| d_passTU rfl <| d_passTU rfl <| d_passTU rfl <| d_passTU rfl <| d_passTU rfl <| d_passOU rfl <| d_passOU rfl <| d_passTU rfl <| d_passTU rfl <| d_splitU rfl <| d_passTU rfl <| d_passTU rfl <| d_passTU rfl <| d_passTU rfl <| d_passTU rfl <| d_passTU rfl <| d_passTU rfl <| d_passOU rfl <| d_passTU rfl <| d_passTU rfl <| d_splitU rfl <| d_passTU rfl <| d_passTU rfl <| d_passTU rfl <| d_passTU rfl <| d_passTU rfl <| d_passTU rfl ?_
   refine d_passTU rfl <| d_passOU rfl <| d_passTU rfl <| d_passTU rfl <| d_passTU rfl <| d_passT rfl <| d_pq (.bool true) <| d_done <| p_seqN <| v_condY rfl rfl <| v_seq <| v_ops <| s_pq (.bool false) <| s_nil <| p_seqN <| v_ret <| p_blkR <| p_seqR <| p_lpR <| p_blkR <| p_seqR <| p_ret [.bool false] (.bool false) (fun _ q => q) rfl ?_
   have ho : (decide (FogsOk n.links.length l)) = false := by first | exact fogs_long (by omega) | exact fogs_bad (by assumption : l[k]? = some x14) (fun hp => absurd hp.1 (by assumption)) | exact fogs_bad (by assumption : l[k]? = some x14) (fun hp => by (have h1 := hp.2 (by omega) _ (by assumption : l[k - 1]? = some x14)); (have h3 := (hall (k - 1) _ (by omega) (by assumption : l[k - 1]? = some x14)).1); first | omega | ((have h2 := fgCmp_lt (a := x14) (b := x14)); omega)) | exact fogs_end hall (by assumption) (by simp; omega)
   exact ⟨by first | (rw [ho]; done) | rfl, E27⟩
  have c30 := Classical.not_not.1 c30
  refine d_runT rfl <| d_pq (.int .i64 (k : Int)) <| d_runT rfl <| d_pq (.bool (decide ((k : Int) > 0))) <| d_runT rfl <| d_pq (.bool (decide ((k : Int) > 0))) ?_
  refine d_splitT rfl (fun c31 => ?_) (fun c31 => ?_)
  ·
   refine d_runT rfl <| d_pq v_l <| d_runT rfl <| d_pq (.int .i64 (k : Int)) <| d_runT rfl <| d_pureT (.int .i64 ((k : Int) - 1)) (fun _ q => ArithVC.mk (by omega) q) <| d_runT rfl ?_
   have f32 := (f22.ext eh26)
   have hk33 : (k - 1) < l.length := (by first | omega | (simp; omega))
   obtain ⟨x34, hx34⟩ : ∃ x, l[(k - 1)]? = some x := ⟨_, List.getElem?_eq_getElem hk33⟩
   refine d_pureT (.pointer (some ⟨sblk v_l, soff v_l + (k - 1) * 3, none⟩)) (fun _ q => f32.idx (k := (k - 1)) (by omega) hk33 q) <| d_runT rfl <| d_loadT (.agg #[.int .i64 x34.link, .int .i64 x34.fr, .int .i64 x34.til]) (fun _ q => f22.takeN (fun b hb => by first | exact hb | simp [hb]) hx34 rfl q) <| d_runO rfl ?_
   have f35 := (bxx20.ext eh26)
   refine d_loadO (.agg #[.int .i64 x14.link, .int .i64 x14.fr, .int .i64 x14.til]) (fun _ q => f35.loadA rfl q) <| d_runO rfl <| d_eff <| s_call [.agg #[.int .i64 x34.link, .int .i64 x34.fr, .int .i64 x34.til], .agg #[.int .i64 x14.link, .int .i64 x14.fr, .int .i64 x14.til]] rfl (impl_compareFogs_ok x34 x14 _ ) ?_
   rintro _ h36 ⟨rfl, eh36⟩
   have E37 := E27.trans eh36
   have z38 := eh36.size
   have G39 := G29.trans eh36
   refine s_nil ⟨fun _ x hx => G39.blk x (by have := lt_l x hx; omega), ?_⟩
   refine d_runT rfl <| d_pq (.bool (decide ((fgCmp x34 x14) ≥ 0))) <| d_runT rfl <| d_pq (.bool (decide ((fgCmp x34 x14) ≥ 0))) ?_
   refine d_splitT rfl (fun c40 => ?_) (fun c40 => ?_)
   ·
    refine d_passT rfl <| d_passT rfl <| d_passT rfl <| d_passT rfl <| d_passT rfl <| d_passT rfl <| d_passT rfl <| d_passO rfl <| d_passT rfl <| d_passT rfl <| d_splitU rfl <| d_passTU rfl <| d_passTU rfl <| d_passTU rfl <| d_passTU rfl <| d_passTU rfl <| d_passTU rfl <| d_passTU rfl <| d_passOU rfl <| d_passTU rfl <| d_passT rfl <| d_runT rfl <| d_pq (.bool true) <| d_runT rfl <| d_pq (.bool true) <| d_pq (.bool true) <| d_done <| p_seqN <| v_condY rfl rfl <| v_seq <| v_ops <| s_pq (.bool false) ?_
    refine s_nil <| p_seqN <| v_ret <| p_blkR <| p_seqR <| p_lpR <| p_blkR <| p_seqR <| p_ret [.bool false] (.bool false) (fun _ q => q) rfl ?_
    have ho : (decide (FogsOk n.links.length l)) = false := by first | exact fogs_long (by omega) | exact fogs_bad (by assumption : l[k]? = some x14) (fun hp => absurd hp.1 (by assumption)) | exact fogs_bad (by assumption : l[k]? = some x14) (fun hp => by (have h1 := hp.2 (by omega) _ (by assumption : l[k - 1]? = some x34)); (have h3 := (hall (k - 1) _ (by omega) (by assumption : l[k - 1]? = some x34)).1); first | omega | ((have h2 := fgCmp_lt (a := x34) (b := x14)); omega)) | exact fogs_end hall (by assumption) (by simp; omega)
    exact ⟨by first | (rw [ho]; done) | rfl, E37⟩
   refine d_runT rfl <| d_pq v_l <| d_runT rfl <| d_pq (.int .i64 (k : Int)) <| d_runT rfl <| d_pureT (.int .i64 ((k : Int) - 1)) (fun _ q => ArithVC.mk (by omega) q) <| d_runT rfl ?_
   have f41 := (f32.ext eh36)
   refine d_pureT (.pointer (some ⟨sblk v_l, soff v_l + (k - 1) * 3, none⟩)) (fun _ q => f41.idx (k := (k - 1)) (by omega) hk33 q) <| d_runT rfl <| d_pq (.pointer (some ⟨sblk v_l, soff v_l + (k - 1) * 3, none⟩)) <| d_runT rfl <| d_pq (.pointer (some ⟨b15, 0, none⟩)) <| d_runT rfl <| d_loadT (.int .i64 x34.link) (fun _ q => f22.take (fun b hb => by first | exact hb | simp [hb]) hx34 (j := 0) rfl rfl q) <| d_runO rfl ?_
   have f42 := (f35.ext eh36)
   refine d_loadO (.int .i64 x14.link) (fun _ q => f42.load rfl q) <| d_runT rfl <| d_pq (.bool (x34.link == x14.link)) <| d_runT rfl <| d_pq (.bool (x34.link == x14.link)) ?_
   refine d_splitT rfl (fun c43 => ?_) (fun c43 => ?_)
   ·
    refine d_runT rfl <| d_pq v_l <| d_runT rfl <| d_pq (.int .i64 (k : Int)) <| d_runT rfl <| d_pureT (.int .i64 ((k : Int) - 1)) (fun _ q => ArithVC.mk (by omega) q) <| d_runT rfl <| d_pureT (.pointer (some ⟨sblk v_l, soff v_l + (k - 1) * 3, none⟩)) (fun _ q => f41.idx (k := (k - 1)) (by omega) hk33 q) <| d_runT rfl <| d_pq (.pointer (some ⟨sblk v_l, soff v_l + (k - 1) * 3 + 2, none⟩)) <| d_runT rfl <| d_pq (.pointer (some ⟨b15, 1, none⟩)) <| d_runT rfl <| d_loadT (.int .i64 x34.til) (fun _ q => f22.take (fun b hb => by first | exact hb | simp [hb]) hx34 (j := 2) rfl rfl q) ?_
    refine d_runO rfl <| d_loadO (.int .i64 x14.fr) (fun _ q => f42.load rfl q) <| d_runT rfl <| d_pq (.bool (decide (x34.til ≥ x14.fr))) <| d_runT rfl <| d_pq (.bool (decide (x34.til ≥ x14.fr))) <| d_runT rfl <| d_pq (.bool (decide (x34.til ≥ x14.fr))) <| d_runT rfl <| d_pq (.bool (decide (x34.til ≥ x14.fr))) <| d_pq (.bool (decide (x34.til ≥ x14.fr))) <| d_done <| p_seqN ?_
    refine v_cond rfl (fun c44 => ?_) (fun c44 => ?_)
    ·
     refine v_seq <| v_ops <| s_pq (.bool false) <| s_nil <| p_seqN <| v_ret <| p_blkR <| p_seqR <| p_lpR <| p_blkR <| p_seqR <| p_ret [.bool false] (.bool false) (fun _ q => q) rfl ?_
     have ho : (decide (FogsOk n.links.length l)) = false := by first | exact fogs_long (by omega) | exact fogs_bad (by assumption : l[k]? = some x14) (fun hp => absurd hp.1 (by assumption)) | exact fogs_bad (by assumption : l[k]? = some x14) (fun hp => by (have h1 := hp.2 (by omega) _ (by assumption : l[k - 1]? = some x34)); (have h3 := (hall (k - 1) _ (by omega) (by assumption : l[k - 1]? = some x34)).1); first | omega | ((have h2 := fgCmp_lt (a := x34) (b := x14)); omega)) | exact fogs_end hall (by assumption) (by simp; omega)
     exact ⟨by first | (rw [ho]; done) | rfl, E37⟩
    refine v_skip <| p_blkN <| p_seqN <| v_ops <| s_pure (.int .i64 ((k : Int) + 1)) (fun _ q => ArithVC.mk (by omega) q) <| s_pq (.int .i64 ((k : Int) + 1)) <| s_nil ?_
    have f45 := ((f23.ext eh26).ext eh36)
    exact p_lpN ⟨k + 1, ⟨rfl, rfl, rfl, rfl, rfl⟩, ⟨E37, f45, (by exact ⟨by omega, fogs_snoc hall (by assumption : l[k]? = some x14) (by assumption) (fun h0 y hy => by first | omega | ((have e := Option.some.inj ((by assumption : l[k - 1]? = some x34).symm.trans hy)); subst e; first | omega | ((have h1 := fgCmp_lt.1 (by omega : fgCmp x34 x14 < 0)); omega)))⟩)⟩, by omega⟩
   refine d_passT rfl <| d_passT rfl <| d_passT rfl <| d_passT rfl <| d_passT rfl <| d_passT rfl <| d_passT rfl <| d_passO rfl <| d_passT rfl <| d_runT rfl <| d_pq (.bool false) <| d_runT rfl <| d_pq (.bool false) <| d_runT rfl <| d_pq (.bool false) <| d_pq (.bool false) <| d_done <| p_seqN <| v_condN rfl (by simp) <| v_skip <| p_blkN <| p_seqN <| v_ops <| s_pure (.int .i64 ((k : Int) + 1)) (fun _ q => ArithVC.mk (by omega) q) <| s_pq (.int .i64 ((k : Int) + 1)) <| s_nil ?_
   have f46 := ((f23.ext eh26).ext eh36)
   exact p_lpN ⟨k + 1, ⟨rfl, rfl, rfl, rfl, rfl⟩, ⟨E37, f46, (by exact ⟨by omega, fogs_snoc hall (by assumption : l[k]? = some x14) (by assumption) (fun h0 y hy => by first | omega | ((have e := Option.some.inj ((by assumption : l[k - 1]? = some x34).symm.trans hy)); subst e; first | omega | ((have h1 := fgCmp_lt.1 (by omega : fgCmp x34 x14 < 0)); omega)))⟩)⟩, by omega⟩
  refine d_passT rfl <| d_passT rfl <| d_passT rfl <| d_passT rfl <| d_passT rfl <| d_passO rfl <| d_passO rfl <| d_passT rfl <| d_passT rfl <| d_splitU rfl <| d_passTU rfl <| d_passTU rfl <| d_passTU rfl <| d_passTU rfl <| d_passTU rfl <| d_passTU rfl <| d_passTU rfl <| d_passOU rfl <| d_passTU rfl <| d_passTU rfl <| d_splitU rfl <| d_passTU rfl <| d_passTU rfl <| d_passTU rfl <| d_passTU rfl <| d_passTU rfl <| d_passTU rfl <| d_passTU rfl <| d_passOU rfl <| d_passTU rfl <| d_passTU rfl <| d_passT rfl ?_
  refine d_runT rfl <| d_pq (.bool false) <| d_pq (.bool false) <| d_done <| p_seqN <| v_condN rfl (by simp) <| v_skip <| p_blkN <| p_seqN <| v_ops <| s_pure (.int .i64 ((k : Int) + 1)) (fun _ q => ArithVC.mk (by omega) q) <| s_pq (.int .i64 ((k : Int) + 1)) <| s_nil ?_
  have f47 := (f23.ext eh26)
  exact p_lpN ⟨k + 1, ⟨rfl, rfl, rfl, rfl, rfl⟩, ⟨E27, f47, (by exact ⟨by omega, fogs_snoc hall (by assumption : l[k]? = some x14) (by assumption) (fun h0 y hy => by first | omega | ((have e := Option.some.inj ((by assumption : l[k - 1]? = some x14).symm.trans hy)); subst e; first | omega | ((have h1 := fgCmp_lt.1 (by omega : fgCmp x14 x14 < 0)); omega)))⟩)⟩, by omega⟩
 refine v_exit <| p_seqX <| p_lpX <| p_blkX <| p_seqN <| v_seq <| v_ops <| s_pq (.bool true) <| s_nil <| p_seqN <| v_ret <| p_ret [.bool true] (.bool true) (fun _ q => q) rfl ?_
 have ho : (decide (FogsOk n.links.length l)) = true := by first | exact fogs_long (by omega) | exact fogs_bad (by assumption : l[k]? = some xo__) (fun hp => absurd hp.1 (by assumption)) | exact fogs_bad (by assumption : l[k]? = some xo__) (fun hp => by (have h1 := hp.2 (by omega) _ (by assumption : l[k - 1]? = some x__)); (have h3 := (hall (k - 1) _ (by omega) (by assumption : l[k - 1]? = some x__)).1); first | omega | ((have h2 := fgCmp_lt (a := x__) (b := xo__)); omega)) | exact fogs_end hall (by assumption) (by simp; omega)
 exact ⟨by first | (rw [ho]; done) | rfl, Eh⟩

set_option maxRecDepth 10000 in
set_option maxHeartbeats 4000000 in
theorem spec_fgGood_ok (n : NetP) (v_n_towers : Value) (v_n_links : Value) (v_l : Value) (l : List FogD) (h : Heap) (s_n_towers : Sl h v_n_towers n.towers) (s_n_links : Sl h v_n_links n.links) (s_l : Sl h v_l l) : Cn f_spec_fgGood [.agg #[v_n_towers, v_n_links], v_l] h fun v h' => v = .bool (decide (FogsOk n.links.length l)) ∧ Ext h h' := by
 have lt_n_towers := s_n_towers.lt
 have l63_n_towers := s_n_towers.len63
 have lt_n_links := s_n_links.lt
 have l63_n_links := s_n_links.len63
 have lt_l := s_l.lt
 have l63_l := s_l.len63
 refine calls_of r_spec_fgGood ?_
 refine v_seq <| v_ops ?_
 refine s_box [v_n_towers, v_n_links] rfl (fun h2 b1 hbb1 hzb1 eh2 bxb1 => ?_)
 have E3 := (Ext.refl h).trans eh2
 have z4 := eh2.size
 have lbb1 := bxb1.lt
 refine s_pq (.bool false) <| s_nil <| p_seqN <| v_seq <| v_seq <| v_ops <| s_pq v_l <| s_pure (.int .i64 (l.length : Int)) (fun _ q => s_l.lenVC q) <| s_pq (.int .i64 0) <| s_nil <| p_seqN <| v_block <| v_loop1 (α := Nat) (fun k => [(1, v_l), (2, .pointer (some ⟨b1, 0, none⟩)), (7, v_l), (8, .int .i64 (l.length : Int)), (9, .int .i64 (k : Int))]) (fun k hh => Ext h hh ∧ Bx hh b1 [v_n_towers, v_n_links] 27 ∧ k ≤ l.length ∧ FogsTo n.links.length l k) (fun k => l.length - k) 0 ⟨rfl, rfl, rfl, rfl, rfl⟩ ⟨E3, bxb1, (by exact ⟨by omega, fun i x hi => by omega⟩)⟩ ?_
 rintro k R6 h5 ⟨Eh, bxb1, ⟨hk, hall⟩⟩
 have zEh := Eh.size
 have f8 := s_n_towers.ext Eh
 have f9 := s_n_links.ext Eh
 have f10 := s_l.ext Eh
 have lbb1 := bxb1.lt
 refine v_seq <| v_ops <| s_pq (.bool (decide ((k : Int) < (l.length : Int)))) <| s_nil <| p_seqN <| v_seq ?_
 refine v_cond rfl (fun c11 => ?_) (fun c11 => ?_)
 ·
  refine v_skip <| p_seqN <| v_seq <| v_block <| v_seq <| v_ops <| s_pq (.int .i64 (k : Int)) ?_
  have hk12 : k < l.length := (by first | omega | (simp; omega))
  obtain ⟨x13, hx13⟩ : ∃ x, l[k]? = some x := ⟨_, List.getElem?_eq_getElem hk12⟩
  refine s_pure (.pointer (some ⟨sblk v_l, soff v_l + k * 3, none⟩)) (fun _ q => f10.idx (k := k) rfl hk12 q) <| s_load (.agg #[.int .i64 x13.link, .int .i64 x13.fr, .int .i64 x13.til]) (fun _ q => f10.loadN hx13 rfl q) ?_
  refine s_new (fun h15 b14 hbb14 hzb14 eh15 bxb14 => ?_)
  have E16 := Eh.trans eh15
  have z17 := eh15.size
  have lbb14 := bxb14.lt
  refine s_pq (.int .i64 (k : Int)) ?_
  refine s_stBx (.agg #[.int .i64 x13.link, .int .i64 x13.fr, .int .i64 x13.til]) [.int .i64 x13.link, .int .i64 x13.fr, .int .i64 x13.til] [.int .i64 x13.link, .int .i64 x13.fr, .int .i64 x13.til] bxb14 rfl rfl rfl rfl (by simp) (all_cons rfl (all_cons rfl (all_cons rfl all_nil))) rfl (fun h18 mh18 sh18 bxx19 => ?_)
  have E20 := E16.mod mh18 (fun b hb => by simp at hb; omega)
  refine s_nil <| p_seqN <| v_seq <| v_seq <| v_ops ?_
  have f21 := ((bxb1.ext eh15).mod mh18 (by simp; omega))
  refine s_load (.agg #[v_n_towers, v_n_links]) (fun _ q => f21.loadA rfl q) <| s_load (.agg #[.int .i64 x13.link, .int .i64 x13.fr, .int .i64 x13.til]) (fun _ q => bxx19.loadA rfl q) ?_
  have f22 := ((f8.ext eh15).mod mh18 (fun b hb hc => by simp at hc; have := lt_n_towers b hb; omega))
  have f23 := ((f9.ext eh15).mod mh18 (fun b hb hc => by simp at hc; have := lt_n_links b hb; omega))
  refine s_call [.agg #[v_n_towers, v_n_links], .agg #[.int .i64 x13.link, .int .i64 x13.fr, .int .i64 x13.til]] rfl (spec_fgFog_ok n v_n_towers v_n_links x13 _ f22 f23) ?_
  rintro _ h24 ⟨rfl, eh24⟩
  have E25 := E20.trans eh24
  have z26 := eh24.size
  refine s_pq (.bool (!(decide (FogOk n.links.length x13)))) <| s_nil <| p_seqN ?_
  refine v_cond rfl (fun c27 => ?_) (fun c27 => ?_)
  ·
   refine v_seq <| v_ops <| s_pq (.bool false) <| s_nil <| p_seqN <| v_ret <| p_seqR <| p_blkR <| p_seqR <| p_lpR <| p_blkR <| p_seqR <| p_ret [.bool false] (.bool false) (fun _ q => q) rfl ?_
   have ho : (decide (FogsOk n.links.length l)) = false := by first | exact fogs_long (by omega) | exact fogs_bad (by assumption : l[k]? = some x13) (fun hp => absurd hp.1 (by assumption)) | exact fogs_bad (by assumption : l[k]? = some x13) (fun hp => by (have h1 := hp.2 (by omega) _ (by assumption : l[k - 1]? = some x13)); (have h3 := (hall (k - 1) _ (by omega) (by assumption : l[k - 1]? = some x13)).1); first | omega | ((have h2 := fgCmp_lt (a := x13) (b := x13)); omega)) | exact fogs_end hall (by assumption) (by simp; omega)
   exact ⟨by first | (rw [ho]; done) | rfl, E25⟩
  have c27 := Classical.not_not.1 c27
  refine v_skip <| p_seqN <| v_seq <| v_ops <| s_pq (.int .i64 (k : Int)) <| s_pq (.bool (decide ((k : Int) > 0))) <| s_pq (.bool (decide ((k : Int) > 0))) ?_
  refine s_splitT rfl (fun c28 => ?_) (fun c28 => ?_)
  ·
   refine s_run rfl <| s_pq v_l <| s_run rfl <| s_pq (.int .i64 (k : Int)) <| s_run rfl <| s_pure (.int .i64 ((k : Int) - 1)) (fun _ q => ArithVC.mk (by omega) q) <| s_run rfl ?_
   have f29 := (((f10.ext eh15).mod mh18 (fun b hb hc => by simp at hc; have := lt_l b hb; omega)).ext eh24)
   have hk30 : (k - 1) < l.length := (by first | omega | (simp; omega))
   obtain ⟨x31, hx31⟩ : ∃ x, l[(k - 1)]? = some x := ⟨_, List.getElem?_eq_getElem hk30⟩
   refine s_pure (.pointer (some ⟨sblk v_l, soff v_l + (k - 1) * 3, none⟩)) (fun _ q => f29.idx (k := (k - 1)) (by omega) hk30 q) <| s_run rfl <| s_pq (.pointer (some ⟨sblk v_l, soff v_l + (k - 1) * 3, none⟩)) <| s_run rfl <| s_pq (.pointer (some ⟨b14, 0, none⟩)) <| s_run rfl <| s_load (.int .i64 x31.link) (fun _ q => f29.load hx31 (j := 0) rfl rfl q) <| s_run rfl ?_
   have f32 := (bxx19.ext eh24)
   refine s_load (.int .i64 x13.link) (fun _ q => f32.load rfl q) <| s_run rfl <| s_pq (.bool (decide (x31.link > x13.link))) <| s_run rfl <| s_pq (.bool (decide (x31.link > x13.link))) ?_
   refine s_splitT rfl (fun c33 => ?_) (fun c33 => ?_)
   ·
    refine s_pass rfl <| s_pass rfl <| s_pass rfl <| s_pass rfl <| s_pass rfl <| s_pass rfl <| s_pass rfl <| s_pass rfl <| s_pass rfl <| s_pass rfl <| s_splitU rfl <| s_passU rfl <| s_passU rfl <| s_passU rfl <| s_passU rfl <| s_passU rfl <| s_passU rfl <| s_passU rfl <| s_passU rfl <| s_passU rfl <| s_pass rfl <| s_run rfl <| s_pq (.bool true) <| s_pq (.bool true) <| s_nil <| p_seqN <| v_condY rfl rfl <| v_seq <| v_ops <| s_pq (.bool false) <| s_nil <| p_seqN <| v_ret <| p_blkR <| p_seqR <| p_lpR ?_
    refine p_blkR <| p_seqR <| p_ret [.bool false] (.bool false) (fun _ q => q) rfl ?_
    have ho : (decide (FogsOk n.links.length l)) = false := by first | exact fogs_long (by omega) | exact fogs_bad (by assumption : l[k]? = some x13) (fun hp => absurd hp.1 (by assumption)) | exact fogs_bad (by assumption : l[k]? = some x13) (fun hp => by (have h1 := hp.2 (by omega) _ (by assumption : l[k - 1]? = some x31)); (have h3 := (hall (k - 1) _ (by omega) (by assumption : l[k - 1]? = some x31)).1); first | omega | ((have h2 := fgCmp_lt (a := x31) (b := x13)); omega)) | exact fogs_end hall (by assumption) (by simp; omega)
    exact ⟨by first | (rw [ho]; done) | rfl, E25⟩
   refine s_run rfl <| s_pq v_l <| s_run rfl <| s_pq (.int .i64 (k : Int)) <| s_run rfl <| s_pure (.int .i64 ((k : Int) - 1)) (fun _ q => ArithVC.mk (by omega) q) <| s_run rfl <| s_pure (.pointer (some ⟨sblk v_l, soff v_l + (k - 1) * 3, none⟩)) (fun _ q => f29.idx (k := (k - 1)) (by omega) hk30 q) <| s_run rfl <| s_pq (.pointer (some ⟨sblk v_l, soff v_l + (k - 1) * 3, none⟩)) <| s_run rfl <| s_pq (.pointer (some ⟨b14, 0, none⟩)) <| s_run rfl <| s_load (.int .i64 x31.link) (fun _ q => f29.load hx31 (j := 0) rfl rfl q) ?_
   refine s_run rfl <| s_load (.int .i64 x13.link) (fun _ q => f32.load rfl q) <| s_run rfl <| s_pq (.bool (x31.link == x13.link)) <| s_run rfl <| s_pq (.bool (x31.link == x13.link)) ?_
   refine s_splitT rfl (fun c34 => ?_) (fun c34 => ?_)
   ·
    refine s_run rfl <| s_pq v_l <| s_run rfl <| s_pq (.int .i64 (k : Int)) <| s_run rfl <| s_pure (.int .i64 ((k : Int) - 1)) (fun _ q => ArithVC.mk (by omega) q) <| s_run rfl <| s_pure (.pointer (some ⟨sblk v_l, soff v_l + (k - 1) * 3, none⟩)) (fun _ q => f29.idx (k := (k - 1)) (by omega) hk30 q) <| s_run rfl <| s_pq (.pointer (some ⟨sblk v_l, soff v_l + (k - 1) * 3 + 2, none⟩)) <| s_run rfl <| s_pq (.pointer (some ⟨b14, 1, none⟩)) <| s_run rfl <| s_load (.int .i64 x31.til) (fun _ q => f29.load hx31 (j := 2) rfl rfl q) ?_
    refine s_run rfl <| s_load (.int .i64 x13.fr) (fun _ q => f32.load rfl q) <| s_run rfl <| s_pq (.bool (decide (x31.til ≥ x13.fr))) <| s_run rfl <| s_pq (.bool (decide (x31.til ≥ x13.fr))) <| s_run rfl <| s_pq (.bool (decide (x31.til ≥ x13.fr))) <| s_pq (.bool (decide (x31.til ≥ x13.fr))) <| s_nil <| p_seqN ?_
    refine v_cond rfl (fun c35 => ?_) (fun c35 => ?_)
    ·
     refine v_seq <| v_ops <| s_pq (.bool false) <| s_nil <| p_seqN <| v_ret <| p_blkR <| p_seqR <| p_lpR <| p_blkR <| p_seqR <| p_ret [.bool false] (.bool false) (fun _ q => q) rfl ?_
     have ho : (decide (FogsOk n.links.length l)) = false := by first | exact fogs_long (by omega) | exact fogs_bad (by assumption : l[k]? = some x13) (fun hp => absurd hp.1 (by assumption)) | exact fogs_bad (by assumption : l[k]? = some x13) (fun hp => by (have h1 := hp.2 (by omega) _ (by assumption : l[k - 1]? = some x31)); (have h3 := (hall (k - 1) _ (by omega) (by assumption : l[k - 1]? = some x31)).1); first | omega | ((have h2 := fgCmp_lt (a := x31) (b := x13)); omega)) | exact fogs_end hall (by assumption) (by simp; omega)
     exact ⟨by first | (rw [ho]; done) | rfl, E25⟩
    refine v_skip <| p_blkN <| p_seqN <| v_ops <| s_pure (.int .i64 ((k : Int) + 1)) (fun _ q => ArithVC.mk (by omega) q) <| s_pq (.int .i64 ((k : Int) + 1)) <| s_nil ?_
    have f36 := (f21.ext eh24)
    exact p_lpN ⟨k + 1, ⟨rfl, rfl, rfl, rfl, rfl⟩, ⟨E25, f36, (by exact ⟨by omega, fogs_snoc hall (by assumption : l[k]? = some x13) (by assumption) (fun h0 y hy => by first | omega | ((have e := Option.some.inj ((by assumption : l[k - 1]? = some x31).symm.trans hy)); subst e; first | omega | ((have h1 := fgCmp_lt.1 (by omega : fgCmp x31 x13 < 0)); omega)))⟩)⟩, by omega⟩
   refine s_pass rfl <| s_pass rfl <| s_pass rfl <| s_pass rfl <| s_pass rfl <| s_pass rfl <| s_pass rfl <| s_pass rfl <| s_pass rfl <| s_run rfl <| s_pq (.bool false) <| s_run rfl <| s_pq (.bool false) <| s_pq (.bool false) <| s_nil <| p_seqN <| v_condN rfl (by simp) <| v_skip <| p_blkN <| p_seqN <| v_ops <| s_pure (.int .i64 ((k : Int) + 1)) (fun _ q => ArithVC.mk (by omega) q) <| s_pq (.int .i64 ((k : Int) + 1)) <| s_nil ?_
   have f37 := (f21.ext eh24)
   exact p_lpN ⟨k + 1, ⟨rfl, rfl, rfl, rfl, rfl⟩, ⟨E25, f37, (by exact ⟨by omega, fogs_snoc hall (by assumption : l[k]? = some x13) (by assumption) (fun h0 y hy => by first | omega | ((have e := Option.some.inj ((by assumption : l[k - 1]? = some x31).symm.trans hy)); subst e; first | omega | ((have h1 := fgCmp_lt.1 (by omega : fgCmp x31 x13 < 0)); omega)))⟩)⟩, by omega⟩
  refine s_pass rfl <| s_pass rfl <| s_pass rfl <| s_pass rfl <| s_pass rfl <| s_pass rfl <| s_pass rfl <| s_pass rfl <| s_pass rfl <| s_pass rfl <| s_splitU rfl <| s_passU rfl <| s_passU rfl <| s_passU rfl <| s_passU rfl <| s_passU rfl <| s_passU rfl <| s_passU rfl <| s_passU rfl <| s_passU rfl <| s_passU rfl <| s_splitU rfl <| s_passU rfl <| s_passU rfl <| s_passU rfl <| s_passU rfl <| s_passU rfl <| s_passU rfl <| s_passU rfl <| s_passU rfl <| s_passU rfl <| s_passU rfl <| s_pass rfl <| s_pq (.bool false) ?_
  refine s_nil <| p_seqN <| v_condN rfl (by simp) <| v_skip <| p_blkN <| p_seqN <| v_ops <| s_pure (.int .i64 ((k : Int) + 1)) (fun _ q => ArithVC.mk (by omega) q) <| s_pq (.int .i64 ((k : Int) + 1)) <| s_nil ?_
  have f38 := (f21.ext eh24)
  exact p_lpN ⟨k + 1, ⟨rfl, rfl, rfl, rfl, rfl⟩, ⟨E25, f38, (by exact ⟨by omega, fogs_snoc hall (by assumption : l[k]? = some x13) (by assumption) (fun h0 y hy => by first | omega | ((have e := Option.some.inj ((by assumption : l[k - 1]? = some x13).symm.trans hy)); subst e; first | omega | ((have h1 := fgCmp_lt.1 (by omega : fgCmp x13 x13 < 0)); omega)))⟩)⟩, by omega⟩
 refine v_exit <| p_seqX <| p_lpX <| p_blkX <| p_seqN <| v_seq <| v_ops <| s_pq v_l <| s_pure (.int .i64 (l.length : Int)) (fun _ q => f10.lenVC q) <| s_pq (.bool (decide ((l.length : Int) ≤ 60))) <| s_pq (.bool (decide ((l.length : Int) ≤ 60))) <| s_nil <| p_seqN <| v_ret <| p_ret [.bool (decide ((l.length : Int) ≤ 60))] (.bool (decide ((l.length : Int) ≤ 60))) (fun _ q => q) rfl ?_
 have ho : (decide (FogsOk n.links.length l)) = (decide ((l.length : Int) ≤ 60)) := by first | exact fogs_long (by omega) | exact fogs_bad (by assumption : l[k]? = some xo__) (fun hp => absurd hp.1 (by assumption)) | exact fogs_bad (by assumption : l[k]? = some xo__) (fun hp => by (have h1 := hp.2 (by omega) _ (by assumption : l[k - 1]? = some x__)); (have h3 := (hall (k - 1) _ (by omega) (by assumption : l[k - 1]? = some x__)).1); first | omega | ((have h2 := fgCmp_lt (a := x__) (b := xo__)); omega)) | exact fogs_end hall (by assumption) (by simp; omega)
 exact ⟨by first | (rw [ho]; done) | rfl, Eh⟩

theorem spec_fgTime_ok (t : Int) (h : Heap)  : Cn f_spec_fgTime [.int .i64 t] h fun v h' => v = .bool (decide (0 ≤ t ∧ t ≤ 10000)) ∧ h' = h := by
 refine calls_of r_spec_fgTime ?_
 refine v_seq <| v_ops <| s_pq (.bool false) <| s_nil <| p_seqN <| v_seq <| v_ops <| s_pq (.int .i64 t) <| s_callS [.int .i64 t, .int .i64 0, .int .i64 10000] (.bool (decide (0 ≤ t ∧ t ≤ 10000))) rfl (l1In_ok t 0 10000 _ ) <| s_pq (.bool (decide (0 ≤ t ∧ t ≤ 10000))) <| s_nil <| p_seqN <| v_ret <| p_ret [.bool (decide (0 ≤ t ∧ t ≤ 10000))] (.bool (decide (0 ≤ t ∧ t ≤ 10000))) (fun _ q => q) rfl ?_
 have ho : (decide (0 ≤ t ∧ t ≤ 10000)) = (decide (0 ≤ t ∧ t ≤ 10000)) := by simp
 exact ⟨by first | (rw [ho]; done) | rfl, rfl⟩

set_option maxRecDepth 10000 in
set_option maxHeartbeats 4000000 in
theorem impl_startAfter_ok (v_l : Value) (l : List FogD) (link : Int) (t : Int) (seconds : Int) (h : Heap) (s_l : Sl h v_l l) (m : Nat) (hf : FogsOk m l) (ht : 0 ≤ t ∧ t ≤ 1000000) (hs : 0 ≤ seconds ∧ seconds ≤ 1000) : Cn f_impl_startAfter [v_l, .int .i64 link, .int .i64 t, .int .i64 seconds] h fun v h' => v = .int .i64 (stF l link t seconds) ∧ Ext h h' := by
 have l63_l := s_l.len63
 refine calls_of r_impl_startAfter ?_
 refine v_seq <| v_ops <| s_pq (.int .i64 0) <| s_nil <| p_seqN <| v_seq <| v_seq <| v_ops <| s_pq v_l <| s_pure (.int .i64 (l.length : Int)) (fun _ q => s_l.lenVC q) <| s_pq (.int .i64 0) <| s_nil <| p_seqN <| v_block <| v_loop2 (α := Nat) (β := Int) (fun k u => [(1, .int .i64 link), (2, .int .i64 u), (3, .int .i64 seconds), (11, v_l), (12, .int .i64 (l.length : Int)), (13, .int .i64 (k : Int))]) (fun k u hh => Ext h hh ∧ k ≤ l.length ∧ u = stF (l.take k) link t seconds) (fun k u => l.length - k) 0 t ⟨rfl, rfl, rfl, rfl, rfl, rfl⟩ ⟨(Ext.refl h), (by simp [stF])⟩ ?_
 rintro k u R2 h1 ⟨Eh, ⟨hk, hu⟩⟩
 have zEh := Eh.size
 have f4 := s_l.ext Eh
 have hb := stF_bd hf link t seconds k
 rw [← hu] at hb
 refine v_seq <| v_ops <| s_pq (.bool (decide ((k : Int) < (l.length : Int)))) <| s_nil <| p_seqN <| v_seq ?_
 refine v_cond rfl (fun c5 => ?_) (fun c5 => ?_)
 ·
  refine v_skip <| p_seqN <| v_seq <| v_block <| v_seq <| v_ops ?_
  have hk6 : k < l.length := (by first | omega | (simp; omega))
  obtain ⟨x7, hx7⟩ : ∃ x, l[k]? = some x := ⟨_, List.getElem?_eq_getElem hk6⟩
  refine s_pure (.pointer (some ⟨sblk v_l, soff v_l + k * 3, none⟩)) (fun _ q => f4.idx (k := k) rfl hk6 q) <| s_load (.agg #[.int .i64 x7.link, .int .i64 x7.fr, .int .i64 x7.til]) (fun _ q => f4.loadN hx7 rfl q) ?_
  refine s_new (fun h9 b8 hbb8 hzb8 eh9 bxb8 => ?_)
  have E10 := Eh.trans eh9
  have z11 := eh9.size
  have lbb8 := bxb8.lt
  refine s_stBx (.agg #[.int .i64 x7.link, .int .i64 x7.fr, .int .i64 x7.til]) [.int .i64 x7.link, .int .i64 x7.fr, .int .i64 x7.til] [.int .i64 x7.link, .int .i64 x7.fr, .int .i64 x7.til] bxb8 rfl rfl rfl rfl (by simp) (all_cons rfl (all_cons rfl (all_cons rfl all_nil))) rfl (fun h12 mh12 sh12 bxx13 => ?_)
  have E14 := E10.mod mh12 (fun b hb => by simp at hb; omega)
  refine s_nil <| p_seqN <| v_seq <| v_ops <| s_pq (.pointer (some ⟨b8, 0, none⟩)) <| s_load (.int .i64 x7.link) (fun _ q => bxx13.load rfl q) <| s_pq (.int .i64 link) <| s_pq (.bool (x7.link == link)) <| s_pq (.bool (x7.link == link)) ?_
  refine s_splitT rfl (fun c15 => ?_) (fun c15 => ?_)
  ·
   refine s_run rfl <| s_pq (.pointer (some ⟨b8, 2, none⟩)) <| s_run rfl <| s_load (.int .i64 x7.til) (fun _ q => bxx13.load rfl q) <| s_run rfl <| s_pq (.int .i64 u) <| s_run rfl <| s_pq (.bool (decide (x7.til > u))) <| s_pq (.bool (decide (x7.til > u))) <| s_pq (.bool (decide (x7.til > u))) ?_
   refine s_splitT rfl (fun c16 => ?_) (fun c16 => ?_)
   ·
    refine s_run rfl <| s_pq (.pointer (some ⟨b8, 1, none⟩)) <| s_run rfl <| s_load (.int .i64 x7.fr) (fun _ q => bxx13.load rfl q) <| s_run rfl <| s_pq (.int .i64 u) <| s_run rfl <| s_pq (.int .i64 seconds) <| s_run rfl <| s_pure (.int .i64 (u + seconds)) (fun _ q => ArithVC.mk (by omega) q) <| s_run rfl <| s_pq (.bool (decide (x7.fr < (u + seconds)))) <| s_pq (.bool (decide (x7.fr < (u + seconds)))) <| s_nil <| p_seqN ?_
    refine v_cond rfl (fun c17 => ?_) (fun c17 => ?_)
    ·
     refine v_ops <| s_pq (.pointer (some ⟨b8, 2, none⟩)) <| s_load (.int .i64 x7.til) (fun _ q => bxx13.load rfl q) <| s_pq (.int .i64 x7.til) <| s_nil <| p_blkN <| p_seqN <| v_ops <| s_pure (.int .i64 ((k : Int) + 1)) (fun _ q => ArithVC.mk (by omega) q) <| s_pq (.int .i64 ((k : Int) + 1)) <| s_nil ?_
     exact p_lpN ⟨k + 1, x7.til, ⟨rfl, rfl, rfl, rfl, rfl, rfl⟩, ⟨E14, (by exact ⟨by omega, by rw [snoc_get (by assumption), stF_snoc, ← hu]; first | rw [if_pos (by omega)] | rw [if_neg (by omega)]⟩)⟩, by omega⟩
    refine v_skip <| p_blkN <| p_seqN <| v_ops <| s_pure (.int .i64 ((k : Int) + 1)) (fun _ q => ArithVC.mk (by omega) q) <| s_pq (.int .i64 ((k : Int) + 1)) <| s_nil ?_
    exact p_lpN ⟨k + 1, u, ⟨rfl, rfl, rfl, rfl, rfl, rfl⟩, ⟨E14, (by exact ⟨by omega, by rw [snoc_get (by assumption), stF_snoc, ← hu]; first | rw [if_pos (by omega)] | rw [if_neg (by omega)]⟩)⟩, by omega⟩
   refine s_pass rfl <| s_pass rfl <| s_pass rfl <| s_pass rfl <| s_pass rfl <| s_pass rfl <| s_pq (.bool false) <| s_nil <| p_seqN <| v_condN rfl (by simp) <| v_skip <| p_blkN <| p_seqN <| v_ops <| s_pure (.int .i64 ((k : Int) + 1)) (fun _ q => ArithVC.mk (by omega) q) <| s_pq (.int .i64 ((k : Int) + 1)) <| s_nil ?_
   exact p_lpN ⟨k + 1, u, ⟨rfl, rfl, rfl, rfl, rfl, rfl⟩, ⟨E14, (by exact ⟨by omega, by rw [snoc_get (by assumption), stF_snoc, ← hu]; first | rw [if_pos (by omega)] | rw [if_neg (by omega)]⟩)⟩, by omega⟩
  refine s_pass rfl <| s_pass rfl <| s_pass rfl <| s_pass rfl <| s_pq (.bool false) <| s_pq (.bool false) <| s_splitN rfl (by simp) <| s_pass rfl <| s_pass rfl <| s_pass rfl <| s_pass rfl <| s_pass rfl <| s_pass rfl <| s_pq (.bool false) <| s_nil <| p_seqN <| v_condN rfl (by simp) <| v_skip <| p_blkN <| p_seqN <| v_ops <| s_pure (.int .i64 ((k : Int) + 1)) (fun _ q => ArithVC.mk (by omega) q) <| s_pq (.int .i64 ((k : Int) + 1)) <| s_nil ?_
  exact p_lpN ⟨k + 1, u, ⟨rfl, rfl, rfl, rfl, rfl, rfl⟩, ⟨E14, (by exact ⟨by omega, by rw [snoc_get (by assumption), stF_snoc, ← hu]; first | rw [if_pos (by omega)] | rw [if_neg (by omega)]⟩)⟩, by omega⟩
 refine v_exit <| p_seqX <| p_lpX <| p_blkX <| p_seqN <| v_seq <| v_ops <| s_pq (.int .i64 u) <| s_pq (.int .i64 u) <| s_nil <| p_seqN <| v_ret <| p_ret [.int .i64 u] (.int .i64 u) (fun _ q => q) rfl ?_
 have ho : (stF l link t seconds) = u := by rw [take_all (by assumption)] at hu; exact hu.symm
 exact ⟨by first | (rw [ho]; done) | rfl, Eh⟩

set_option maxRecDepth 10000 in
set_option maxHeartbeats 4000000 in
theorem spec_fgStart_ok (v_l : Value) (l : List FogD) (link : Int) (t : Int) (seconds : Int) (h : Heap) (s_l : Sl h v_l l) (m : Nat) (hf : FogsOk m l) (ht : 0 ≤ t ∧ t ≤ 1000000) (hs : 0 ≤ seconds ∧ seconds ≤ 1000) : Cn f_spec_fgStart [v_l, .int .i64 link, .int .i64 t, .int .i64 seconds] h fun v h' => v = .int .i64 (stF l link t seconds) ∧ Ext h h' := by
 have l63_l := s_l.len63
 refine calls_of r_spec_fgStart ?_
 refine v_seq <| v_ops <| s_pq (.int .i64 0) <| s_nil <| p_seqN <| v_seq <| v_seq <| v_ops <| s_pq v_l <| s_pure (.int .i64 (l.length : Int)) (fun _ q => s_l.lenVC q) <| s_pq (.int .i64 0) <| s_nil <| p_seqN <| v_block <| v_loop2 (α := Nat) (β := Int) (fun k u => [(1, .int .i64 link), (2, .int .i64 u), (3, .int .i64 seconds), (11, v_l), (12, .int .i64 (l.length : Int)), (13, .int .i64 (k : Int))]) (fun k u hh => Ext h hh ∧ k ≤ l.length ∧ u = stF (l.take k) link t seconds) (fun k u => l.length - k) 0 t ⟨rfl, rfl, rfl, rfl, rfl, rfl⟩ ⟨(Ext.refl h), (by simp [stF])⟩ ?_
 rintro k u R2 h1 ⟨Eh, ⟨hk, hu⟩⟩
 have zEh := Eh.size
 have f4 := s_l.ext Eh
 have hb := stF_bd hf link t seconds k
 rw [← hu] at hb
 refine v_seq <| v_ops <| s_pq (.bool (decide ((k : Int) < (l.length : Int)))) <| s_nil <| p_seqN <| v_seq ?_
 refine v_cond rfl (fun c5 => ?_) (fun c5 => ?_)
 ·
  refine v_skip <| p_seqN <| v_seq <| v_block <| v_seq <| v_ops ?_
  have hk6 : k < l.length := (by first | omega | (simp; omega))
  obtain ⟨x7, hx7⟩ : ∃ x, l[k]? = some x := ⟨_, List.getElem?_eq_getElem hk6⟩
  refine s_pure (.pointer (some ⟨sblk v_l, soff v_l + k * 3, none⟩)) (fun _ q => f4.idx (k := k) rfl hk6 q) <| s_load (.agg #[.int .i64 x7.link, .int .i64 x7.fr, .int .i64 x7.til]) (fun _ q => f4.loadN hx7 rfl q) ?_
  refine s_new (fun h9 b8 hbb8 hzb8 eh9 bxb8 => ?_)
  have E10 := Eh.trans eh9
  have z11 := eh9.size
  have lbb8 := bxb8.lt
  refine s_stBx (.agg #[.int .i64 x7.link, .int .i64 x7.fr, .int .i64 x7.til]) [.int .i64 x7.link, .int .i64 x7.fr, .int .i64 x7.til] [.int .i64 x7.link, .int .i64 x7.fr, .int .i64 x7.til] bxb8 rfl rfl rfl rfl (by simp) (all_cons rfl (all_cons rfl (all_cons rfl all_nil))) rfl (fun h12 mh12 sh12 bxx13 => ?_)
  have E14 := E10.mod mh12 (fun b hb => by simp at hb; omega)
  refine s_nil <| p_seqN <| v_seq <| v_ops <| s_pq (.pointer (some ⟨b8, 0, none⟩)) <| s_load (.int .i64 x7.link) (fun _ q => bxx13.load rfl q) <| s_pq (.int .i64 link) <| s_pq (.bool (x7.link == link)) <| s_pq (.bool (x7.link == link)) ?_
  refine s_splitT rfl (fun c15 => ?_) (fun c15 => ?_)
  ·
   refine s_run rfl <| s_pq (.int .i64 u) <| s_run rfl <| s_pq (.pointer (some ⟨b8, 2, none⟩)) <| s_run rfl <| s_load (.int .i64 x7.til) (fun _ q => bxx13.load rfl q) <| s_run rfl <| s_pq (.bool (decide (u < x7.til))) <| s_pq (.bool (decide (u < x7.til))) <| s_pq (.bool (decide (u < x7.til))) ?_
   refine s_splitT rfl (fun c16 => ?_) (fun c16 => ?_)
   ·
    refine s_run rfl <| s_pq (.int .i64 u) <| s_run rfl <| s_pq (.int .i64 seconds) <| s_run rfl <| s_pure (.int .i64 (u + seconds)) (fun _ q => ArithVC.mk (by omega) q) <| s_run rfl <| s_pq (.pointer (some ⟨b8, 1, none⟩)) <| s_run rfl <| s_load (.int .i64 x7.fr) (fun _ q => bxx13.load rfl q) <| s_run rfl <| s_pq (.bool (decide ((u + seconds) > x7.fr))) <| s_pq (.bool (decide ((u + seconds) > x7.fr))) <| s_nil <| p_seqN ?_
    refine v_cond rfl (fun c17 => ?_) (fun c17 => ?_)
    ·
     refine v_ops <| s_pq (.pointer (some ⟨b8, 2, none⟩)) <| s_load (.int .i64 x7.til) (fun _ q => bxx13.load rfl q) <| s_pq (.int .i64 x7.til) <| s_nil <| p_blkN <| p_seqN <| v_ops <| s_pure (.int .i64 ((k : Int) + 1)) (fun _ q => ArithVC.mk (by omega) q) <| s_pq (.int .i64 ((k : Int) + 1)) <| s_nil ?_
     exact p_lpN ⟨k + 1, x7.til, ⟨rfl, rfl, rfl, rfl, rfl, rfl⟩, ⟨E14, (by exact ⟨by omega, by rw [snoc_get (by assumption), stF_snoc, ← hu]; first | rw [if_pos (by omega)] | rw [if_neg (by omega)]⟩)⟩, by omega⟩
    refine v_skip <| p_blkN <| p_seqN <| v_ops <| s_pure (.int .i64 ((k : Int) + 1)) (fun _ q => ArithVC.mk (by omega) q) <| s_pq (.int .i64 ((k : Int) + 1)) <| s_nil ?_
    exact p_lpN ⟨k + 1, u, ⟨rfl, rfl, rfl, rfl, rfl, rfl⟩, ⟨E14, (by exact ⟨by omega, by rw [snoc_get (by assumption), stF_snoc, ← hu]; first | rw [if_pos (by omega)] | rw [if_neg (by omega)]⟩)⟩, by omega⟩
   refine s_pass rfl <| s_pass rfl <| s_pass rfl <| s_pass rfl <| s_pass rfl <| s_pass rfl <| s_pq (.bool false) <| s_nil <| p_seqN <| v_condN rfl (by simp) <| v_skip <| p_blkN <| p_seqN <| v_ops <| s_pure (.int .i64 ((k : Int) + 1)) (fun _ q => ArithVC.mk (by omega) q) <| s_pq (.int .i64 ((k : Int) + 1)) <| s_nil ?_
   exact p_lpN ⟨k + 1, u, ⟨rfl, rfl, rfl, rfl, rfl, rfl⟩, ⟨E14, (by exact ⟨by omega, by rw [snoc_get (by assumption), stF_snoc, ← hu]; first | rw [if_pos (by omega)] | rw [if_neg (by omega)]⟩)⟩, by omega⟩
  refine s_pass rfl <| s_pass rfl <| s_pass rfl <| s_pass rfl <| s_pq (.bool false) <| s_pq (.bool false) <| s_splitN rfl (by simp) <| s_pass rfl <| s_pass rfl <| s_pass rfl <| s_pass rfl <| s_pass rfl <| s_pass rfl <| s_pq (.bool false) <| s_nil <| p_seqN <| v_condN rfl (by simp) <| v_skip <| p_blkN <| p_seqN <| v_ops <| s_pure (.int .i64 ((k : Int) + 1)) (fun _ q => ArithVC.mk (by omega) q) <| s_pq (.int .i64 ((k : Int) + 1)) <| s_nil ?_
  exact p_lpN ⟨k + 1, u, ⟨rfl, rfl, rfl, rfl, rfl, rfl⟩, ⟨E14, (by exact ⟨by omega, by rw [snoc_get (by assumption), stF_snoc, ← hu]; first | rw [if_pos (by omega)] | rw [if_neg (by omega)]⟩)⟩, by omega⟩
 refine v_exit <| p_seqX <| p_lpX <| p_blkX <| p_seqN <| v_seq <| v_ops <| s_pq (.int .i64 u) <| s_pq (.int .i64 u) <| s_nil <| p_seqN <| v_ret <| p_ret [.int .i64 u] (.int .i64 u) (fun _ q => q) rfl ?_
 have ho : (stF l link t seconds) = u := by rw [take_all (by assumption)] at hu; exact hu.symm
 exact ⟨by first | (rw [ho]; done) | rfl, Eh⟩

end Go.Proofs.Ytloicopmcagikaa



/- The laws' helpers on rows of rows of numbers. Condition: none. Printed in part by a program. -/
namespace Go.Proofs.Ytloicopmcagikaa
open Go.Vc
set_option linter.all false
end Go.Proofs.Ytloicopmcagikaa



/- Clear windows. Condition: none. Printed in part by a program. -/
namespace Go.Proofs.Ytloicopmcagikaa
open Go.Vc
set_option linter.all false

structure AskF (n : NetP) (l : List FogD) (link a b : Int) : Prop where
 hn : NetOk n
 hf : FogsOk n.links.length l
 hk : 0 ≤ link ∧ link ≤ (n.links.length : Int) - 1
 ha : 0 ≤ a
 hab : a ≤ b
 hb : b ≤ 10000
noncomputable instance (n : NetP) (l : List FogD) (link a b : Int) : Decidable (AskF n l link a b) := Classical.propDecidable _
theorem askF_iff {n : NetP} {l : List FogD} {link a b : Int} : AskF n l link a b ↔ NetOk n ∧ FogsOk n.links.length l ∧ (0 ≤ link ∧ link ≤ (n.links.length : Int) - 1) ∧ 0 ≤ a ∧ a ≤ b ∧ b ≤ 10000 :=
 ⟨fun h => ⟨h.hn, h.hf, h.hk, h.ha, h.hab, h.hb⟩, fun ⟨h1, h2, h3, h4, h5, h6⟩ => ⟨h1, h2, h3, h4, h5, h6⟩⟩
/-- fogs of one link are in order -/
theorem FogsOk.lt {m : Nat} {l : List FogD} (h : FogsOk m l) {i j : Nat} {x y : FogD} (hx : l[i]? = some x) (hy : l[j]? = some y) (hij : i < j) : x.link ≤ y.link ∧ (x.link = y.link → x.til < y.fr) := by
  induction j generalizing y with
  | zero => omega
  | succ j ih =>
    have hj := (List.getElem?_eq_some_iff.1 hy).1
    have hz := List.getElem?_eq_getElem (show j < l.length by omega)
    have hzy := (h.2 (j + 1) y hj hy).2 (by omega) _ hz
    have hzo := h.at hz
    by_cases e : i = j
    · subst e; rw [hx] at hz; have := Option.some.inj hz; subst this; omega
    · have := ih hz (by omega)
      omega
set_option maxRecDepth 10000 in
set_option maxHeartbeats 4000000 in
theorem impl_fogAsked_ok (n : NetP) (v_n_towers : Value) (v_n_links : Value) (v_l : Value) (l : List FogD) (link : Int) (a : Int) (b : Int) (h : Heap) (s_n_towers : Sl h v_n_towers n.towers) (s_n_links : Sl h v_n_links n.links) (s_l : Sl h v_l l) : Cn f_impl_fogAsked [.agg #[v_n_towers, v_n_links], v_l, .int .i64 link, .int .i64 a, .int .i64 b] h fun v h' => v = .bool (decide (AskF n l link a b)) ∧ Ext h h' := by
 have l63_n_towers := s_n_towers.len63
 have l63_n_links := s_n_links.len63
 have l63_l := s_l.len63
 refine calls_of r_impl_fogAsked ?_
 refine v_seq <| v_ops ?_
 refine s_box [v_n_towers, v_n_links] rfl (fun h2 b1 hbb1 hzb1 eh2 bxb1 => ?_)
 have E3 := (Ext.refl h).trans eh2
 have z4 := eh2.size
 have lbb1 := bxb1.lt
 refine s_pq (.bool false) <| s_nil <| p_seqN <| v_seq <| v_ops <| s_load (.agg #[v_n_towers, v_n_links]) (fun _ q => bxb1.loadA rfl q) <| s_pq (.int .i64 link) ?_
 have f5 := (s_n_towers.ext eh2)
 have f6 := (s_n_links.ext eh2)
 refine s_call [.agg #[v_n_towers, v_n_links], .int .i64 link] rfl (impl_isLink_ok n v_n_towers v_n_links link _ f5 f6) ?_
 rintro _ h7 ⟨rfl, eh7⟩
 have E8 := E3.trans eh7
 have z9 := eh7.size
 refine s_pq (.bool (decide (NetOk n ∧ (0 ≤ link ∧ link ≤ (n.links.length : Int) - 1)))) ?_
 refine s_splitT rfl (fun c10 => ?_) (fun c10 => ?_)
 ·
  refine s_run rfl ?_
  have f11 := (bxb1.ext eh7)
  refine s_load (.agg #[v_n_towers, v_n_links]) (fun _ q => f11.loadA rfl q) <| s_run rfl <| s_pq v_l <| s_run rfl ?_
  have f12 := (f5.ext eh7)
  have f13 := (f6.ext eh7)
  have f14 := ((s_l.ext eh2).ext eh7)
  refine s_call [.agg #[v_n_towers, v_n_links], v_l] rfl (impl_areFogs_ok n v_n_towers v_n_links v_l l _ f12 f13 f14) ?_
  rintro _ h15 ⟨rfl, eh15⟩
  have E16 := E8.trans eh15
  have z17 := eh15.size
  refine s_pq (.bool (decide (FogsOk n.links.length l))) <| s_pq (.bool (decide (FogsOk n.links.length l))) ?_
  refine s_splitT rfl (fun c18 => ?_) (fun c18 => ?_)
  ·
   refine s_run rfl <| s_pq (.int .i64 a) <| s_run rfl <| s_pq (.bool (decide (a ≥ 0))) <| s_pq (.bool (decide (a ≥ 0))) <| s_pq (.bool (decide (a ≥ 0))) ?_
   refine s_splitT rfl (fun c19 => ?_) (fun c19 => ?_)
   ·
    refine s_run rfl <| s_pq (.int .i64 a) <| s_run rfl <| s_pq (.int .i64 b) <| s_run rfl <| s_pq (.bool (decide (a ≤ b))) <| s_pq (.bool (decide (a ≤ b))) <| s_pq (.bool (decide (a ≤ b))) ?_
    refine s_splitT rfl (fun c20 => ?_) (fun c20 => ?_)
    ·
     refine s_run rfl <| s_pq (.int .i64 b) <| s_run rfl <| s_pq (.bool (decide (b ≤ 10000))) <| s_pq (.bool (decide (b ≤ 10000))) <| s_pq (.bool (decide (b ≤ 10000))) <| s_nil <| p_seqN <| v_ret <| p_ret [.bool (decide (b ≤ 10000))] (.bool (decide (b ≤ 10000))) (fun _ q => q) rfl ?_
     have ho : (decide (AskF n l link a b)) = (decide (b ≤ 10000)) := by first | (simp only [askF_iff]; simp [*]; done) | (simp only [askF_iff]; simp [*]; intros; omega) | (rw [decide_eq_false_iff_not, askF_iff]; rintro ⟨h1, h2, h3, h4⟩; exact (by assumption : ¬ (NetOk n ∧ 0 ≤ link ∧ _)) ⟨h1, h3⟩)
     exact ⟨by first | (rw [ho]; done) | rfl, E16⟩
    refine s_pass rfl <| s_pass rfl <| s_pq (.bool false) <| s_pq (.bool false) <| s_nil <| p_seqN <| v_ret <| p_ret [.bool false] (.bool false) (fun _ q => q) rfl ?_
    have ho : (decide (AskF n l link a b)) = false := by first | (simp only [askF_iff]; simp [*]; done) | (simp only [askF_iff]; simp [*]; intros; omega) | (rw [decide_eq_false_iff_not, askF_iff]; rintro ⟨h1, h2, h3, h4⟩; exact (by assumption : ¬ (NetOk n ∧ 0 ≤ link ∧ _)) ⟨h1, h3⟩)
    exact ⟨by first | (rw [ho]; done) | rfl, E16⟩
   refine s_pass rfl <| s_pass rfl <| s_pass rfl <| s_pq (.bool false) <| s_pq (.bool false) <| s_splitN rfl (by simp) <| s_pass rfl <| s_pass rfl <| s_pq (.bool false) <| s_pq (.bool false) <| s_nil <| p_seqN <| v_ret <| p_ret [.bool false] (.bool false) (fun _ q => q) rfl ?_
   have ho : (decide (AskF n l link a b)) = false := by first | (simp only [askF_iff]; simp [*]; done) | (simp only [askF_iff]; simp [*]; intros; omega) | (rw [decide_eq_false_iff_not, askF_iff]; rintro ⟨h1, h2, h3, h4⟩; exact (by assumption : ¬ (NetOk n ∧ 0 ≤ link ∧ _)) ⟨h1, h3⟩)
   exact ⟨by first | (rw [ho]; done) | rfl, E16⟩
  refine s_pass rfl <| s_pass rfl <| s_pq (.bool false) <| s_pq (.bool false) <| s_splitN rfl (by simp) <| s_pass rfl <| s_pass rfl <| s_pass rfl <| s_pq (.bool false) <| s_pq (.bool false) <| s_splitN rfl (by simp) <| s_pass rfl <| s_pass rfl <| s_pq (.bool false) <| s_pq (.bool false) <| s_nil <| p_seqN <| v_ret <| p_ret [.bool false] (.bool false) (fun _ q => q) rfl ?_
  have ho : (decide (AskF n l link a b)) = false := by first | (simp only [askF_iff]; simp [*]; done) | (simp only [askF_iff]; simp [*]; intros; omega) | (rw [decide_eq_false_iff_not, askF_iff]; rintro ⟨h1, h2, h3, h4⟩; exact (by assumption : ¬ (NetOk n ∧ 0 ≤ link ∧ _)) ⟨h1, h3⟩)
  exact ⟨by first | (rw [ho]; done) | rfl, E16⟩
 refine s_pass rfl <| s_pass rfl <| s_pass rfl <| s_pq (.bool false) <| s_pq (.bool false) <| s_splitN rfl (by simp) <| s_pass rfl <| s_pass rfl <| s_pq (.bool false) <| s_pq (.bool false) <| s_splitN rfl (by simp) <| s_pass rfl <| s_pass rfl <| s_pass rfl <| s_pq (.bool false) <| s_pq (.bool false) <| s_splitN rfl (by simp) <| s_pass rfl <| s_pass rfl <| s_pq (.bool false) <| s_pq (.bool false) <| s_nil <| p_seqN <| v_ret <| p_ret [.bool false] (.bool false) (fun _ q => q) rfl ?_
 have ho : (decide (AskF n l link a b)) = false := by first | (simp only [askF_iff]; simp [*]; done) | (simp only [askF_iff]; simp [*]; intros; omega) | (rw [decide_eq_false_iff_not, askF_iff]; rintro ⟨h1, h2, h3, h4⟩; exact (by assumption : ¬ (NetOk n ∧ 0 ≤ link ∧ _)) ⟨h1, h3⟩)
 exact ⟨by first | (rw [ho]; done) | rfl, E8⟩

theorem spec_fgHas_ok (n : NetP) (v_n_towers : Value) (v_n_links : Value) (v_l : Value) (l : List FogD) (link : Int) (h : Heap) (s_n_towers : Sl h v_n_towers n.towers) (s_n_links : Sl h v_n_links n.links) (s_l : Sl h v_l l) : Cn f_spec_fgHas [.agg #[v_n_towers, v_n_links], v_l, .int .i64 link] h fun v h' => v = .bool (decide (NetOk n ∧ FogsOk n.links.length l ∧ (0 ≤ link ∧ link ≤ (n.links.length : Int) - 1))) ∧ Ext h h' := by
 have l63_n_towers := s_n_towers.len63
 have l63_n_links := s_n_links.len63
 have l63_l := s_l.len63
 refine calls_of r_spec_fgHas ?_
 refine v_seq <| v_ops ?_
 refine s_box [v_n_towers, v_n_links] rfl (fun h2 b1 hbb1 hzb1 eh2 bxb1 => ?_)
 have E3 := (Ext.refl h).trans eh2
 have z4 := eh2.size
 have lbb1 := bxb1.lt
 refine s_pq (.bool false) <| s_nil <| p_seqN <| v_seq <| v_ops <| s_load (.agg #[v_n_towers, v_n_links]) (fun _ q => bxb1.loadA rfl q) ?_
 have f5 := (s_n_towers.ext eh2)
 have f6 := (s_n_links.ext eh2)
 refine s_call [.agg #[v_n_towers, v_n_links]] rfl (spec_neGood_ok n v_n_towers v_n_links _ f5 f6) ?_
 rintro _ h7 ⟨rfl, eh7⟩
 have E8 := E3.trans eh7
 have z9 := eh7.size
 refine s_pq (.bool (decide (NetOk n))) ?_
 refine s_splitT rfl (fun c10 => ?_) (fun c10 => ?_)
 ·
  refine s_run rfl ?_
  have f11 := (bxb1.ext eh7)
  refine s_load (.agg #[v_n_towers, v_n_links]) (fun _ q => f11.loadA rfl q) <| s_run rfl <| s_pq v_l <| s_run rfl ?_
  have f12 := (f5.ext eh7)
  have f13 := (f6.ext eh7)
  have f14 := ((s_l.ext eh2).ext eh7)
  refine s_call [.agg #[v_n_towers, v_n_links], v_l] rfl (spec_fgGood_ok n v_n_towers v_n_links v_l l _ f12 f13 f14) ?_
  rintro _ h15 ⟨rfl, eh15⟩
  have E16 := E8.trans eh15
  have z17 := eh15.size
  refine s_pq (.bool (decide (FogsOk n.links.length l))) <| s_pq (.bool (decide (FogsOk n.links.length l))) ?_
  refine s_splitT rfl (fun c18 => ?_) (fun c18 => ?_)
  ·
   refine s_run rfl <| s_pq (.int .i64 link) <| s_run rfl <| s_pq (.pointer (some ⟨b1, 1, none⟩)) <| s_run rfl ?_
   have f19 := (f11.ext eh15)
   refine s_load v_n_links (fun _ q => f19.load rfl q) <| s_run rfl <| s_pure (.int .i64 (n.links.length : Int)) (fun _ q => f13.lenVC q) <| s_run rfl <| s_pure (.int .i64 ((n.links.length : Int) - 1)) (fun _ q => ArithVC.mk (by omega) q) <| s_run rfl <| s_callS [.int .i64 link, .int .i64 0, .int .i64 ((n.links.length : Int) - 1)] (.bool (decide (0 ≤ link ∧ link ≤ ((n.links.length : Int) - 1)))) rfl (l1In_ok link 0 ((n.links.length : Int) - 1) _ ) <| s_pq (.bool (decide (0 ≤ link ∧ link ≤ ((n.links.length : Int) - 1)))) ?_
   refine s_pq (.bool (decide (0 ≤ link ∧ link ≤ ((n.links.length : Int) - 1)))) <| s_nil <| p_seqN <| v_ret <| p_ret [.bool (decide (0 ≤ link ∧ link ≤ ((n.links.length : Int) - 1)))] (.bool (decide (0 ≤ link ∧ link ≤ ((n.links.length : Int) - 1)))) (fun _ q => q) rfl ?_
   have ho : (decide (NetOk n ∧ FogsOk n.links.length l ∧ (0 ≤ link ∧ link ≤ (n.links.length : Int) - 1))) = (decide (0 ≤ link ∧ link ≤ ((n.links.length : Int) - 1))) := by simp [*]
   exact ⟨by first | (rw [ho]; done) | rfl, E16⟩
  refine s_pass rfl <| s_pass rfl <| s_pass rfl <| s_pass rfl <| s_pass rfl <| s_pass rfl <| s_pq (.bool false) <| s_pq (.bool false) <| s_nil <| p_seqN <| v_ret <| p_ret [.bool false] (.bool false) (fun _ q => q) rfl ?_
  have ho : (decide (NetOk n ∧ FogsOk n.links.length l ∧ (0 ≤ link ∧ link ≤ (n.links.length : Int) - 1))) = false := by simp [*]
  exact ⟨by first | (rw [ho]; done) | rfl, E16⟩
 refine s_pass rfl <| s_pass rfl <| s_pass rfl <| s_pq (.bool false) <| s_pq (.bool false) <| s_splitN rfl (by simp) <| s_pass rfl <| s_pass rfl <| s_pass rfl <| s_pass rfl <| s_pass rfl <| s_pass rfl <| s_pq (.bool false) <| s_pq (.bool false) <| s_nil <| p_seqN <| v_ret <| p_ret [.bool false] (.bool false) (fun _ q => q) rfl ?_
 have ho : (decide (NetOk n ∧ FogsOk n.links.length l ∧ (0 ≤ link ∧ link ≤ (n.links.length : Int) - 1))) = false := by simp [*]
 exact ⟨by first | (rw [ho]; done) | rfl, E8⟩

theorem spec_l1Least_ok (a : Int) (b : Int) (h : Heap)  : Cn f_spec_l1Least [.int .i64 a, .int .i64 b] h fun v h' => v = .int .i64 (if a < b then a else b) ∧ h' = h := by
 refine calls_of r_spec_l1Least ?_
 refine v_seq <| v_ops <| s_pq (.int .i64 0) <| s_nil <| p_seqN <| v_seq <| v_seq <| v_ops <| s_pq (.int .i64 a) <| s_pq (.int .i64 b) <| s_pq (.bool (decide (a < b))) <| s_nil <| p_seqN ?_
 refine v_cond rfl (fun c1 => ?_) (fun c1 => ?_)
 ·
  refine v_seq <| v_ops <| s_pq (.int .i64 a) <| s_pq (.int .i64 a) <| s_nil <| p_seqN <| v_ret <| p_seqR <| p_ret [.int .i64 a] (.int .i64 a) (fun _ q => q) rfl ?_
  have ho : (if a < b then a else b) = a := by simp [*]
  exact ⟨by first | (rw [ho]; done) | rfl, rfl⟩
 refine v_skip <| p_seqN <| v_seq <| v_ops <| s_pq (.int .i64 b) <| s_pq (.int .i64 b) <| s_nil <| p_seqN <| v_ret <| p_ret [.int .i64 b] (.int .i64 b) (fun _ q => q) rfl ?_
 have ho : (if a < b then a else b) = b := by simp [*]
 exact ⟨by first | (rw [ho]; done) | rfl, rfl⟩

end Go.Proofs.Ytloicopmcagikaa


