/- Clear windows. Condition: none. Printed in part by a program. -/
import Derived.Test.YthagdkmalchhgaaRw2
namespace Go.Proofs.Ythagdkmalchhgaa
open Go.Vc
set_option linter.all false

structure AskF (n : NetP) (l : List FogD) (link a b : Int) : Prop where
  hn : NetOk n
  hf : FogsOk n.links.length l
  hk : 0 ≤ link ∧ link ≤ (n.links.length : Int) - 1
  ha : 0 ≤ a
  hab : a ≤ b
  hb : b ≤ 10000
noncomputable instance (n : NetP) (l : List FogD) (link a b : Int) : Decidable (AskF n l link a b) := Classical.propDecidable _
theorem askF_iff {n : NetP} {l : List FogD} {link a b : Int} : AskF n l link a b ↔ NetOk n ∧ FogsOk n.links.length l ∧ (0 ≤ link ∧ link ≤ (n.links.length : Int) - 1) ∧ 0 ≤ a ∧ a ≤ b ∧ b ≤ 10000 :=
  ⟨fun h => ⟨h.hn, h.hf, h.hk, h.ha, h.hab, h.hb⟩, fun ⟨h1, h2, h3, h4, h5, h6⟩ => ⟨h1, h2, h3, h4, h5, h6⟩⟩
/-- fogs of one link are in order -/
theorem FogsOk.lt {m : Nat} {l : List FogD} (h : FogsOk m l) {i j : Nat} {x y : FogD} (hx : l[i]? = some x) (hy : l[j]? = some y) (hij : i < j) : x.link ≤ y.link ∧ (x.link = y.link → x.til < y.fr) := by
  induction j generalizing y with
  | zero => omega
  | succ j ih =>
    have hj := (List.getElem?_eq_some_iff.1 hy).1
    have hz := List.getElem?_eq_getElem (show j < l.length by omega)
    have hzy := (h.2 (j + 1) y hj hy).2 (by omega) _ hz
    have hzo := h.at hz
    by_cases e : i = j
    · subst e; rw [hx] at hz; have := Option.some.inj hz; subst this; omega
    · have := ih hz (by omega)
      omega
def cwStep (link a b : Int) (s : Int × List (List Int)) (x : FogD) : Int × List (List Int) := if x.link ≠ link ∨ x.til ≤ a ∨ x.fr ≥ b then s else (x.til, if x.fr > s.1 then s.2 ++ [[s.1, x.fr]] else s.2)
def csStep (link b : Int) (s : Int × List (List Int)) (x : FogD) : Int × List (List Int) := if x.link ≠ link ∨ x.til ≤ s.1 then s else (x.til, if s.1 < (if x.fr < b then x.fr else b) then s.2 ++ [[s.1, (if x.fr < b then x.fr else b)]] else s.2)
def cwTo (l : List FogD) (link a b : Int) : Int × List (List Int) := l.foldl (cwStep link a b) (a, [])
def csTo (l : List FogD) (link a b : Int) : Int × List (List Int) := l.foldl (csStep link b) (a, [])
theorem cwTo_snoc (l : List FogD) (link a b : Int) (x : FogD) : cwTo (l ++ [x]) link a b = cwStep link a b (cwTo l link a b) x := by simp [cwTo]
theorem csTo_snoc (l : List FogD) (link a b : Int) (x : FogD) : csTo (l ++ [x]) link a b = csStep link b (csTo l link a b) x := by simp [csTo]
def winEnd (b : Int) (s : Int × List (List Int)) : List (List Int) := if s.1 < b then s.2 ++ [[s.1, b]] else s.2
theorem win_same {m : Nat} {l : List FogD} (h : FogsOk m l) {link a b : Int} (hab : a ≤ b) : ∀ k, k ≤ l.length →
    (a ≤ (csTo (l.take k) link a b).1 ∧ ∀ j y, k ≤ j → l[j]? = some y → y.link = link → (csTo (l.take k) link a b).1 = a ∨ (csTo (l.take k) link a b).1 < y.fr) ∧
    (cwTo (l.take k) link a b = csTo (l.take k) link a b ∨ ((csTo (l.take k) link a b).1 > b ∧ (csTo (l.take k) link a b).2 = winEnd b (cwTo (l.take k) link a b) ∧ ∀ j y, k ≤ j → l[j]? = some y → y.link = link → y.fr ≥ b)) := by
  intro k
  induction k with
  | zero => intro _; exact ⟨⟨by simp [csTo], fun j y _ _ _ => .inl (by simp [csTo])⟩, .inl (by simp [cwTo, csTo])⟩
  | succ k ih =>
    intro hk
    obtain ⟨⟨h1, h2⟩, h3⟩ := ih (by omega)
    have hx := List.getElem?_eq_getElem (show k < l.length by omega)
    generalize l[k] = x at hx
    have hxo := h.at hx
    rw [snoc_get hx, cwTo_snoc, csTo_snoc]
    generalize hc : csTo (l.take k) link a b = c at *
    generalize hw : cwTo (l.take k) link a b = w at *
    obtain ⟨c1, c2⟩ := c
    obtain ⟨w1, w2⟩ := w
    simp only at h1 h2 h3 ⊢
    have hnext : ∀ j y, k + 1 ≤ j → l[j]? = some y → y.link = link → x.link = link → x.til < y.fr := fun j y hj hy hl hxl => (h.lt hx hy (by omega)).2 (by omega)
    by_cases hl : x.link = link
    · have h2x := h2 k x (Nat.le_refl k) hx hl
      by_cases ht : x.til ≤ c1
      · have hca : c1 = a := by omega
        have hs : csStep link b (c1, c2) x = (c1, c2) := by unfold csStep; rw [if_pos (.inr ht)]
        have hw' : cwStep link a b (w1, w2) x = (w1, w2) := by unfold cwStep; rw [if_pos (.inr (.inl (by omega)))]
        rw [hs, hw']
        exact ⟨⟨h1, fun j y hj hy hyl => h2 j y (by omega) hy hyl⟩, h3.imp id fun ⟨q1, q2, q3⟩ => ⟨q1, q2, fun j y hj hy hyl => q3 j y (by omega) hy hyl⟩⟩
      · have hs : csStep link b (c1, c2) x = (x.til, if c1 < (if x.fr < b then x.fr else b) then c2 ++ [[c1, (if x.fr < b then x.fr else b)]] else c2) := by unfold csStep; rw [if_neg (by omega)]
        rw [hs]
        refine ⟨⟨by simp only; omega, fun j y hj hy hyl => .inr (by simp only; exact hnext j y hj hy hyl hl)⟩, ?_⟩
        rcases h3 with h3 | ⟨q1, q2, q3⟩
        · obtain ⟨rfl, rfl⟩ := Prod.mk.inj h3
          by_cases hb : x.fr ≥ b
          · right
            have hw' : cwStep link a b (w1, w2) x = (w1, w2) := by unfold cwStep; rw [if_pos (.inr (.inr hb))]
            have hm : (if x.fr < b then x.fr else b) = b := if_neg (by omega)
            rw [hw', hm]
            exact ⟨by simp only; omega, by simp only [winEnd], fun j y hj hy hyl => by have := hnext j y hj hy hyl hl; omega⟩
          · left
            have hw' : cwStep link a b (w1, w2) x = (x.til, if x.fr > w1 then w2 ++ [[w1, x.fr]] else w2) := by unfold cwStep; rw [if_neg (by omega)]
            have hm : (if x.fr < b then x.fr else b) = x.fr := if_pos (by omega)
            rw [hw', hm]
        · right
          have hfr := q3 k x (Nat.le_refl k) hx hl
          have hw' : cwStep link a b (w1, w2) x = (w1, w2) := by unfold cwStep; rw [if_pos (.inr (.inr hfr))]
          have hm : (if x.fr < b then x.fr else b) = b := if_neg (by omega)
          rw [hw', hm, if_neg (by omega)]
          exact ⟨by simp only; omega, q2, fun j y hj hy hyl => q3 j y (by omega) hy hyl⟩
    · have hs : csStep link b (c1, c2) x = (c1, c2) := by unfold csStep; rw [if_pos (.inl hl)]
      have hw' : cwStep link a b (w1, w2) x = (w1, w2) := by unfold cwStep; rw [if_pos (.inl hl)]
      rw [hs, hw']
      exact ⟨⟨h1, fun j y hj hy hyl => h2 j y (by omega) hy hyl⟩, h3.imp id fun ⟨q1, q2, q3⟩ => ⟨q1, q2, fun j y hj hy hyl => q3 j y (by omega) hy hyl⟩⟩
theorem win_eq {m : Nat} {l : List FogD} (h : FogsOk m l) {link a b : Int} (hab : a ≤ b) : winEnd b (csTo l link a b) = winEnd b (cwTo l link a b) := by
  have := (win_same h (link := link) hab l.length (Nat.le_refl _)).2
  rw [List.take_length] at this
  rcases this with h1 | ⟨h1, h2, _⟩
  · rw [h1]
  · rw [winEnd, if_neg (by omega), h2]
noncomputable def cwOut (n : NetP) (l : List FogD) (link a b : Int) : List (List Int) × Bool := if AskF n l link a b then (winEnd b (cwTo l link a b), true) else ([], false)
theorem cw_no {n : NetP} {l : List FogD} {link a b : Int} (h : ¬ AskF n l link a b) : cwOut n l link a b = ([], false) := by rw [cwOut, if_neg h]
theorem cw_len (l : List FogD) (link a b : Int) : (cwTo l link a b).2.length ≤ l.length ∧ ∀ r ∈ (cwTo l link a b).2, r.length = 2 := by
  have : ∀ (l : List FogD) (s : Int × List (List Int)), (∀ r ∈ s.2, r.length = 2) → (l.foldl (cwStep link a b) s).2.length ≤ s.2.length + l.length ∧ ∀ r ∈ (l.foldl (cwStep link a b) s).2, r.length = 2 := by
    intro l
    induction l with
    | nil => intro s hs; exact ⟨by simp, hs⟩
    | cons x l ih =>
      intro s hs
      have h1 : (cwStep link a b s x).2.length ≤ s.2.length + 1 ∧ ∀ r ∈ (cwStep link a b s x).2, r.length = 2 := by
        unfold cwStep
        split
        · exact ⟨by omega, hs⟩
        · simp only
          split
          · refine ⟨by simp, fun r hr => ?_⟩
            rcases List.mem_append.1 hr with hr | hr
            · exact hs r hr
            · obtain rfl := List.mem_singleton.1 hr; rfl
          · exact ⟨by omega, hs⟩
      have := ih _ h1.2
      simp only [List.foldl_cons, List.length_cons]
      exact ⟨by omega, this.2⟩
  have := this l (a, []) (by simp)
  simpa [cwTo] using this
theorem szRD_two {l : List (List Int)} (h : ∀ r ∈ l, r.length = 2) : szRD l = 2 * l.length := by
  induction l with
  | nil => rfl
  | cons r l ih =>
    have h1 := ih (fun r hr => h r (List.mem_cons_of_mem _ hr))
    have h2 := h r (List.mem_cons_self ..)
    simp only [szRD, List.map_cons, List.sum_cons, List.length_cons] at *; omega
theorem cw_sz (n : NetP) (l : List FogD) (link a b : Int) : szRD (cwOut n l link a b).1 ≤ 200 := by
  unfold cwOut
  split
  · rename_i c
    have := cw_len l link a b
    have h60 := c.hf.1
    simp only [winEnd]
    split
    · rw [szRD_two]
      · simp; omega
      · intro r hr
        rcases List.mem_append.1 hr with hr | hr
        · exact this.2 r hr
        · obtain rfl := List.mem_singleton.1 hr; rfl
    · rw [szRD_two this.2]; omega
  · simp [szRD]

set_option maxRecDepth 10000 in
set_option maxHeartbeats 4000000 in
theorem impl_fogAsked_ok (n : NetP) (v_n_towers : Value) (v_n_links : Value) (v_l : Value) (l : List FogD) (link : Int) (a : Int) (b : Int) (h : Heap) (s_n_towers : Sl h v_n_towers n.towers) (s_n_links : Sl h v_n_links n.links) (s_l : Sl h v_l l) : Cn f_impl_fogAsked [.agg #[v_n_towers, v_n_links], v_l, .int .i64 link, .int .i64 a, .int .i64 b] h fun v h' => v = .bool (decide (AskF n l link a b)) ∧ Ext h h' := by
  have lt_n_towers := s_n_towers.lt
  have l63_n_towers := s_n_towers.len63
  have lt_n_links := s_n_links.lt
  have l63_n_links := s_n_links.len63
  have lt_l := s_l.lt
  have l63_l := s_l.len63
  refine calls_of r_impl_fogAsked ?_
  refine v_seq ?_
  refine v_ops ?_
  refine s_box [v_n_towers, v_n_links] rfl (fun h2 b1 hbb1 hzb1 eh2 bxb1 => ?_)
  have E3 := (Ext.refl h).trans eh2
  have z4 := eh2.size
  have lbb1 := bxb1.lt
  refine s_pure (.bool false) (fun _ q => q) ?_
  refine s_nil ?_
  refine p_seqN ?_
  refine v_seq ?_
  refine v_ops ?_
  refine s_load (.agg #[v_n_towers, v_n_links]) (fun _ q => bxb1.loadA rfl q) ?_
  refine s_pure (.int .i64 link) (fun _ q => q) ?_
  have f5 := (s_n_towers.ext eh2)
  have f6 := (s_n_links.ext eh2)
  refine s_call [.agg #[v_n_towers, v_n_links], .int .i64 link] rfl (impl_isLink_ok n v_n_towers v_n_links link _ f5 f6) ?_
  rintro _ h7 ⟨rfl, eh7⟩
  have E8 := E3.trans eh7
  have z9 := eh7.size
  refine s_pure (.bool (decide (NetOk n ∧ (0 ≤ link ∧ link ≤ (n.links.length : Int) - 1)))) (fun _ q => q) ?_
  refine s_splitT rfl (fun c10 => ?_) (fun c10 => ?_)
  ·
    refine s_run rfl ?_
    have f11 := (bxb1.ext eh7)
    refine s_load (.agg #[v_n_towers, v_n_links]) (fun _ q => f11.loadA rfl q) ?_
    refine s_run rfl ?_
    refine s_pure v_l (fun _ q => q) ?_
    refine s_run rfl ?_
    have f12 := (f5.ext eh7)
    have f13 := (f6.ext eh7)
    have f14 := ((s_l.ext eh2).ext eh7)
    refine s_call [.agg #[v_n_towers, v_n_links], v_l] rfl (impl_areFogs_ok n v_n_towers v_n_links v_l l _ f12 f13 f14) ?_
    rintro _ h15 ⟨rfl, eh15⟩
    have E16 := E8.trans eh15
    have z17 := eh15.size
    refine s_pure (.bool (decide (FogsOk n.links.length l))) (fun _ q => q) ?_
    refine s_pure (.bool (decide (FogsOk n.links.length l))) (fun _ q => q) ?_
    refine s_splitT rfl (fun c18 => ?_) (fun c18 => ?_)
    ·
      refine s_run rfl ?_
      refine s_pure (.int .i64 a) (fun _ q => q) ?_
      refine s_run rfl ?_
      refine s_pure (.bool (decide (a ≥ 0))) (fun _ q => q) ?_
      refine s_pure (.bool (decide (a ≥ 0))) (fun _ q => q) ?_
      refine s_pure (.bool (decide (a ≥ 0))) (fun _ q => q) ?_
      refine s_splitT rfl (fun c19 => ?_) (fun c19 => ?_)
      ·
        refine s_run rfl ?_
        refine s_pure (.int .i64 a) (fun _ q => q) ?_
        refine s_run rfl ?_
        refine s_pure (.int .i64 b) (fun _ q => q) ?_
        refine s_run rfl ?_
        refine s_pure (.bool (decide (a ≤ b))) (fun _ q => q) ?_
        refine s_pure (.bool (decide (a ≤ b))) (fun _ q => q) ?_
        refine s_pure (.bool (decide (a ≤ b))) (fun _ q => q) ?_
        refine s_splitT rfl (fun c20 => ?_) (fun c20 => ?_)
        ·
          refine s_run rfl ?_
          refine s_pure (.int .i64 b) (fun _ q => q) ?_
          refine s_run rfl ?_
          refine s_pure (.bool (decide (b ≤ 10000))) (fun _ q => q) ?_
          refine s_pure (.bool (decide (b ≤ 10000))) (fun _ q => q) ?_
          refine s_pure (.bool (decide (b ≤ 10000))) (fun _ q => q) ?_
          refine s_nil ?_
          refine p_seqN ?_
          refine v_ret ?_
          refine p_ret [.bool (decide (b ≤ 10000))] (.bool (decide (b ≤ 10000))) (fun _ q => q) rfl ?_
          have ho : (decide (AskF n l link a b)) = (decide (b ≤ 10000)) := by first | (simp only [askF_iff]; simp [*]; done) | (simp only [askF_iff]; simp [*]; intros; omega) | (rw [decide_eq_false_iff_not, askF_iff]; rintro ⟨h1, h2, h3, h4⟩; exact (by assumption : ¬ (NetOk n ∧ 0 ≤ link ∧ _)) ⟨h1, h3⟩)
          exact ⟨by first | (rw [ho]; done) | rfl, E16⟩
        ·
          refine s_pass rfl ?_
          refine s_pass rfl ?_
          refine s_pure (.bool false) (fun _ q => q) ?_
          refine s_pure (.bool false) (fun _ q => q) ?_
          refine s_nil ?_
          refine p_seqN ?_
          refine v_ret ?_
          refine p_ret [.bool false] (.bool false) (fun _ q => q) rfl ?_
          have ho : (decide (AskF n l link a b)) = false := by first | (simp only [askF_iff]; simp [*]; done) | (simp only [askF_iff]; simp [*]; intros; omega) | (rw [decide_eq_false_iff_not, askF_iff]; rintro ⟨h1, h2, h3, h4⟩; exact (by assumption : ¬ (NetOk n ∧ 0 ≤ link ∧ _)) ⟨h1, h3⟩)
          exact ⟨by first | (rw [ho]; done) | rfl, E16⟩
      ·
        refine s_pass rfl ?_
        refine s_pass rfl ?_
        refine s_pass rfl ?_
        refine s_pure (.bool false) (fun _ q => q) ?_
        refine s_pure (.bool false) (fun _ q => q) ?_
        refine s_splitN rfl (by simp) ?_
        refine s_pass rfl ?_
        refine s_pass rfl ?_
        refine s_pure (.bool false) (fun _ q => q) ?_
        refine s_pure (.bool false) (fun _ q => q) ?_
        refine s_nil ?_
        refine p_seqN ?_
        refine v_ret ?_
        refine p_ret [.bool false] (.bool false) (fun _ q => q) rfl ?_
        have ho : (decide (AskF n l link a b)) = false := by first | (simp only [askF_iff]; simp [*]; done) | (simp only [askF_iff]; simp [*]; intros; omega) | (rw [decide_eq_false_iff_not, askF_iff]; rintro ⟨h1, h2, h3, h4⟩; exact (by assumption : ¬ (NetOk n ∧ 0 ≤ link ∧ _)) ⟨h1, h3⟩)
        exact ⟨by first | (rw [ho]; done) | rfl, E16⟩
    ·
      refine s_pass rfl ?_
      refine s_pass rfl ?_
      refine s_pure (.bool false) (fun _ q => q) ?_
      refine s_pure (.bool false) (fun _ q => q) ?_
      refine s_splitN rfl (by simp) ?_
      refine s_pass rfl ?_
      refine s_pass rfl ?_
      refine s_pass rfl ?_
      refine s_pure (.bool false) (fun _ q => q) ?_
      refine s_pure (.bool false) (fun _ q => q) ?_
      refine s_splitN rfl (by simp) ?_
      refine s_pass rfl ?_
      refine s_pass rfl ?_
      refine s_pure (.bool false) (fun _ q => q) ?_
      refine s_pure (.bool false) (fun _ q => q) ?_
      refine s_nil ?_
      refine p_seqN ?_
      refine v_ret ?_
      refine p_ret [.bool false] (.bool false) (fun _ q => q) rfl ?_
      have ho : (decide (AskF n l link a b)) = false := by first | (simp only [askF_iff]; simp [*]; done) | (simp only [askF_iff]; simp [*]; intros; omega) | (rw [decide_eq_false_iff_not, askF_iff]; rintro ⟨h1, h2, h3, h4⟩; exact (by assumption : ¬ (NetOk n ∧ 0 ≤ link ∧ _)) ⟨h1, h3⟩)
      exact ⟨by first | (rw [ho]; done) | rfl, E16⟩
  ·
    refine s_pass rfl ?_
    refine s_pass rfl ?_
    refine s_pass rfl ?_
    refine s_pure (.bool false) (fun _ q => q) ?_
    refine s_pure (.bool false) (fun _ q => q) ?_
    refine s_splitN rfl (by simp) ?_
    refine s_pass rfl ?_
    refine s_pass rfl ?_
    refine s_pure (.bool false) (fun _ q => q) ?_
    refine s_pure (.bool false) (fun _ q => q) ?_
    refine s_splitN rfl (by simp) ?_
    refine s_pass rfl ?_
    refine s_pass rfl ?_
    refine s_pass rfl ?_
    refine s_pure (.bool false) (fun _ q => q) ?_
    refine s_pure (.bool false) (fun _ q => q) ?_
    refine s_splitN rfl (by simp) ?_
    refine s_pass rfl ?_
    refine s_pass rfl ?_
    refine s_pure (.bool false) (fun _ q => q) ?_
    refine s_pure (.bool false) (fun _ q => q) ?_
    refine s_nil ?_
    refine p_seqN ?_
    refine v_ret ?_
    refine p_ret [.bool false] (.bool false) (fun _ q => q) rfl ?_
    have ho : (decide (AskF n l link a b)) = false := by first | (simp only [askF_iff]; simp [*]; done) | (simp only [askF_iff]; simp [*]; intros; omega) | (rw [decide_eq_false_iff_not, askF_iff]; rintro ⟨h1, h2, h3, h4⟩; exact (by assumption : ¬ (NetOk n ∧ 0 ≤ link ∧ _)) ⟨h1, h3⟩)
    exact ⟨by first | (rw [ho]; done) | rfl, E8⟩

theorem spec_fgHas_ok (n : NetP) (v_n_towers : Value) (v_n_links : Value) (v_l : Value) (l : List FogD) (link : Int) (h : Heap) (s_n_towers : Sl h v_n_towers n.towers) (s_n_links : Sl h v_n_links n.links) (s_l : Sl h v_l l) : Cn f_spec_fgHas [.agg #[v_n_towers, v_n_links], v_l, .int .i64 link] h fun v h' => v = .bool (decide (NetOk n ∧ FogsOk n.links.length l ∧ (0 ≤ link ∧ link ≤ (n.links.length : Int) - 1))) ∧ Ext h h' := by
  have lt_n_towers := s_n_towers.lt
  have l63_n_towers := s_n_towers.len63
  have lt_n_links := s_n_links.lt
  have l63_n_links := s_n_links.len63
  have lt_l := s_l.lt
  have l63_l := s_l.len63
  refine calls_of r_spec_fgHas ?_
  refine v_seq ?_
  refine v_ops ?_
  refine s_box [v_n_towers, v_n_links] rfl (fun h2 b1 hbb1 hzb1 eh2 bxb1 => ?_)
  have E3 := (Ext.refl h).trans eh2
  have z4 := eh2.size
  have lbb1 := bxb1.lt
  refine s_pure (.bool false) (fun _ q => q) ?_
  refine s_nil ?_
  refine p_seqN ?_
  refine v_seq ?_
  refine v_ops ?_
  refine s_load (.agg #[v_n_towers, v_n_links]) (fun _ q => bxb1.loadA rfl q) ?_
  have f5 := (s_n_towers.ext eh2)
  have f6 := (s_n_links.ext eh2)
  refine s_call [.agg #[v_n_towers, v_n_links]] rfl (spec_neGood_ok n v_n_towers v_n_links _ f5 f6) ?_
  rintro _ h7 ⟨rfl, eh7⟩
  have E8 := E3.trans eh7
  have z9 := eh7.size
  refine s_pure (.bool (decide (NetOk n))) (fun _ q => q) ?_
  refine s_splitT rfl (fun c10 => ?_) (fun c10 => ?_)
  ·
    refine s_run rfl ?_
    have f11 := (bxb1.ext eh7)
    refine s_load (.agg #[v_n_towers, v_n_links]) (fun _ q => f11.loadA rfl q) ?_
    refine s_run rfl ?_
    refine s_pure v_l (fun _ q => q) ?_
    refine s_run rfl ?_
    have f12 := (f5.ext eh7)
    have f13 := (f6.ext eh7)
    have f14 := ((s_l.ext eh2).ext eh7)
    refine s_call [.agg #[v_n_towers, v_n_links], v_l] rfl (spec_fgGood_ok n v_n_towers v_n_links v_l l _ f12 f13 f14) ?_
    rintro _ h15 ⟨rfl, eh15⟩
    have E16 := E8.trans eh15
    have z17 := eh15.size
    refine s_pure (.bool (decide (FogsOk n.links.length l))) (fun _ q => q) ?_
    refine s_pure (.bool (decide (FogsOk n.links.length l))) (fun _ q => q) ?_
    refine s_splitT rfl (fun c18 => ?_) (fun c18 => ?_)
    ·
      refine s_run rfl ?_
      refine s_pure (.int .i64 link) (fun _ q => q) ?_
      refine s_run rfl ?_
      refine s_pure (.pointer (some ⟨b1, 1, none⟩)) (fun _ q => q) ?_
      refine s_run rfl ?_
      have f19 := (f11.ext eh15)
      refine s_load v_n_links (fun _ q => f19.load rfl q) ?_
      refine s_run rfl ?_
      refine s_pure (.int .i64 (n.links.length : Int)) (fun _ q => f13.lenVC q) ?_
      refine s_run rfl ?_
      refine s_pure (.int .i64 ((n.links.length : Int) - 1)) (fun _ q => ArithVC.mk (by omega) q) ?_
      refine s_run rfl ?_
      refine s_callS [.int .i64 link, .int .i64 0, .int .i64 ((n.links.length : Int) - 1)] (.bool (decide (0 ≤ link ∧ link ≤ ((n.links.length : Int) - 1)))) rfl (l1In_ok link 0 ((n.links.length : Int) - 1) _ ) ?_
      refine s_pure (.bool (decide (0 ≤ link ∧ link ≤ ((n.links.length : Int) - 1)))) (fun _ q => q) ?_
      refine s_pure (.bool (decide (0 ≤ link ∧ link ≤ ((n.links.length : Int) - 1)))) (fun _ q => q) ?_
      refine s_nil ?_
      refine p_seqN ?_
      refine v_ret ?_
      refine p_ret [.bool (decide (0 ≤ link ∧ link ≤ ((n.links.length : Int) - 1)))] (.bool (decide (0 ≤ link ∧ link ≤ ((n.links.length : Int) - 1)))) (fun _ q => q) rfl ?_
      have ho : (decide (NetOk n ∧ FogsOk n.links.length l ∧ (0 ≤ link ∧ link ≤ (n.links.length : Int) - 1))) = (decide (0 ≤ link ∧ link ≤ ((n.links.length : Int) - 1))) := by simp [*]
      exact ⟨by first | (rw [ho]; done) | rfl, E16⟩
    ·
      refine s_pass rfl ?_
      refine s_pass rfl ?_
      refine s_pass rfl ?_
      refine s_pass rfl ?_
      refine s_pass rfl ?_
      refine s_pass rfl ?_
      refine s_pure (.bool false) (fun _ q => q) ?_
      refine s_pure (.bool false) (fun _ q => q) ?_
      refine s_nil ?_
      refine p_seqN ?_
      refine v_ret ?_
      refine p_ret [.bool false] (.bool false) (fun _ q => q) rfl ?_
      have ho : (decide (NetOk n ∧ FogsOk n.links.length l ∧ (0 ≤ link ∧ link ≤ (n.links.length : Int) - 1))) = false := by simp [*]
      exact ⟨by first | (rw [ho]; done) | rfl, E16⟩
  ·
    refine s_pass rfl ?_
    refine s_pass rfl ?_
    refine s_pass rfl ?_
    refine s_pure (.bool false) (fun _ q => q) ?_
    refine s_pure (.bool false) (fun _ q => q) ?_
    refine s_splitN rfl (by simp) ?_
    refine s_pass rfl ?_
    refine s_pass rfl ?_
    refine s_pass rfl ?_
    refine s_pass rfl ?_
    refine s_pass rfl ?_
    refine s_pass rfl ?_
    refine s_pure (.bool false) (fun _ q => q) ?_
    refine s_pure (.bool false) (fun _ q => q) ?_
    refine s_nil ?_
    refine p_seqN ?_
    refine v_ret ?_
    refine p_ret [.bool false] (.bool false) (fun _ q => q) rfl ?_
    have ho : (decide (NetOk n ∧ FogsOk n.links.length l ∧ (0 ≤ link ∧ link ≤ (n.links.length : Int) - 1))) = false := by simp [*]
    exact ⟨by first | (rw [ho]; done) | rfl, E8⟩

theorem spec_fgSpan_ok (n : NetP) (v_n_towers : Value) (v_n_links : Value) (v_l : Value) (l : List FogD) (link : Int) (a : Int) (b : Int) (h : Heap) (s_n_towers : Sl h v_n_towers n.towers) (s_n_links : Sl h v_n_links n.links) (s_l : Sl h v_l l) : Cn f_spec_fgSpan [.agg #[v_n_towers, v_n_links], v_l, .int .i64 link, .int .i64 a, .int .i64 b] h fun v h' => v = .bool (decide (AskF n l link a b)) ∧ Ext h h' := by
  have lt_n_towers := s_n_towers.lt
  have l63_n_towers := s_n_towers.len63
  have lt_n_links := s_n_links.lt
  have l63_n_links := s_n_links.len63
  have lt_l := s_l.lt
  have l63_l := s_l.len63
  refine calls_of r_spec_fgSpan ?_
  refine v_seq ?_
  refine v_ops ?_
  refine s_box [v_n_towers, v_n_links] rfl (fun h2 b1 hbb1 hzb1 eh2 bxb1 => ?_)
  have E3 := (Ext.refl h).trans eh2
  have z4 := eh2.size
  have lbb1 := bxb1.lt
  refine s_pure (.bool false) (fun _ q => q) ?_
  refine s_nil ?_
  refine p_seqN ?_
  refine v_seq ?_
  refine v_ops ?_
  refine s_load (.agg #[v_n_towers, v_n_links]) (fun _ q => bxb1.loadA rfl q) ?_
  refine s_pure v_l (fun _ q => q) ?_
  refine s_pure (.int .i64 link) (fun _ q => q) ?_
  have f5 := (s_n_towers.ext eh2)
  have f6 := (s_n_links.ext eh2)
  have f7 := (s_l.ext eh2)
  refine s_call [.agg #[v_n_towers, v_n_links], v_l, .int .i64 link] rfl (spec_fgHas_ok n v_n_towers v_n_links v_l l link _ f5 f6 f7) ?_
  rintro _ h8 ⟨rfl, eh8⟩
  have E9 := E3.trans eh8
  have z10 := eh8.size
  refine s_pure (.bool (decide (NetOk n ∧ FogsOk n.links.length l ∧ (0 ≤ link ∧ link ≤ (n.links.length : Int) - 1)))) (fun _ q => q) ?_
  refine s_splitT rfl (fun c11 => ?_) (fun c11 => ?_)
  ·
    refine s_run rfl ?_
    refine s_pure (.int .i64 a) (fun _ q => q) ?_
    refine s_run rfl ?_
    refine s_callS [.int .i64 a] (.bool (decide (0 ≤ a ∧ a ≤ 10000))) rfl (spec_fgTime_ok a _ ) ?_
    refine s_pure (.bool (decide (0 ≤ a ∧ a ≤ 10000))) (fun _ q => q) ?_
    refine s_pure (.bool (decide (0 ≤ a ∧ a ≤ 10000))) (fun _ q => q) ?_
    refine s_splitT rfl (fun c12 => ?_) (fun c12 => ?_)
    ·
      refine s_run rfl ?_
      refine s_pure (.int .i64 b) (fun _ q => q) ?_
      refine s_run rfl ?_
      refine s_callS [.int .i64 b] (.bool (decide (0 ≤ b ∧ b ≤ 10000))) rfl (spec_fgTime_ok b _ ) ?_
      refine s_pure (.bool (decide (0 ≤ b ∧ b ≤ 10000))) (fun _ q => q) ?_
      refine s_pure (.bool (decide (0 ≤ b ∧ b ≤ 10000))) (fun _ q => q) ?_
      refine s_splitT rfl (fun c13 => ?_) (fun c13 => ?_)
      ·
        refine s_run rfl ?_
        refine s_pure (.int .i64 a) (fun _ q => q) ?_
        refine s_run rfl ?_
        refine s_pure (.int .i64 b) (fun _ q => q) ?_
        refine s_run rfl ?_
        refine s_pure (.bool (decide (a ≤ b))) (fun _ q => q) ?_
        refine s_pure (.bool (decide (a ≤ b))) (fun _ q => q) ?_
        refine s_pure (.bool (decide (a ≤ b))) (fun _ q => q) ?_
        refine s_nil ?_
        refine p_seqN ?_
        refine v_ret ?_
        refine p_ret [.bool (decide (a ≤ b))] (.bool (decide (a ≤ b))) (fun _ q => q) rfl ?_
        have ho : (decide (AskF n l link a b)) = (decide (a ≤ b)) := by simp only [askF_iff]; first | (simp [*]; done) | (rw [Bool.eq_iff_iff]; simp only [decide_eq_true_eq, Bool.false_eq_true, iff_false, false_iff, iff_true, true_iff]; first | omega | (intro hh; apply (by assumption : ¬ (NetOk _ ∧ _)); exact ⟨hh.1, hh.2.1, hh.2.2.1⟩) | (constructor <;> intro hh <;> first | omega | exact ⟨(by assumption : NetOk _ ∧ _).1, (by assumption : NetOk _ ∧ _).2.1, (by assumption : NetOk _ ∧ _).2.2, by omega⟩))
        exact ⟨by first | (rw [ho]; done) | rfl, E9⟩
      ·
        refine s_pass rfl ?_
        refine s_pass rfl ?_
        refine s_pass rfl ?_
        refine s_pure (.bool false) (fun _ q => q) ?_
        refine s_pure (.bool false) (fun _ q => q) ?_
        refine s_nil ?_
        refine p_seqN ?_
        refine v_ret ?_
        refine p_ret [.bool false] (.bool false) (fun _ q => q) rfl ?_
        have ho : (decide (AskF n l link a b)) = false := by simp only [askF_iff]; first | (simp [*]; done) | (rw [Bool.eq_iff_iff]; simp only [decide_eq_true_eq, Bool.false_eq_true, iff_false, false_iff, iff_true, true_iff]; first | omega | (intro hh; apply (by assumption : ¬ (NetOk _ ∧ _)); exact ⟨hh.1, hh.2.1, hh.2.2.1⟩) | (constructor <;> intro hh <;> first | omega | exact ⟨(by assumption : NetOk _ ∧ _).1, (by assumption : NetOk _ ∧ _).2.1, (by assumption : NetOk _ ∧ _).2.2, by omega⟩))
        exact ⟨by first | (rw [ho]; done) | rfl, E9⟩
    ·
      refine s_pass rfl ?_
      refine s_pass rfl ?_
      refine s_pure (.bool false) (fun _ q => q) ?_
      refine s_pure (.bool false) (fun _ q => q) ?_
      refine s_splitN rfl (by simp) ?_
      refine s_pass rfl ?_
      refine s_pass rfl ?_
      refine s_pass rfl ?_
      refine s_pure (.bool false) (fun _ q => q) ?_
      refine s_pure (.bool false) (fun _ q => q) ?_
      refine s_nil ?_
      refine p_seqN ?_
      refine v_ret ?_
      refine p_ret [.bool false] (.bool false) (fun _ q => q) rfl ?_
      have ho : (decide (AskF n l link a b)) = false := by simp only [askF_iff]; first | (simp [*]; done) | (rw [Bool.eq_iff_iff]; simp only [decide_eq_true_eq, Bool.false_eq_true, iff_false, false_iff, iff_true, true_iff]; first | omega | (intro hh; apply (by assumption : ¬ (NetOk _ ∧ _)); exact ⟨hh.1, hh.2.1, hh.2.2.1⟩) | (constructor <;> intro hh <;> first | omega | exact ⟨(by assumption : NetOk _ ∧ _).1, (by assumption : NetOk _ ∧ _).2.1, (by assumption : NetOk _ ∧ _).2.2, by omega⟩))
      exact ⟨by first | (rw [ho]; done) | rfl, E9⟩
  ·
    refine s_pass rfl ?_
    refine s_pass rfl ?_
    refine s_pure (.bool false) (fun _ q => q) ?_
    refine s_pure (.bool false) (fun _ q => q) ?_
    refine s_splitN rfl (by simp) ?_
    refine s_pass rfl ?_
    refine s_pass rfl ?_
    refine s_pure (.bool false) (fun _ q => q) ?_
    refine s_pure (.bool false) (fun _ q => q) ?_
    refine s_splitN rfl (by simp) ?_
    refine s_pass rfl ?_
    refine s_pass rfl ?_
    refine s_pass rfl ?_
    refine s_pure (.bool false) (fun _ q => q) ?_
    refine s_pure (.bool false) (fun _ q => q) ?_
    refine s_nil ?_
    refine p_seqN ?_
    refine v_ret ?_
    refine p_ret [.bool false] (.bool false) (fun _ q => q) rfl ?_
    have ho : (decide (AskF n l link a b)) = false := by simp only [askF_iff]; first | (simp [*]; done) | (rw [Bool.eq_iff_iff]; simp only [decide_eq_true_eq, Bool.false_eq_true, iff_false, false_iff, iff_true, true_iff]; first | omega | (intro hh; apply (by assumption : ¬ (NetOk _ ∧ _)); exact ⟨hh.1, hh.2.1, hh.2.2.1⟩) | (constructor <;> intro hh <;> first | omega | exact ⟨(by assumption : NetOk _ ∧ _).1, (by assumption : NetOk _ ∧ _).2.1, (by assumption : NetOk _ ∧ _).2.2, by omega⟩))
    exact ⟨by first | (rw [ho]; done) | rfl, E9⟩

theorem spec_l1Least_ok (a : Int) (b : Int) (h : Heap)  : Cn f_spec_l1Least [.int .i64 a, .int .i64 b] h fun v h' => v = .int .i64 (if a < b then a else b) ∧ h' = h := by
  refine calls_of r_spec_l1Least ?_
  refine v_seq ?_
  refine v_ops ?_
  refine s_pure (.int .i64 0) (fun _ q => q) ?_
  refine s_nil ?_
  refine p_seqN ?_
  refine v_seq ?_
  refine v_seq ?_
  refine v_ops ?_
  refine s_pure (.int .i64 a) (fun _ q => q) ?_
  refine s_pure (.int .i64 b) (fun _ q => q) ?_
  refine s_pure (.bool (decide (a < b))) (fun _ q => q) ?_
  refine s_nil ?_
  refine p_seqN ?_
  refine v_cond rfl (fun c1 => ?_) (fun c1 => ?_)
  ·
    refine v_seq ?_
    refine v_ops ?_
    refine s_pure (.int .i64 a) (fun _ q => q) ?_
    refine s_pure (.int .i64 a) (fun _ q => q) ?_
    refine s_nil ?_
    refine p_seqN ?_
    refine v_ret ?_
    refine p_seqR ?_
    refine p_ret [.int .i64 a] (.int .i64 a) (fun _ q => q) rfl ?_
    have ho : (if a < b then a else b) = a := by simp [*]
    exact ⟨by first | (rw [ho]; done) | rfl, rfl⟩
  ·
    refine v_skip ?_
    refine p_seqN ?_
    refine v_seq ?_
    refine v_ops ?_
    refine s_pure (.int .i64 b) (fun _ q => q) ?_
    refine s_pure (.int .i64 b) (fun _ q => q) ?_
    refine s_nil ?_
    refine p_seqN ?_
    refine v_ret ?_
    refine p_ret [.int .i64 b] (.int .i64 b) (fun _ q => q) rfl ?_
    have ho : (if a < b then a else b) = b := by simp [*]
    exact ⟨by first | (rw [ho]; done) | rfl, rfl⟩

set_option maxRecDepth 10000 in
set_option maxHeartbeats 4000000 in
theorem impl_ClearWindows_ok (n : NetP) (v_n_towers : Value) (v_n_links : Value) (v_l : Value) (l : List FogD) (link : Int) (a : Int) (b : Int) (h : Heap) (s_n_towers : Sl h v_n_towers n.towers) (s_n_links : Sl h v_n_links n.links) (s_l : Sl h v_l l) : Cn f_impl_ClearWindows [.agg #[v_n_towers, v_n_links], v_l, .int .i64 link, .int .i64 a, .int .i64 b] h fun v h' => ∃ r0 : Value, ∃ qr0 : List RowI, v = .tuple #[r0, .bool ((cwOut n l link a b).2)] ∧ DeepO h' r0 qr0 h.size ∧ qr0.map RowI.sig = (cwOut n l link a b).1 ∧ Ext h h' := by
  have lt_n_towers := s_n_towers.lt
  have l63_n_towers := s_n_towers.len63
  have lt_n_links := s_n_links.lt
  have l63_n_links := s_n_links.len63
  have lt_l := s_l.lt
  have l63_l := s_l.len63
  refine calls_of r_impl_ClearWindows ?_
  refine v_seq ?_
  refine v_ops ?_
  refine s_box [v_n_towers, v_n_links] rfl (fun h2 b1 hbb1 hzb1 eh2 bxb1 => ?_)
  have E3 := (Ext.refl h).trans eh2
  have z4 := eh2.size
  have lbb1 := bxb1.lt
  refine s_pure (.slice none 0 0) (fun _ q => q) ?_
  refine s_pure (.bool false) (fun _ q => q) ?_
  refine s_nil ?_
  refine p_seqN ?_
  refine v_seq ?_
  refine v_seq ?_
  refine v_ops ?_
  refine s_load (.agg #[v_n_towers, v_n_links]) (fun _ q => bxb1.loadA rfl q) ?_
  refine s_pure v_l (fun _ q => q) ?_
  refine s_pure (.int .i64 link) (fun _ q => q) ?_
  refine s_pure (.int .i64 a) (fun _ q => q) ?_
  refine s_pure (.int .i64 b) (fun _ q => q) ?_
  have f5 := (s_n_towers.ext eh2)
  have f6 := (s_n_links.ext eh2)
  have f7 := (s_l.ext eh2)
  refine s_call [.agg #[v_n_towers, v_n_links], v_l, .int .i64 link, .int .i64 a, .int .i64 b] rfl (impl_fogAsked_ok n v_n_towers v_n_links v_l l link a b _ f5 f6 f7) ?_
  rintro _ h8 ⟨rfl, eh8⟩
  have E9 := E3.trans eh8
  have z10 := eh8.size
  refine s_pure (.bool (!(decide (AskF n l link a b)))) (fun _ q => q) ?_
  refine s_nil ?_
  refine p_seqN ?_
  refine v_cond rfl (fun c11 => ?_) (fun c11 => ?_)
  ·
    refine v_seq ?_
    refine v_ops ?_
    refine s_pure (.slice none 0 0) (fun _ q => q) ?_
    refine s_pure (.bool false) (fun _ q => q) ?_
    refine s_nil ?_
    refine p_seqN ?_
    refine v_ret ?_
    refine p_seqR ?_
    refine p_ret [.slice none 0 0, .bool false] (.tuple #[.slice none 0 0, .bool false]) (fun _ q => q) rfl ?_
    have ho : cwOut n l link a b = ([], false) := by first | exact cw_no (by assumption) | (rw [take_all (by assumption)] at hs; rw [cwOut, if_pos (by assumption), ← hs, winEnd]; simp only [List.map_append]; first | (rw [if_pos (by omega)]; rfl) | (rw [if_neg (by omega)]; done))
    exact ⟨(.slice none 0 0), [], by first | (rw [ho]; done) | rfl, DeepO.nil _ _, (congrArg (fun o => o.1) ho).symm, E9⟩
  ·
    have c11 := Classical.not_not.1 c11
    refine v_skip ?_
    refine p_seqN ?_
    refine v_seq ?_
    refine v_ops ?_
    refine s_pure (.slice none 0 0) (fun _ q => q) ?_
    refine s_nil ?_
    refine p_seqN ?_
    refine v_seq ?_
    refine v_ops ?_
    refine s_pure (.int .i64 a) (fun _ q => q) ?_
    refine s_pure (.int .i64 a) (fun _ q => q) ?_
    refine s_nil ?_
    refine p_seqN ?_
    refine v_seq ?_
    refine v_seq ?_
    refine v_ops ?_
    refine s_pure v_l (fun _ q => q) ?_
    refine s_pure (.int .i64 (l.length : Int)) (fun _ q => f7.lenVC q) ?_
    refine s_pure (.int .i64 0) (fun _ q => q) ?_
    refine s_nil ?_
    refine p_seqN ?_
    refine v_block ?_
    refine v_loop4 (α := Nat) (β := Int) (γ := List RowI) (δ := Value) (fun k u ps o => [(2, .int .i64 link), (3, .int .i64 a), (4, .int .i64 b), (12, o), (13, .int .i64 u), (24, v_l), (25, .int .i64 (l.length : Int)), (26, .int .i64 (k : Int))]) (fun k u ps o hh => Ext h hh ∧ DeepO hh o ps h.size ∧ k ≤ l.length ∧ (u, ps.map RowI.sig) = cwTo (l.take k) link a b) (fun k u ps o => l.length - k) 0 a [] (.slice none 0 0) ⟨rfl, rfl, rfl, rfl, rfl, rfl, rfl, rfl⟩ ⟨E9, (DeepO.nil _ _), (by simp [cwTo])⟩ ?_
    rintro k u ps o R13 h12 ⟨Eh, s_o, ⟨hk, hs⟩⟩
    have zEh := Eh.size
    have f14 := s_n_towers.ext Eh
    have f15 := s_n_links.ext Eh
    have f16 := s_l.ext Eh
    have lt_o := s_o.lt
    have fr_o := s_o.fr
    have hf : FogsOk n.links.length l := (by assumption : AskF n l link a b).hf
    have h60 := hf.1
    have hpl : ps.length ≤ k := (by (have h1 := (cw_len (l.take k) link a b).1); rw [← hs] at h1; simp at h1; omega)
    refine v_seq ?_
    refine v_ops ?_
    refine s_pure (.bool (decide ((k : Int) < (l.length : Int)))) (fun _ q => q) ?_
    refine s_nil ?_
    refine p_seqN ?_
    refine v_seq ?_
    refine v_cond rfl (fun c17 => ?_) (fun c17 => ?_)
    ·
      refine v_skip ?_
      refine p_seqN ?_
      refine v_seq ?_
      refine v_block ?_
      refine v_seq ?_
      refine v_ops ?_
      have hk18 : k < l.length := (by first | omega | (simp; omega))
      obtain ⟨x19, hx19⟩ : ∃ x, l[k]? = some x := ⟨_, List.getElem?_eq_getElem hk18⟩
      refine s_pure (.pointer (some ⟨sblk v_l, soff v_l + k * 3, none⟩)) (fun _ q => f16.idx (k := k) rfl hk18 q) ?_
      refine s_load (.agg #[.int .i64 x19.link, .int .i64 x19.fr, .int .i64 x19.til]) (fun _ q => f16.loadN hx19 rfl q) ?_
      refine s_new (fun h21 b20 hbb20 hzb20 eh21 bxb20 => ?_)
      have E22 := Eh.trans eh21
      have z23 := eh21.size
      have lbb20 := bxb20.lt
      refine s_stBx (.agg #[.int .i64 x19.link, .int .i64 x19.fr, .int .i64 x19.til]) [.int .i64 x19.link, .int .i64 x19.fr, .int .i64 x19.til] [.int .i64 x19.link, .int .i64 x19.fr, .int .i64 x19.til] bxb20 rfl rfl rfl rfl (by simp) (all_cons rfl (all_cons rfl (all_cons rfl all_nil))) rfl (fun h24 mh24 sh24 bxx25 => ?_)
      have E26 := E22.mod mh24 (fun b hb => by simp at hb; omega)
      refine s_nil ?_
      refine p_seqN ?_
      refine v_seq ?_
      refine v_seq ?_
      refine v_ops ?_
      refine s_pure (.pointer (some ⟨b20, 0, none⟩)) (fun _ q => q) ?_
      refine s_load (.int .i64 x19.link) (fun _ q => bxx25.load rfl q) ?_
      refine s_pure (.int .i64 link) (fun _ q => q) ?_
      refine s_pure (.bool (x19.link != link)) (fun _ q => q) ?_
      refine s_pure (.bool (x19.link != link)) (fun _ q => q) ?_
      refine s_splitT rfl (fun c27 => ?_) (fun c27 => ?_)
      ·
        refine s_pass rfl ?_
        refine s_pass rfl ?_
        refine s_pass rfl ?_
        refine s_pass rfl ?_
        refine s_pure (.bool true) (fun _ q => q) ?_
        refine s_pure (.bool true) (fun _ q => q) ?_
        refine s_splitY rfl rfl ?_
        refine s_pass rfl ?_
        refine s_pass rfl ?_
        refine s_pass rfl ?_
        refine s_pass rfl ?_
        refine s_pure (.bool true) (fun _ q => q) ?_
        refine s_nil ?_
        refine p_seqN ?_
        refine v_condY rfl rfl ?_
        refine v_exit ?_
        refine p_seqX ?_
        refine p_blkX ?_
        refine p_seqN ?_
        refine v_ops ?_
        refine s_pure (.int .i64 ((k : Int) + 1)) (fun _ q => ArithVC.mk (by omega) q) ?_
        refine s_pure (.int .i64 ((k : Int) + 1)) (fun _ q => q) ?_
        refine s_nil ?_
        have f28 := ((s_o.ext eh21).mod mh24 (fun b hb hc => by simp at hc; have := lt_o b hb; omega))
        exact p_lpN ⟨k + 1, u, ps, o, ⟨rfl, rfl, rfl, rfl, rfl, rfl, rfl, rfl⟩, ⟨E26, (f28.mono (by omega)), (by exact ⟨by omega, by rw [snoc_get (by assumption), cwTo_snoc, ← hs, cwStep]; first | rw [if_pos (by omega)] | (rw [if_neg (by omega)]; simp only [List.map_append]; first | (rw [if_pos (by omega)]; rfl) | (rw [if_neg (by omega)]; done))⟩)⟩, by omega⟩
      ·
        have c27 := Classical.not_not.1 c27
        refine s_run rfl ?_
        refine s_pure (.pointer (some ⟨b20, 2, none⟩)) (fun _ q => q) ?_
        refine s_run rfl ?_
        refine s_load (.int .i64 x19.til) (fun _ q => bxx25.load rfl q) ?_
        refine s_run rfl ?_
        refine s_pure (.int .i64 a) (fun _ q => q) ?_
        refine s_run rfl ?_
        refine s_pure (.bool (decide (x19.til ≤ a))) (fun _ q => q) ?_
        refine s_pure (.bool (decide (x19.til ≤ a))) (fun _ q => q) ?_
        refine s_pure (.bool (decide (x19.til ≤ a))) (fun _ q => q) ?_
        refine s_splitT rfl (fun c29 => ?_) (fun c29 => ?_)
        ·
          refine s_pass rfl ?_
          refine s_pass rfl ?_
          refine s_pass rfl ?_
          refine s_pass rfl ?_
          refine s_pure (.bool true) (fun _ q => q) ?_
          refine s_nil ?_
          refine p_seqN ?_
          refine v_condY rfl rfl ?_
          refine v_exit ?_
          refine p_seqX ?_
          refine p_blkX ?_
          refine p_seqN ?_
          refine v_ops ?_
          refine s_pure (.int .i64 ((k : Int) + 1)) (fun _ q => ArithVC.mk (by omega) q) ?_
          refine s_pure (.int .i64 ((k : Int) + 1)) (fun _ q => q) ?_
          refine s_nil ?_
          have f30 := ((s_o.ext eh21).mod mh24 (fun b hb hc => by simp at hc; have := lt_o b hb; omega))
          exact p_lpN ⟨k + 1, u, ps, o, ⟨rfl, rfl, rfl, rfl, rfl, rfl, rfl, rfl⟩, ⟨E26, (f30.mono (by omega)), (by exact ⟨by omega, by rw [snoc_get (by assumption), cwTo_snoc, ← hs, cwStep]; first | rw [if_pos (by omega)] | (rw [if_neg (by omega)]; simp only [List.map_append]; first | (rw [if_pos (by omega)]; rfl) | (rw [if_neg (by omega)]; done))⟩)⟩, by omega⟩
        ·
          refine s_run rfl ?_
          refine s_pure (.pointer (some ⟨b20, 1, none⟩)) (fun _ q => q) ?_
          refine s_run rfl ?_
          refine s_load (.int .i64 x19.fr) (fun _ q => bxx25.load rfl q) ?_
          refine s_run rfl ?_
          refine s_pure (.int .i64 b) (fun _ q => q) ?_
          refine s_run rfl ?_
          refine s_pure (.bool (decide (x19.fr ≥ b))) (fun _ q => q) ?_
          refine s_pure (.bool (decide (x19.fr ≥ b))) (fun _ q => q) ?_
          refine s_nil ?_
          refine p_seqN ?_
          refine v_cond rfl (fun c31 => ?_) (fun c31 => ?_)
          ·
            refine v_exit ?_
            refine p_seqX ?_
            refine p_blkX ?_
            refine p_seqN ?_
            refine v_ops ?_
            refine s_pure (.int .i64 ((k : Int) + 1)) (fun _ q => ArithVC.mk (by omega) q) ?_
            refine s_pure (.int .i64 ((k : Int) + 1)) (fun _ q => q) ?_
            refine s_nil ?_
            have f32 := ((s_o.ext eh21).mod mh24 (fun b hb hc => by simp at hc; have := lt_o b hb; omega))
            exact p_lpN ⟨k + 1, u, ps, o, ⟨rfl, rfl, rfl, rfl, rfl, rfl, rfl, rfl⟩, ⟨E26, (f32.mono (by omega)), (by exact ⟨by omega, by rw [snoc_get (by assumption), cwTo_snoc, ← hs, cwStep]; first | rw [if_pos (by omega)] | (rw [if_neg (by omega)]; simp only [List.map_append]; first | (rw [if_pos (by omega)]; rfl) | (rw [if_neg (by omega)]; done))⟩)⟩, by omega⟩
          ·
            refine v_skip ?_
            refine p_seqN ?_
            refine v_seq ?_
            refine v_seq ?_
            refine v_ops ?_
            refine s_pure (.pointer (some ⟨b20, 1, none⟩)) (fun _ q => q) ?_
            refine s_load (.int .i64 x19.fr) (fun _ q => bxx25.load rfl q) ?_
            refine s_pure (.int .i64 u) (fun _ q => q) ?_
            refine s_pure (.bool (decide (x19.fr > u))) (fun _ q => q) ?_
            refine s_nil ?_
            refine p_seqN ?_
            refine v_cond rfl (fun c33 => ?_) (fun c33 => ?_)
            ·
              refine v_ops ?_
              refine s_pure o (fun _ q => q) ?_
              refine s_pure (.int .i64 u) (fun _ q => q) ?_
              refine s_pure (.pointer (some ⟨b20, 1, none⟩)) (fun _ q => q) ?_
              refine s_load (.int .i64 x19.fr) (fun _ q => bxx25.load rfl q) ?_
              refine s_row (α := Int) [u, x19.fr] (fun _ q => seg_i rfl (seg_i rfl (seg_nil q))) rfl (by simp [maxLen]) (fun r34 h35 eh35 zh35 s_r34 fr_r34 => ?_)
              have E36 := E26.trans eh35
              have z37 := eh35.size
              have lt_r34 := s_r34.lt
              obtain ⟨sv38, rfl⟩ := s_r34.sv
              refine s_row (α := RowI) [(⟨sv38, [u, x19.fr]⟩ : RowI)] (fun _ q => seg_sl s_r34 rfl (seg_nil q)) rfl (by simp [maxLen]) (fun r39 h40 eh40 zh40 s_r39 fr_r39 => ?_)
              have E41 := E36.trans eh40
              have z42 := eh40.size
              have lt_r39 := s_r39.lt
              have f45 := (s_r34.ext eh40)
              have f46 := ((((s_o.ext eh21).mod mh24 (fun b hb hc => by simp at hc; have := lt_o b hb; omega)).ext eh35).ext eh40)
              refine s_app f46.row s_r39 rfl rfl rfl (by simp [maxLen]; omega) (by simp; omega) (fun r43 h44 mh44 zh44 s_r43 ab_r43 => ?_)
              have D_r43 := DeepO.snoc (e := (⟨sv38, [u, x19.fr]⟩ : RowI)) f46 f45 (fr_r34.mono (by omega)) (fun b hb hc => by have := fr_r34 b hb; have := lt_o b hc; omega) (by omega) mh44 s_r43 ab_r43
              have E47 := E41.mod mh44 (fun b hb => by have := (fun b hb => fr_o b (mem_fpts.2 (.inl hb))) b hb; omega)
              have lt_r43 := D_r43.lt
              have fr_r43 := D_r43.fr
              have np48a : ∀ b ∈ blks v_n_towers, b ∉ fpts o ps := (fun b hb hc => by have := lt_n_towers b hb; have := fr_o b hc; omega)
              have np48b : ∀ b ∈ blks v_n_towers, b ∉ blks sv38.v := (fun b hb hc => by have := lt_n_towers b hb; have := fr_r34 b hc; omega)
              have np48 : ∀ b ∈ blks v_n_towers, b ∉ fpts r43 (ps ++ [(⟨sv38, [u, x19.fr]⟩ : RowI)]) := fun b hb => DeepO.snocOut ab_r43 (np48a b hb) (np48b b hb) (by have := lt_n_towers b hb; omega)
              have np49a : ∀ b ∈ blks v_n_links, b ∉ fpts o ps := (fun b hb hc => by have := lt_n_links b hb; have := fr_o b hc; omega)
              have np49b : ∀ b ∈ blks v_n_links, b ∉ blks sv38.v := (fun b hb hc => by have := lt_n_links b hb; have := fr_r34 b hc; omega)
              have np49 : ∀ b ∈ blks v_n_links, b ∉ fpts r43 (ps ++ [(⟨sv38, [u, x19.fr]⟩ : RowI)]) := fun b hb => DeepO.snocOut ab_r43 (np49a b hb) (np49b b hb) (by have := lt_n_links b hb; omega)
              have np50a : ∀ b ∈ blks v_l, b ∉ fpts o ps := (fun b hb hc => by have := lt_l b hb; have := fr_o b hc; omega)
              have np50b : ∀ b ∈ blks v_l, b ∉ blks sv38.v := (fun b hb hc => by have := lt_l b hb; have := fr_r34 b hc; omega)
              have np50 : ∀ b ∈ blks v_l, b ∉ fpts r43 (ps ++ [(⟨sv38, [u, x19.fr]⟩ : RowI)]) := fun b hb => DeepO.snocOut ab_r43 (np50a b hb) (np50b b hb) (by have := lt_l b hb; omega)
              have np51 : b20 ∉ fpts r43 (ps ++ [(⟨sv38, [u, x19.fr]⟩ : RowI)]) := DeepO.snocOut ab_r43 (fun hc => by have := lt_o _ hc; omega) (fun hc => by have := fr_r34 _ hc; omega) (by omega)
              refine s_pure r43 (fun _ q => q) ?_
              refine s_nil ?_
              refine p_seqN ?_
              refine v_ops ?_
              refine s_pure (.pointer (some ⟨b20, 2, none⟩)) (fun _ q => q) ?_
              have f52 := (((bxx25.ext eh35).ext eh40).mod mh44 (fun hc => by have := (fun b hb => lt_o b (mem_fpts.2 (.inl hb))) _ hc; omega))
              refine s_load (.int .i64 x19.til) (fun _ q => f52.load rfl q) ?_
              refine s_pure (.int .i64 x19.til) (fun _ q => q) ?_
              refine s_nil ?_
              refine p_blkN ?_
              refine p_seqN ?_
              refine v_ops ?_
              refine s_pure (.int .i64 ((k : Int) + 1)) (fun _ q => ArithVC.mk (by omega) q) ?_
              refine s_pure (.int .i64 ((k : Int) + 1)) (fun _ q => q) ?_
              refine s_nil ?_
              exact p_lpN ⟨k + 1, x19.til, (ps ++ [(⟨sv38, [u, x19.fr]⟩ : RowI)]), r43, ⟨rfl, rfl, rfl, rfl, rfl, rfl, rfl, rfl⟩, ⟨E47, (D_r43.mono (by omega)), (by exact ⟨by omega, by rw [snoc_get (by assumption), cwTo_snoc, ← hs, cwStep]; first | rw [if_pos (by omega)] | (rw [if_neg (by omega)]; simp only [List.map_append]; first | (rw [if_pos (by omega)]; rfl) | (rw [if_neg (by omega)]; done))⟩)⟩, by omega⟩
            ·
              refine v_skip ?_
              refine p_seqN ?_
              refine v_ops ?_
              refine s_pure (.pointer (some ⟨b20, 2, none⟩)) (fun _ q => q) ?_
              refine s_load (.int .i64 x19.til) (fun _ q => bxx25.load rfl q) ?_
              refine s_pure (.int .i64 x19.til) (fun _ q => q) ?_
              refine s_nil ?_
              refine p_blkN ?_
              refine p_seqN ?_
              refine v_ops ?_
              refine s_pure (.int .i64 ((k : Int) + 1)) (fun _ q => ArithVC.mk (by omega) q) ?_
              refine s_pure (.int .i64 ((k : Int) + 1)) (fun _ q => q) ?_
              refine s_nil ?_
              have f53 := ((s_o.ext eh21).mod mh24 (fun b hb hc => by simp at hc; have := lt_o b hb; omega))
              exact p_lpN ⟨k + 1, x19.til, ps, o, ⟨rfl, rfl, rfl, rfl, rfl, rfl, rfl, rfl⟩, ⟨E26, (f53.mono (by omega)), (by exact ⟨by omega, by rw [snoc_get (by assumption), cwTo_snoc, ← hs, cwStep]; first | rw [if_pos (by omega)] | (rw [if_neg (by omega)]; simp only [List.map_append]; first | (rw [if_pos (by omega)]; rfl) | (rw [if_neg (by omega)]; done))⟩)⟩, by omega⟩
    ·
      refine v_exit ?_
      refine p_seqX ?_
      refine p_lpX ?_
      refine p_blkX ?_
      refine p_seqN ?_
      refine v_seq ?_
      refine v_seq ?_
      refine v_ops ?_
      refine s_pure (.int .i64 u) (fun _ q => q) ?_
      refine s_pure (.int .i64 b) (fun _ q => q) ?_
      refine s_pure (.bool (decide (u < b))) (fun _ q => q) ?_
      refine s_nil ?_
      refine p_seqN ?_
      refine v_cond rfl (fun c54 => ?_) (fun c54 => ?_)
      ·
        refine v_ops ?_
        refine s_pure o (fun _ q => q) ?_
        refine s_pure (.int .i64 u) (fun _ q => q) ?_
        refine s_pure (.int .i64 b) (fun _ q => q) ?_
        refine s_row (α := Int) [u, b] (fun _ q => seg_i rfl (seg_i rfl (seg_nil q))) rfl (by simp [maxLen]) (fun r55 h56 eh56 zh56 s_r55 fr_r55 => ?_)
        have E57 := Eh.trans eh56
        have z58 := eh56.size
        have lt_r55 := s_r55.lt
        obtain ⟨sv59, rfl⟩ := s_r55.sv
        refine s_row (α := RowI) [(⟨sv59, [u, b]⟩ : RowI)] (fun _ q => seg_sl s_r55 rfl (seg_nil q)) rfl (by simp [maxLen]) (fun r60 h61 eh61 zh61 s_r60 fr_r60 => ?_)
        have E62 := E57.trans eh61
        have z63 := eh61.size
        have lt_r60 := s_r60.lt
        have f66 := (s_r55.ext eh61)
        have f67 := ((s_o.ext eh56).ext eh61)
        refine s_app f67.row s_r60 rfl rfl rfl (by simp [maxLen]; omega) (by simp; omega) (fun r64 h65 mh65 zh65 s_r64 ab_r64 => ?_)
        have D_r64 := DeepO.snoc (e := (⟨sv59, [u, b]⟩ : RowI)) f67 f66 (fr_r55.mono (by omega)) (fun b hb hc => by have := fr_r55 b hb; have := lt_o b hc; omega) (by omega) mh65 s_r64 ab_r64
        have E68 := E62.mod mh65 (fun b hb => by have := (fun b hb => fr_o b (mem_fpts.2 (.inl hb))) b hb; omega)
        have lt_r64 := D_r64.lt
        have fr_r64 := D_r64.fr
        have np69a : ∀ b ∈ blks v_n_towers, b ∉ fpts o ps := (fun b hb hc => by have := lt_n_towers b hb; have := fr_o b hc; omega)
        have np69b : ∀ b ∈ blks v_n_towers, b ∉ blks sv59.v := (fun b hb hc => by have := lt_n_towers b hb; have := fr_r55 b hc; omega)
        have np69 : ∀ b ∈ blks v_n_towers, b ∉ fpts r64 (ps ++ [(⟨sv59, [u, b]⟩ : RowI)]) := fun b hb => DeepO.snocOut ab_r64 (np69a b hb) (np69b b hb) (by have := lt_n_towers b hb; omega)
        have np70a : ∀ b ∈ blks v_n_links, b ∉ fpts o ps := (fun b hb hc => by have := lt_n_links b hb; have := fr_o b hc; omega)
        have np70b : ∀ b ∈ blks v_n_links, b ∉ blks sv59.v := (fun b hb hc => by have := lt_n_links b hb; have := fr_r55 b hc; omega)
        have np70 : ∀ b ∈ blks v_n_links, b ∉ fpts r64 (ps ++ [(⟨sv59, [u, b]⟩ : RowI)]) := fun b hb => DeepO.snocOut ab_r64 (np70a b hb) (np70b b hb) (by have := lt_n_links b hb; omega)
        have np71a : ∀ b ∈ blks v_l, b ∉ fpts o ps := (fun b hb hc => by have := lt_l b hb; have := fr_o b hc; omega)
        have np71b : ∀ b ∈ blks v_l, b ∉ blks sv59.v := (fun b hb hc => by have := lt_l b hb; have := fr_r55 b hc; omega)
        have np71 : ∀ b ∈ blks v_l, b ∉ fpts r64 (ps ++ [(⟨sv59, [u, b]⟩ : RowI)]) := fun b hb => DeepO.snocOut ab_r64 (np71a b hb) (np71b b hb) (by have := lt_l b hb; omega)
        refine s_pure r64 (fun _ q => q) ?_
        refine s_nil ?_
        refine p_seqN ?_
        refine v_seq ?_
        refine v_ops ?_
        refine s_pure r64 (fun _ q => q) ?_
        refine s_pure r64 (fun _ q => q) ?_
        refine s_pure (.bool true) (fun _ q => q) ?_
        refine s_nil ?_
        refine p_seqN ?_
        refine v_ret ?_
        refine p_ret [r64, .bool true] (.tuple #[r64, .bool true]) (fun _ q => q) rfl ?_
        have ho : cwOut n l link a b = (((ps ++ [(⟨sv59, [u, b]⟩ : RowI)]).map RowI.sig), true) := by first | exact cw_no (by assumption) | (rw [take_all (by assumption)] at hs; rw [cwOut, if_pos (by assumption), ← hs, winEnd]; simp only [List.map_append]; first | (rw [if_pos (by omega)]; rfl) | (rw [if_neg (by omega)]; done))
        exact ⟨r64, (ps ++ [(⟨sv59, [u, b]⟩ : RowI)]), by first | (rw [ho]; done) | rfl, (D_r64.mono (by omega)), (congrArg (fun o => o.1) ho).symm, E68⟩
      ·
        refine v_skip ?_
        refine p_seqN ?_
        refine v_seq ?_
        refine v_ops ?_
        refine s_pure o (fun _ q => q) ?_
        refine s_pure o (fun _ q => q) ?_
        refine s_pure (.bool true) (fun _ q => q) ?_
        refine s_nil ?_
        refine p_seqN ?_
        refine v_ret ?_
        refine p_ret [o, .bool true] (.tuple #[o, .bool true]) (fun _ q => q) rfl ?_
        have ho : cwOut n l link a b = ((ps.map RowI.sig), true) := by first | exact cw_no (by assumption) | (rw [take_all (by assumption)] at hs; rw [cwOut, if_pos (by assumption), ← hs, winEnd]; simp only [List.map_append]; first | (rw [if_pos (by omega)]; rfl) | (rw [if_neg (by omega)]; done))
        exact ⟨o, ps, by first | (rw [ho]; done) | rfl, (s_o.mono (by omega)), (congrArg (fun o => o.1) ho).symm, Eh⟩


theorem cs_len (l : List FogD) (link a b : Int) : (csTo l link a b).2.length ≤ l.length := by
  have : ∀ (l : List FogD) (s : Int × List (List Int)), (l.foldl (csStep link b) s).2.length ≤ s.2.length + l.length := by
    intro l
    induction l with
    | nil => intro s; simp
    | cons x l ih =>
      intro s
      have h1 : (csStep link b s x).2.length ≤ s.2.length + 1 := by
        unfold csStep
        split
        · omega
        · simp only
          generalize (if x.fr < b then x.fr else b) = e
          split
          · simp
          · omega
      have := ih (csStep link b s x)
      simp only [List.foldl_cons, List.length_cons]
      omega
  have := this l (a, [])
  simpa [csTo] using this


theorem csStep_no {link b u : Int} {r : List (List Int)} {x : FogD} (h : x.link ≠ link ∨ x.til ≤ u) : csStep link b (u, r) x = (u, r) := by rw [csStep, if_pos h]
theorem csStep_add {link b u : Int} {r : List (List Int)} {x : FogD} (h : x.link = link) (h2 : u < x.til) (h3 : u < (if x.fr < b then x.fr else b)) : csStep link b (u, r) x = (x.til, r ++ [[u, if x.fr < b then x.fr else b]]) := by rw [csStep, if_neg (by simp only; intro hh; rcases hh with hh | hh <;> omega), if_pos h3]
theorem csStep_keep {link b u : Int} {r : List (List Int)} {x : FogD} (h : x.link = link) (h2 : u < x.til) (h3 : ¬ u < (if x.fr < b then x.fr else b)) : csStep link b (u, r) x = (x.til, r) := by rw [csStep, if_neg (by simp only; intro hh; rcases hh with hh | hh <;> omega), if_neg h3]

set_option maxRecDepth 10000 in
set_option maxHeartbeats 4000000 in
theorem spec_ClearWindows_ok (n : NetP) (v_n_towers : Value) (v_n_links : Value) (v_l : Value) (l : List FogD) (link : Int) (a : Int) (b : Int) (h : Heap) (s_n_towers : Sl h v_n_towers n.towers) (s_n_links : Sl h v_n_links n.links) (s_l : Sl h v_l l) : Cn f_spec_ClearWindows [.agg #[v_n_towers, v_n_links], v_l, .int .i64 link, .int .i64 a, .int .i64 b] h fun v h' => ∃ r0 : Value, ∃ qr0 : List RowI, v = .tuple #[r0, .bool ((cwOut n l link a b).2)] ∧ DeepO h' r0 qr0 h.size ∧ qr0.map RowI.sig = (cwOut n l link a b).1 ∧ Ext h h' := by
  have lt_n_towers := s_n_towers.lt
  have l63_n_towers := s_n_towers.len63
  have lt_n_links := s_n_links.lt
  have l63_n_links := s_n_links.len63
  have lt_l := s_l.lt
  have l63_l := s_l.len63
  refine calls_of r_spec_ClearWindows ?_
  refine v_seq ?_
  refine v_ops ?_
  refine s_box [v_n_towers, v_n_links] rfl (fun h2 b1 hbb1 hzb1 eh2 bxb1 => ?_)
  have E3 := (Ext.refl h).trans eh2
  have z4 := eh2.size
  have lbb1 := bxb1.lt
  refine s_pure (.slice none 0 0) (fun _ q => q) ?_
  refine s_pure (.bool false) (fun _ q => q) ?_
  refine s_nil ?_
  refine p_seqN ?_
  refine v_seq ?_
  refine v_seq ?_
  refine v_ops ?_
  refine s_load (.agg #[v_n_towers, v_n_links]) (fun _ q => bxb1.loadA rfl q) ?_
  refine s_pure v_l (fun _ q => q) ?_
  refine s_pure (.int .i64 link) (fun _ q => q) ?_
  refine s_pure (.int .i64 a) (fun _ q => q) ?_
  refine s_pure (.int .i64 b) (fun _ q => q) ?_
  have f5 := (s_n_towers.ext eh2)
  have f6 := (s_n_links.ext eh2)
  have f7 := (s_l.ext eh2)
  refine s_call [.agg #[v_n_towers, v_n_links], v_l, .int .i64 link, .int .i64 a, .int .i64 b] rfl (spec_fgSpan_ok n v_n_towers v_n_links v_l l link a b _ f5 f6 f7) ?_
  rintro _ h8 ⟨rfl, eh8⟩
  have E9 := E3.trans eh8
  have z10 := eh8.size
  refine s_pure (.bool (!(decide (AskF n l link a b)))) (fun _ q => q) ?_
  refine s_nil ?_
  refine p_seqN ?_
  refine v_cond rfl (fun c11 => ?_) (fun c11 => ?_)
  ·
    refine v_seq ?_
    refine v_ops ?_
    refine s_pure (.slice none 0 0) (fun _ q => q) ?_
    refine s_pure (.bool false) (fun _ q => q) ?_
    refine s_nil ?_
    refine p_seqN ?_
    refine v_ret ?_
    refine p_seqR ?_
    refine p_ret [.slice none 0 0, .bool false] (.tuple #[.slice none 0 0, .bool false]) (fun _ q => q) rfl ?_
    have ho : cwOut n l link a b = ([], false) := by first | exact cw_no (by assumption) | (rw [take_all (by assumption)] at hs; rw [cwOut, if_pos (by assumption), ← win_eq (by assumption : AskF n l link a b).hf (by assumption : AskF n l link a b).hab, ← hs, winEnd]; simp only [List.map_append]; first | (rw [if_pos (by omega)]; rfl) | (rw [if_neg (by omega)]; done))
    exact ⟨(.slice none 0 0), [], by first | (rw [ho]; done) | rfl, DeepO.nil _ _, (congrArg (fun o => o.1) ho).symm, E9⟩
  ·
    have c11 := Classical.not_not.1 c11
    refine v_skip ?_
    refine p_seqN ?_
    refine v_seq ?_
    refine v_ops ?_
    refine s_pure (.slice none 0 0) (fun _ q => q) ?_
    refine s_nil ?_
    refine p_seqN ?_
    refine v_seq ?_
    refine v_seq ?_
    refine v_ops ?_
    refine s_pure v_l (fun _ q => q) ?_
    refine s_pure (.int .i64 (l.length : Int)) (fun _ q => f7.lenVC q) ?_
    refine s_pure (.int .i64 0) (fun _ q => q) ?_
    refine s_nil ?_
    refine p_seqN ?_
    refine v_block ?_
    refine v_loop4 (α := Nat) (β := Int) (γ := List RowI) (δ := Value) (fun k u ps o => [(2, .int .i64 link), (3, .int .i64 u), (4, .int .i64 b), (12, o), (23, v_l), (24, .int .i64 (l.length : Int)), (25, .int .i64 (k : Int))]) (fun k u ps o hh => Ext h hh ∧ DeepO hh o ps h.size ∧ k ≤ l.length ∧ (u, ps.map RowI.sig) = csTo (l.take k) link a b) (fun k u ps o => l.length - k) 0 a [] (.slice none 0 0) ⟨rfl, rfl, rfl, rfl, rfl, rfl, rfl⟩ ⟨E9, (DeepO.nil _ _), (by simp [csTo])⟩ ?_
    rintro k u ps o R13 h12 ⟨Eh, s_o, ⟨hk, hs⟩⟩
    have zEh := Eh.size
    have f14 := s_n_towers.ext Eh
    have f15 := s_n_links.ext Eh
    have f16 := s_l.ext Eh
    have lt_o := s_o.lt
    have fr_o := s_o.fr
    have hf : FogsOk n.links.length l := (by assumption : AskF n l link a b).hf
    have h60 := hf.1
    have hpl : ps.length ≤ k := (by (have h1 := cs_len (l.take k) link a b); rw [← hs] at h1; simp at h1; omega)
    refine v_seq ?_
    refine v_ops ?_
    refine s_pure (.bool (decide ((k : Int) < (l.length : Int)))) (fun _ q => q) ?_
    refine s_nil ?_
    refine p_seqN ?_
    refine v_seq ?_
    refine v_cond rfl (fun c17 => ?_) (fun c17 => ?_)
    ·
      refine v_skip ?_
      refine p_seqN ?_
      refine v_seq ?_
      refine v_block ?_
      refine v_seq ?_
      refine v_ops ?_
      have hk18 : k < l.length := (by first | omega | (simp; omega))
      obtain ⟨x19, hx19⟩ : ∃ x, l[k]? = some x := ⟨_, List.getElem?_eq_getElem hk18⟩
      refine s_pure (.pointer (some ⟨sblk v_l, soff v_l + k * 3, none⟩)) (fun _ q => f16.idx (k := k) rfl hk18 q) ?_
      refine s_load (.agg #[.int .i64 x19.link, .int .i64 x19.fr, .int .i64 x19.til]) (fun _ q => f16.loadN hx19 rfl q) ?_
      refine s_new (fun h21 b20 hbb20 hzb20 eh21 bxb20 => ?_)
      have E22 := Eh.trans eh21
      have z23 := eh21.size
      have lbb20 := bxb20.lt
      refine s_stBx (.agg #[.int .i64 x19.link, .int .i64 x19.fr, .int .i64 x19.til]) [.int .i64 x19.link, .int .i64 x19.fr, .int .i64 x19.til] [.int .i64 x19.link, .int .i64 x19.fr, .int .i64 x19.til] bxb20 rfl rfl rfl rfl (by simp) (all_cons rfl (all_cons rfl (all_cons rfl all_nil))) rfl (fun h24 mh24 sh24 bxx25 => ?_)
      have E26 := E22.mod mh24 (fun b hb => by simp at hb; omega)
      refine s_nil ?_
      refine p_seqN ?_
      refine v_seq ?_
      refine v_seq ?_
      refine v_ops ?_
      refine s_pure (.pointer (some ⟨b20, 0, none⟩)) (fun _ q => q) ?_
      refine s_load (.int .i64 x19.link) (fun _ q => bxx25.load rfl q) ?_
      refine s_pure (.int .i64 link) (fun _ q => q) ?_
      refine s_pure (.bool (x19.link != link)) (fun _ q => q) ?_
      refine s_pure (.bool (x19.link != link)) (fun _ q => q) ?_
      refine s_splitT rfl (fun c27 => ?_) (fun c27 => ?_)
      ·
        refine s_pass rfl ?_
        refine s_pass rfl ?_
        refine s_pass rfl ?_
        refine s_pass rfl ?_
        refine s_pure (.bool true) (fun _ q => q) ?_
        refine s_nil ?_
        refine p_seqN ?_
        refine v_condY rfl rfl ?_
        refine v_exit ?_
        refine p_seqX ?_
        refine p_blkX ?_
        refine p_seqN ?_
        refine v_ops ?_
        refine s_pure (.int .i64 ((k : Int) + 1)) (fun _ q => ArithVC.mk (by omega) q) ?_
        refine s_pure (.int .i64 ((k : Int) + 1)) (fun _ q => q) ?_
        refine s_nil ?_
        have f28 := ((s_o.ext eh21).mod mh24 (fun b hb hc => by simp at hc; have := lt_o b hb; omega))
        exact p_lpN ⟨k + 1, u, ps, o, ⟨rfl, rfl, rfl, rfl, rfl, rfl, rfl⟩, ⟨E26, (f28.mono (by omega)), (by exact ⟨by omega, by (rw [snoc_get (by assumption), csTo_snoc, ← hs]); first | (rw [csStep_no (by omega)]; done) | (rw [csStep_add (by omega) (by omega) (by assumption), List.map_append]; rfl) | (rw [csStep_keep (by omega) (by omega) (by assumption)]; done)⟩)⟩, by omega⟩
      ·
        have c27 := Classical.not_not.1 c27
        refine s_run rfl ?_
        refine s_pure (.pointer (some ⟨b20, 2, none⟩)) (fun _ q => q) ?_
        refine s_run rfl ?_
        refine s_load (.int .i64 x19.til) (fun _ q => bxx25.load rfl q) ?_
        refine s_run rfl ?_
        refine s_pure (.int .i64 u) (fun _ q => q) ?_
        refine s_run rfl ?_
        refine s_pure (.bool (decide (x19.til ≤ u))) (fun _ q => q) ?_
        refine s_pure (.bool (decide (x19.til ≤ u))) (fun _ q => q) ?_
        refine s_nil ?_
        refine p_seqN ?_
        refine v_cond rfl (fun c29 => ?_) (fun c29 => ?_)
        ·
          refine v_exit ?_
          refine p_seqX ?_
          refine p_blkX ?_
          refine p_seqN ?_
          refine v_ops ?_
          refine s_pure (.int .i64 ((k : Int) + 1)) (fun _ q => ArithVC.mk (by omega) q) ?_
          refine s_pure (.int .i64 ((k : Int) + 1)) (fun _ q => q) ?_
          refine s_nil ?_
          have f30 := ((s_o.ext eh21).mod mh24 (fun b hb hc => by simp at hc; have := lt_o b hb; omega))
          exact p_lpN ⟨k + 1, u, ps, o, ⟨rfl, rfl, rfl, rfl, rfl, rfl, rfl⟩, ⟨E26, (f30.mono (by omega)), (by exact ⟨by omega, by (rw [snoc_get (by assumption), csTo_snoc, ← hs]); first | (rw [csStep_no (by omega)]; done) | (rw [csStep_add (by omega) (by omega) (by assumption), List.map_append]; rfl) | (rw [csStep_keep (by omega) (by omega) (by assumption)]; done)⟩)⟩, by omega⟩
        ·
          refine v_skip ?_
          refine p_seqN ?_
          refine v_seq ?_
          refine v_seq ?_
          refine v_ops ?_
          refine s_pure (.pointer (some ⟨b20, 1, none⟩)) (fun _ q => q) ?_
          refine s_load (.int .i64 x19.fr) (fun _ q => bxx25.load rfl q) ?_
          refine s_pure (.int .i64 b) (fun _ q => q) ?_
          refine s_callS [.int .i64 x19.fr, .int .i64 b] (.int .i64 (if x19.fr < b then x19.fr else b)) rfl (spec_l1Least_ok x19.fr b _ ) ?_
          refine s_pure (.int .i64 (if x19.fr < b then x19.fr else b)) (fun _ q => q) ?_
          refine s_nil ?_
          refine p_seqN ?_
          refine v_seq ?_
          refine v_ops ?_
          refine s_pure (.int .i64 u) (fun _ q => q) ?_
          refine s_pure (.int .i64 (if x19.fr < b then x19.fr else b)) (fun _ q => q) ?_
          refine s_pure (.bool (decide (u < (if x19.fr < b then x19.fr else b)))) (fun _ q => q) ?_
          refine s_nil ?_
          refine p_seqN ?_
          refine v_cond rfl (fun c31 => ?_) (fun c31 => ?_)
          ·
            refine v_ops ?_
            refine s_pure o (fun _ q => q) ?_
            refine s_pure (.int .i64 u) (fun _ q => q) ?_
            refine s_pure (.int .i64 (if x19.fr < b then x19.fr else b)) (fun _ q => q) ?_
            refine s_row (α := Int) [u, (if x19.fr < b then x19.fr else b)] (fun _ q => seg_i rfl (seg_i rfl (seg_nil q))) rfl (by simp [maxLen]) (fun r32 h33 eh33 zh33 s_r32 fr_r32 => ?_)
            have E34 := E26.trans eh33
            have z35 := eh33.size
            have lt_r32 := s_r32.lt
            obtain ⟨sv36, rfl⟩ := s_r32.sv
            refine s_row (α := RowI) [(⟨sv36, [u, (if x19.fr < b then x19.fr else b)]⟩ : RowI)] (fun _ q => seg_sl s_r32 rfl (seg_nil q)) rfl (by simp [maxLen]) (fun r37 h38 eh38 zh38 s_r37 fr_r37 => ?_)
            have E39 := E34.trans eh38
            have z40 := eh38.size
            have lt_r37 := s_r37.lt
            have f43 := (s_r32.ext eh38)
            have f44 := ((((s_o.ext eh21).mod mh24 (fun b hb hc => by simp at hc; have := lt_o b hb; omega)).ext eh33).ext eh38)
            refine s_app f44.row s_r37 rfl rfl rfl (by simp [maxLen]; omega) (by simp; omega) (fun r41 h42 mh42 zh42 s_r41 ab_r41 => ?_)
            have D_r41 := DeepO.snoc (e := (⟨sv36, [u, (if x19.fr < b then x19.fr else b)]⟩ : RowI)) f44 f43 (fr_r32.mono (by omega)) (fun b hb hc => by have := fr_r32 b hb; have := lt_o b hc; omega) (by omega) mh42 s_r41 ab_r41
            have E45 := E39.mod mh42 (fun b hb => by have := (fun b hb => fr_o b (mem_fpts.2 (.inl hb))) b hb; omega)
            have lt_r41 := D_r41.lt
            have fr_r41 := D_r41.fr
            have np46a : ∀ b ∈ blks v_n_towers, b ∉ fpts o ps := (fun b hb hc => by have := lt_n_towers b hb; have := fr_o b hc; omega)
            have np46b : ∀ b ∈ blks v_n_towers, b ∉ blks sv36.v := (fun b hb hc => by have := lt_n_towers b hb; have := fr_r32 b hc; omega)
            have np46 : ∀ b ∈ blks v_n_towers, b ∉ fpts r41 (ps ++ [(⟨sv36, [u, (if x19.fr < b then x19.fr else b)]⟩ : RowI)]) := fun b hb => DeepO.snocOut ab_r41 (np46a b hb) (np46b b hb) (by have := lt_n_towers b hb; omega)
            have np47a : ∀ b ∈ blks v_n_links, b ∉ fpts o ps := (fun b hb hc => by have := lt_n_links b hb; have := fr_o b hc; omega)
            have np47b : ∀ b ∈ blks v_n_links, b ∉ blks sv36.v := (fun b hb hc => by have := lt_n_links b hb; have := fr_r32 b hc; omega)
            have np47 : ∀ b ∈ blks v_n_links, b ∉ fpts r41 (ps ++ [(⟨sv36, [u, (if x19.fr < b then x19.fr else b)]⟩ : RowI)]) := fun b hb => DeepO.snocOut ab_r41 (np47a b hb) (np47b b hb) (by have := lt_n_links b hb; omega)
            have np48a : ∀ b ∈ blks v_l, b ∉ fpts o ps := (fun b hb hc => by have := lt_l b hb; have := fr_o b hc; omega)
            have np48b : ∀ b ∈ blks v_l, b ∉ blks sv36.v := (fun b hb hc => by have := lt_l b hb; have := fr_r32 b hc; omega)
            have np48 : ∀ b ∈ blks v_l, b ∉ fpts r41 (ps ++ [(⟨sv36, [u, (if x19.fr < b then x19.fr else b)]⟩ : RowI)]) := fun b hb => DeepO.snocOut ab_r41 (np48a b hb) (np48b b hb) (by have := lt_l b hb; omega)
            have np49 : b20 ∉ fpts r41 (ps ++ [(⟨sv36, [u, (if x19.fr < b then x19.fr else b)]⟩ : RowI)]) := DeepO.snocOut ab_r41 (fun hc => by have := lt_o _ hc; omega) (fun hc => by have := fr_r32 _ hc; omega) (by omega)
            refine s_pure r41 (fun _ q => q) ?_
            refine s_nil ?_
            refine p_seqN ?_
            refine v_ops ?_
            refine s_pure (.pointer (some ⟨b20, 2, none⟩)) (fun _ q => q) ?_
            have f50 := (((bxx25.ext eh33).ext eh38).mod mh42 (fun hc => by have := (fun b hb => lt_o b (mem_fpts.2 (.inl hb))) _ hc; omega))
            refine s_load (.int .i64 x19.til) (fun _ q => f50.load rfl q) ?_
            refine s_pure (.int .i64 x19.til) (fun _ q => q) ?_
            refine s_nil ?_
            refine p_blkN ?_
            refine p_seqN ?_
            refine v_ops ?_
            refine s_pure (.int .i64 ((k : Int) + 1)) (fun _ q => ArithVC.mk (by omega) q) ?_
            refine s_pure (.int .i64 ((k : Int) + 1)) (fun _ q => q) ?_
            refine s_nil ?_
            exact p_lpN ⟨k + 1, x19.til, (ps ++ [(⟨sv36, [u, (if x19.fr < b then x19.fr else b)]⟩ : RowI)]), r41, ⟨rfl, rfl, rfl, rfl, rfl, rfl, rfl⟩, ⟨E45, (D_r41.mono (by omega)), (by exact ⟨by omega, by (rw [snoc_get (by assumption), csTo_snoc, ← hs]); first | (rw [csStep_no (by omega)]; done) | (rw [csStep_add (by omega) (by omega) (by assumption), List.map_append]; rfl) | (rw [csStep_keep (by omega) (by omega) (by assumption)]; done)⟩)⟩, by omega⟩
          ·
            refine v_skip ?_
            refine p_seqN ?_
            refine v_ops ?_
            refine s_pure (.pointer (some ⟨b20, 2, none⟩)) (fun _ q => q) ?_
            refine s_load (.int .i64 x19.til) (fun _ q => bxx25.load rfl q) ?_
            refine s_pure (.int .i64 x19.til) (fun _ q => q) ?_
            refine s_nil ?_
            refine p_blkN ?_
            refine p_seqN ?_
            refine v_ops ?_
            refine s_pure (.int .i64 ((k : Int) + 1)) (fun _ q => ArithVC.mk (by omega) q) ?_
            refine s_pure (.int .i64 ((k : Int) + 1)) (fun _ q => q) ?_
            refine s_nil ?_
            have f51 := ((s_o.ext eh21).mod mh24 (fun b hb hc => by simp at hc; have := lt_o b hb; omega))
            exact p_lpN ⟨k + 1, x19.til, ps, o, ⟨rfl, rfl, rfl, rfl, rfl, rfl, rfl⟩, ⟨E26, (f51.mono (by omega)), (by exact ⟨by omega, by (rw [snoc_get (by assumption), csTo_snoc, ← hs]); first | (rw [csStep_no (by omega)]; done) | (rw [csStep_add (by omega) (by omega) (by assumption), List.map_append]; rfl) | (rw [csStep_keep (by omega) (by omega) (by assumption)]; done)⟩)⟩, by omega⟩
    ·
      refine v_exit ?_
      refine p_seqX ?_
      refine p_lpX ?_
      refine p_blkX ?_
      refine p_seqN ?_
      refine v_seq ?_
      refine v_seq ?_
      refine v_ops ?_
      refine s_pure (.int .i64 u) (fun _ q => q) ?_
      refine s_pure (.int .i64 b) (fun _ q => q) ?_
      refine s_pure (.bool (decide (u < b))) (fun _ q => q) ?_
      refine s_nil ?_
      refine p_seqN ?_
      refine v_cond rfl (fun c52 => ?_) (fun c52 => ?_)
      ·
        refine v_ops ?_
        refine s_pure o (fun _ q => q) ?_
        refine s_pure (.int .i64 u) (fun _ q => q) ?_
        refine s_pure (.int .i64 b) (fun _ q => q) ?_
        refine s_row (α := Int) [u, b] (fun _ q => seg_i rfl (seg_i rfl (seg_nil q))) rfl (by simp [maxLen]) (fun r53 h54 eh54 zh54 s_r53 fr_r53 => ?_)
        have E55 := Eh.trans eh54
        have z56 := eh54.size
        have lt_r53 := s_r53.lt
        obtain ⟨sv57, rfl⟩ := s_r53.sv
        refine s_row (α := RowI) [(⟨sv57, [u, b]⟩ : RowI)] (fun _ q => seg_sl s_r53 rfl (seg_nil q)) rfl (by simp [maxLen]) (fun r58 h59 eh59 zh59 s_r58 fr_r58 => ?_)
        have E60 := E55.trans eh59
        have z61 := eh59.size
        have lt_r58 := s_r58.lt
        have f64 := (s_r53.ext eh59)
        have f65 := ((s_o.ext eh54).ext eh59)
        refine s_app f65.row s_r58 rfl rfl rfl (by simp [maxLen]; omega) (by simp; omega) (fun r62 h63 mh63 zh63 s_r62 ab_r62 => ?_)
        have D_r62 := DeepO.snoc (e := (⟨sv57, [u, b]⟩ : RowI)) f65 f64 (fr_r53.mono (by omega)) (fun b hb hc => by have := fr_r53 b hb; have := lt_o b hc; omega) (by omega) mh63 s_r62 ab_r62
        have E66 := E60.mod mh63 (fun b hb => by have := (fun b hb => fr_o b (mem_fpts.2 (.inl hb))) b hb; omega)
        have lt_r62 := D_r62.lt
        have fr_r62 := D_r62.fr
        have np67a : ∀ b ∈ blks v_n_towers, b ∉ fpts o ps := (fun b hb hc => by have := lt_n_towers b hb; have := fr_o b hc; omega)
        have np67b : ∀ b ∈ blks v_n_towers, b ∉ blks sv57.v := (fun b hb hc => by have := lt_n_towers b hb; have := fr_r53 b hc; omega)
        have np67 : ∀ b ∈ blks v_n_towers, b ∉ fpts r62 (ps ++ [(⟨sv57, [u, b]⟩ : RowI)]) := fun b hb => DeepO.snocOut ab_r62 (np67a b hb) (np67b b hb) (by have := lt_n_towers b hb; omega)
        have np68a : ∀ b ∈ blks v_n_links, b ∉ fpts o ps := (fun b hb hc => by have := lt_n_links b hb; have := fr_o b hc; omega)
        have np68b : ∀ b ∈ blks v_n_links, b ∉ blks sv57.v := (fun b hb hc => by have := lt_n_links b hb; have := fr_r53 b hc; omega)
        have np68 : ∀ b ∈ blks v_n_links, b ∉ fpts r62 (ps ++ [(⟨sv57, [u, b]⟩ : RowI)]) := fun b hb => DeepO.snocOut ab_r62 (np68a b hb) (np68b b hb) (by have := lt_n_links b hb; omega)
        have np69a : ∀ b ∈ blks v_l, b ∉ fpts o ps := (fun b hb hc => by have := lt_l b hb; have := fr_o b hc; omega)
        have np69b : ∀ b ∈ blks v_l, b ∉ blks sv57.v := (fun b hb hc => by have := lt_l b hb; have := fr_r53 b hc; omega)
        have np69 : ∀ b ∈ blks v_l, b ∉ fpts r62 (ps ++ [(⟨sv57, [u, b]⟩ : RowI)]) := fun b hb => DeepO.snocOut ab_r62 (np69a b hb) (np69b b hb) (by have := lt_l b hb; omega)
        refine s_pure r62 (fun _ q => q) ?_
        refine s_nil ?_
        refine p_seqN ?_
        refine v_seq ?_
        refine v_ops ?_
        refine s_pure r62 (fun _ q => q) ?_
        refine s_pure r62 (fun _ q => q) ?_
        refine s_pure (.bool true) (fun _ q => q) ?_
        refine s_nil ?_
        refine p_seqN ?_
        refine v_ret ?_
        refine p_ret [r62, .bool true] (.tuple #[r62, .bool true]) (fun _ q => q) rfl ?_
        have ho : cwOut n l link a b = (((ps ++ [(⟨sv57, [u, b]⟩ : RowI)]).map RowI.sig), true) := by first | exact cw_no (by assumption) | (rw [take_all (by assumption)] at hs; rw [cwOut, if_pos (by assumption), ← win_eq (by assumption : AskF n l link a b).hf (by assumption : AskF n l link a b).hab, ← hs, winEnd]; simp only [List.map_append]; first | (rw [if_pos (by omega)]; rfl) | (rw [if_neg (by omega)]; done))
        exact ⟨r62, (ps ++ [(⟨sv57, [u, b]⟩ : RowI)]), by first | (rw [ho]; done) | rfl, (D_r62.mono (by omega)), (congrArg (fun o => o.1) ho).symm, E66⟩
      ·
        refine v_skip ?_
        refine p_seqN ?_
        refine v_seq ?_
        refine v_ops ?_
        refine s_pure o (fun _ q => q) ?_
        refine s_pure o (fun _ q => q) ?_
        refine s_pure (.bool true) (fun _ q => q) ?_
        refine s_nil ?_
        refine p_seqN ?_
        refine v_ret ?_
        refine p_ret [o, .bool true] (.tuple #[o, .bool true]) (fun _ q => q) rfl ?_
        have ho : cwOut n l link a b = ((ps.map RowI.sig), true) := by first | exact cw_no (by assumption) | (rw [take_all (by assumption)] at hs; rw [cwOut, if_pos (by assumption), ← win_eq (by assumption : AskF n l link a b).hf (by assumption : AskF n l link a b).hab, ← hs, winEnd]; simp only [List.map_append]; first | (rw [if_pos (by omega)]; rfl) | (rw [if_neg (by omega)]; done))
        exact ⟨o, ps, by first | (rw [ho]; done) | rfl, (s_o.mono (by omega)), (congrArg (fun o => o.1) ho).symm, Eh⟩

end Go.Proofs.Ythagdkmalchhgaa
