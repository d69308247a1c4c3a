/- First arrivals, the latest start, nets without a link. Condition: none. Printed in part by a program. -/
import Derived.Test.YthagdkmalchhgaaRo8
import Derived.Test.YthagdkmalchhgaaDel
namespace Go.Proofs.Ythagdkmalchhgaa
open Go.Vc
set_option linter.all false

theorem gI_at {out : List Int} {b x : Int} (h : out[b.toNat]? = some x) : gI out b = x := by simp [gI, h]
theorem first_ask {n : NetP} {l : List FogD} {a b t : Int} (h : (firstOf n l a b t).2 = true) : WayAsk n l a b t ∧ 0 ≤ gI (arrOf n l a t) b := by
  unfold firstOf at h
  split at h
  · assumption
  · cases h
theorem first_most {n : NetP} {l : List FogD} {a b t x : Int} (h : WayAsk n l a b t) (hx : (arrOf n l a t)[b.toNat]? = some x) : firstOf n l a b t = (if x > 0 then x else 0, decide (x ≥ 0)) := by
  have e := gI_at hx
  by_cases h0 : 0 ≤ x
  · rw [first_yes h (by omega), e, decide_eq_true h0]
    congr 1; split <;> omega
  · rw [first_neg (by omega), decide_eq_false (by omega), if_neg (by omega)]
theorem fogDelay_no {n : NetP} {l : List FogD} {a b t : Int} (h : ¬ (firstOf n l a b t).2 = true) : fogDelay n l a b t = (0, false) := by rw [fogDelay, if_neg h]
theorem fogDelay_yes {n : NetP} {l : List FogD} {a b t : Int} (h : (firstOf n l a b t).2 = true) : fogDelay n l a b t = ((firstOf n l a b t).1 - t - (firstOf n [] a b 0).1, true) := by rw [fogDelay, if_pos h]
theorem fogDelay_bd {n : NetP} {l : List FogD} {a b t : Int} (h : (firstOf n l a b t).2 = true) : (-10000 ≤ (firstOf n l a b t).1 - t ∧ (firstOf n l a b t).1 - t ≤ 10960) ∧ 0 ≤ (firstOf n [] a b 0).1 ∧ (firstOf n [] a b 0).1 ≤ 10960 := by
  have h1 := first_bd n l a b t
  have h2 := first_bd n [] a b 0
  have h3 := (first_ask h).1.ht
  omega
theorem latest_no {n : NetP} {l : List FogD} {a b t : Int} (h : ¬ WayAsk n l a b t) : latest n l a b t = (0, false) := by rw [latest, if_neg fun hc => h hc.1]
theorem latest_no2 {n : NetP} {l : List FogD} {a b t x : Int} (hx : (arrOf n l a 0)[b.toNat]? = some x) (h : x < 0 ∨ x > t) : latest n l a b t = (0, false) := by
  have e := gI_at hx
  rw [latest, if_neg fun hc => by omega]
theorem latest_yes {n : NetP} {l : List FogD} {a b t x lo : Int} (hw : WayAsk n l a b t) (hx : (arrOf n l a 0)[b.toNat]? = some x) (h0 : ¬ x < 0) (h1 : ¬ x > t) (hl : lo = lateOf n l a b t) : latest n l a b t = (lo, true) := by
  have e := gI_at hx
  rw [latest, if_pos ⟨hw, by omega, by omega⟩, hl]
noncomputable def arrsFrom (n : NetP) (l : List FogD) (a t : Int) : List Int × Bool := if WayAsk n l a a t then (arrOf n l a t, true) else ([], false)
theorem arrs_no {n : NetP} {l : List FogD} {a t : Int} (h : ¬ WayAsk n l a a t) : arrsFrom n l a t = ([], false) := by rw [arrsFrom, if_neg h]
theorem arrs_yes {n : NetP} {l : List FogD} {a t : Int} (h : WayAsk n l a a t) : arrsFrom n l a t = (arrOf n l a t, true) := by rw [arrsFrom, if_pos h]
theorem arrs_len (n : NetP) (l : List FogD) (a t : Int) : (arrsFrom n l a t).1.length ≤ 16 := by
  unfold arrsFrom
  split
  · rename_i h; have := h.hn.t2; simpa [arrOf_len] using this
  · simp
noncomputable def delayWo (n : NetP) (link a b : Int) : Int × Bool := if NetOk n ∧ 0 ≤ link ∧ link ≤ (n.links.length : Int) - 1 then firstOf (netWo n link) [] a b 0 else (0, false)
theorem delayWo_no {n : NetP} {link a b : Int} (h : ¬ (NetOk n ∧ 0 ≤ link ∧ link ≤ (n.links.length : Int) - 1)) : delayWo n link a b = (0, false) := by rw [delayWo, if_neg h]
theorem delayWo_yes {n : NetP} {link a b : Int} (h : NetOk n ∧ 0 ≤ link ∧ link ≤ (n.links.length : Int) - 1) : delayWo n link a b = firstOf (netWo n link) [] a b 0 := by rw [delayWo, if_pos h]
theorem delayWo_tower {n : NetP} {link a b : Int} (h : ¬ (NetOk n ∧ 0 ≤ a ∧ a ≤ (n.towers.length : Int) - 1) ∨ ¬ (NetOk n ∧ 0 ≤ b ∧ b ≤ (n.towers.length : Int) - 1)) : delayWo n link a b = (0, false) := by
  unfold delayWo
  split
  · rename_i hc
    exact first_no fun hw => by
      have e : (netWo n link).towers = n.towers := rfl
      have h1 := hw.ha
      have h2 := hw.hb
      rw [e] at h1 h2
      rcases h with h | h
      · exact h ⟨hc.1, h1.1, h1.2⟩
      · exact h ⟨hc.1, h2.1, h2.2⟩
  · rfl
theorem wo_ask {n : NetP} {link a b : Int} (h : NetOk n ∧ 0 ≤ link ∧ link ≤ (n.links.length : Int) - 1) (ha : NetOk n ∧ 0 ≤ a ∧ a ≤ (n.towers.length : Int) - 1) (hb : NetOk n ∧ 0 ≤ b ∧ b ≤ (n.towers.length : Int) - 1) : WayAsk (netWo n link) [] a b 0 :=
  ⟨netWo_ok h.1 h.2.1 h.2.2, ha.2, hb.2, fogs_nil _, by omega⟩
/-- the links that matter among the first k -/
noncomputable def matterTo (n : NetP) (a b : Int) (k : Nat) : List Int := ((List.range k).filter fun i : Nat => decide ((delayWo n (i : Int) a b).2 = false ∨ (delayWo n (i : Int) a b).1 > (firstOf n [] a b 0).1)).map fun i : Nat => (i : Int)
noncomputable def matterOf (n : NetP) (a b : Int) : List Int × Bool := if (firstOf n [] a b 0).2 = true then (matterTo n a b n.links.length, true) else ([], false)
theorem matter_no {n : NetP} {a b : Int} (h : ¬ (firstOf n [] a b 0).2 = true) : matterOf n a b = ([], false) := by rw [matterOf, if_neg h]
theorem matter_yes {n : NetP} {a b : Int} (h : (firstOf n [] a b 0).2 = true) : matterOf n a b = (matterTo n a b n.links.length, true) := by rw [matterOf, if_pos h]
theorem matter_len (n : NetP) (a b : Int) (k : Nat) : (matterTo n a b k).length ≤ k := by
  have := List.length_filter_le (fun i : Nat => decide ((delayWo n (i : Int) a b).2 = false ∨ (delayWo n (i : Int) a b).1 > (firstOf n [] a b 0).1)) (List.range k)
  simpa [matterTo] using this
theorem matter_in {n : NetP} {a b : Int} {k : Nat} (h : (delayWo n (k : Int) a b).2 = false ∨ (delayWo n (k : Int) a b).1 > (firstOf n [] a b 0).1) : matterTo n a b (k + 1) = matterTo n a b k ++ [(k : Int)] := by
  simp only [matterTo, List.range_succ, List.filter_append, List.map_append, List.filter_cons, List.filter_nil]
  rw [if_pos (by simpa using h)]; rfl
theorem matter_out {n : NetP} {a b : Int} {k : Nat} (h : ¬ ((delayWo n (k : Int) a b).2 = false ∨ (delayWo n (k : Int) a b).1 > (firstOf n [] a b 0).1)) : matterTo n a b (k + 1) = matterTo n a b k := by
  simp only [matterTo, List.range_succ, List.filter_append, List.map_append, List.filter_cons, List.filter_nil]
  rw [if_neg (by simpa using h)]; simp
theorem wo_len {n : NetP} (hn : NetOk n) (a b : Int) : (matterOf n a b).1.length ≤ 40 := by
  unfold matterOf
  split
  · have := matter_len n a b n.links.length
    have := hn.l2
    simp only; omega
  · simp
theorem wo_len2 (n : NetP) (a b : Int) : (matterOf n a b).1.length ≤ 40 := by
  by_cases h : (firstOf n [] a b 0).2 = true
  · exact wo_len (first_ask h).1.hn a b
  · rw [matter_no h]; simp

theorem spec_l1Most_ok (a : Int) (b : Int) (h : Heap)  : Cn f_spec_l1Most [.int .i64 a, .int .i64 b] h fun v h' => v = .int .i64 (if a > b then a else b) ∧ h' = h := by
  refine calls_of r_spec_l1Most ?_
  refine v_seq ?_
  refine v_ops ?_
  refine s_pure (.int .i64 0) (fun _ q => q) ?_
  refine s_nil ?_
  refine p_seqN ?_
  refine v_seq ?_
  refine v_seq ?_
  refine v_ops ?_
  refine s_pure (.int .i64 a) (fun _ q => q) ?_
  refine s_pure (.int .i64 b) (fun _ q => q) ?_
  refine s_pure (.bool (decide (a > b))) (fun _ q => q) ?_
  refine s_nil ?_
  refine p_seqN ?_
  refine v_cond rfl (fun c1 => ?_) (fun c1 => ?_)
  ·
    refine v_seq ?_
    refine v_ops ?_
    refine s_pure (.int .i64 a) (fun _ q => q) ?_
    refine s_pure (.int .i64 a) (fun _ q => q) ?_
    refine s_nil ?_
    refine p_seqN ?_
    refine v_ret ?_
    refine p_seqR ?_
    refine p_ret [.int .i64 a] (.int .i64 a) (fun _ q => q) rfl ?_
    have ho : (if a > b then a else b) = a := by simp [*]
    exact ⟨by first | (rw [ho]; done) | rfl, rfl⟩
  ·
    refine v_skip ?_
    refine p_seqN ?_
    refine v_seq ?_
    refine v_ops ?_
    refine s_pure (.int .i64 b) (fun _ q => q) ?_
    refine s_pure (.int .i64 b) (fun _ q => q) ?_
    refine s_nil ?_
    refine p_seqN ?_
    refine v_ret ?_
    refine p_ret [.int .i64 b] (.int .i64 b) (fun _ q => q) rfl ?_
    have ho : (if a > b then a else b) = b := by simp [*]
    exact ⟨by first | (rw [ho]; done) | rfl, rfl⟩

theorem impl_wayAsked_ok (n : NetP) (v_n_towers : Value) (v_n_links : Value) (v_l : Value) (l : List FogD) (a : Int) (b : Int) (t : Int) (h : Heap) (s_n_towers : Sl h v_n_towers n.towers) (s_n_links : Sl h v_n_links n.links) (s_l : Sl h v_l l) : Cn f_impl_wayAsked [.agg #[v_n_towers, v_n_links], v_l, .int .i64 a, .int .i64 b, .int .i64 t] h fun v h' => v = .bool (decide (WayAsk n l a b t)) ∧ Ext h h' := by
  have lt_n_towers := s_n_towers.lt
  have l63_n_towers := s_n_towers.len63
  have lt_n_links := s_n_links.lt
  have l63_n_links := s_n_links.len63
  have lt_l := s_l.lt
  have l63_l := s_l.len63
  refine calls_of r_impl_wayAsked ?_
  refine v_seq ?_
  refine v_ops ?_
  refine s_box [v_n_towers, v_n_links] rfl (fun h2 b1 hbb1 hzb1 eh2 bxb1 => ?_)
  have E3 := (Ext.refl h).trans eh2
  have z4 := eh2.size
  have lbb1 := bxb1.lt
  refine s_pure (.bool false) (fun _ q => q) ?_
  refine s_nil ?_
  refine p_seqN ?_
  refine v_seq ?_
  refine v_ops ?_
  refine s_load (.agg #[v_n_towers, v_n_links]) (fun _ q => bxb1.loadA rfl q) ?_
  refine s_pure (.int .i64 a) (fun _ q => q) ?_
  have f5 := (s_n_towers.ext eh2)
  have f6 := (s_n_links.ext eh2)
  refine s_call [.agg #[v_n_towers, v_n_links], .int .i64 a] rfl (impl_isTower_ok n v_n_towers v_n_links a _ f5 f6) ?_
  rintro _ h7 ⟨rfl, eh7⟩
  have E8 := E3.trans eh7
  have z9 := eh7.size
  refine s_pure (.bool (decide (NetOk n ∧ (0 ≤ a ∧ a ≤ (n.towers.length : Int) - 1)))) (fun _ q => q) ?_
  refine s_splitT rfl (fun c10 => ?_) (fun c10 => ?_)
  ·
    refine s_run rfl ?_
    have f11 := (bxb1.ext eh7)
    refine s_load (.agg #[v_n_towers, v_n_links]) (fun _ q => f11.loadA rfl q) ?_
    refine s_run rfl ?_
    refine s_pure (.int .i64 b) (fun _ q => q) ?_
    refine s_run rfl ?_
    have f12 := (f5.ext eh7)
    have f13 := (f6.ext eh7)
    refine s_call [.agg #[v_n_towers, v_n_links], .int .i64 b] rfl (impl_isTower_ok n v_n_towers v_n_links b _ f12 f13) ?_
    rintro _ h14 ⟨rfl, eh14⟩
    have E15 := E8.trans eh14
    have z16 := eh14.size
    refine s_pure (.bool (decide (NetOk n ∧ (0 ≤ b ∧ b ≤ (n.towers.length : Int) - 1)))) (fun _ q => q) ?_
    refine s_pure (.bool (decide (NetOk n ∧ (0 ≤ b ∧ b ≤ (n.towers.length : Int) - 1)))) (fun _ q => q) ?_
    refine s_splitT rfl (fun c17 => ?_) (fun c17 => ?_)
    ·
      refine s_run rfl ?_
      have f18 := (f11.ext eh14)
      refine s_load (.agg #[v_n_towers, v_n_links]) (fun _ q => f18.loadA rfl q) ?_
      refine s_run rfl ?_
      refine s_pure v_l (fun _ q => q) ?_
      refine s_run rfl ?_
      have f19 := (f12.ext eh14)
      have f20 := (f13.ext eh14)
      have f21 := (((s_l.ext eh2).ext eh7).ext eh14)
      refine s_call [.agg #[v_n_towers, v_n_links], v_l] rfl (impl_areFogs_ok n v_n_towers v_n_links v_l l _ f19 f20 f21) ?_
      rintro _ h22 ⟨rfl, eh22⟩
      have E23 := E15.trans eh22
      have z24 := eh22.size
      refine s_pure (.bool (decide (FogsOk n.links.length l))) (fun _ q => q) ?_
      refine s_pure (.bool (decide (FogsOk n.links.length l))) (fun _ q => q) ?_
      refine s_splitT rfl (fun c25 => ?_) (fun c25 => ?_)
      ·
        refine s_run rfl ?_
        refine s_pure (.int .i64 t) (fun _ q => q) ?_
        refine s_run rfl ?_
        refine s_callS [.int .i64 t, .int .i64 0, .int .i64 10000] (.bool (decide (0 ≤ t ∧ t ≤ 10000))) rfl (within_ok t 0 10000 _ ) ?_
        refine s_pure (.bool (decide (0 ≤ t ∧ t ≤ 10000))) (fun _ q => q) ?_
        refine s_pure (.bool (decide (0 ≤ t ∧ t ≤ 10000))) (fun _ q => q) ?_
        refine s_nil ?_
        refine p_seqN ?_
        refine v_ret ?_
        refine p_ret [.bool (decide (0 ≤ t ∧ t ≤ 10000))] (.bool (decide (0 ≤ t ∧ t ≤ 10000))) (fun _ q => q) rfl ?_
        have ho : (decide (WayAsk n l a b t)) = (decide (0 ≤ t ∧ t ≤ 10000)) := by rw [Bool.eq_iff_iff]; simp only [wayAsk_iff, decide_eq_true_eq, Bool.false_eq_true, iff_false, false_iff, iff_true, true_iff]; first | omega | (simp_all; done) | grind
        exact ⟨by first | (rw [ho]; done) | rfl, E23⟩
      ·
        refine s_pass rfl ?_
        refine s_pass rfl ?_
        refine s_pure (.bool false) (fun _ q => q) ?_
        refine s_pure (.bool false) (fun _ q => q) ?_
        refine s_nil ?_
        refine p_seqN ?_
        refine v_ret ?_
        refine p_ret [.bool false] (.bool false) (fun _ q => q) rfl ?_
        have ho : (decide (WayAsk n l a b t)) = false := by rw [Bool.eq_iff_iff]; simp only [wayAsk_iff, decide_eq_true_eq, Bool.false_eq_true, iff_false, false_iff, iff_true, true_iff]; first | omega | (simp_all; done) | grind
        exact ⟨by first | (rw [ho]; done) | rfl, E23⟩
    ·
      refine s_pass rfl ?_
      refine s_pass rfl ?_
      refine s_pass rfl ?_
      refine s_pure (.bool false) (fun _ q => q) ?_
      refine s_pure (.bool false) (fun _ q => q) ?_
      refine s_splitN rfl (by simp) ?_
      refine s_pass rfl ?_
      refine s_pass rfl ?_
      refine s_pure (.bool false) (fun _ q => q) ?_
      refine s_pure (.bool false) (fun _ q => q) ?_
      refine s_nil ?_
      refine p_seqN ?_
      refine v_ret ?_
      refine p_ret [.bool false] (.bool false) (fun _ q => q) rfl ?_
      have ho : (decide (WayAsk n l a b t)) = false := by rw [Bool.eq_iff_iff]; simp only [wayAsk_iff, decide_eq_true_eq, Bool.false_eq_true, iff_false, false_iff, iff_true, true_iff]; first | omega | (simp_all; done) | grind
      exact ⟨by first | (rw [ho]; done) | rfl, E15⟩
  ·
    refine s_pass rfl ?_
    refine s_pass rfl ?_
    refine s_pass rfl ?_
    refine s_pure (.bool false) (fun _ q => q) ?_
    refine s_pure (.bool false) (fun _ q => q) ?_
    refine s_splitN rfl (by simp) ?_
    refine s_pass rfl ?_
    refine s_pass rfl ?_
    refine s_pass rfl ?_
    refine s_pure (.bool false) (fun _ q => q) ?_
    refine s_pure (.bool false) (fun _ q => q) ?_
    refine s_splitN rfl (by simp) ?_
    refine s_pass rfl ?_
    refine s_pass rfl ?_
    refine s_pure (.bool false) (fun _ q => q) ?_
    refine s_pure (.bool false) (fun _ q => q) ?_
    refine s_nil ?_
    refine p_seqN ?_
    refine v_ret ?_
    refine p_ret [.bool false] (.bool false) (fun _ q => q) rfl ?_
    have ho : (decide (WayAsk n l a b t)) = false := by rw [Bool.eq_iff_iff]; simp only [wayAsk_iff, decide_eq_true_eq, Bool.false_eq_true, iff_false, false_iff, iff_true, true_iff]; first | omega | (simp_all; done) | grind
    exact ⟨by first | (rw [ho]; done) | rfl, E8⟩

theorem spec_roGood_ok (n : NetP) (v_n_towers : Value) (v_n_links : Value) (v_l : Value) (l : List FogD) (t : Int) (h : Heap) (s_n_towers : Sl h v_n_towers n.towers) (s_n_links : Sl h v_n_links n.links) (s_l : Sl h v_l l) : Cn f_spec_roGood [.agg #[v_n_towers, v_n_links], v_l, .int .i64 t] h fun v h' => v = .bool (decide (NetOk n ∧ FogsOk n.links.length l ∧ (0 ≤ t ∧ t ≤ 10000))) ∧ Ext h h' := by
  have lt_n_towers := s_n_towers.lt
  have l63_n_towers := s_n_towers.len63
  have lt_n_links := s_n_links.lt
  have l63_n_links := s_n_links.len63
  have lt_l := s_l.lt
  have l63_l := s_l.len63
  refine calls_of r_spec_roGood ?_
  refine v_seq ?_
  refine v_ops ?_
  refine s_box [v_n_towers, v_n_links] rfl (fun h2 b1 hbb1 hzb1 eh2 bxb1 => ?_)
  have E3 := (Ext.refl h).trans eh2
  have z4 := eh2.size
  have lbb1 := bxb1.lt
  refine s_pure (.bool false) (fun _ q => q) ?_
  refine s_nil ?_
  refine p_seqN ?_
  refine v_seq ?_
  refine v_ops ?_
  refine s_load (.agg #[v_n_towers, v_n_links]) (fun _ q => bxb1.loadA rfl q) ?_
  have f5 := (s_n_towers.ext eh2)
  have f6 := (s_n_links.ext eh2)
  refine s_call [.agg #[v_n_towers, v_n_links]] rfl (spec_neGood_ok n v_n_towers v_n_links _ f5 f6) ?_
  rintro _ h7 ⟨rfl, eh7⟩
  have E8 := E3.trans eh7
  have z9 := eh7.size
  refine s_pure (.bool (decide (NetOk n))) (fun _ q => q) ?_
  refine s_splitT rfl (fun c10 => ?_) (fun c10 => ?_)
  ·
    refine s_run rfl ?_
    have f11 := (bxb1.ext eh7)
    refine s_load (.agg #[v_n_towers, v_n_links]) (fun _ q => f11.loadA rfl q) ?_
    refine s_run rfl ?_
    refine s_pure v_l (fun _ q => q) ?_
    refine s_run rfl ?_
    have f12 := (f5.ext eh7)
    have f13 := (f6.ext eh7)
    have f14 := ((s_l.ext eh2).ext eh7)
    refine s_call [.agg #[v_n_towers, v_n_links], v_l] rfl (spec_fgGood_ok n v_n_towers v_n_links v_l l _ f12 f13 f14) ?_
    rintro _ h15 ⟨rfl, eh15⟩
    have E16 := E8.trans eh15
    have z17 := eh15.size
    refine s_pure (.bool (decide (FogsOk n.links.length l))) (fun _ q => q) ?_
    refine s_pure (.bool (decide (FogsOk n.links.length l))) (fun _ q => q) ?_
    refine s_splitT rfl (fun c18 => ?_) (fun c18 => ?_)
    ·
      refine s_run rfl ?_
      refine s_pure (.int .i64 t) (fun _ q => q) ?_
      refine s_run rfl ?_
      refine s_callS [.int .i64 t] (.bool (decide (0 ≤ t ∧ t ≤ 10000))) rfl (spec_fgTime_ok t _ ) ?_
      refine s_pure (.bool (decide (0 ≤ t ∧ t ≤ 10000))) (fun _ q => q) ?_
      refine s_pure (.bool (decide (0 ≤ t ∧ t ≤ 10000))) (fun _ q => q) ?_
      refine s_nil ?_
      refine p_seqN ?_
      refine v_ret ?_
      refine p_ret [.bool (decide (0 ≤ t ∧ t ≤ 10000))] (.bool (decide (0 ≤ t ∧ t ≤ 10000))) (fun _ q => q) rfl ?_
      have ho : (decide (NetOk n ∧ FogsOk n.links.length l ∧ (0 ≤ t ∧ t ≤ 10000))) = (decide (0 ≤ t ∧ t ≤ 10000)) := by simp [*]
      exact ⟨by first | (rw [ho]; done) | rfl, E16⟩
    ·
      refine s_pass rfl ?_
      refine s_pass rfl ?_
      refine s_pure (.bool false) (fun _ q => q) ?_
      refine s_pure (.bool false) (fun _ q => q) ?_
      refine s_nil ?_
      refine p_seqN ?_
      refine v_ret ?_
      refine p_ret [.bool false] (.bool false) (fun _ q => q) rfl ?_
      have ho : (decide (NetOk n ∧ FogsOk n.links.length l ∧ (0 ≤ t ∧ t ≤ 10000))) = false := by simp [*]
      exact ⟨by first | (rw [ho]; done) | rfl, E16⟩
  ·
    refine s_pass rfl ?_
    refine s_pass rfl ?_
    refine s_pass rfl ?_
    refine s_pure (.bool false) (fun _ q => q) ?_
    refine s_pure (.bool false) (fun _ q => q) ?_
    refine s_splitN rfl (by simp) ?_
    refine s_pass rfl ?_
    refine s_pass rfl ?_
    refine s_pure (.bool false) (fun _ q => q) ?_
    refine s_pure (.bool false) (fun _ q => q) ?_
    refine s_nil ?_
    refine p_seqN ?_
    refine v_ret ?_
    refine p_ret [.bool false] (.bool false) (fun _ q => q) rfl ?_
    have ho : (decide (NetOk n ∧ FogsOk n.links.length l ∧ (0 ≤ t ∧ t ≤ 10000))) = false := by simp [*]
    exact ⟨by first | (rw [ho]; done) | rfl, E8⟩

theorem spec_roAsked_ok (n : NetP) (v_n_towers : Value) (v_n_links : Value) (v_l : Value) (l : List FogD) (a : Int) (b : Int) (t : Int) (h : Heap) (s_n_towers : Sl h v_n_towers n.towers) (s_n_links : Sl h v_n_links n.links) (s_l : Sl h v_l l) : Cn f_spec_roAsked [.agg #[v_n_towers, v_n_links], v_l, .int .i64 a, .int .i64 b, .int .i64 t] h fun v h' => v = .bool (decide (WayAsk n l a b t)) ∧ Ext h h' := by
  have lt_n_towers := s_n_towers.lt
  have l63_n_towers := s_n_towers.len63
  have lt_n_links := s_n_links.lt
  have l63_n_links := s_n_links.len63
  have lt_l := s_l.lt
  have l63_l := s_l.len63
  refine calls_of r_spec_roAsked ?_
  refine v_seq ?_
  refine v_ops ?_
  refine s_box [v_n_towers, v_n_links] rfl (fun h2 b1 hbb1 hzb1 eh2 bxb1 => ?_)
  have E3 := (Ext.refl h).trans eh2
  have z4 := eh2.size
  have lbb1 := bxb1.lt
  refine s_pure (.bool false) (fun _ q => q) ?_
  refine s_nil ?_
  refine p_seqN ?_
  refine v_seq ?_
  refine v_ops ?_
  refine s_load (.agg #[v_n_towers, v_n_links]) (fun _ q => bxb1.loadA rfl q) ?_
  refine s_pure v_l (fun _ q => q) ?_
  refine s_pure (.int .i64 t) (fun _ q => q) ?_
  have f5 := (s_n_towers.ext eh2)
  have f6 := (s_n_links.ext eh2)
  have f7 := (s_l.ext eh2)
  refine s_call [.agg #[v_n_towers, v_n_links], v_l, .int .i64 t] rfl (spec_roGood_ok n v_n_towers v_n_links v_l l t _ f5 f6 f7) ?_
  rintro _ h8 ⟨rfl, eh8⟩
  have E9 := E3.trans eh8
  have z10 := eh8.size
  refine s_pure (.bool (decide (NetOk n ∧ FogsOk n.links.length l ∧ (0 ≤ t ∧ t ≤ 10000)))) (fun _ q => q) ?_
  refine s_splitT rfl (fun c11 => ?_) (fun c11 => ?_)
  ·
    refine s_run rfl ?_
    have f12 := (bxb1.ext eh8)
    refine s_load (.agg #[v_n_towers, v_n_links]) (fun _ q => f12.loadA rfl q) ?_
    refine s_run rfl ?_
    refine s_pure (.int .i64 a) (fun _ q => q) ?_
    refine s_run rfl ?_
    have f13 := (f5.ext eh8)
    have f14 := (f6.ext eh8)
    refine s_call [.agg #[v_n_towers, v_n_links], .int .i64 a] rfl (spec_roTower_ok n v_n_towers v_n_links a _ f13 f14) ?_
    rintro _ h15 ⟨rfl, eh15⟩
    have E16 := E9.trans eh15
    have z17 := eh15.size
    refine s_pure (.bool (decide (0 ≤ a ∧ a ≤ (n.towers.length : Int) - 1))) (fun _ q => q) ?_
    refine s_pure (.bool (decide (0 ≤ a ∧ a ≤ (n.towers.length : Int) - 1))) (fun _ q => q) ?_
    refine s_splitT rfl (fun c18 => ?_) (fun c18 => ?_)
    ·
      refine s_run rfl ?_
      have f19 := (f12.ext eh15)
      refine s_load (.agg #[v_n_towers, v_n_links]) (fun _ q => f19.loadA rfl q) ?_
      refine s_run rfl ?_
      refine s_pure (.int .i64 b) (fun _ q => q) ?_
      refine s_run rfl ?_
      have f20 := (f13.ext eh15)
      have f21 := (f14.ext eh15)
      refine s_call [.agg #[v_n_towers, v_n_links], .int .i64 b] rfl (spec_roTower_ok n v_n_towers v_n_links b _ f20 f21) ?_
      rintro _ h22 ⟨rfl, eh22⟩
      have E23 := E16.trans eh22
      have z24 := eh22.size
      refine s_pure (.bool (decide (0 ≤ b ∧ b ≤ (n.towers.length : Int) - 1))) (fun _ q => q) ?_
      refine s_pure (.bool (decide (0 ≤ b ∧ b ≤ (n.towers.length : Int) - 1))) (fun _ q => q) ?_
      refine s_nil ?_
      refine p_seqN ?_
      refine v_ret ?_
      refine p_ret [.bool (decide (0 ≤ b ∧ b ≤ (n.towers.length : Int) - 1))] (.bool (decide (0 ≤ b ∧ b ≤ (n.towers.length : Int) - 1))) (fun _ q => q) rfl ?_
      have ho : (decide (WayAsk n l a b t)) = (decide (0 ≤ b ∧ b ≤ (n.towers.length : Int) - 1)) := by rw [Bool.eq_iff_iff]; simp only [wayAsk_iff, decide_eq_true_eq, Bool.false_eq_true, iff_false, false_iff, iff_true, true_iff]; first | omega | (simp_all; done) | grind
      exact ⟨by first | (rw [ho]; done) | rfl, E23⟩
    ·
      refine s_pass rfl ?_
      refine s_pass rfl ?_
      refine s_pass rfl ?_
      refine s_pure (.bool false) (fun _ q => q) ?_
      refine s_pure (.bool false) (fun _ q => q) ?_
      refine s_nil ?_
      refine p_seqN ?_
      refine v_ret ?_
      refine p_ret [.bool false] (.bool false) (fun _ q => q) rfl ?_
      have ho : (decide (WayAsk n l a b t)) = false := by rw [Bool.eq_iff_iff]; simp only [wayAsk_iff, decide_eq_true_eq, Bool.false_eq_true, iff_false, false_iff, iff_true, true_iff]; first | omega | (simp_all; done) | grind
      exact ⟨by first | (rw [ho]; done) | rfl, E16⟩
  ·
    refine s_pass rfl ?_
    refine s_pass rfl ?_
    refine s_pass rfl ?_
    refine s_pure (.bool false) (fun _ q => q) ?_
    refine s_pure (.bool false) (fun _ q => q) ?_
    refine s_splitN rfl (by simp) ?_
    refine s_pass rfl ?_
    refine s_pass rfl ?_
    refine s_pass rfl ?_
    refine s_pure (.bool false) (fun _ q => q) ?_
    refine s_pure (.bool false) (fun _ q => q) ?_
    refine s_nil ?_
    refine p_seqN ?_
    refine v_ret ?_
    refine p_ret [.bool false] (.bool false) (fun _ q => q) rfl ?_
    have ho : (decide (WayAsk n l a b t)) = false := by rw [Bool.eq_iff_iff]; simp only [wayAsk_iff, decide_eq_true_eq, Bool.false_eq_true, iff_false, false_iff, iff_true, true_iff]; first | omega | (simp_all; done) | grind
    exact ⟨by first | (rw [ho]; done) | rfl, E9⟩

theorem impl_FirstArrival_ok (n : NetP) (v_n_towers : Value) (v_n_links : Value) (v_l : Value) (l : List FogD) (a : Int) (b : Int) (t : Int) (h : Heap) (s_n_towers : Sl h v_n_towers n.towers) (s_n_links : Sl h v_n_links n.links) (s_l : Sl h v_l l) : Cn f_impl_FirstArrival [.agg #[v_n_towers, v_n_links], v_l, .int .i64 a, .int .i64 b, .int .i64 t] h fun v h' => v = .tuple #[.int .i64 ((firstOf n l a b t).1), .bool ((firstOf n l a b t).2)] ∧ Ext h h' := by
  have lt_n_towers := s_n_towers.lt
  have l63_n_towers := s_n_towers.len63
  have lt_n_links := s_n_links.lt
  have l63_n_links := s_n_links.len63
  have lt_l := s_l.lt
  have l63_l := s_l.len63
  refine calls_of r_impl_FirstArrival ?_
  refine v_seq ?_
  refine v_ops ?_
  refine s_box [v_n_towers, v_n_links] rfl (fun h2 b1 hbb1 hzb1 eh2 bxb1 => ?_)
  have E3 := (Ext.refl h).trans eh2
  have z4 := eh2.size
  have lbb1 := bxb1.lt
  refine s_pure (.int .i64 0) (fun _ q => q) ?_
  refine s_pure (.bool false) (fun _ q => q) ?_
  refine s_nil ?_
  refine p_seqN ?_
  refine v_seq ?_
  refine v_seq ?_
  refine v_ops ?_
  refine s_load (.agg #[v_n_towers, v_n_links]) (fun _ q => bxb1.loadA rfl q) ?_
  refine s_pure v_l (fun _ q => q) ?_
  refine s_pure (.int .i64 a) (fun _ q => q) ?_
  refine s_pure (.int .i64 b) (fun _ q => q) ?_
  refine s_pure (.int .i64 t) (fun _ q => q) ?_
  have f5 := (s_n_towers.ext eh2)
  have f6 := (s_n_links.ext eh2)
  have f7 := (s_l.ext eh2)
  refine s_call [.agg #[v_n_towers, v_n_links], v_l, .int .i64 a, .int .i64 b, .int .i64 t] rfl (impl_wayAsked_ok n v_n_towers v_n_links v_l l a b t _ f5 f6 f7) ?_
  rintro _ h8 ⟨rfl, eh8⟩
  have E9 := E3.trans eh8
  have z10 := eh8.size
  refine s_pure (.bool (!(decide (WayAsk n l a b t)))) (fun _ q => q) ?_
  refine s_nil ?_
  refine p_seqN ?_
  refine v_cond rfl (fun c11 => ?_) (fun c11 => ?_)
  ·
    refine v_seq ?_
    refine v_ops ?_
    refine s_pure (.int .i64 0) (fun _ q => q) ?_
    refine s_pure (.bool false) (fun _ q => q) ?_
    refine s_nil ?_
    refine p_seqN ?_
    refine v_ret ?_
    refine p_seqR ?_
    refine p_ret [.int .i64 0, .bool false] (.tuple #[.int .i64 0, .bool false]) (fun _ q => q) rfl ?_
    have ho : (firstOf n l a b t) = (0, false) := by first | exact first_no (by assumption) | exact first_neg (by rw [gI_at (by assumption)]; assumption) | (rw [first_yes (by assumption) (by rw [gI_at (by assumption)]; omega), gI_at (by assumption)])
    exact ⟨by first | (rw [ho]; done) | rfl, E9⟩
  ·
    have c11 := Classical.not_not.1 c11
    refine v_skip ?_
    refine p_seqN ?_
    refine v_seq ?_
    refine v_ops ?_
    have f12 := (bxb1.ext eh8)
    refine s_load (.agg #[v_n_towers, v_n_links]) (fun _ q => f12.loadA rfl q) ?_
    refine s_pure v_l (fun _ q => q) ?_
    refine s_pure (.int .i64 a) (fun _ q => q) ?_
    refine s_pure (.int .i64 t) (fun _ q => q) ?_
    have f13 := (f5.ext eh8)
    have f14 := (f6.ext eh8)
    have f15 := (f7.ext eh8)
    refine s_call [.agg #[v_n_towers, v_n_links], v_l, .int .i64 a, .int .i64 t] rfl (impl_arrivals_ok n v_n_towers v_n_links v_l l a t _ f13 f14 f15 _ (by assumption : WayAsk n l a b t).hn (by assumption : WayAsk n l a b t).hf (by assumption : WayAsk n l a b t).ha (by assumption : WayAsk n l a b t).ht) ?_
    rintro r16 h17 ⟨_, rfl, s_r16, fr_r16, eh17⟩
    have E18 := E9.trans eh17
    have z19 := eh17.size
    have lt_r16 := s_r16.lt
    refine s_pure (.int .i64 b) (fun _ q => q) ?_
    have hk20 : (b).toNat < (arrOf n l a t).length := (by (have h1 := (by assumption : WayAsk n l a b t).hb); rw [arrOf_len]; omega)
    obtain ⟨x21, hx21⟩ : ∃ x, (arrOf n l a t)[(b).toNat]? = some x := ⟨_, List.getElem?_eq_getElem hk20⟩
    refine s_pure (.pointer (some ⟨sblk r16, soff r16 + ((b).toNat) * 1, none⟩)) (fun _ q => s_r16.idx (k := (b).toNat) (by have := (by assumption : WayAsk n l a b t).hb; omega) hk20 q) ?_
    refine s_load (.int .i64 x21) (fun _ q => s_r16.load1 hx21 rfl q) ?_
    refine s_pure (.int .i64 x21) (fun _ q => q) ?_
    refine s_nil ?_
    refine p_seqN ?_
    refine v_seq ?_
    refine v_seq ?_
    refine v_ops ?_
    refine s_pure (.int .i64 x21) (fun _ q => q) ?_
    refine s_pure (.bool (decide (x21 < 0))) (fun _ q => q) ?_
    refine s_nil ?_
    refine p_seqN ?_
    refine v_cond rfl (fun c22 => ?_) (fun c22 => ?_)
    ·
      refine v_seq ?_
      refine v_ops ?_
      refine s_pure (.int .i64 0) (fun _ q => q) ?_
      refine s_pure (.bool false) (fun _ q => q) ?_
      refine s_nil ?_
      refine p_seqN ?_
      refine v_ret ?_
      refine p_seqR ?_
      refine p_ret [.int .i64 0, .bool false] (.tuple #[.int .i64 0, .bool false]) (fun _ q => q) rfl ?_
      have ho : (firstOf n l a b t) = (0, false) := by first | exact first_no (by assumption) | exact first_neg (by rw [gI_at (by assumption)]; assumption) | (rw [first_yes (by assumption) (by rw [gI_at (by assumption)]; omega), gI_at (by assumption)])
      exact ⟨by first | (rw [ho]; done) | rfl, E18⟩
    ·
      refine v_skip ?_
      refine p_seqN ?_
      refine v_seq ?_
      refine v_ops ?_
      refine s_pure (.int .i64 x21) (fun _ q => q) ?_
      refine s_pure (.int .i64 x21) (fun _ q => q) ?_
      refine s_pure (.bool true) (fun _ q => q) ?_
      refine s_nil ?_
      refine p_seqN ?_
      refine v_ret ?_
      refine p_ret [.int .i64 x21, .bool true] (.tuple #[.int .i64 x21, .bool true]) (fun _ q => q) rfl ?_
      have ho : (firstOf n l a b t) = (x21, true) := by first | exact first_no (by assumption) | exact first_neg (by rw [gI_at (by assumption)]; assumption) | (rw [first_yes (by assumption) (by rw [gI_at (by assumption)]; omega), gI_at (by assumption)])
      exact ⟨by first | (rw [ho]; done) | rfl, E18⟩

theorem spec_FirstArrival_ok (n : NetP) (v_n_towers : Value) (v_n_links : Value) (v_l : Value) (l : List FogD) (a : Int) (b : Int) (t : Int) (h : Heap) (s_n_towers : Sl h v_n_towers n.towers) (s_n_links : Sl h v_n_links n.links) (s_l : Sl h v_l l) : Cn f_spec_FirstArrival [.agg #[v_n_towers, v_n_links], v_l, .int .i64 a, .int .i64 b, .int .i64 t] h fun v h' => v = .tuple #[.int .i64 ((firstOf n l a b t).1), .bool ((firstOf n l a b t).2)] ∧ Ext h h' := by
  have lt_n_towers := s_n_towers.lt
  have l63_n_towers := s_n_towers.len63
  have lt_n_links := s_n_links.lt
  have l63_n_links := s_n_links.len63
  have lt_l := s_l.lt
  have l63_l := s_l.len63
  refine calls_of r_spec_FirstArrival ?_
  refine v_seq ?_
  refine v_ops ?_
  refine s_box [v_n_towers, v_n_links] rfl (fun h2 b1 hbb1 hzb1 eh2 bxb1 => ?_)
  have E3 := (Ext.refl h).trans eh2
  have z4 := eh2.size
  have lbb1 := bxb1.lt
  refine s_pure (.int .i64 0) (fun _ q => q) ?_
  refine s_pure (.bool false) (fun _ q => q) ?_
  refine s_nil ?_
  refine p_seqN ?_
  refine v_seq ?_
  refine v_seq ?_
  refine v_ops ?_
  refine s_load (.agg #[v_n_towers, v_n_links]) (fun _ q => bxb1.loadA rfl q) ?_
  refine s_pure v_l (fun _ q => q) ?_
  refine s_pure (.int .i64 a) (fun _ q => q) ?_
  refine s_pure (.int .i64 b) (fun _ q => q) ?_
  refine s_pure (.int .i64 t) (fun _ q => q) ?_
  have f5 := (s_n_towers.ext eh2)
  have f6 := (s_n_links.ext eh2)
  have f7 := (s_l.ext eh2)
  refine s_call [.agg #[v_n_towers, v_n_links], v_l, .int .i64 a, .int .i64 b, .int .i64 t] rfl (spec_roAsked_ok n v_n_towers v_n_links v_l l a b t _ f5 f6 f7) ?_
  rintro _ h8 ⟨rfl, eh8⟩
  have E9 := E3.trans eh8
  have z10 := eh8.size
  refine s_pure (.bool (!(decide (WayAsk n l a b t)))) (fun _ q => q) ?_
  refine s_nil ?_
  refine p_seqN ?_
  refine v_cond rfl (fun c11 => ?_) (fun c11 => ?_)
  ·
    refine v_seq ?_
    refine v_ops ?_
    refine s_pure (.int .i64 0) (fun _ q => q) ?_
    refine s_pure (.bool false) (fun _ q => q) ?_
    refine s_nil ?_
    refine p_seqN ?_
    refine v_ret ?_
    refine p_seqR ?_
    refine p_ret [.int .i64 0, .bool false] (.tuple #[.int .i64 0, .bool false]) (fun _ q => q) rfl ?_
    have ho : (firstOf n l a b t) = (0, false) := by first | exact first_no (by assumption) | exact first_most (by assumption) (by assumption)
    exact ⟨by first | (rw [ho]; done) | rfl, E9⟩
  ·
    have c11 := Classical.not_not.1 c11
    refine v_skip ?_
    refine p_seqN ?_
    refine v_seq ?_
    refine v_ops ?_
    have f12 := (bxb1.ext eh8)
    refine s_load (.agg #[v_n_towers, v_n_links]) (fun _ q => f12.loadA rfl q) ?_
    refine s_pure v_l (fun _ q => q) ?_
    refine s_pure (.int .i64 a) (fun _ q => q) ?_
    refine s_pure (.int .i64 t) (fun _ q => q) ?_
    have f13 := (f5.ext eh8)
    have f14 := (f6.ext eh8)
    have f15 := (f7.ext eh8)
    refine s_call [.agg #[v_n_towers, v_n_links], v_l, .int .i64 a, .int .i64 t] rfl (spec_roFirst_ok n v_n_towers v_n_links v_l l a t _ f13 f14 f15 _ (by assumption : WayAsk n l a b t).hn (by assumption : WayAsk n l a b t).hf (by assumption : WayAsk n l a b t).ha (by assumption : WayAsk n l a b t).ht) ?_
    rintro r16 h17 ⟨_, rfl, s_r16, fr_r16, eh17⟩
    have E18 := E9.trans eh17
    have z19 := eh17.size
    have lt_r16 := s_r16.lt
    refine s_pure (.int .i64 b) (fun _ q => q) ?_
    have hk20 : (b).toNat < (arrOf n l a t).length := (by (have h1 := (by assumption : WayAsk n l a b t).hb); rw [arrOf_len]; omega)
    obtain ⟨x21, hx21⟩ : ∃ x, (arrOf n l a t)[(b).toNat]? = some x := ⟨_, List.getElem?_eq_getElem hk20⟩
    refine s_pure (.pointer (some ⟨sblk r16, soff r16 + ((b).toNat) * 1, none⟩)) (fun _ q => s_r16.idx (k := (b).toNat) (by have := (by assumption : WayAsk n l a b t).hb; omega) hk20 q) ?_
    refine s_load (.int .i64 x21) (fun _ q => s_r16.load1 hx21 rfl q) ?_
    refine s_pure (.int .i64 x21) (fun _ q => q) ?_
    refine s_nil ?_
    refine p_seqN ?_
    refine v_seq ?_
    refine v_ops ?_
    refine s_pure (.int .i64 x21) (fun _ q => q) ?_
    refine s_callS [.int .i64 x21, .int .i64 0] (.int .i64 (if x21 > 0 then x21 else 0)) rfl (spec_l1Most_ok x21 0 _ ) ?_
    refine s_pure (.int .i64 x21) (fun _ q => q) ?_
    refine s_pure (.bool (decide (x21 ≥ 0))) (fun _ q => q) ?_
    refine s_pure (.int .i64 (if x21 > 0 then x21 else 0)) (fun _ q => q) ?_
    refine s_pure (.bool (decide (x21 ≥ 0))) (fun _ q => q) ?_
    refine s_nil ?_
    refine p_seqN ?_
    refine v_ret ?_
    refine p_ret [.int .i64 (if x21 > 0 then x21 else 0), .bool (decide (x21 ≥ 0))] (.tuple #[.int .i64 (if x21 > 0 then x21 else 0), .bool (decide (x21 ≥ 0))]) (fun _ q => q) rfl ?_
    have ho : (firstOf n l a b t) = ((if x21 > 0 then x21 else 0), (decide (x21 ≥ 0))) := by first | exact first_no (by assumption) | exact first_most (by assumption) (by assumption)
    exact ⟨by first | (rw [ho]; done) | rfl, E18⟩

theorem spec_PlainDelay_ok (n : NetP) (v_n_towers : Value) (v_n_links : Value) (a : Int) (b : Int) (h : Heap) (s_n_towers : Sl h v_n_towers n.towers) (s_n_links : Sl h v_n_links n.links) : Cn f_spec_PlainDelay [.agg #[v_n_towers, v_n_links], .int .i64 a, .int .i64 b] h fun v h' => v = .tuple #[.int .i64 ((firstOf n [] a b 0).1), .bool ((firstOf n [] a b 0).2)] ∧ Ext h h' := by
  have lt_n_towers := s_n_towers.lt
  have l63_n_towers := s_n_towers.len63
  have lt_n_links := s_n_links.lt
  have l63_n_links := s_n_links.len63
  refine calls_of r_spec_PlainDelay ?_
  refine v_seq ?_
  refine v_ops ?_
  refine s_box [v_n_towers, v_n_links] rfl (fun h2 b1 hbb1 hzb1 eh2 bxb1 => ?_)
  have E3 := (Ext.refl h).trans eh2
  have z4 := eh2.size
  have lbb1 := bxb1.lt
  refine s_pure (.int .i64 0) (fun _ q => q) ?_
  refine s_pure (.bool false) (fun _ q => q) ?_
  refine s_nil ?_
  refine p_seqN ?_
  refine v_seq ?_
  refine v_ops ?_
  refine s_load (.agg #[v_n_towers, v_n_links]) (fun _ q => bxb1.loadA rfl q) ?_
  refine s_pure (.int .i64 a) (fun _ q => q) ?_
  refine s_pure (.int .i64 b) (fun _ q => q) ?_
  have f5 := (s_n_towers.ext eh2)
  have f6 := (s_n_links.ext eh2)
  refine s_call [.agg #[v_n_towers, v_n_links], .slice none 0 0, .int .i64 a, .int .i64 b, .int .i64 0] rfl (spec_FirstArrival_ok n v_n_towers v_n_links (.slice none 0 0) [] a b 0 _ f5 f6 (SlX.nil (α := FogD) false _)) ?_
  rintro _ h7 ⟨rfl, eh7⟩
  have E8 := E3.trans eh7
  have z9 := eh7.size
  refine s_pure (.int .i64 ((firstOf n [] a b 0).1)) (fun _ q => q) ?_
  refine s_pure (.bool ((firstOf n [] a b 0).2)) (fun _ q => q) ?_
  refine s_pure (.int .i64 ((firstOf n [] a b 0).1)) (fun _ q => q) ?_
  refine s_pure (.bool ((firstOf n [] a b 0).2)) (fun _ q => q) ?_
  refine s_nil ?_
  refine p_seqN ?_
  refine v_ret ?_
  refine p_ret [.int .i64 ((firstOf n [] a b 0).1), .bool ((firstOf n [] a b 0).2)] (.tuple #[.int .i64 ((firstOf n [] a b 0).1), .bool ((firstOf n [] a b 0).2)]) (fun _ q => q) rfl ?_
  have ho : (firstOf n [] a b 0) = ((firstOf n [] a b 0).1, (firstOf n [] a b 0).2) := by rfl
  exact ⟨by first | (rw [ho]; done) | rfl, E8⟩

theorem impl_plainDelay_ok (n : NetP) (v_n_towers : Value) (v_n_links : Value) (a : Int) (b : Int) (h : Heap) (s_n_towers : Sl h v_n_towers n.towers) (s_n_links : Sl h v_n_links n.links) (hw : WayAsk n [] a b 0) : Cn f_impl_plainDelay [.agg #[v_n_towers, v_n_links], .int .i64 a, .int .i64 b] h fun v h' => v = .tuple #[.int .i64 ((firstOf n [] a b 0).1), .bool ((firstOf n [] a b 0).2)] ∧ Ext h h' := by
  have lt_n_towers := s_n_towers.lt
  have l63_n_towers := s_n_towers.len63
  have lt_n_links := s_n_links.lt
  have l63_n_links := s_n_links.len63
  refine calls_of r_impl_plainDelay ?_
  refine v_seq ?_
  refine v_ops ?_
  refine s_box [v_n_towers, v_n_links] rfl (fun h2 b1 hbb1 hzb1 eh2 bxb1 => ?_)
  have E3 := (Ext.refl h).trans eh2
  have z4 := eh2.size
  have lbb1 := bxb1.lt
  refine s_pure (.int .i64 0) (fun _ q => q) ?_
  refine s_pure (.bool false) (fun _ q => q) ?_
  refine s_nil ?_
  refine p_seqN ?_
  refine v_seq ?_
  refine v_ops ?_
  refine s_load (.agg #[v_n_towers, v_n_links]) (fun _ q => bxb1.loadA rfl q) ?_
  refine s_pure (.int .i64 a) (fun _ q => q) ?_
  have f5 := (s_n_towers.ext eh2)
  have f6 := (s_n_links.ext eh2)
  refine s_call [.agg #[v_n_towers, v_n_links], .slice none 0 0, .int .i64 a, .int .i64 0] rfl (impl_arrivals_ok n v_n_towers v_n_links (.slice none 0 0) [] a 0 _ f5 f6 (SlX.nil (α := FogD) false _) _ hw.hn hw.hf hw.ha hw.ht) ?_
  rintro r7 h8 ⟨_, rfl, s_r7, fr_r7, eh8⟩
  have E9 := E3.trans eh8
  have z10 := eh8.size
  have lt_r7 := s_r7.lt
  refine s_pure (.int .i64 b) (fun _ q => q) ?_
  have hk11 : (b).toNat < (arrOf n [] a 0).length := (by (have h1 := hw.hb); rw [arrOf_len]; omega)
  obtain ⟨x12, hx12⟩ : ∃ x, (arrOf n [] a 0)[(b).toNat]? = some x := ⟨_, List.getElem?_eq_getElem hk11⟩
  refine s_pure (.pointer (some ⟨sblk r7, soff r7 + ((b).toNat) * 1, none⟩)) (fun _ q => s_r7.idx (k := (b).toNat) (by have := hw.hb; omega) hk11 q) ?_
  refine s_load (.int .i64 x12) (fun _ q => s_r7.load1 hx12 rfl q) ?_
  refine s_pure (.int .i64 x12) (fun _ q => q) ?_
  refine s_nil ?_
  refine p_seqN ?_
  refine v_seq ?_
  refine v_seq ?_
  refine v_ops ?_
  refine s_pure (.int .i64 x12) (fun _ q => q) ?_
  refine s_pure (.bool (decide (x12 < 0))) (fun _ q => q) ?_
  refine s_nil ?_
  refine p_seqN ?_
  refine v_cond rfl (fun c13 => ?_) (fun c13 => ?_)
  ·
    refine v_seq ?_
    refine v_ops ?_
    refine s_pure (.int .i64 0) (fun _ q => q) ?_
    refine s_pure (.bool false) (fun _ q => q) ?_
    refine s_nil ?_
    refine p_seqN ?_
    refine v_ret ?_
    refine p_seqR ?_
    refine p_ret [.int .i64 0, .bool false] (.tuple #[.int .i64 0, .bool false]) (fun _ q => q) rfl ?_
    have ho : (firstOf n [] a b 0) = (0, false) := by first | exact first_neg (by rw [gI_at (by assumption)]; assumption) | (rw [first_yes (by assumption) (by rw [gI_at (by assumption)]; omega), gI_at (by assumption)])
    exact ⟨by first | (rw [ho]; done) | rfl, E9⟩
  ·
    refine v_skip ?_
    refine p_seqN ?_
    refine v_seq ?_
    refine v_ops ?_
    refine s_pure (.int .i64 x12) (fun _ q => q) ?_
    refine s_pure (.int .i64 x12) (fun _ q => q) ?_
    refine s_pure (.bool true) (fun _ q => q) ?_
    refine s_nil ?_
    refine p_seqN ?_
    refine v_ret ?_
    refine p_ret [.int .i64 x12, .bool true] (.tuple #[.int .i64 x12, .bool true]) (fun _ q => q) rfl ?_
    have ho : (firstOf n [] a b 0) = (x12, true) := by first | exact first_neg (by rw [gI_at (by assumption)]; assumption) | (rw [first_yes (by assumption) (by rw [gI_at (by assumption)]; omega), gI_at (by assumption)])
    exact ⟨by first | (rw [ho]; done) | rfl, E9⟩

theorem impl_PlainDelay_ok (n : NetP) (v_n_towers : Value) (v_n_links : Value) (a : Int) (b : Int) (h : Heap) (s_n_towers : Sl h v_n_towers n.towers) (s_n_links : Sl h v_n_links n.links) : Cn f_impl_PlainDelay [.agg #[v_n_towers, v_n_links], .int .i64 a, .int .i64 b] h fun v h' => v = .tuple #[.int .i64 ((firstOf n [] a b 0).1), .bool ((firstOf n [] a b 0).2)] ∧ Ext h h' := by
  have lt_n_towers := s_n_towers.lt
  have l63_n_towers := s_n_towers.len63
  have lt_n_links := s_n_links.lt
  have l63_n_links := s_n_links.len63
  refine calls_of r_impl_PlainDelay ?_
  refine v_seq ?_
  refine v_ops ?_
  refine s_box [v_n_towers, v_n_links] rfl (fun h2 b1 hbb1 hzb1 eh2 bxb1 => ?_)
  have E3 := (Ext.refl h).trans eh2
  have z4 := eh2.size
  have lbb1 := bxb1.lt
  refine s_pure (.int .i64 0) (fun _ q => q) ?_
  refine s_pure (.bool false) (fun _ q => q) ?_
  refine s_nil ?_
  refine p_seqN ?_
  refine v_seq ?_
  refine v_seq ?_
  refine v_ops ?_
  refine s_load (.agg #[v_n_towers, v_n_links]) (fun _ q => bxb1.loadA rfl q) ?_
  refine s_pure (.int .i64 a) (fun _ q => q) ?_
  have f5 := (s_n_towers.ext eh2)
  have f6 := (s_n_links.ext eh2)
  refine s_call [.agg #[v_n_towers, v_n_links], .int .i64 a] rfl (impl_isTower_ok n v_n_towers v_n_links a _ f5 f6) ?_
  rintro _ h7 ⟨rfl, eh7⟩
  have E8 := E3.trans eh7
  have z9 := eh7.size
  refine s_pure (.bool (!(decide (NetOk n ∧ (0 ≤ a ∧ a ≤ (n.towers.length : Int) - 1))))) (fun _ q => q) ?_
  refine s_pure (.bool (!(decide (NetOk n ∧ (0 ≤ a ∧ a ≤ (n.towers.length : Int) - 1))))) (fun _ q => q) ?_
  refine s_splitT rfl (fun c10 => ?_) (fun c10 => ?_)
  ·
    refine s_pass rfl ?_
    refine s_pass rfl ?_
    refine s_pass rfl ?_
    refine s_pass rfl ?_
    refine s_pure (.bool true) (fun _ q => q) ?_
    refine s_nil ?_
    refine p_seqN ?_
    refine v_condY rfl rfl ?_
    refine v_seq ?_
    refine v_ops ?_
    refine s_pure (.int .i64 0) (fun _ q => q) ?_
    refine s_pure (.bool false) (fun _ q => q) ?_
    refine s_nil ?_
    refine p_seqN ?_
    refine v_ret ?_
    refine p_seqR ?_
    refine p_ret [.int .i64 0, .bool false] (.tuple #[.int .i64 0, .bool false]) (fun _ q => q) rfl ?_
    have ho : (firstOf n [] a b 0) = (0, false) := by first | rfl | exact first_no (fun h => (by assumption : ¬ (NetOk n ∧ 0 ≤ a ∧ _)) ⟨h.hn, h.ha⟩) | exact first_no (fun h => (by assumption : ¬ (NetOk n ∧ 0 ≤ b ∧ _)) ⟨h.hn, h.hb⟩)
    exact ⟨by first | (rw [ho]; done) | rfl, E8⟩
  ·
    have c10 := Classical.not_not.1 c10
    refine s_run rfl ?_
    have f11 := (bxb1.ext eh7)
    refine s_load (.agg #[v_n_towers, v_n_links]) (fun _ q => f11.loadA rfl q) ?_
    refine s_run rfl ?_
    refine s_pure (.int .i64 b) (fun _ q => q) ?_
    refine s_run rfl ?_
    have f12 := (f5.ext eh7)
    have f13 := (f6.ext eh7)
    refine s_call [.agg #[v_n_towers, v_n_links], .int .i64 b] rfl (impl_isTower_ok n v_n_towers v_n_links b _ f12 f13) ?_
    rintro _ h14 ⟨rfl, eh14⟩
    have E15 := E8.trans eh14
    have z16 := eh14.size
    refine s_run rfl ?_
    refine s_pure (.bool (!(decide (NetOk n ∧ (0 ≤ b ∧ b ≤ (n.towers.length : Int) - 1))))) (fun _ q => q) ?_
    refine s_pure (.bool (!(decide (NetOk n ∧ (0 ≤ b ∧ b ≤ (n.towers.length : Int) - 1))))) (fun _ q => q) ?_
    refine s_nil ?_
    refine p_seqN ?_
    refine v_cond rfl (fun c17 => ?_) (fun c17 => ?_)
    ·
      refine v_seq ?_
      refine v_ops ?_
      refine s_pure (.int .i64 0) (fun _ q => q) ?_
      refine s_pure (.bool false) (fun _ q => q) ?_
      refine s_nil ?_
      refine p_seqN ?_
      refine v_ret ?_
      refine p_seqR ?_
      refine p_ret [.int .i64 0, .bool false] (.tuple #[.int .i64 0, .bool false]) (fun _ q => q) rfl ?_
      have ho : (firstOf n [] a b 0) = (0, false) := by first | rfl | exact first_no (fun h => (by assumption : ¬ (NetOk n ∧ 0 ≤ a ∧ _)) ⟨h.hn, h.ha⟩) | exact first_no (fun h => (by assumption : ¬ (NetOk n ∧ 0 ≤ b ∧ _)) ⟨h.hn, h.hb⟩)
      exact ⟨by first | (rw [ho]; done) | rfl, E15⟩
    ·
      have c17 := Classical.not_not.1 c17
      refine v_skip ?_
      refine p_seqN ?_
      refine v_seq ?_
      refine v_ops ?_
      have f18 := (f11.ext eh14)
      refine s_load (.agg #[v_n_towers, v_n_links]) (fun _ q => f18.loadA rfl q) ?_
      refine s_pure (.int .i64 a) (fun _ q => q) ?_
      refine s_pure (.int .i64 b) (fun _ q => q) ?_
      have f19 := (f12.ext eh14)
      have f20 := (f13.ext eh14)
      refine s_call [.agg #[v_n_towers, v_n_links], .int .i64 a, .int .i64 b] rfl (impl_plainDelay_ok n v_n_towers v_n_links a b _ f19 f20 (wayAsk_iff.2 ⟨(by assumption : NetOk n ∧ 0 ≤ a ∧ _).1, (by assumption : NetOk n ∧ 0 ≤ a ∧ _).2, (by assumption : NetOk n ∧ 0 ≤ b ∧ _).2, fogs_nil _, by omega⟩)) ?_
      rintro _ h21 ⟨rfl, eh21⟩
      have E22 := E15.trans eh21
      have z23 := eh21.size
      refine s_pure (.int .i64 ((firstOf n [] a b 0).1)) (fun _ q => q) ?_
      refine s_pure (.bool ((firstOf n [] a b 0).2)) (fun _ q => q) ?_
      refine s_pure (.int .i64 ((firstOf n [] a b 0).1)) (fun _ q => q) ?_
      refine s_pure (.bool ((firstOf n [] a b 0).2)) (fun _ q => q) ?_
      refine s_nil ?_
      refine p_seqN ?_
      refine v_ret ?_
      refine p_ret [.int .i64 ((firstOf n [] a b 0).1), .bool ((firstOf n [] a b 0).2)] (.tuple #[.int .i64 ((firstOf n [] a b 0).1), .bool ((firstOf n [] a b 0).2)]) (fun _ q => q) rfl ?_
      have ho : (firstOf n [] a b 0) = ((firstOf n [] a b 0).1, (firstOf n [] a b 0).2) := by first | rfl | exact first_no (fun h => (by assumption : ¬ (NetOk n ∧ 0 ≤ a ∧ _)) ⟨h.hn, h.ha⟩) | exact first_no (fun h => (by assumption : ¬ (NetOk n ∧ 0 ≤ b ∧ _)) ⟨h.hn, h.hb⟩)
      exact ⟨by first | (rw [ho]; done) | rfl, E22⟩

theorem impl_FogDelay_ok (n : NetP) (v_n_towers : Value) (v_n_links : Value) (v_l : Value) (l : List FogD) (a : Int) (b : Int) (t : Int) (h : Heap) (s_n_towers : Sl h v_n_towers n.towers) (s_n_links : Sl h v_n_links n.links) (s_l : Sl h v_l l) : Cn f_impl_FogDelay [.agg #[v_n_towers, v_n_links], v_l, .int .i64 a, .int .i64 b, .int .i64 t] h fun v h' => v = .tuple #[.int .i64 ((fogDelay n l a b t).1), .bool ((fogDelay n l a b t).2)] ∧ Ext h h' := by
  have lt_n_towers := s_n_towers.lt
  have l63_n_towers := s_n_towers.len63
  have lt_n_links := s_n_links.lt
  have l63_n_links := s_n_links.len63
  have lt_l := s_l.lt
  have l63_l := s_l.len63
  refine calls_of r_impl_FogDelay ?_
  refine v_seq ?_
  refine v_ops ?_
  refine s_box [v_n_towers, v_n_links] rfl (fun h2 b1 hbb1 hzb1 eh2 bxb1 => ?_)
  have E3 := (Ext.refl h).trans eh2
  have z4 := eh2.size
  have lbb1 := bxb1.lt
  refine s_pure (.int .i64 0) (fun _ q => q) ?_
  refine s_pure (.bool false) (fun _ q => q) ?_
  refine s_nil ?_
  refine p_seqN ?_
  refine v_seq ?_
  refine v_ops ?_
  refine s_load (.agg #[v_n_towers, v_n_links]) (fun _ q => bxb1.loadA rfl q) ?_
  refine s_pure v_l (fun _ q => q) ?_
  refine s_pure (.int .i64 a) (fun _ q => q) ?_
  refine s_pure (.int .i64 b) (fun _ q => q) ?_
  refine s_pure (.int .i64 t) (fun _ q => q) ?_
  have f5 := (s_n_towers.ext eh2)
  have f6 := (s_n_links.ext eh2)
  have f7 := (s_l.ext eh2)
  refine s_call [.agg #[v_n_towers, v_n_links], v_l, .int .i64 a, .int .i64 b, .int .i64 t] rfl (impl_FirstArrival_ok n v_n_towers v_n_links v_l l a b t _ f5 f6 f7) ?_
  rintro _ h8 ⟨rfl, eh8⟩
  have E9 := E3.trans eh8
  have z10 := eh8.size
  refine s_pure (.tuple #[.int .i64 ((firstOf n l a b t).1), .bool ((firstOf n l a b t).2)]) (fun _ q => q) ?_
  refine s_pure (.int .i64 ((firstOf n l a b t).1)) (fun _ q => q) ?_
  refine s_pure (.bool ((firstOf n l a b t).2)) (fun _ q => q) ?_
  refine s_pure (.int .i64 ((firstOf n l a b t).1)) (fun _ q => q) ?_
  refine s_pure (.bool ((firstOf n l a b t).2)) (fun _ q => q) ?_
  refine s_nil ?_
  refine p_seqN ?_
  refine v_seq ?_
  refine v_seq ?_
  refine v_ops ?_
  refine s_pure (.bool ((firstOf n l a b t).2)) (fun _ q => q) ?_
  refine s_pure (.bool (!(firstOf n l a b t).2)) (fun _ q => q) ?_
  refine s_nil ?_
  refine p_seqN ?_
  refine v_cond rfl (fun c11 => ?_) (fun c11 => ?_)
  ·
    refine v_seq ?_
    refine v_ops ?_
    refine s_pure (.int .i64 0) (fun _ q => q) ?_
    refine s_pure (.bool false) (fun _ q => q) ?_
    refine s_nil ?_
    refine p_seqN ?_
    refine v_ret ?_
    refine p_seqR ?_
    refine p_ret [.int .i64 0, .bool false] (.tuple #[.int .i64 0, .bool false]) (fun _ q => q) rfl ?_
    have ho : (fogDelay n l a b t) = (0, false) := by first | exact fogDelay_no (by assumption) | exact fogDelay_yes (by assumption)
    exact ⟨by first | (rw [ho]; done) | rfl, E9⟩
  ·
    have c11 := Classical.not_not.1 c11
    refine v_skip ?_
    refine p_seqN ?_
    refine v_seq ?_
    refine v_ops ?_
    have f12 := (bxb1.ext eh8)
    refine s_load (.agg #[v_n_towers, v_n_links]) (fun _ q => f12.loadA rfl q) ?_
    refine s_pure (.int .i64 a) (fun _ q => q) ?_
    refine s_pure (.int .i64 b) (fun _ q => q) ?_
    have f13 := (f5.ext eh8)
    have f14 := (f6.ext eh8)
    refine s_call [.agg #[v_n_towers, v_n_links], .int .i64 a, .int .i64 b] rfl (impl_plainDelay_ok n v_n_towers v_n_links a b _ f13 f14 (wayAsk_plain (first_ask (by assumption : (firstOf n l a b t).2 = true)).1)) ?_
    rintro _ h15 ⟨rfl, eh15⟩
    have E16 := E9.trans eh15
    have z17 := eh15.size
    refine s_pure (.tuple #[.int .i64 ((firstOf n [] a b 0).1), .bool ((firstOf n [] a b 0).2)]) (fun _ q => q) ?_
    refine s_pure (.int .i64 ((firstOf n [] a b 0).1)) (fun _ q => q) ?_
    refine s_pure (.bool ((firstOf n [] a b 0).2)) (fun _ q => q) ?_
    refine s_pure (.int .i64 ((firstOf n [] a b 0).1)) (fun _ q => q) ?_
    refine s_pure (.bool ((firstOf n [] a b 0).2)) (fun _ q => q) ?_
    refine s_nil ?_
    refine p_seqN ?_
    refine v_seq ?_
    refine v_ops ?_
    refine s_pure (.int .i64 ((firstOf n l a b t).1)) (fun _ q => q) ?_
    refine s_pure (.int .i64 t) (fun _ q => q) ?_
    refine s_pure (.int .i64 ((firstOf n l a b t).1 - t)) (fun _ q => ArithVC.mk (by have := fogDelay_bd (by assumption : (firstOf n l a b t).2 = true); omega) q) ?_
    refine s_pure (.int .i64 ((firstOf n [] a b 0).1)) (fun _ q => q) ?_
    refine s_pure (.int .i64 (((firstOf n l a b t).1 - t) - (firstOf n [] a b 0).1)) (fun _ q => ArithVC.mk (by have := fogDelay_bd (by assumption : (firstOf n l a b t).2 = true); omega) q) ?_
    refine s_pure (.int .i64 (((firstOf n l a b t).1 - t) - (firstOf n [] a b 0).1)) (fun _ q => q) ?_
    refine s_pure (.bool true) (fun _ q => q) ?_
    refine s_nil ?_
    refine p_seqN ?_
    refine v_ret ?_
    refine p_ret [.int .i64 (((firstOf n l a b t).1 - t) - (firstOf n [] a b 0).1), .bool true] (.tuple #[.int .i64 (((firstOf n l a b t).1 - t) - (firstOf n [] a b 0).1), .bool true]) (fun _ q => q) rfl ?_
    have ho : (fogDelay n l a b t) = ((((firstOf n l a b t).1 - t) - (firstOf n [] a b 0).1), true) := by first | exact fogDelay_no (by assumption) | exact fogDelay_yes (by assumption)
    exact ⟨by first | (rw [ho]; done) | rfl, E16⟩

theorem spec_FogDelay_ok (n : NetP) (v_n_towers : Value) (v_n_links : Value) (v_l : Value) (l : List FogD) (a : Int) (b : Int) (t : Int) (h : Heap) (s_n_towers : Sl h v_n_towers n.towers) (s_n_links : Sl h v_n_links n.links) (s_l : Sl h v_l l) : Cn f_spec_FogDelay [.agg #[v_n_towers, v_n_links], v_l, .int .i64 a, .int .i64 b, .int .i64 t] h fun v h' => v = .tuple #[.int .i64 ((fogDelay n l a b t).1), .bool ((fogDelay n l a b t).2)] ∧ Ext h h' := by
  have lt_n_towers := s_n_towers.lt
  have l63_n_towers := s_n_towers.len63
  have lt_n_links := s_n_links.lt
  have l63_n_links := s_n_links.len63
  have lt_l := s_l.lt
  have l63_l := s_l.len63
  refine calls_of r_spec_FogDelay ?_
  refine v_seq ?_
  refine v_ops ?_
  refine s_box [v_n_towers, v_n_links] rfl (fun h2 b1 hbb1 hzb1 eh2 bxb1 => ?_)
  have E3 := (Ext.refl h).trans eh2
  have z4 := eh2.size
  have lbb1 := bxb1.lt
  refine s_pure (.int .i64 0) (fun _ q => q) ?_
  refine s_pure (.bool false) (fun _ q => q) ?_
  refine s_nil ?_
  refine p_seqN ?_
  refine v_seq ?_
  refine v_ops ?_
  refine s_load (.agg #[v_n_towers, v_n_links]) (fun _ q => bxb1.loadA rfl q) ?_
  refine s_pure v_l (fun _ q => q) ?_
  refine s_pure (.int .i64 a) (fun _ q => q) ?_
  refine s_pure (.int .i64 b) (fun _ q => q) ?_
  refine s_pure (.int .i64 t) (fun _ q => q) ?_
  have f5 := (s_n_towers.ext eh2)
  have f6 := (s_n_links.ext eh2)
  have f7 := (s_l.ext eh2)
  refine s_call [.agg #[v_n_towers, v_n_links], v_l, .int .i64 a, .int .i64 b, .int .i64 t] rfl (spec_FirstArrival_ok n v_n_towers v_n_links v_l l a b t _ f5 f6 f7) ?_
  rintro _ h8 ⟨rfl, eh8⟩
  have E9 := E3.trans eh8
  have z10 := eh8.size
  refine s_pure (.tuple #[.int .i64 ((firstOf n l a b t).1), .bool ((firstOf n l a b t).2)]) (fun _ q => q) ?_
  refine s_pure (.int .i64 ((firstOf n l a b t).1)) (fun _ q => q) ?_
  refine s_pure (.bool ((firstOf n l a b t).2)) (fun _ q => q) ?_
  refine s_pure (.int .i64 ((firstOf n l a b t).1)) (fun _ q => q) ?_
  refine s_pure (.bool ((firstOf n l a b t).2)) (fun _ q => q) ?_
  refine s_nil ?_
  refine p_seqN ?_
  refine v_seq ?_
  refine v_seq ?_
  refine v_ops ?_
  refine s_pure (.bool ((firstOf n l a b t).2)) (fun _ q => q) ?_
  refine s_pure (.bool (!(firstOf n l a b t).2)) (fun _ q => q) ?_
  refine s_nil ?_
  refine p_seqN ?_
  refine v_cond rfl (fun c11 => ?_) (fun c11 => ?_)
  ·
    refine v_seq ?_
    refine v_ops ?_
    refine s_pure (.int .i64 0) (fun _ q => q) ?_
    refine s_pure (.bool false) (fun _ q => q) ?_
    refine s_nil ?_
    refine p_seqN ?_
    refine v_ret ?_
    refine p_seqR ?_
    refine p_ret [.int .i64 0, .bool false] (.tuple #[.int .i64 0, .bool false]) (fun _ q => q) rfl ?_
    have ho : (fogDelay n l a b t) = (0, false) := by first | exact fogDelay_no (by assumption) | exact fogDelay_yes (by assumption)
    exact ⟨by first | (rw [ho]; done) | rfl, E9⟩
  ·
    have c11 := Classical.not_not.1 c11
    refine v_skip ?_
    refine p_seqN ?_
    refine v_seq ?_
    refine v_ops ?_
    have f12 := (bxb1.ext eh8)
    refine s_load (.agg #[v_n_towers, v_n_links]) (fun _ q => f12.loadA rfl q) ?_
    refine s_pure (.int .i64 a) (fun _ q => q) ?_
    refine s_pure (.int .i64 b) (fun _ q => q) ?_
    have f13 := (f5.ext eh8)
    have f14 := (f6.ext eh8)
    refine s_call [.agg #[v_n_towers, v_n_links], .int .i64 a, .int .i64 b] rfl (spec_PlainDelay_ok n v_n_towers v_n_links a b _ f13 f14) ?_
    rintro _ h15 ⟨rfl, eh15⟩
    have E16 := E9.trans eh15
    have z17 := eh15.size
    refine s_pure (.tuple #[.int .i64 ((firstOf n [] a b 0).1), .bool ((firstOf n [] a b 0).2)]) (fun _ q => q) ?_
    refine s_pure (.int .i64 ((firstOf n [] a b 0).1)) (fun _ q => q) ?_
    refine s_pure (.bool ((firstOf n [] a b 0).2)) (fun _ q => q) ?_
    refine s_pure (.int .i64 ((firstOf n [] a b 0).1)) (fun _ q => q) ?_
    refine s_pure (.bool ((firstOf n [] a b 0).2)) (fun _ q => q) ?_
    refine s_nil ?_
    refine p_seqN ?_
    refine v_seq ?_
    refine v_ops ?_
    refine s_pure (.int .i64 ((firstOf n l a b t).1)) (fun _ q => q) ?_
    refine s_pure (.int .i64 t) (fun _ q => q) ?_
    refine s_pure (.int .i64 ((firstOf n l a b t).1 - t)) (fun _ q => ArithVC.mk (by have := fogDelay_bd (by assumption : (firstOf n l a b t).2 = true); omega) q) ?_
    refine s_pure (.int .i64 ((firstOf n [] a b 0).1)) (fun _ q => q) ?_
    refine s_pure (.int .i64 (((firstOf n l a b t).1 - t) - (firstOf n [] a b 0).1)) (fun _ q => ArithVC.mk (by have := fogDelay_bd (by assumption : (firstOf n l a b t).2 = true); omega) q) ?_
    refine s_pure (.int .i64 (((firstOf n l a b t).1 - t) - (firstOf n [] a b 0).1)) (fun _ q => q) ?_
    refine s_pure (.bool true) (fun _ q => q) ?_
    refine s_nil ?_
    refine p_seqN ?_
    refine v_ret ?_
    refine p_ret [.int .i64 (((firstOf n l a b t).1 - t) - (firstOf n [] a b 0).1), .bool true] (.tuple #[.int .i64 (((firstOf n l a b t).1 - t) - (firstOf n [] a b 0).1), .bool true]) (fun _ q => q) rfl ?_
    have ho : (fogDelay n l a b t) = ((((firstOf n l a b t).1 - t) - (firstOf n [] a b 0).1), true) := by first | exact fogDelay_no (by assumption) | exact fogDelay_yes (by assumption)
    exact ⟨by first | (rw [ho]; done) | rfl, E16⟩

set_option maxRecDepth 10000 in
set_option maxHeartbeats 4000000 in
theorem impl_LatestStart_ok (n : NetP) (v_n_towers : Value) (v_n_links : Value) (v_l : Value) (l : List FogD) (a : Int) (b : Int) (t : Int) (h : Heap) (s_n_towers : Sl h v_n_towers n.towers) (s_n_links : Sl h v_n_links n.links) (s_l : Sl h v_l l) : Cn f_impl_LatestStart [.agg #[v_n_towers, v_n_links], v_l, .int .i64 a, .int .i64 b, .int .i64 t] h fun v h' => v = .tuple #[.int .i64 ((latest n l a b t).1), .bool ((latest n l a b t).2)] ∧ Ext h h' := by
  have lt_n_towers := s_n_towers.lt
  have l63_n_towers := s_n_towers.len63
  have lt_n_links := s_n_links.lt
  have l63_n_links := s_n_links.len63
  have lt_l := s_l.lt
  have l63_l := s_l.len63
  refine calls_of r_impl_LatestStart ?_
  refine v_seq ?_
  refine v_ops ?_
  refine s_box [v_n_towers, v_n_links] rfl (fun h2 b1 hbb1 hzb1 eh2 bxb1 => ?_)
  have E3 := (Ext.refl h).trans eh2
  have z4 := eh2.size
  have lbb1 := bxb1.lt
  refine s_pure (.int .i64 0) (fun _ q => q) ?_
  refine s_pure (.bool false) (fun _ q => q) ?_
  refine s_nil ?_
  refine p_seqN ?_
  refine v_seq ?_
  refine v_seq ?_
  refine v_ops ?_
  refine s_load (.agg #[v_n_towers, v_n_links]) (fun _ q => bxb1.loadA rfl q) ?_
  refine s_pure v_l (fun _ q => q) ?_
  refine s_pure (.int .i64 a) (fun _ q => q) ?_
  refine s_pure (.int .i64 b) (fun _ q => q) ?_
  refine s_pure (.int .i64 t) (fun _ q => q) ?_
  have f5 := (s_n_towers.ext eh2)
  have f6 := (s_n_links.ext eh2)
  have f7 := (s_l.ext eh2)
  refine s_call [.agg #[v_n_towers, v_n_links], v_l, .int .i64 a, .int .i64 b, .int .i64 t] rfl (impl_wayAsked_ok n v_n_towers v_n_links v_l l a b t _ f5 f6 f7) ?_
  rintro _ h8 ⟨rfl, eh8⟩
  have E9 := E3.trans eh8
  have z10 := eh8.size
  refine s_pure (.bool (!(decide (WayAsk n l a b t)))) (fun _ q => q) ?_
  refine s_nil ?_
  refine p_seqN ?_
  refine v_cond rfl (fun c11 => ?_) (fun c11 => ?_)
  ·
    refine v_seq ?_
    refine v_ops ?_
    refine s_pure (.int .i64 0) (fun _ q => q) ?_
    refine s_pure (.bool false) (fun _ q => q) ?_
    refine s_nil ?_
    refine p_seqN ?_
    refine v_ret ?_
    refine p_seqR ?_
    refine p_ret [.int .i64 0, .bool false] (.tuple #[.int .i64 0, .bool false]) (fun _ q => q) rfl ?_
    have ho : (latest n l a b t) = (0, false) := by first | exact latest_no (by assumption) | exact latest_no2 (by assumption) (by omega) | exact latest_yes hw (by assumption) (by assumption) (by assumption) (hl.ends (by assumption))
    exact ⟨by first | (rw [ho]; done) | rfl, E9⟩
  ·
    have c11 := Classical.not_not.1 c11
    refine v_skip ?_
    refine p_seqN ?_
    refine v_seq ?_
    refine v_seq ?_
    refine v_ops ?_
    have f12 := (bxb1.ext eh8)
    refine s_load (.agg #[v_n_towers, v_n_links]) (fun _ q => f12.loadA rfl q) ?_
    refine s_pure v_l (fun _ q => q) ?_
    refine s_pure (.int .i64 a) (fun _ q => q) ?_
    have f13 := (f5.ext eh8)
    have f14 := (f6.ext eh8)
    have f15 := (f7.ext eh8)
    refine s_call [.agg #[v_n_towers, v_n_links], v_l, .int .i64 a, .int .i64 0] rfl (impl_arrivals_ok n v_n_towers v_n_links v_l l a 0 _ f13 f14 f15 _ (by assumption : WayAsk n l a b t).hn (by assumption : WayAsk n l a b t).hf (by assumption : WayAsk n l a b t).ha (by have := (by assumption : WayAsk n l a b t).ht; omega)) ?_
    rintro r16 h17 ⟨_, rfl, s_r16, fr_r16, eh17⟩
    have E18 := E9.trans eh17
    have z19 := eh17.size
    have lt_r16 := s_r16.lt
    refine s_pure (.int .i64 b) (fun _ q => q) ?_
    have hk20 : (b).toNat < (arrOf n l a 0).length := (by (have h1 := (by assumption : WayAsk n l a b t).hb); rw [arrOf_len]; omega)
    obtain ⟨x21, hx21⟩ : ∃ x, (arrOf n l a 0)[(b).toNat]? = some x := ⟨_, List.getElem?_eq_getElem hk20⟩
    refine s_pure (.pointer (some ⟨sblk r16, soff r16 + ((b).toNat) * 1, none⟩)) (fun _ q => s_r16.idx (k := (b).toNat) (by have := (by assumption : WayAsk n l a b t).hb; omega) hk20 q) ?_
    refine s_load (.int .i64 x21) (fun _ q => s_r16.load1 hx21 rfl q) ?_
    refine s_pure (.int .i64 x21) (fun _ q => q) ?_
    refine s_nil ?_
    refine p_seqN ?_
    refine v_seq ?_
    refine v_ops ?_
    refine s_pure (.int .i64 x21) (fun _ q => q) ?_
    refine s_pure (.bool (decide (x21 < 0))) (fun _ q => q) ?_
    refine s_pure (.bool (decide (x21 < 0))) (fun _ q => q) ?_
    refine s_splitT rfl (fun c22 => ?_) (fun c22 => ?_)
    ·
      refine s_pass rfl ?_
      refine s_pass rfl ?_
      refine s_pass rfl ?_
      refine s_pure (.bool true) (fun _ q => q) ?_
      refine s_nil ?_
      refine p_seqN ?_
      refine v_condY rfl rfl ?_
      refine v_seq ?_
      refine v_ops ?_
      refine s_pure (.int .i64 0) (fun _ q => q) ?_
      refine s_pure (.bool false) (fun _ q => q) ?_
      refine s_nil ?_
      refine p_seqN ?_
      refine v_ret ?_
      refine p_seqR ?_
      refine p_ret [.int .i64 0, .bool false] (.tuple #[.int .i64 0, .bool false]) (fun _ q => q) rfl ?_
      have ho : (latest n l a b t) = (0, false) := by first | exact latest_no (by assumption) | exact latest_no2 (by assumption) (by omega) | exact latest_yes hw (by assumption) (by assumption) (by assumption) (hl.ends (by assumption))
      exact ⟨by first | (rw [ho]; done) | rfl, E18⟩
    ·
      refine s_run rfl ?_
      refine s_pure (.int .i64 x21) (fun _ q => q) ?_
      refine s_run rfl ?_
      refine s_pure (.int .i64 t) (fun _ q => q) ?_
      refine s_run rfl ?_
      refine s_pure (.bool (decide (x21 > t))) (fun _ q => q) ?_
      refine s_pure (.bool (decide (x21 > t))) (fun _ q => q) ?_
      refine s_nil ?_
      refine p_seqN ?_
      refine v_cond rfl (fun c23 => ?_) (fun c23 => ?_)
      ·
        refine v_seq ?_
        refine v_ops ?_
        refine s_pure (.int .i64 0) (fun _ q => q) ?_
        refine s_pure (.bool false) (fun _ q => q) ?_
        refine s_nil ?_
        refine p_seqN ?_
        refine v_ret ?_
        refine p_seqR ?_
        refine p_ret [.int .i64 0, .bool false] (.tuple #[.int .i64 0, .bool false]) (fun _ q => q) rfl ?_
        have ho : (latest n l a b t) = (0, false) := by first | exact latest_no (by assumption) | exact latest_no2 (by assumption) (by omega) | exact latest_yes hw (by assumption) (by assumption) (by assumption) (hl.ends (by assumption))
        exact ⟨by first | (rw [ho]; done) | rfl, E18⟩
      ·
        refine v_skip ?_
        refine p_seqN ?_
        refine v_seq ?_
        refine v_ops ?_
        refine s_pure (.int .i64 t) (fun _ q => q) ?_
        refine s_pure (.int .i64 0) (fun _ q => q) ?_
        refine s_pure (.int .i64 t) (fun _ q => q) ?_
        refine s_nil ?_
        refine p_seqN ?_
        refine v_seq ?_
        refine v_block ?_
        have hw : WayAsk n l a b t := by assumption
        have hwt := hw.ht
        have hwb := hw.hb
        have ht2 := hw.hn.t2
        have f25 := (f12.ext eh17)
        refine v_loop2 (α := Int) (β := Int) (fun lo hi => [(1, v_l), (2, .int .i64 a), (3, .int .i64 b), (4, .int .i64 t), (5, .pointer (some ⟨b1, 0, none⟩)), (13, .int .i64 lo), (14, .int .i64 hi)]) (fun lo hi hh => Ext h hh ∧ Bx hh b1 [v_n_towers, v_n_links] 32 ∧ Late n l a b t lo hi) (fun lo hi => (hi - lo).toNat) 0 t ⟨rfl, rfl, rfl, rfl, rfl, rfl, rfl⟩ ⟨E18, f25, (by exact Late.start hw.ht.1 (by (have e := gI_at (by assumption : (arrOf n l a 0)[b.toNat]? = some _)); omega))⟩ ?_
        rintro lo hi R26 h24 ⟨Eh, bxb1, hl⟩
        have zEh := Eh.size
        have f27 := s_n_towers.ext Eh
        have f28 := s_n_links.ext Eh
        have f29 := s_l.ext Eh
        have lbb1 := bxb1.lt
        have hbd := hl.bd
        refine v_seq ?_
        refine v_seq ?_
        refine v_ops ?_
        refine s_pure (.int .i64 lo) (fun _ q => q) ?_
        refine s_pure (.int .i64 hi) (fun _ q => q) ?_
        refine s_pure (.bool (decide (lo < hi))) (fun _ q => q) ?_
        refine s_nil ?_
        refine p_seqN ?_
        refine v_cond rfl (fun c30 => ?_) (fun c30 => ?_)
        ·
          refine v_skip ?_
          refine p_seqN ?_
          refine v_block ?_
          refine v_seq ?_
          refine v_ops ?_
          refine s_pure (.int .i64 lo) (fun _ q => q) ?_
          refine s_pure (.int .i64 hi) (fun _ q => q) ?_
          refine s_pure (.int .i64 (lo + hi)) (fun _ q => ArithVC.mk (by omega) q) ?_
          refine s_pure (.int .i64 ((lo + hi) + 1)) (fun _ q => ArithVC.mk (by omega) q) ?_
          refine s_pure (.int .i64 (((lo + hi) + 1) / 2)) (fun _ q => QuoVC.mk (by omega) (by omega) (by omega) q) ?_
          refine s_pure (.int .i64 (((lo + hi) + 1) / 2)) (fun _ q => q) ?_
          refine s_nil ?_
          refine p_seqN ?_
          refine v_seq ?_
          refine v_ops ?_
          refine s_load (.agg #[v_n_towers, v_n_links]) (fun _ q => bxb1.loadA rfl q) ?_
          refine s_pure v_l (fun _ q => q) ?_
          refine s_pure (.int .i64 a) (fun _ q => q) ?_
          refine s_pure (.int .i64 (((lo + hi) + 1) / 2)) (fun _ q => q) ?_
          refine s_call [.agg #[v_n_towers, v_n_links], v_l, .int .i64 a, .int .i64 (((lo + hi) + 1) / 2)] rfl (impl_arrivals_ok n v_n_towers v_n_links v_l l a (((lo + hi) + 1) / 2) _ f27 f28 f29 _ (by assumption : WayAsk n l a b t).hn (by assumption : WayAsk n l a b t).hf (by assumption : WayAsk n l a b t).ha (by have := (by assumption : WayAsk n l a b t).ht; omega)) ?_
          rintro r31 h32 ⟨_, rfl, s_r31, fr_r31, eh32⟩
          have E33 := Eh.trans eh32
          have z34 := eh32.size
          have lt_r31 := s_r31.lt
          refine s_pure (.int .i64 b) (fun _ q => q) ?_
          have hk35 : (b).toNat < (arrOf n l a (((lo + hi) + 1) / 2)).length := (by (have h1 := (by assumption : WayAsk n l a b t).hb); rw [arrOf_len]; omega)
          obtain ⟨x36, hx36⟩ : ∃ x, (arrOf n l a (((lo + hi) + 1) / 2))[(b).toNat]? = some x := ⟨_, List.getElem?_eq_getElem hk35⟩
          refine s_pure (.pointer (some ⟨sblk r31, soff r31 + ((b).toNat) * 1, none⟩)) (fun _ q => s_r31.idx (k := (b).toNat) (by have := (by assumption : WayAsk n l a b t).hb; omega) hk35 q) ?_
          refine s_load (.int .i64 x36) (fun _ q => s_r31.load1 hx36 rfl q) ?_
          refine s_pure (.int .i64 t) (fun _ q => q) ?_
          refine s_pure (.bool (decide (x36 ≤ t))) (fun _ q => q) ?_
          refine s_nil ?_
          refine p_seqN ?_
          refine v_cond rfl (fun c37 => ?_) (fun c37 => ?_)
          ·
            refine v_ops ?_
            refine s_pure (.int .i64 (((lo + hi) + 1) / 2)) (fun _ q => q) ?_
            refine s_pure (.int .i64 (((lo + hi) + 1) / 2)) (fun _ q => q) ?_
            refine s_nil ?_
            refine p_blkN ?_
            have f38 := (bxb1.ext eh32)
            exact p_lpN ⟨(((lo + hi) + 1) / 2), hi, ⟨rfl, rfl, rfl, rfl, rfl, rfl, rfl⟩, ⟨E33, f38, (by first | exact hl.up (by omega) (by (have e := gI_at hx36); omega) | exact hl.down hw (by omega) (by (have e := gI_at hx36); omega))⟩, by omega⟩
          ·
            refine v_ops ?_
            refine s_pure (.int .i64 (((lo + hi) + 1) / 2)) (fun _ q => q) ?_
            refine s_pure (.int .i64 ((((lo + hi) + 1) / 2) - 1)) (fun _ q => ArithVC.mk (by omega) q) ?_
            refine s_pure (.int .i64 ((((lo + hi) + 1) / 2) - 1)) (fun _ q => q) ?_
            refine s_nil ?_
            refine p_blkN ?_
            have f39 := (bxb1.ext eh32)
            exact p_lpN ⟨lo, ((((lo + hi) + 1) / 2) - 1), ⟨rfl, rfl, rfl, rfl, rfl, rfl, rfl⟩, ⟨E33, f39, (by first | exact hl.up (by omega) (by (have e := gI_at hx36); omega) | exact hl.down hw (by omega) (by (have e := gI_at hx36); omega))⟩, by omega⟩
        ·
          refine v_exit ?_
          refine p_seqX ?_
          refine p_lpX ?_
          refine p_blkX ?_
          refine p_seqN ?_
          refine v_seq ?_
          refine v_ops ?_
          refine s_pure (.int .i64 lo) (fun _ q => q) ?_
          refine s_pure (.int .i64 lo) (fun _ q => q) ?_
          refine s_pure (.bool true) (fun _ q => q) ?_
          refine s_nil ?_
          refine p_seqN ?_
          refine v_ret ?_
          refine p_ret [.int .i64 lo, .bool true] (.tuple #[.int .i64 lo, .bool true]) (fun _ q => q) rfl ?_
          have ho : (latest n l a b t) = (lo, true) := by first | exact latest_no (by assumption) | exact latest_no2 (by assumption) (by omega) | exact latest_yes hw (by assumption) (by assumption) (by assumption) (hl.ends (by assumption))
          exact ⟨by first | (rw [ho]; done) | rfl, Eh⟩

set_option maxRecDepth 10000 in
set_option maxHeartbeats 4000000 in
theorem spec_LatestStart_ok (n : NetP) (v_n_towers : Value) (v_n_links : Value) (v_l : Value) (l : List FogD) (a : Int) (b : Int) (t : Int) (h : Heap) (s_n_towers : Sl h v_n_towers n.towers) (s_n_links : Sl h v_n_links n.links) (s_l : Sl h v_l l) : Cn f_spec_LatestStart [.agg #[v_n_towers, v_n_links], v_l, .int .i64 a, .int .i64 b, .int .i64 t] h fun v h' => v = .tuple #[.int .i64 ((latest n l a b t).1), .bool ((latest n l a b t).2)] ∧ Ext h h' := by
  have lt_n_towers := s_n_towers.lt
  have l63_n_towers := s_n_towers.len63
  have lt_n_links := s_n_links.lt
  have l63_n_links := s_n_links.len63
  have lt_l := s_l.lt
  have l63_l := s_l.len63
  refine calls_of r_spec_LatestStart ?_
  refine v_seq ?_
  refine v_ops ?_
  refine s_box [v_n_towers, v_n_links] rfl (fun h2 b1 hbb1 hzb1 eh2 bxb1 => ?_)
  have E3 := (Ext.refl h).trans eh2
  have z4 := eh2.size
  have lbb1 := bxb1.lt
  refine s_pure (.int .i64 0) (fun _ q => q) ?_
  refine s_pure (.bool false) (fun _ q => q) ?_
  refine s_nil ?_
  refine p_seqN ?_
  refine v_seq ?_
  refine v_seq ?_
  refine v_ops ?_
  refine s_load (.agg #[v_n_towers, v_n_links]) (fun _ q => bxb1.loadA rfl q) ?_
  refine s_pure v_l (fun _ q => q) ?_
  refine s_pure (.int .i64 a) (fun _ q => q) ?_
  refine s_pure (.int .i64 b) (fun _ q => q) ?_
  refine s_pure (.int .i64 t) (fun _ q => q) ?_
  have f5 := (s_n_towers.ext eh2)
  have f6 := (s_n_links.ext eh2)
  have f7 := (s_l.ext eh2)
  refine s_call [.agg #[v_n_towers, v_n_links], v_l, .int .i64 a, .int .i64 b, .int .i64 t] rfl (spec_roAsked_ok n v_n_towers v_n_links v_l l a b t _ f5 f6 f7) ?_
  rintro _ h8 ⟨rfl, eh8⟩
  have E9 := E3.trans eh8
  have z10 := eh8.size
  refine s_pure (.bool (!(decide (WayAsk n l a b t)))) (fun _ q => q) ?_
  refine s_nil ?_
  refine p_seqN ?_
  refine v_cond rfl (fun c11 => ?_) (fun c11 => ?_)
  ·
    refine v_seq ?_
    refine v_ops ?_
    refine s_pure (.int .i64 0) (fun _ q => q) ?_
    refine s_pure (.bool false) (fun _ q => q) ?_
    refine s_nil ?_
    refine p_seqN ?_
    refine v_ret ?_
    refine p_seqR ?_
    refine p_ret [.int .i64 0, .bool false] (.tuple #[.int .i64 0, .bool false]) (fun _ q => q) rfl ?_
    have ho : (latest n l a b t) = (0, false) := by first | exact latest_no (by assumption) | exact latest_no2 (by assumption) (by omega) | exact latest_yes hw (by assumption) (by assumption) (by assumption) (hl.ends (by assumption))
    exact ⟨by first | (rw [ho]; done) | rfl, E9⟩
  ·
    have c11 := Classical.not_not.1 c11
    refine v_skip ?_
    refine p_seqN ?_
    refine v_seq ?_
    refine v_seq ?_
    refine v_ops ?_
    have f12 := (bxb1.ext eh8)
    refine s_load (.agg #[v_n_towers, v_n_links]) (fun _ q => f12.loadA rfl q) ?_
    refine s_pure v_l (fun _ q => q) ?_
    refine s_pure (.int .i64 a) (fun _ q => q) ?_
    have f13 := (f5.ext eh8)
    have f14 := (f6.ext eh8)
    have f15 := (f7.ext eh8)
    refine s_call [.agg #[v_n_towers, v_n_links], v_l, .int .i64 a, .int .i64 0] rfl (spec_roFirst_ok n v_n_towers v_n_links v_l l a 0 _ f13 f14 f15 _ (by assumption : WayAsk n l a b t).hn (by assumption : WayAsk n l a b t).hf (by assumption : WayAsk n l a b t).ha (by have := (by assumption : WayAsk n l a b t).ht; omega)) ?_
    rintro r16 h17 ⟨_, rfl, s_r16, fr_r16, eh17⟩
    have E18 := E9.trans eh17
    have z19 := eh17.size
    have lt_r16 := s_r16.lt
    refine s_pure r16 (fun _ q => q) ?_
    refine s_nil ?_
    refine p_seqN ?_
    refine v_seq ?_
    refine v_ops ?_
    refine s_pure r16 (fun _ q => q) ?_
    refine s_pure (.int .i64 b) (fun _ q => q) ?_
    have hk20 : (b).toNat < (arrOf n l a 0).length := (by (have h1 := (by assumption : WayAsk n l a b t).hb); rw [arrOf_len]; omega)
    obtain ⟨x21, hx21⟩ : ∃ x, (arrOf n l a 0)[(b).toNat]? = some x := ⟨_, List.getElem?_eq_getElem hk20⟩
    refine s_pure (.pointer (some ⟨sblk r16, soff r16 + ((b).toNat) * 1, none⟩)) (fun _ q => s_r16.idx (k := (b).toNat) (by have := (by assumption : WayAsk n l a b t).hb; omega) hk20 q) ?_
    refine s_load (.int .i64 x21) (fun _ q => s_r16.load1 hx21 rfl q) ?_
    refine s_pure (.bool (decide (x21 < 0))) (fun _ q => q) ?_
    refine s_pure (.bool (decide (x21 < 0))) (fun _ q => q) ?_
    refine s_splitT rfl (fun c22 => ?_) (fun c22 => ?_)
    ·
      refine s_pass rfl ?_
      refine s_pass rfl ?_
      refine s_pass rfl ?_
      refine s_pass rfl ?_
      refine s_pass rfl ?_
      refine s_pass rfl ?_
      refine s_pure (.bool true) (fun _ q => q) ?_
      refine s_nil ?_
      refine p_seqN ?_
      refine v_condY rfl rfl ?_
      refine v_seq ?_
      refine v_ops ?_
      refine s_pure (.int .i64 0) (fun _ q => q) ?_
      refine s_pure (.bool false) (fun _ q => q) ?_
      refine s_nil ?_
      refine p_seqN ?_
      refine v_ret ?_
      refine p_seqR ?_
      refine p_ret [.int .i64 0, .bool false] (.tuple #[.int .i64 0, .bool false]) (fun _ q => q) rfl ?_
      have ho : (latest n l a b t) = (0, false) := by first | exact latest_no (by assumption) | exact latest_no2 (by assumption) (by omega) | exact latest_yes hw (by assumption) (by assumption) (by assumption) (hl.ends (by assumption))
      exact ⟨by first | (rw [ho]; done) | rfl, E18⟩
    ·
      refine s_run rfl ?_
      refine s_pure r16 (fun _ q => q) ?_
      refine s_run rfl ?_
      refine s_pure (.int .i64 b) (fun _ q => q) ?_
      refine s_run rfl ?_
      refine s_pure (.pointer (some ⟨sblk r16, soff r16 + ((b).toNat) * 1, none⟩)) (fun _ q => s_r16.idx (k := (b).toNat) (by have := (by assumption : WayAsk n l a b t).hb; omega) hk20 q) ?_
      refine s_run rfl ?_
      refine s_load (.int .i64 x21) (fun _ q => s_r16.load1 hx21 rfl q) ?_
      refine s_run rfl ?_
      refine s_pure (.int .i64 t) (fun _ q => q) ?_
      refine s_run rfl ?_
      refine s_pure (.bool (decide (x21 > t))) (fun _ q => q) ?_
      refine s_pure (.bool (decide (x21 > t))) (fun _ q => q) ?_
      refine s_nil ?_
      refine p_seqN ?_
      refine v_cond rfl (fun c23 => ?_) (fun c23 => ?_)
      ·
        refine v_seq ?_
        refine v_ops ?_
        refine s_pure (.int .i64 0) (fun _ q => q) ?_
        refine s_pure (.bool false) (fun _ q => q) ?_
        refine s_nil ?_
        refine p_seqN ?_
        refine v_ret ?_
        refine p_seqR ?_
        refine p_ret [.int .i64 0, .bool false] (.tuple #[.int .i64 0, .bool false]) (fun _ q => q) rfl ?_
        have ho : (latest n l a b t) = (0, false) := by first | exact latest_no (by assumption) | exact latest_no2 (by assumption) (by omega) | exact latest_yes hw (by assumption) (by assumption) (by assumption) (hl.ends (by assumption))
        exact ⟨by first | (rw [ho]; done) | rfl, E18⟩
      ·
        refine v_skip ?_
        refine p_seqN ?_
        refine v_seq ?_
        refine v_ops ?_
        refine s_pure (.int .i64 t) (fun _ q => q) ?_
        refine s_pure (.int .i64 0) (fun _ q => q) ?_
        refine s_pure (.int .i64 t) (fun _ q => q) ?_
        refine s_nil ?_
        refine p_seqN ?_
        refine v_seq ?_
        refine v_block ?_
        have hw : WayAsk n l a b t := by assumption
        have hwt := hw.ht
        have hwb := hw.hb
        have ht2 := hw.hn.t2
        have f25 := (f12.ext eh17)
        refine v_loop2 (α := Int) (β := Int) (fun lo hi => [(1, v_l), (2, .int .i64 a), (3, .int .i64 b), (4, .int .i64 t), (5, .pointer (some ⟨b1, 0, none⟩)), (13, .int .i64 lo), (14, .int .i64 hi)]) (fun lo hi hh => Ext h hh ∧ Bx hh b1 [v_n_towers, v_n_links] 32 ∧ Late n l a b t lo hi) (fun lo hi => (hi - lo).toNat) 0 t ⟨rfl, rfl, rfl, rfl, rfl, rfl, rfl⟩ ⟨E18, f25, (by exact Late.start hw.ht.1 (by (have e := gI_at (by assumption : (arrOf n l a 0)[b.toNat]? = some _)); omega))⟩ ?_
        rintro lo hi R26 h24 ⟨Eh, bxb1, hl⟩
        have zEh := Eh.size
        have f27 := s_n_towers.ext Eh
        have f28 := s_n_links.ext Eh
        have f29 := s_l.ext Eh
        have lbb1 := bxb1.lt
        have hbd := hl.bd
        refine v_seq ?_
        refine v_seq ?_
        refine v_ops ?_
        refine s_pure (.int .i64 lo) (fun _ q => q) ?_
        refine s_pure (.int .i64 hi) (fun _ q => q) ?_
        refine s_pure (.bool (decide (lo < hi))) (fun _ q => q) ?_
        refine s_nil ?_
        refine p_seqN ?_
        refine v_cond rfl (fun c30 => ?_) (fun c30 => ?_)
        ·
          refine v_skip ?_
          refine p_seqN ?_
          refine v_block ?_
          refine v_seq ?_
          refine v_ops ?_
          refine s_pure (.int .i64 lo) (fun _ q => q) ?_
          refine s_pure (.int .i64 hi) (fun _ q => q) ?_
          refine s_pure (.int .i64 (lo + hi)) (fun _ q => ArithVC.mk (by omega) q) ?_
          refine s_pure (.int .i64 ((lo + hi) + 1)) (fun _ q => ArithVC.mk (by omega) q) ?_
          refine s_pure (.int .i64 (((lo + hi) + 1) / 2)) (fun _ q => QuoVC.mk (by omega) (by omega) (by omega) q) ?_
          refine s_pure (.int .i64 (((lo + hi) + 1) / 2)) (fun _ q => q) ?_
          refine s_nil ?_
          refine p_seqN ?_
          refine v_seq ?_
          refine v_ops ?_
          refine s_load (.agg #[v_n_towers, v_n_links]) (fun _ q => bxb1.loadA rfl q) ?_
          refine s_pure v_l (fun _ q => q) ?_
          refine s_pure (.int .i64 a) (fun _ q => q) ?_
          refine s_pure (.int .i64 (((lo + hi) + 1) / 2)) (fun _ q => q) ?_
          refine s_call [.agg #[v_n_towers, v_n_links], v_l, .int .i64 a, .int .i64 (((lo + hi) + 1) / 2)] rfl (spec_roFirst_ok n v_n_towers v_n_links v_l l a (((lo + hi) + 1) / 2) _ f27 f28 f29 _ (by assumption : WayAsk n l a b t).hn (by assumption : WayAsk n l a b t).hf (by assumption : WayAsk n l a b t).ha (by have := (by assumption : WayAsk n l a b t).ht; omega)) ?_
          rintro r31 h32 ⟨_, rfl, s_r31, fr_r31, eh32⟩
          have E33 := Eh.trans eh32
          have z34 := eh32.size
          have lt_r31 := s_r31.lt
          refine s_pure (.int .i64 b) (fun _ q => q) ?_
          have hk35 : (b).toNat < (arrOf n l a (((lo + hi) + 1) / 2)).length := (by (have h1 := (by assumption : WayAsk n l a b t).hb); rw [arrOf_len]; omega)
          obtain ⟨x36, hx36⟩ : ∃ x, (arrOf n l a (((lo + hi) + 1) / 2))[(b).toNat]? = some x := ⟨_, List.getElem?_eq_getElem hk35⟩
          refine s_pure (.pointer (some ⟨sblk r31, soff r31 + ((b).toNat) * 1, none⟩)) (fun _ q => s_r31.idx (k := (b).toNat) (by have := (by assumption : WayAsk n l a b t).hb; omega) hk35 q) ?_
          refine s_load (.int .i64 x36) (fun _ q => s_r31.load1 hx36 rfl q) ?_
          refine s_pure (.int .i64 t) (fun _ q => q) ?_
          refine s_pure (.bool (decide (x36 ≤ t))) (fun _ q => q) ?_
          refine s_nil ?_
          refine p_seqN ?_
          refine v_cond rfl (fun c37 => ?_) (fun c37 => ?_)
          ·
            refine v_ops ?_
            refine s_pure (.int .i64 (((lo + hi) + 1) / 2)) (fun _ q => q) ?_
            refine s_pure (.int .i64 (((lo + hi) + 1) / 2)) (fun _ q => q) ?_
            refine s_nil ?_
            refine p_blkN ?_
            have f38 := (bxb1.ext eh32)
            exact p_lpN ⟨(((lo + hi) + 1) / 2), hi, ⟨rfl, rfl, rfl, rfl, rfl, rfl, rfl⟩, ⟨E33, f38, (by first | exact hl.up (by omega) (by (have e := gI_at hx36); omega) | exact hl.down hw (by omega) (by (have e := gI_at hx36); omega))⟩, by omega⟩
          ·
            refine v_ops ?_
            refine s_pure (.int .i64 (((lo + hi) + 1) / 2)) (fun _ q => q) ?_
            refine s_pure (.int .i64 ((((lo + hi) + 1) / 2) - 1)) (fun _ q => ArithVC.mk (by omega) q) ?_
            refine s_pure (.int .i64 ((((lo + hi) + 1) / 2) - 1)) (fun _ q => q) ?_
            refine s_nil ?_
            refine p_blkN ?_
            have f39 := (bxb1.ext eh32)
            exact p_lpN ⟨lo, ((((lo + hi) + 1) / 2) - 1), ⟨rfl, rfl, rfl, rfl, rfl, rfl, rfl⟩, ⟨E33, f39, (by first | exact hl.up (by omega) (by (have e := gI_at hx36); omega) | exact hl.down hw (by omega) (by (have e := gI_at hx36); omega))⟩, by omega⟩
        ·
          refine v_exit ?_
          refine p_seqX ?_
          refine p_lpX ?_
          refine p_blkX ?_
          refine p_seqN ?_
          refine v_seq ?_
          refine v_ops ?_
          refine s_pure (.int .i64 lo) (fun _ q => q) ?_
          refine s_pure (.int .i64 lo) (fun _ q => q) ?_
          refine s_pure (.bool true) (fun _ q => q) ?_
          refine s_nil ?_
          refine p_seqN ?_
          refine v_ret ?_
          refine p_ret [.int .i64 lo, .bool true] (.tuple #[.int .i64 lo, .bool true]) (fun _ q => q) rfl ?_
          have ho : (latest n l a b t) = (lo, true) := by first | exact latest_no (by assumption) | exact latest_no2 (by assumption) (by omega) | exact latest_yes hw (by assumption) (by assumption) (by assumption) (hl.ends (by assumption))
          exact ⟨by first | (rw [ho]; done) | rfl, Eh⟩

theorem impl_ArrivalsFrom_ok (n : NetP) (v_n_towers : Value) (v_n_links : Value) (v_l : Value) (l : List FogD) (a : Int) (t : Int) (h : Heap) (s_n_towers : Sl h v_n_towers n.towers) (s_n_links : Sl h v_n_links n.links) (s_l : Sl h v_l l) : Cn f_impl_ArrivalsFrom [.agg #[v_n_towers, v_n_links], v_l, .int .i64 a, .int .i64 t] h fun v h' => ∃ r0 : Value, v = .tuple #[r0, .bool ((arrsFrom n l a t).2)] ∧ SlO h' r0 ((arrsFrom n l a t).1) ∧ Fr h.size r0 ∧ Ext h h' := by
  have lt_n_towers := s_n_towers.lt
  have l63_n_towers := s_n_towers.len63
  have lt_n_links := s_n_links.lt
  have l63_n_links := s_n_links.len63
  have lt_l := s_l.lt
  have l63_l := s_l.len63
  refine calls_of r_impl_ArrivalsFrom ?_
  refine v_seq ?_
  refine v_ops ?_
  refine s_box [v_n_towers, v_n_links] rfl (fun h2 b1 hbb1 hzb1 eh2 bxb1 => ?_)
  have E3 := (Ext.refl h).trans eh2
  have z4 := eh2.size
  have lbb1 := bxb1.lt
  refine s_pure (.slice none 0 0) (fun _ q => q) ?_
  refine s_pure (.bool false) (fun _ q => q) ?_
  refine s_nil ?_
  refine p_seqN ?_
  refine v_seq ?_
  refine v_seq ?_
  refine v_ops ?_
  refine s_load (.agg #[v_n_towers, v_n_links]) (fun _ q => bxb1.loadA rfl q) ?_
  refine s_pure v_l (fun _ q => q) ?_
  refine s_pure (.int .i64 a) (fun _ q => q) ?_
  refine s_pure (.int .i64 a) (fun _ q => q) ?_
  refine s_pure (.int .i64 t) (fun _ q => q) ?_
  have f5 := (s_n_towers.ext eh2)
  have f6 := (s_n_links.ext eh2)
  have f7 := (s_l.ext eh2)
  refine s_call [.agg #[v_n_towers, v_n_links], v_l, .int .i64 a, .int .i64 a, .int .i64 t] rfl (impl_wayAsked_ok n v_n_towers v_n_links v_l l a a t _ f5 f6 f7) ?_
  rintro _ h8 ⟨rfl, eh8⟩
  have E9 := E3.trans eh8
  have z10 := eh8.size
  refine s_pure (.bool (!(decide (WayAsk n l a a t)))) (fun _ q => q) ?_
  refine s_nil ?_
  refine p_seqN ?_
  refine v_cond rfl (fun c11 => ?_) (fun c11 => ?_)
  ·
    refine v_seq ?_
    refine v_ops ?_
    refine s_pure (.slice none 0 0) (fun _ q => q) ?_
    refine s_pure (.bool false) (fun _ q => q) ?_
    refine s_nil ?_
    refine p_seqN ?_
    refine v_ret ?_
    refine p_seqR ?_
    refine p_ret [.slice none 0 0, .bool false] (.tuple #[.slice none 0 0, .bool false]) (fun _ q => q) rfl ?_
    have ho : (arrsFrom n l a t) = ([], false) := by first | exact arrs_no (by assumption) | exact arrs_yes (by assumption)
    exact ⟨(.slice none 0 0), by first | (rw [ho]; done) | rfl, sl_eq (SlX.nil (α := Int) true _) (congrArg (fun o => o.1) ho).symm, Fr.nil _, E9⟩
  ·
    have c11 := Classical.not_not.1 c11
    refine v_skip ?_
    refine p_seqN ?_
    refine v_seq ?_
    refine v_ops ?_
    have f12 := (bxb1.ext eh8)
    refine s_load (.agg #[v_n_towers, v_n_links]) (fun _ q => f12.loadA rfl q) ?_
    refine s_pure v_l (fun _ q => q) ?_
    refine s_pure (.int .i64 a) (fun _ q => q) ?_
    refine s_pure (.int .i64 t) (fun _ q => q) ?_
    have f13 := (f5.ext eh8)
    have f14 := (f6.ext eh8)
    have f15 := (f7.ext eh8)
    refine s_call [.agg #[v_n_towers, v_n_links], v_l, .int .i64 a, .int .i64 t] rfl (impl_arrivals_ok n v_n_towers v_n_links v_l l a t _ f13 f14 f15 _ (by assumption : WayAsk n l a a t).hn (by assumption : WayAsk n l a a t).hf (by assumption : WayAsk n l a a t).ha (by assumption : WayAsk n l a a t).ht) ?_
    rintro r16 h17 ⟨_, rfl, s_r16, fr_r16, eh17⟩
    have E18 := E9.trans eh17
    have z19 := eh17.size
    have lt_r16 := s_r16.lt
    refine s_pure r16 (fun _ q => q) ?_
    refine s_pure (.bool true) (fun _ q => q) ?_
    refine s_nil ?_
    refine p_seqN ?_
    refine v_ret ?_
    refine p_ret [r16, .bool true] (.tuple #[r16, .bool true]) (fun _ q => q) rfl ?_
    have ho : (arrsFrom n l a t) = ((arrOf n l a t), true) := by first | exact arrs_no (by assumption) | exact arrs_yes (by assumption)
    exact ⟨r16, by first | (rw [ho]; done) | rfl, sl_eq s_r16 (congrArg (fun o => o.1) ho).symm, fr_r16.mono (by omega), E18⟩

theorem spec_ArrivalsFrom_ok (n : NetP) (v_n_towers : Value) (v_n_links : Value) (v_l : Value) (l : List FogD) (a : Int) (t : Int) (h : Heap) (s_n_towers : Sl h v_n_towers n.towers) (s_n_links : Sl h v_n_links n.links) (s_l : Sl h v_l l) : Cn f_spec_ArrivalsFrom [.agg #[v_n_towers, v_n_links], v_l, .int .i64 a, .int .i64 t] h fun v h' => ∃ r0 : Value, v = .tuple #[r0, .bool ((arrsFrom n l a t).2)] ∧ SlO h' r0 ((arrsFrom n l a t).1) ∧ Fr h.size r0 ∧ Ext h h' := by
  have lt_n_towers := s_n_towers.lt
  have l63_n_towers := s_n_towers.len63
  have lt_n_links := s_n_links.lt
  have l63_n_links := s_n_links.len63
  have lt_l := s_l.lt
  have l63_l := s_l.len63
  refine calls_of r_spec_ArrivalsFrom ?_
  refine v_seq ?_
  refine v_ops ?_
  refine s_box [v_n_towers, v_n_links] rfl (fun h2 b1 hbb1 hzb1 eh2 bxb1 => ?_)
  have E3 := (Ext.refl h).trans eh2
  have z4 := eh2.size
  have lbb1 := bxb1.lt
  refine s_pure (.slice none 0 0) (fun _ q => q) ?_
  refine s_pure (.bool false) (fun _ q => q) ?_
  refine s_nil ?_
  refine p_seqN ?_
  refine v_seq ?_
  refine v_seq ?_
  refine v_ops ?_
  refine s_load (.agg #[v_n_towers, v_n_links]) (fun _ q => bxb1.loadA rfl q) ?_
  refine s_pure v_l (fun _ q => q) ?_
  refine s_pure (.int .i64 t) (fun _ q => q) ?_
  have f5 := (s_n_towers.ext eh2)
  have f6 := (s_n_links.ext eh2)
  have f7 := (s_l.ext eh2)
  refine s_call [.agg #[v_n_towers, v_n_links], v_l, .int .i64 t] rfl (spec_roGood_ok n v_n_towers v_n_links v_l l t _ f5 f6 f7) ?_
  rintro _ h8 ⟨rfl, eh8⟩
  have E9 := E3.trans eh8
  have z10 := eh8.size
  refine s_pure (.bool (!(decide (NetOk n ∧ FogsOk n.links.length l ∧ (0 ≤ t ∧ t ≤ 10000))))) (fun _ q => q) ?_
  refine s_pure (.bool (!(decide (NetOk n ∧ FogsOk n.links.length l ∧ (0 ≤ t ∧ t ≤ 10000))))) (fun _ q => q) ?_
  refine s_splitT rfl (fun c11 => ?_) (fun c11 => ?_)
  ·
    refine s_pass rfl ?_
    refine s_pass rfl ?_
    refine s_pass rfl ?_
    refine s_pass rfl ?_
    refine s_pure (.bool true) (fun _ q => q) ?_
    refine s_nil ?_
    refine p_seqN ?_
    refine v_condY rfl rfl ?_
    refine v_seq ?_
    refine v_ops ?_
    refine s_pure (.slice none 0 0) (fun _ q => q) ?_
    refine s_pure (.bool false) (fun _ q => q) ?_
    refine s_nil ?_
    refine p_seqN ?_
    refine v_ret ?_
    refine p_seqR ?_
    refine p_ret [.slice none 0 0, .bool false] (.tuple #[.slice none 0 0, .bool false]) (fun _ q => q) rfl ?_
    have ho : (arrsFrom n l a t) = ([], false) := by first | exact arrs_no (fun h => (by assumption : ¬ (NetOk n ∧ FogsOk n.links.length l ∧ _)) ⟨h.hn, h.hf, h.ht⟩) | exact arrs_no (fun h => (by assumption : ¬ (0 ≤ a ∧ _)) h.ha) | exact arrs_yes (wayAsk_iff.2 ⟨(by assumption : NetOk n ∧ FogsOk n.links.length l ∧ _).1, (by assumption), (by assumption), (by assumption : NetOk n ∧ FogsOk n.links.length l ∧ _).2.1, (by assumption : NetOk n ∧ FogsOk n.links.length l ∧ _).2.2⟩)
    exact ⟨(.slice none 0 0), by first | (rw [ho]; done) | rfl, sl_eq (SlX.nil (α := Int) true _) (congrArg (fun o => o.1) ho).symm, Fr.nil _, E9⟩
  ·
    have c11 := Classical.not_not.1 c11
    refine s_run rfl ?_
    have f12 := (bxb1.ext eh8)
    refine s_load (.agg #[v_n_towers, v_n_links]) (fun _ q => f12.loadA rfl q) ?_
    refine s_run rfl ?_
    refine s_pure (.int .i64 a) (fun _ q => q) ?_
    refine s_run rfl ?_
    have f13 := (f5.ext eh8)
    have f14 := (f6.ext eh8)
    refine s_call [.agg #[v_n_towers, v_n_links], .int .i64 a] rfl (spec_roTower_ok n v_n_towers v_n_links a _ f13 f14) ?_
    rintro _ h15 ⟨rfl, eh15⟩
    have E16 := E9.trans eh15
    have z17 := eh15.size
    refine s_run rfl ?_
    refine s_pure (.bool (!(decide (0 ≤ a ∧ a ≤ (n.towers.length : Int) - 1)))) (fun _ q => q) ?_
    refine s_pure (.bool (!(decide (0 ≤ a ∧ a ≤ (n.towers.length : Int) - 1)))) (fun _ q => q) ?_
    refine s_nil ?_
    refine p_seqN ?_
    refine v_cond rfl (fun c18 => ?_) (fun c18 => ?_)
    ·
      refine v_seq ?_
      refine v_ops ?_
      refine s_pure (.slice none 0 0) (fun _ q => q) ?_
      refine s_pure (.bool false) (fun _ q => q) ?_
      refine s_nil ?_
      refine p_seqN ?_
      refine v_ret ?_
      refine p_seqR ?_
      refine p_ret [.slice none 0 0, .bool false] (.tuple #[.slice none 0 0, .bool false]) (fun _ q => q) rfl ?_
      have ho : (arrsFrom n l a t) = ([], false) := by first | exact arrs_no (fun h => (by assumption : ¬ (NetOk n ∧ FogsOk n.links.length l ∧ _)) ⟨h.hn, h.hf, h.ht⟩) | exact arrs_no (fun h => (by assumption : ¬ (0 ≤ a ∧ _)) h.ha) | exact arrs_yes (wayAsk_iff.2 ⟨(by assumption : NetOk n ∧ FogsOk n.links.length l ∧ _).1, (by assumption), (by assumption), (by assumption : NetOk n ∧ FogsOk n.links.length l ∧ _).2.1, (by assumption : NetOk n ∧ FogsOk n.links.length l ∧ _).2.2⟩)
      exact ⟨(.slice none 0 0), by first | (rw [ho]; done) | rfl, sl_eq (SlX.nil (α := Int) true _) (congrArg (fun o => o.1) ho).symm, Fr.nil _, E16⟩
    ·
      have c18 := Classical.not_not.1 c18
      refine v_skip ?_
      refine p_seqN ?_
      refine v_seq ?_
      refine v_ops ?_
      have f19 := (f12.ext eh15)
      refine s_load (.agg #[v_n_towers, v_n_links]) (fun _ q => f19.loadA rfl q) ?_
      refine s_pure v_l (fun _ q => q) ?_
      refine s_pure (.int .i64 a) (fun _ q => q) ?_
      refine s_pure (.int .i64 t) (fun _ q => q) ?_
      have f20 := (f13.ext eh15)
      have f21 := (f14.ext eh15)
      have f22 := ((f7.ext eh8).ext eh15)
      refine s_call [.agg #[v_n_towers, v_n_links], v_l, .int .i64 a, .int .i64 t] rfl (spec_roFirst_ok n v_n_towers v_n_links v_l l a t _ f20 f21 f22 _ (by assumption : NetOk n ∧ FogsOk n.links.length l ∧ _).1 (by assumption : NetOk n ∧ FogsOk n.links.length l ∧ _).2.1 (by assumption) (by assumption : NetOk n ∧ FogsOk n.links.length l ∧ _).2.2) ?_
      rintro r23 h24 ⟨_, rfl, s_r23, fr_r23, eh24⟩
      have E25 := E16.trans eh24
      have z26 := eh24.size
      have lt_r23 := s_r23.lt
      refine s_pure r23 (fun _ q => q) ?_
      refine s_pure (.bool true) (fun _ q => q) ?_
      refine s_nil ?_
      refine p_seqN ?_
      refine v_ret ?_
      refine p_ret [r23, .bool true] (.tuple #[r23, .bool true]) (fun _ q => q) rfl ?_
      have ho : (arrsFrom n l a t) = ((arrOf n l a t), true) := by first | exact arrs_no (fun h => (by assumption : ¬ (NetOk n ∧ FogsOk n.links.length l ∧ _)) ⟨h.hn, h.hf, h.ht⟩) | exact arrs_no (fun h => (by assumption : ¬ (0 ≤ a ∧ _)) h.ha) | exact arrs_yes (wayAsk_iff.2 ⟨(by assumption : NetOk n ∧ FogsOk n.links.length l ∧ _).1, (by assumption), (by assumption), (by assumption : NetOk n ∧ FogsOk n.links.length l ∧ _).2.1, (by assumption : NetOk n ∧ FogsOk n.links.length l ∧ _).2.2⟩)
      exact ⟨r23, by first | (rw [ho]; done) | rfl, sl_eq s_r23 (congrArg (fun o => o.1) ho).symm, fr_r23.mono (by omega), E25⟩

theorem slices_Clone_Limpl_Link_impl_Link_ok (v_l : Value) (l : List LinkD) (h : Heap) (s_l : Sl h v_l l) (bl : l.length ≤ 2000000) : Cn f_slices_Clone_Limpl_Link_impl_Link [v_l] h fun v h' => ∃ r0 : Value, v = r0 ∧ SlO h' r0 l ∧ Fr h.size r0 ∧ Ext h h' := by
  have lt_l := s_l.lt
  have l63_l := s_l.len63
  refine calls_of r_slices_Clone_Limpl_Link_impl_Link ?_
  refine v_seq ?_
  refine v_ops ?_
  refine s_pure (.slice none 0 0) (fun _ q => q) ?_
  refine s_nil ?_
  refine p_seqN ?_
  refine v_seq ?_
  refine v_seq ?_
  refine v_ops ?_
  refine s_pure v_l (fun _ q => q) ?_
  obtain ⟨nb1, nqnb1, hnnb1⟩ := s_l.isNil
  refine s_pure (.bool nb1) (fun K q => nqnb1 false K q) ?_
  refine s_nil ?_
  refine p_seqN ?_
  refine v_cond rfl (fun c2 => ?_) (fun c2 => ?_)
  ·
    refine v_seq ?_
    refine v_ops ?_
    refine s_pure (.slice none 0 0) (fun _ q => q) ?_
    refine s_nil ?_
    refine p_seqN ?_
    refine v_ret ?_
    refine p_seqR ?_
    refine p_ret [.slice none 0 0] (.slice none 0 0) (fun _ q => q) rfl ?_
    have ho : l = [] := by first | exact hnnb1 (by assumption) | simp
    exact ⟨(.slice none 0 0), by first | (rw [ho]; done) | rfl, sl_eq (SlX.nil (α := LinkD) true _) (congrArg (fun o => o) ho).symm, Fr.nil _, (Ext.refl h)⟩
  ·
    refine v_skip ?_
    refine p_seqN ?_
    refine v_seq ?_
    refine v_ops ?_
    refine s_row (α := LinkD) [] (fun _ q => seg_nil q) rfl (by simp [maxLen]) (fun r3 h4 eh4 zh4 s_r3 fr_r3 => ?_)
    have E5 := (Ext.refl h).trans eh4
    have z6 := eh4.size
    have lt_r3 := s_r3.lt
    refine s_pure v_l (fun _ q => q) ?_
    have f7 := (s_l.ext eh4)
    refine s_app s_r3 f7 rfl rfl rfl (by simpa using s_l.len_le) (by have := s_l.len_le; simp [maxLen] at *; omega) (fun r8 h9 mh9 zh9 s_r8 ab_r8 => ?_)
    have E10 := E5.mod mh9 (fun b hb => by have := fr_r3 b hb; omega)
    have fr_r8 := fr_r3.app ab_r8 (by omega)
    have lt_r8 := s_r8.lt
    refine s_pure r8 (fun _ q => q) ?_
    refine s_nil ?_
    refine p_seqN ?_
    refine v_ret ?_
    refine p_ret [r8] r8 (fun _ q => q) rfl ?_
    have ho : l = ([] ++ l) := by first | exact hnnb1 (by assumption) | simp
    exact ⟨r8, by first | (rw [ho]; done) | rfl, sl_eq s_r8 (congrArg (fun o => o) ho).symm, fr_r8.mono (by omega), E10⟩

theorem slices_Delete_Limpl_Link_impl_Link_ok (v_l : Value) (l : List LinkD) (i : Int) (j : Int) (h : Heap) (s_l : SlO h v_l l) (hi : 0 ≤ i ∧ i < j ∧ j ≤ (l.length : Int)) (bl : l.length ≤ 2000000) : Cn f_slices_Delete_Limpl_Link_impl_Link [v_l, .int .i64 i, .int .i64 j] h fun v h' => ∃ r0 : Value, v = r0 ∧ SlO h' r0 (l.take i.toNat ++ l.drop j.toNat) ∧ Mod (blks v_l) h h' ∧ ∀ b ∈ blks r0, b ∈ (blks v_l) ∨ h.size ≤ b := by
  have lt_l := s_l.lt
  have l63_l := s_l.len63
  obtain ⟨a_l, c_l, hv_l, hc_l⟩ := s_l.shape2
  refine calls_of r_slices_Delete_Limpl_Link_impl_Link ?_
  refine v_seq ?_
  refine v_ops ?_
  refine s_pure (.slice none 0 0) (fun _ q => q) ?_
  refine s_nil ?_
  refine p_seqN ?_
  refine v_seq ?_
  refine v_ops ?_
  refine s_pure v_l (fun _ q => q) ?_
  refine s_pure (.int .i64 i) (fun _ q => q) ?_
  refine s_pure (.int .i64 j) (fun _ q => q) ?_
  refine s_pure v_l (fun _ q => q) ?_
  refine s_pure (.int .i64 (l.length : Int)) (fun _ q => s_l.lenVC q) ?_
  obtain ⟨r1, hqr1⟩ := s_l.b3 (l := i.toNat) (m := j.toNat) (sz := 3) (by omega) (by omega)
  refine s_pure r1 (fun _ q => hqr1 (by omega) (by omega) (by rfl) q) ?_
  refine s_nil ?_
  refine p_seqN ?_
  refine v_seq ?_
  refine v_seq ?_
  refine v_ops ?_
  refine s_pure (.int .i64 i) (fun _ q => q) ?_
  refine s_pure (.int .i64 j) (fun _ q => q) ?_
  refine s_pure (.bool (i == j)) (fun _ q => q) ?_
  refine s_nil ?_
  refine p_seqN ?_
  refine v_cond rfl (fun c2 => ?_) (fun c2 => ?_)
  ·
    refine v_seq ?_
    refine v_ops ?_
    refine s_pure v_l (fun _ q => q) ?_
    refine s_pure v_l (fun _ q => q) ?_
    refine s_nil ?_
    refine p_seqN ?_
    refine v_ret ?_
    refine p_seqR ?_
    refine p_ret [v_l] v_l (fun _ q => q) rfl ?_
    have ho : (l.take i.toNat ++ l.drop j.toNat) = l := by first | rfl | (exfalso; omega)
    exact ⟨v_l, by first | (rw [ho]; done) | rfl, sl_eq s_l (congrArg (fun o => o) ho).symm, (Mod.refl (blks v_l) h), (fun b hb => Or.inl hb)⟩
  ·
    refine v_skip ?_
    refine p_seqN ?_
    refine v_seq ?_
    refine v_ops ?_
    refine s_pure v_l (fun _ q => q) ?_
    refine s_pure (.int .i64 (l.length : Int)) (fun _ q => s_l.lenVC q) ?_
    refine s_pure (.int .i64 (l.length : Int)) (fun _ q => q) ?_
    refine s_nil ?_
    refine p_seqN ?_
    refine v_seq ?_
    refine v_drawF ?_
    refine d_pureT v_l (fun _ q => q) ?_
    refine d_pureT (.int .i64 i) (fun _ q => q) ?_
    obtain ⟨s_r3, hqr3⟩ := s_l.pre2 hv_l (m := i.toNat) (sz := 3) (by omega)
    refine d_pureT (.slice a_l i.toNat c_l) (fun _ q => hqr3 (by omega) q) ?_
    refine d_pureT v_l (fun _ q => q) ?_
    refine d_pureT (.int .i64 j) (fun _ q => q) ?_
    obtain ⟨r4, hqr4, s_r4, bk_r4⟩ := s_l.toSl.slc (l := (j).toNat) (m := l.length) (by first | omega | (simp; omega)) (by first | omega | (simp; omega))
    have lt_r4 := s_r4.lt
    refine d_pureT r4 (fun K q => hqr4 _ rfl (some (.int .i64 j)) none ⟨_, _, rfl, (by omega)⟩ rfl K q) ?_
    refine d_eff ?_
    refine s_appRaw rfl rfl (s_l.appIn2 (ys := l.drop j.toNat) hv_l (m := i.toNat) (by omega) (sl_eq s_r4 (by simp)) rfl (by simp; omega) (by omega) (fun h5 mh5 zh5 s6 => ?_))
    have E8 := (Mod.refl (blks v_l) h).new mh5 (fun b hb => Or.inl hb)
    refine s_nil ⟨fun hl => (by cases hl), ?_⟩
    refine d_pureT (.slice a_l (i.toNat + (l.drop j.toNat).length) c_l) (fun _ q => q) ?_
    refine d_done ?_
    refine p_seqN ?_
    refine v_seq ?_
    refine v_ops ?_
    refine s_pure (.slice a_l (i.toNat + (l.drop j.toNat).length) c_l) (fun _ q => q) ?_
    refine s_pure (.slice a_l (i.toNat + (l.drop j.toNat).length) c_l) (fun _ q => q) ?_
    refine s_pure (.int .i64 ((l.take i.toNat ++ l.drop j.toNat).length : Int)) (fun _ q => s6.lenVC q) ?_
    refine s_pure (.int .i64 (l.length : Int)) (fun _ q => q) ?_
    obtain ⟨r9, hqr9, hcr9⟩ := (s6).tail2 (q := l.length) (by simp; omega) (by omega)
    refine s_pure r9 (fun _ q => hqr9 (by simp; omega) (by rfl) q) ?_
    refine s_clearN (hcr9 _ rfl (all_cons rfl (all_cons rfl (all_cons rfl all_nil))) (fun h10 mh100 zh10 s11 => ?_))
    have mh10 : Mod (blks v_l) h5 h10 := by rw [hv_l, ← blks_same (n := i.toNat + (l.drop j.toNat).length)]; exact mh100
    have E12 := E8.new mh10 (fun b hb => Or.inl hb)
    refine s_nil ?_
    refine p_seqN ?_
    refine v_seq ?_
    refine v_ops ?_
    refine s_pure (.slice a_l (i.toNat + (l.drop j.toNat).length) c_l) (fun _ q => q) ?_
    refine s_pure (.slice a_l (i.toNat + (l.drop j.toNat).length) c_l) (fun _ q => q) ?_
    refine s_nil ?_
    refine p_seqN ?_
    refine v_ret ?_
    refine p_ret [(.slice a_l (i.toNat + (l.drop j.toNat).length) c_l)] (.slice a_l (i.toNat + (l.drop j.toNat).length) c_l) (fun _ q => q) rfl ?_
    have ho : (l.take i.toNat ++ l.drop j.toNat) = (l.take i.toNat ++ l.drop j.toNat) := by first | rfl | (exfalso; omega)
    exact ⟨(.slice a_l (i.toNat + (l.drop j.toNat).length) c_l), by first | (rw [ho]; done) | rfl, sl_eq s11 (congrArg (fun o => o) ho).symm, E12, (fun b hb => Or.inl (by rw [hv_l]; rw [blks_same (m := l.length)] at hb; exact hb))⟩


theorem mt1 {n : NetP} {a b : Int} {k : Nat} {o : List Int} (hn : NetOk n) (hk : k < n.links.length) (ho : o = matterTo n a b k) (h : ¬ (firstOf (netWo n (k : Int)) [] a b 0).2 = true) : o ++ [(k : Int)] = matterTo n a b (k + 1) := by
  have e := delayWo_yes (n := n) (link := (k : Int)) (a := a) (b := b) ⟨hn, by omega, by omega⟩
  rw [matter_in (.inl (by rw [e]; simpa using h)), ho]
theorem mt2 {n : NetP} {a b : Int} {k : Nat} {o : List Int} (hn : NetOk n) (hk : k < n.links.length) (ho : o = matterTo n a b k) (h : (firstOf (netWo n (k : Int)) [] a b 0).1 > (firstOf n [] a b 0).1) : o ++ [(k : Int)] = matterTo n a b (k + 1) := by
  have e := delayWo_yes (n := n) (link := (k : Int)) (a := a) (b := b) ⟨hn, by omega, by omega⟩
  rw [matter_in (.inr (by rw [e]; exact h)), ho]
theorem mt3 {n : NetP} {a b : Int} {k : Nat} {o : List Int} (hn : NetOk n) (hk : k < n.links.length) (ho : o = matterTo n a b k) (h1 : (firstOf (netWo n (k : Int)) [] a b 0).2 = true) (h2 : ¬ (firstOf (netWo n (k : Int)) [] a b 0).1 > (firstOf n [] a b 0).1) : o = matterTo n a b (k + 1) := by
  have e := delayWo_yes (n := n) (link := (k : Int)) (a := a) (b := b) ⟨hn, by omega, by omega⟩
  rw [matter_out (by rw [e, h1]; simpa using h2), ho]

theorem impl_withoutLink_ok (n : NetP) (v_n_towers : Value) (v_n_links : Value) (link : Int) (h : Heap) (s_n_towers : Sl h v_n_towers n.towers) (s_n_links : Sl h v_n_links n.links) (hk : 0 ≤ link ∧ link ≤ (n.links.length : Int) - 1) (bl : n.links.length ≤ 2000000) : Cn f_impl_withoutLink [.agg #[v_n_towers, v_n_links], .int .i64 link] h fun v h' => ∃ r, v = .agg #[v_n_towers, r] ∧ SlO h' r (n.links.take link.toNat ++ n.links.drop (link.toNat + 1)) ∧ Ext h h' ∧ Fr h.size r := by
  have lt_n_towers := s_n_towers.lt
  have l63_n_towers := s_n_towers.len63
  have lt_n_links := s_n_links.lt
  have l63_n_links := s_n_links.len63
  refine calls_of r_impl_withoutLink ?_
  refine v_seq ?_
  refine v_ops ?_
  refine s_box [v_n_towers, v_n_links] rfl (fun h2 b1 hbb1 hzb1 eh2 bxb1 => ?_)
  have E3 := (Ext.refl h).trans eh2
  have z4 := eh2.size
  have lbb1 := bxb1.lt
  refine s_new (fun h6 b5 hbb5 hzb5 eh6 bxb5 => ?_)
  have E7 := E3.trans eh6
  have z8 := eh6.size
  have lbb5 := bxb5.lt
  refine s_nil ?_
  refine p_seqN ?_
  refine v_seq ?_
  have f9 := (bxb1.ext eh6)
  refine v_draw (DrawVC.hold ([b1]) ?_)
  refine d_pureT (.pointer (some ⟨b1, 0, none⟩)) (fun _ q => q) ?_
  refine d_pureT (.pointer (some ⟨b1, 1, none⟩)) (fun _ q => q) ?_
  refine d_pureT (.int .i64 link) (fun _ q => q) ?_
  refine d_pureT (.int .i64 link) (fun _ q => q) ?_
  refine d_pureT (.int .i64 (link + 1)) (fun _ q => ArithVC.mk (by omega) q) ?_
  refine d_loadT v_n_towers (fun _ q => f9.take (by simp) rfl q) ?_
  refine d_loadO v_n_links (fun _ q => f9.load rfl q) ?_
  refine d_eff ?_
  have f10 := ((s_n_links.ext eh2).ext eh6)
  refine s_call [v_n_links] rfl (slices_Clone_Limpl_Link_impl_Link_ok v_n_links n.links _ f10 bl) ?_
  rintro r11 h12 ⟨_, rfl, s_r11, fr_r11, eh12⟩
  have E13 := E7.trans eh12
  have z14 := eh12.size
  have G15 := eh12
  have lt_r11 := s_r11.lt
  refine s_nil ⟨fun _ x hx => G15.blk x (by simp at hx; omega), ?_⟩
  refine d_eff ?_
  refine s_call [r11, .int .i64 link, .int .i64 (link + 1)] rfl (slices_Delete_Limpl_Link_impl_Link_ok r11 n.links link (link + 1) _ s_r11 (by omega) bl) ?_
  rintro r16 h17 ⟨_, rfl, s_r16, mh17, ab_r16⟩
  have zh17 := mh17.size
  have E18 := E13.mod mh17 (fun b hb => by have := fr_r11 b hb; omega)
  have G19 := G15.mod mh17 (fun b hb => by have := fr_r11 b hb; omega)
  have fr_r16 := fr_r11.app ab_r16 (by omega)
  have lt_r16 := s_r16.lt
  refine s_nil ⟨fun _ x hx => G19.blk x (by simp at hx; omega), ?_⟩
  refine d_pureT (.agg #[v_n_towers, r16]) (fun _ q => w_build (seg_sl s_n_towers rfl (seg_sl s_r16 rfl (seg_nil q)))) ?_
  refine d_eff ?_
  have f20 := ((bxb5.ext eh12).mod mh17 (fun hc => by have := fr_r11 _ hc; omega))
  refine s_stBx (.agg #[v_n_towers, r16]) [v_n_towers, r16] [v_n_towers, r16] f20 rfl rfl rfl rfl (by simp) (all_cons s_n_towers.one1 (all_cons s_r16.one1 all_nil)) rfl (fun h21 mh21 sh21 bxx22 => ?_)
  have E23 := E18.mod mh21 (fun b hb => by simp at hb; omega)
  refine s_nil ⟨fun hl => (by cases hl), ?_⟩
  refine d_done ?_
  refine p_seqN ?_
  refine v_ret ?_
  refine p_ret [.agg #[v_n_towers, r16]] (.agg #[v_n_towers, r16]) (fun _ q => (bxx22.loadA rfl q)) rfl ?_
  have f24 := (s_r16.mod mh21 (fun b hb hc => by simp at hc; have := fr_r16 b hb; omega))
  exact ⟨_, rfl, sl_eq f24 (by first | (simp; done) | (rw [show (link + 1).toNat = link.toNat + 1 by omega]; done) | (rw [show (link + 1).toNat = link.toNat + 1 by omega]; simp)), E23, fr_r16.mono (by omega)⟩

theorem spec_roWithout_ok (n : NetP) (v_n_towers : Value) (v_n_links : Value) (link : Int) (h : Heap) (s_n_towers : Sl h v_n_towers n.towers) (s_n_links : Sl h v_n_links n.links) (hk : 0 ≤ link ∧ link ≤ (n.links.length : Int) - 1) (bl : n.links.length ≤ 2000000) : Cn f_spec_roWithout [.agg #[v_n_towers, v_n_links], .int .i64 link] h fun v h' => ∃ r, v = .agg #[v_n_towers, r] ∧ SlO h' r (n.links.take link.toNat ++ n.links.drop (link.toNat + 1)) ∧ Ext h h' ∧ Fr h.size r := by
  have lt_n_towers := s_n_towers.lt
  have l63_n_towers := s_n_towers.len63
  have lt_n_links := s_n_links.lt
  have l63_n_links := s_n_links.len63
  refine calls_of r_spec_roWithout ?_
  refine v_seq ?_
  refine v_ops ?_
  refine s_box [v_n_towers, v_n_links] rfl (fun h2 b1 hbb1 hzb1 eh2 bxb1 => ?_)
  have E3 := (Ext.refl h).trans eh2
  have z4 := eh2.size
  have lbb1 := bxb1.lt
  refine s_new (fun h6 b5 hbb5 hzb5 eh6 bxb5 => ?_)
  have E7 := E3.trans eh6
  have z8 := eh6.size
  have lbb5 := bxb5.lt
  refine s_nil ?_
  refine p_seqN ?_
  refine v_seq ?_
  have f9 := (bxb1.ext eh6)
  refine v_draw (DrawVC.hold ([b1]) ?_)
  refine d_pureT (.pointer (some ⟨b1, 0, none⟩)) (fun _ q => q) ?_
  refine d_pureT (.pointer (some ⟨b1, 1, none⟩)) (fun _ q => q) ?_
  refine d_pureT (.int .i64 link) (fun _ q => q) ?_
  refine d_pureT (.pointer (some ⟨b1, 1, none⟩)) (fun _ q => q) ?_
  refine d_pureT (.int .i64 link) (fun _ q => q) ?_
  refine d_pureT (.int .i64 (link + 1)) (fun _ q => ArithVC.mk (by omega) q) ?_
  refine d_loadT v_n_towers (fun _ q => f9.take (by simp) rfl q) ?_
  refine d_loadT v_n_links (fun _ q => f9.take (by simp) rfl q) ?_
  have f10 := ((s_n_links.ext eh2).ext eh6)
  obtain ⟨r11, hqr11, s_r11, bk_r11⟩ := f10.slc (l := 0) (m := (link).toNat) (by first | omega | (simp; omega)) (by first | omega | (simp; omega))
  simp only [List.drop_zero] at s_r11
  have lt_r11 := s_r11.lt
  refine d_pureT r11 (fun K q => hqr11 _ rfl none (some (.int .i64 link)) rfl ⟨_, _, rfl, (by omega)⟩ K q) ?_
  refine d_loadT v_n_links (fun _ q => f9.take (by simp) rfl q) ?_
  obtain ⟨r12, hqr12, s_r12, bk_r12⟩ := f10.slc (l := ((link + 1)).toNat) (m := n.links.length) (by first | omega | (simp; omega)) (by first | omega | (simp; omega))
  have lt_r12 := s_r12.lt
  refine d_pureT r12 (fun K q => hqr12 _ rfl (some (.int .i64 (link + 1))) none ⟨_, _, rfl, (by omega)⟩ rfl K q) ?_
  refine d_eff ?_
  refine s_row (α := LinkD) [] (fun _ q => seg_nil q) rfl (by simp [maxLen]) (fun r13 h14 eh14 zh14 s_r13 fr_r13 => ?_)
  have E15 := E7.trans eh14
  have z16 := eh14.size
  have G17 := eh14
  have lt_r13 := s_r13.lt
  refine s_nil ⟨fun _ x hx => G17.blk x (by simp at hx; omega), ?_⟩
  refine d_eff ?_
  have f18 := (s_r11.ext eh14)
  refine s_app s_r13 f18 rfl rfl rfl (by simp [maxLen]; omega) (by simp; omega) (fun r19 h20 mh20 zh20 s_r19 ab_r19 => ?_)
  have E21 := E15.mod mh20 (fun b hb => by have := fr_r13 b hb; omega)
  have G22 := G17.mod mh20 (fun b hb => by have := fr_r13 b hb; omega)
  have fr_r19 := fr_r13.app ab_r19 (by omega)
  have lt_r19 := s_r19.lt
  refine s_nil ⟨fun _ x hx => G22.blk x (by simp at hx; omega), ?_⟩
  refine d_eff ?_
  have f23 := ((s_r12.ext eh14).mod mh20 (fun b hb hc => by have := (fun b hb => lt_n_links b (bk_r12 b hb)) b hb; have := fr_r13 b hc; omega))
  refine s_app s_r19 f23 rfl rfl rfl (by simp [maxLen]; omega) (by simp; omega) (fun r24 h25 mh25 zh25 s_r24 ab_r24 => ?_)
  have E26 := E21.mod mh25 (fun b hb => by have := fr_r19 b hb; omega)
  have G27 := G22.mod mh25 (fun b hb => by have := fr_r19 b hb; omega)
  have fr_r24 := fr_r19.app ab_r24 (by omega)
  have lt_r24 := s_r24.lt
  refine s_nil ⟨fun _ x hx => G27.blk x (by simp at hx; omega), ?_⟩
  refine d_pureT (.agg #[v_n_towers, r24]) (fun _ q => w_build (seg_sl s_n_towers rfl (seg_sl s_r24 rfl (seg_nil q)))) ?_
  refine d_eff ?_
  have f28 := (((bxb5.ext eh14).mod mh20 (fun hc => by have := fr_r13 _ hc; omega)).mod mh25 (fun hc => by have := fr_r19 _ hc; omega))
  refine s_stBx (.agg #[v_n_towers, r24]) [v_n_towers, r24] [v_n_towers, r24] f28 rfl rfl rfl rfl (by simp) (all_cons s_n_towers.one1 (all_cons s_r24.one1 all_nil)) rfl (fun h29 mh29 sh29 bxx30 => ?_)
  have E31 := E26.mod mh29 (fun b hb => by simp at hb; omega)
  refine s_nil ⟨fun hl => (by cases hl), ?_⟩
  refine d_done ?_
  refine p_seqN ?_
  refine v_ret ?_
  refine p_ret [.agg #[v_n_towers, r24]] (.agg #[v_n_towers, r24]) (fun _ q => (bxx30.loadA rfl q)) rfl ?_
  have f32 := (s_r24.mod mh29 (fun b hb hc => by simp at hc; have := fr_r24 b hb; omega))
  exact ⟨_, rfl, sl_eq f32 (by first | (simp; done) | (rw [show (link + 1).toNat = link.toNat + 1 by omega]; done) | (rw [show (link + 1).toNat = link.toNat + 1 by omega]; simp)), E31, fr_r24.mono (by omega)⟩

set_option maxRecDepth 10000 in
set_option maxHeartbeats 4000000 in
theorem impl_DelayWithout_ok (n : NetP) (v_n_towers : Value) (v_n_links : Value) (link : Int) (a : Int) (b : Int) (h : Heap) (s_n_towers : Sl h v_n_towers n.towers) (s_n_links : Sl h v_n_links n.links) : Cn f_impl_DelayWithout [.agg #[v_n_towers, v_n_links], .int .i64 link, .int .i64 a, .int .i64 b] h fun v h' => v = .tuple #[.int .i64 ((delayWo n link a b).1), .bool ((delayWo n link a b).2)] ∧ Ext h h' := by
  have lt_n_towers := s_n_towers.lt
  have l63_n_towers := s_n_towers.len63
  have lt_n_links := s_n_links.lt
  have l63_n_links := s_n_links.len63
  refine calls_of r_impl_DelayWithout ?_
  refine v_seq ?_
  refine v_ops ?_
  refine s_box [v_n_towers, v_n_links] rfl (fun h2 b1 hbb1 hzb1 eh2 bxb1 => ?_)
  have E3 := (Ext.refl h).trans eh2
  have z4 := eh2.size
  have lbb1 := bxb1.lt
  refine s_pure (.int .i64 0) (fun _ q => q) ?_
  refine s_pure (.bool false) (fun _ q => q) ?_
  refine s_nil ?_
  refine p_seqN ?_
  refine v_seq ?_
  refine v_seq ?_
  refine v_ops ?_
  refine s_load (.agg #[v_n_towers, v_n_links]) (fun _ q => bxb1.loadA rfl q) ?_
  refine s_pure (.int .i64 link) (fun _ q => q) ?_
  have f5 := (s_n_towers.ext eh2)
  have f6 := (s_n_links.ext eh2)
  refine s_call [.agg #[v_n_towers, v_n_links], .int .i64 link] rfl (impl_isLink_ok n v_n_towers v_n_links link _ f5 f6) ?_
  rintro _ h7 ⟨rfl, eh7⟩
  have E8 := E3.trans eh7
  have z9 := eh7.size
  refine s_pure (.bool (!(decide (NetOk n ∧ (0 ≤ link ∧ link ≤ (n.links.length : Int) - 1))))) (fun _ q => q) ?_
  refine s_pure (.bool (!(decide (NetOk n ∧ (0 ≤ link ∧ link ≤ (n.links.length : Int) - 1))))) (fun _ q => q) ?_
  refine s_splitT rfl (fun c10 => ?_) (fun c10 => ?_)
  ·
    refine s_pass rfl ?_
    refine s_pass rfl ?_
    refine s_pass rfl ?_
    refine s_pass rfl ?_
    refine s_pure (.bool true) (fun _ q => q) ?_
    refine s_pure (.bool true) (fun _ q => q) ?_
    refine s_splitY rfl rfl ?_
    refine s_pass rfl ?_
    refine s_pass rfl ?_
    refine s_pass rfl ?_
    refine s_pass rfl ?_
    refine s_pure (.bool true) (fun _ q => q) ?_
    refine s_nil ?_
    refine p_seqN ?_
    refine v_condY rfl rfl ?_
    refine v_seq ?_
    refine v_ops ?_
    refine s_pure (.int .i64 0) (fun _ q => q) ?_
    refine s_pure (.bool false) (fun _ q => q) ?_
    refine s_nil ?_
    refine p_seqN ?_
    refine v_ret ?_
    refine p_seqR ?_
    refine p_ret [.int .i64 0, .bool false] (.tuple #[.int .i64 0, .bool false]) (fun _ q => q) rfl ?_
    have ho : (delayWo n link a b) = (0, false) := by first | exact delayWo_yes (by assumption : NetOk n ∧ 0 ≤ link ∧ _) | exact delayWo_no (by assumption) | exact delayWo_tower (.inl (by assumption)) | exact delayWo_tower (.inr (by assumption))
    exact ⟨by first | (rw [ho]; done) | rfl, E8⟩
  ·
    have c10 := Classical.not_not.1 c10
    refine s_run rfl ?_
    have f11 := (bxb1.ext eh7)
    refine s_load (.agg #[v_n_towers, v_n_links]) (fun _ q => f11.loadA rfl q) ?_
    refine s_run rfl ?_
    refine s_pure (.int .i64 a) (fun _ q => q) ?_
    refine s_run rfl ?_
    have f12 := (f5.ext eh7)
    have f13 := (f6.ext eh7)
    refine s_call [.agg #[v_n_towers, v_n_links], .int .i64 a] rfl (impl_isTower_ok n v_n_towers v_n_links a _ f12 f13) ?_
    rintro _ h14 ⟨rfl, eh14⟩
    have E15 := E8.trans eh14
    have z16 := eh14.size
    refine s_run rfl ?_
    refine s_pure (.bool (!(decide (NetOk n ∧ (0 ≤ a ∧ a ≤ (n.towers.length : Int) - 1))))) (fun _ q => q) ?_
    refine s_pure (.bool (!(decide (NetOk n ∧ (0 ≤ a ∧ a ≤ (n.towers.length : Int) - 1))))) (fun _ q => q) ?_
    refine s_pure (.bool (!(decide (NetOk n ∧ (0 ≤ a ∧ a ≤ (n.towers.length : Int) - 1))))) (fun _ q => q) ?_
    refine s_splitT rfl (fun c17 => ?_) (fun c17 => ?_)
    ·
      refine s_pass rfl ?_
      refine s_pass rfl ?_
      refine s_pass rfl ?_
      refine s_pass rfl ?_
      refine s_pure (.bool true) (fun _ q => q) ?_
      refine s_nil ?_
      refine p_seqN ?_
      refine v_condY rfl rfl ?_
      refine v_seq ?_
      refine v_ops ?_
      refine s_pure (.int .i64 0) (fun _ q => q) ?_
      refine s_pure (.bool false) (fun _ q => q) ?_
      refine s_nil ?_
      refine p_seqN ?_
      refine v_ret ?_
      refine p_seqR ?_
      refine p_ret [.int .i64 0, .bool false] (.tuple #[.int .i64 0, .bool false]) (fun _ q => q) rfl ?_
      have ho : (delayWo n link a b) = (0, false) := by first | exact delayWo_yes (by assumption : NetOk n ∧ 0 ≤ link ∧ _) | exact delayWo_no (by assumption) | exact delayWo_tower (.inl (by assumption)) | exact delayWo_tower (.inr (by assumption))
      exact ⟨by first | (rw [ho]; done) | rfl, E15⟩
    ·
      have c17 := Classical.not_not.1 c17
      refine s_run rfl ?_
      have f18 := (f11.ext eh14)
      refine s_load (.agg #[v_n_towers, v_n_links]) (fun _ q => f18.loadA rfl q) ?_
      refine s_run rfl ?_
      refine s_pure (.int .i64 b) (fun _ q => q) ?_
      refine s_run rfl ?_
      have f19 := (f12.ext eh14)
      have f20 := (f13.ext eh14)
      refine s_call [.agg #[v_n_towers, v_n_links], .int .i64 b] rfl (impl_isTower_ok n v_n_towers v_n_links b _ f19 f20) ?_
      rintro _ h21 ⟨rfl, eh21⟩
      have E22 := E15.trans eh21
      have z23 := eh21.size
      refine s_run rfl ?_
      refine s_pure (.bool (!(decide (NetOk n ∧ (0 ≤ b ∧ b ≤ (n.towers.length : Int) - 1))))) (fun _ q => q) ?_
      refine s_pure (.bool (!(decide (NetOk n ∧ (0 ≤ b ∧ b ≤ (n.towers.length : Int) - 1))))) (fun _ q => q) ?_
      refine s_nil ?_
      refine p_seqN ?_
      refine v_cond rfl (fun c24 => ?_) (fun c24 => ?_)
      ·
        refine v_seq ?_
        refine v_ops ?_
        refine s_pure (.int .i64 0) (fun _ q => q) ?_
        refine s_pure (.bool false) (fun _ q => q) ?_
        refine s_nil ?_
        refine p_seqN ?_
        refine v_ret ?_
        refine p_seqR ?_
        refine p_ret [.int .i64 0, .bool false] (.tuple #[.int .i64 0, .bool false]) (fun _ q => q) rfl ?_
        have ho : (delayWo n link a b) = (0, false) := by first | exact delayWo_yes (by assumption : NetOk n ∧ 0 ≤ link ∧ _) | exact delayWo_no (by assumption) | exact delayWo_tower (.inl (by assumption)) | exact delayWo_tower (.inr (by assumption))
        exact ⟨by first | (rw [ho]; done) | rfl, E22⟩
      ·
        have c24 := Classical.not_not.1 c24
        refine v_skip ?_
        refine p_seqN ?_
        refine v_seq ?_
        refine v_ops ?_
        have f25 := (f18.ext eh21)
        refine s_load (.agg #[v_n_towers, v_n_links]) (fun _ q => f25.loadA rfl q) ?_
        refine s_pure (.int .i64 link) (fun _ q => q) ?_
        have f28 := (f19.ext eh21)
        have f29 := (f20.ext eh21)
        refine s_call [.agg #[v_n_towers, v_n_links], .int .i64 link] rfl (impl_withoutLink_ok n v_n_towers v_n_links link _ f28 f29 (by assumption : NetOk n ∧ 0 ≤ link ∧ _).2 (by have := (by assumption : NetOk n ∧ 0 ≤ link ∧ _).1.l2; omega)) ?_
        rintro _ h27 ⟨r26, rfl, s_r26, eh27, fr_r26⟩
        have E30 := E22.trans eh27
        have z31 := eh27.size
        have lt_r26 := s_r26.lt
        refine s_pure (.int .i64 a) (fun _ q => q) ?_
        refine s_pure (.int .i64 b) (fun _ q => q) ?_
        have f32 := (f28.ext eh27)
        refine s_call [.agg #[v_n_towers, r26], .int .i64 a, .int .i64 b] rfl (impl_plainDelay_ok (⟨n.towers, (n.links.take link.toNat ++ n.links.drop (link.toNat + 1))⟩ : NetP) v_n_towers r26 a b _ f32 s_r26.toSl (wo_ask (by assumption : NetOk n ∧ 0 ≤ link ∧ _) (by assumption : NetOk n ∧ 0 ≤ a ∧ _) (by assumption : NetOk n ∧ 0 ≤ b ∧ _))) ?_
        rintro _ h33 ⟨rfl, eh33⟩
        have E34 := E30.trans eh33
        have z35 := eh33.size
        refine s_pure (.int .i64 ((firstOf (⟨n.towers, (n.links.take link.toNat ++ n.links.drop (link.toNat + 1))⟩ : NetP) [] a b 0).1)) (fun _ q => q) ?_
        refine s_pure (.bool ((firstOf (⟨n.towers, (n.links.take link.toNat ++ n.links.drop (link.toNat + 1))⟩ : NetP) [] a b 0).2)) (fun _ q => q) ?_
        refine s_pure (.int .i64 ((firstOf (⟨n.towers, (n.links.take link.toNat ++ n.links.drop (link.toNat + 1))⟩ : NetP) [] a b 0).1)) (fun _ q => q) ?_
        refine s_pure (.bool ((firstOf (⟨n.towers, (n.links.take link.toNat ++ n.links.drop (link.toNat + 1))⟩ : NetP) [] a b 0).2)) (fun _ q => q) ?_
        refine s_nil ?_
        refine p_seqN ?_
        refine v_ret ?_
        refine p_ret [.int .i64 ((firstOf (⟨n.towers, (n.links.take link.toNat ++ n.links.drop (link.toNat + 1))⟩ : NetP) [] a b 0).1), .bool ((firstOf (⟨n.towers, (n.links.take link.toNat ++ n.links.drop (link.toNat + 1))⟩ : NetP) [] a b 0).2)] (.tuple #[.int .i64 ((firstOf (⟨n.towers, (n.links.take link.toNat ++ n.links.drop (link.toNat + 1))⟩ : NetP) [] a b 0).1), .bool ((firstOf (⟨n.towers, (n.links.take link.toNat ++ n.links.drop (link.toNat + 1))⟩ : NetP) [] a b 0).2)]) (fun _ q => q) rfl ?_
        have ho : (delayWo n link a b) = ((firstOf (⟨n.towers, (n.links.take link.toNat ++ n.links.drop (link.toNat + 1))⟩ : NetP) [] a b 0).1, (firstOf (⟨n.towers, (n.links.take link.toNat ++ n.links.drop (link.toNat + 1))⟩ : NetP) [] a b 0).2) := by first | exact delayWo_yes (by assumption : NetOk n ∧ 0 ≤ link ∧ _) | exact delayWo_no (by assumption) | exact delayWo_tower (.inl (by assumption)) | exact delayWo_tower (.inr (by assumption))
        exact ⟨by first | (rw [ho]; done) | rfl, E34⟩

theorem spec_DelayWithout_ok (n : NetP) (v_n_towers : Value) (v_n_links : Value) (link : Int) (a : Int) (b : Int) (h : Heap) (s_n_towers : Sl h v_n_towers n.towers) (s_n_links : Sl h v_n_links n.links) : Cn f_spec_DelayWithout [.agg #[v_n_towers, v_n_links], .int .i64 link, .int .i64 a, .int .i64 b] h fun v h' => v = .tuple #[.int .i64 ((delayWo n link a b).1), .bool ((delayWo n link a b).2)] ∧ Ext h h' := by
  have lt_n_towers := s_n_towers.lt
  have l63_n_towers := s_n_towers.len63
  have lt_n_links := s_n_links.lt
  have l63_n_links := s_n_links.len63
  refine calls_of r_spec_DelayWithout ?_
  refine v_seq ?_
  refine v_ops ?_
  refine s_box [v_n_towers, v_n_links] rfl (fun h2 b1 hbb1 hzb1 eh2 bxb1 => ?_)
  have E3 := (Ext.refl h).trans eh2
  have z4 := eh2.size
  have lbb1 := bxb1.lt
  refine s_pure (.int .i64 0) (fun _ q => q) ?_
  refine s_pure (.bool false) (fun _ q => q) ?_
  refine s_nil ?_
  refine p_seqN ?_
  refine v_seq ?_
  refine v_seq ?_
  refine v_ops ?_
  refine s_load (.agg #[v_n_towers, v_n_links]) (fun _ q => bxb1.loadA rfl q) ?_
  have f5 := (s_n_towers.ext eh2)
  have f6 := (s_n_links.ext eh2)
  refine s_call [.agg #[v_n_towers, v_n_links]] rfl (spec_neGood_ok n v_n_towers v_n_links _ f5 f6) ?_
  rintro _ h7 ⟨rfl, eh7⟩
  have E8 := E3.trans eh7
  have z9 := eh7.size
  refine s_pure (.bool (!decide (NetOk n))) (fun _ q => q) ?_
  refine s_pure (.bool (!decide (NetOk n))) (fun _ q => q) ?_
  refine s_splitT rfl (fun c10 => ?_) (fun c10 => ?_)
  ·
    refine s_pass rfl ?_
    refine s_pass rfl ?_
    refine s_pass rfl ?_
    refine s_pass rfl ?_
    refine s_pass rfl ?_
    refine s_pass rfl ?_
    refine s_pass rfl ?_
    refine s_pure (.bool true) (fun _ q => q) ?_
    refine s_nil ?_
    refine p_seqN ?_
    refine v_condY rfl rfl ?_
    refine v_seq ?_
    refine v_ops ?_
    refine s_pure (.int .i64 0) (fun _ q => q) ?_
    refine s_pure (.bool false) (fun _ q => q) ?_
    refine s_nil ?_
    refine p_seqN ?_
    refine v_ret ?_
    refine p_seqR ?_
    refine p_ret [.int .i64 0, .bool false] (.tuple #[.int .i64 0, .bool false]) (fun _ q => q) rfl ?_
    have ho : (delayWo n link a b) = (0, false) := by first | exact delayWo_no (fun h => (by assumption : ¬ NetOk n) h.1) | exact delayWo_no (fun h => (by assumption : ¬ (0 ≤ link ∧ _)) h.2) | exact delayWo_yes ⟨by assumption, by assumption⟩
    exact ⟨by first | (rw [ho]; done) | rfl, E8⟩
  ·
    have c10 := Classical.not_not.1 c10
    refine s_run rfl ?_
    refine s_pure (.int .i64 link) (fun _ q => q) ?_
    refine s_run rfl ?_
    refine s_pure (.pointer (some ⟨b1, 1, none⟩)) (fun _ q => q) ?_
    refine s_run rfl ?_
    have f11 := (bxb1.ext eh7)
    refine s_load v_n_links (fun _ q => f11.load rfl q) ?_
    refine s_run rfl ?_
    refine s_pure (.int .i64 (n.links.length : Int)) (fun _ q => f6.lenVC q) ?_
    refine s_run rfl ?_
    refine s_pure (.int .i64 ((n.links.length : Int) - 1)) (fun _ q => ArithVC.mk (by omega) q) ?_
    refine s_run rfl ?_
    refine s_callS [.int .i64 link, .int .i64 0, .int .i64 ((n.links.length : Int) - 1)] (.bool (decide (0 ≤ link ∧ link ≤ ((n.links.length : Int) - 1)))) rfl (l1In_ok link 0 ((n.links.length : Int) - 1) _ ) ?_
    refine s_run rfl ?_
    refine s_pure (.bool (!(decide (0 ≤ link ∧ link ≤ ((n.links.length : Int) - 1))))) (fun _ q => q) ?_
    refine s_pure (.bool (!(decide (0 ≤ link ∧ link ≤ ((n.links.length : Int) - 1))))) (fun _ q => q) ?_
    refine s_nil ?_
    refine p_seqN ?_
    refine v_cond rfl (fun c12 => ?_) (fun c12 => ?_)
    ·
      refine v_seq ?_
      refine v_ops ?_
      refine s_pure (.int .i64 0) (fun _ q => q) ?_
      refine s_pure (.bool false) (fun _ q => q) ?_
      refine s_nil ?_
      refine p_seqN ?_
      refine v_ret ?_
      refine p_seqR ?_
      refine p_ret [.int .i64 0, .bool false] (.tuple #[.int .i64 0, .bool false]) (fun _ q => q) rfl ?_
      have ho : (delayWo n link a b) = (0, false) := by first | exact delayWo_no (fun h => (by assumption : ¬ NetOk n) h.1) | exact delayWo_no (fun h => (by assumption : ¬ (0 ≤ link ∧ _)) h.2) | exact delayWo_yes ⟨by assumption, by assumption⟩
      exact ⟨by first | (rw [ho]; done) | rfl, E8⟩
    ·
      have c12 := Classical.not_not.1 c12
      refine v_skip ?_
      refine p_seqN ?_
      refine v_seq ?_
      refine v_ops ?_
      refine s_load (.agg #[v_n_towers, v_n_links]) (fun _ q => f11.loadA rfl q) ?_
      refine s_pure (.int .i64 link) (fun _ q => q) ?_
      have f15 := (f5.ext eh7)
      have f16 := (f6.ext eh7)
      refine s_call [.agg #[v_n_towers, v_n_links], .int .i64 link] rfl (spec_roWithout_ok n v_n_towers v_n_links link _ f15 f16 (by assumption) (by have := (by assumption : NetOk n).l2; omega)) ?_
      rintro _ h14 ⟨r13, rfl, s_r13, eh14, fr_r13⟩
      have E17 := E8.trans eh14
      have z18 := eh14.size
      have lt_r13 := s_r13.lt
      refine s_pure (.int .i64 a) (fun _ q => q) ?_
      refine s_pure (.int .i64 b) (fun _ q => q) ?_
      have f19 := (f15.ext eh14)
      refine s_call [.agg #[v_n_towers, r13], .int .i64 a, .int .i64 b] rfl (spec_PlainDelay_ok (⟨n.towers, (n.links.take link.toNat ++ n.links.drop (link.toNat + 1))⟩ : NetP) v_n_towers r13 a b _ f19 s_r13.toSl) ?_
      rintro _ h20 ⟨rfl, eh20⟩
      have E21 := E17.trans eh20
      have z22 := eh20.size
      refine s_pure (.int .i64 ((firstOf (⟨n.towers, (n.links.take link.toNat ++ n.links.drop (link.toNat + 1))⟩ : NetP) [] a b 0).1)) (fun _ q => q) ?_
      refine s_pure (.bool ((firstOf (⟨n.towers, (n.links.take link.toNat ++ n.links.drop (link.toNat + 1))⟩ : NetP) [] a b 0).2)) (fun _ q => q) ?_
      refine s_pure (.int .i64 ((firstOf (⟨n.towers, (n.links.take link.toNat ++ n.links.drop (link.toNat + 1))⟩ : NetP) [] a b 0).1)) (fun _ q => q) ?_
      refine s_pure (.bool ((firstOf (⟨n.towers, (n.links.take link.toNat ++ n.links.drop (link.toNat + 1))⟩ : NetP) [] a b 0).2)) (fun _ q => q) ?_
      refine s_nil ?_
      refine p_seqN ?_
      refine v_ret ?_
      refine p_ret [.int .i64 ((firstOf (⟨n.towers, (n.links.take link.toNat ++ n.links.drop (link.toNat + 1))⟩ : NetP) [] a b 0).1), .bool ((firstOf (⟨n.towers, (n.links.take link.toNat ++ n.links.drop (link.toNat + 1))⟩ : NetP) [] a b 0).2)] (.tuple #[.int .i64 ((firstOf (⟨n.towers, (n.links.take link.toNat ++ n.links.drop (link.toNat + 1))⟩ : NetP) [] a b 0).1), .bool ((firstOf (⟨n.towers, (n.links.take link.toNat ++ n.links.drop (link.toNat + 1))⟩ : NetP) [] a b 0).2)]) (fun _ q => q) rfl ?_
      have ho : (delayWo n link a b) = ((firstOf (⟨n.towers, (n.links.take link.toNat ++ n.links.drop (link.toNat + 1))⟩ : NetP) [] a b 0).1, (firstOf (⟨n.towers, (n.links.take link.toNat ++ n.links.drop (link.toNat + 1))⟩ : NetP) [] a b 0).2) := by first | exact delayWo_no (fun h => (by assumption : ¬ NetOk n) h.1) | exact delayWo_no (fun h => (by assumption : ¬ (0 ≤ link ∧ _)) h.2) | exact delayWo_yes ⟨by assumption, by assumption⟩
      exact ⟨by first | (rw [ho]; done) | rfl, E21⟩

set_option maxRecDepth 10000 in
set_option maxHeartbeats 4000000 in
theorem impl_LinksThatMatter_ok (n : NetP) (v_n_towers : Value) (v_n_links : Value) (a : Int) (b : Int) (h : Heap) (s_n_towers : Sl h v_n_towers n.towers) (s_n_links : Sl h v_n_links n.links) : Cn f_impl_LinksThatMatter [.agg #[v_n_towers, v_n_links], .int .i64 a, .int .i64 b] h fun v h' => ∃ r0 : Value, v = .tuple #[r0, .bool ((matterOf n a b).2)] ∧ SlO h' r0 ((matterOf n a b).1) ∧ Fr h.size r0 ∧ Ext h h' := by
  have lt_n_towers := s_n_towers.lt
  have l63_n_towers := s_n_towers.len63
  have lt_n_links := s_n_links.lt
  have l63_n_links := s_n_links.len63
  refine calls_of r_impl_LinksThatMatter ?_
  refine v_seq ?_
  refine v_ops ?_
  refine s_box [v_n_towers, v_n_links] rfl (fun h2 b1 hbb1 hzb1 eh2 bxb1 => ?_)
  have E3 := (Ext.refl h).trans eh2
  have z4 := eh2.size
  have lbb1 := bxb1.lt
  refine s_pure (.slice none 0 0) (fun _ q => q) ?_
  refine s_pure (.bool false) (fun _ q => q) ?_
  refine s_nil ?_
  refine p_seqN ?_
  refine v_seq ?_
  refine v_ops ?_
  refine s_load (.agg #[v_n_towers, v_n_links]) (fun _ q => bxb1.loadA rfl q) ?_
  refine s_pure (.int .i64 a) (fun _ q => q) ?_
  refine s_pure (.int .i64 b) (fun _ q => q) ?_
  have f5 := (s_n_towers.ext eh2)
  have f6 := (s_n_links.ext eh2)
  refine s_call [.agg #[v_n_towers, v_n_links], .int .i64 a, .int .i64 b] rfl (impl_PlainDelay_ok n v_n_towers v_n_links a b _ f5 f6) ?_
  rintro _ h7 ⟨rfl, eh7⟩
  have E8 := E3.trans eh7
  have z9 := eh7.size
  refine s_pure (.tuple #[.int .i64 ((firstOf n [] a b 0).1), .bool ((firstOf n [] a b 0).2)]) (fun _ q => q) ?_
  refine s_pure (.int .i64 ((firstOf n [] a b 0).1)) (fun _ q => q) ?_
  refine s_pure (.bool ((firstOf n [] a b 0).2)) (fun _ q => q) ?_
  refine s_pure (.int .i64 ((firstOf n [] a b 0).1)) (fun _ q => q) ?_
  refine s_pure (.bool ((firstOf n [] a b 0).2)) (fun _ q => q) ?_
  refine s_nil ?_
  refine p_seqN ?_
  refine v_seq ?_
  refine v_seq ?_
  refine v_ops ?_
  refine s_pure (.bool ((firstOf n [] a b 0).2)) (fun _ q => q) ?_
  refine s_pure (.bool (!(firstOf n [] a b 0).2)) (fun _ q => q) ?_
  refine s_nil ?_
  refine p_seqN ?_
  refine v_cond rfl (fun c10 => ?_) (fun c10 => ?_)
  ·
    refine v_seq ?_
    refine v_ops ?_
    refine s_pure (.slice none 0 0) (fun _ q => q) ?_
    refine s_pure (.bool false) (fun _ q => q) ?_
    refine s_nil ?_
    refine p_seqN ?_
    refine v_ret ?_
    refine p_seqR ?_
    refine p_ret [.slice none 0 0, .bool false] (.tuple #[.slice none 0 0, .bool false]) (fun _ q => q) rfl ?_
    have ho : (matterOf n a b) = ([], false) := by first | exact matter_no (by assumption) | (rw [matter_yes (by assumption : (firstOf n [] a b 0).2 = true), ho, show k = n.links.length by omega])
    exact ⟨(.slice none 0 0), by first | (rw [ho]; done) | rfl, sl_eq (SlX.nil (α := Int) true _) (congrArg (fun o => o.1) ho).symm, Fr.nil _, E8⟩
  ·
    have c10 := Classical.not_not.1 c10
    refine v_skip ?_
    refine p_seqN ?_
    refine v_seq ?_
    refine v_ops ?_
    refine s_pure (.slice none 0 0) (fun _ q => q) ?_
    refine s_nil ?_
    refine p_seqN ?_
    refine v_seq ?_
    refine v_seq ?_
    refine v_ops ?_
    refine s_pure (.pointer (some ⟨b1, 1, none⟩)) (fun _ q => q) ?_
    have f11 := (bxb1.ext eh7)
    refine s_load v_n_links (fun _ q => f11.load rfl q) ?_
    refine s_pure (.int .i64 (n.links.length : Int)) (fun _ q => f6.lenVC q) ?_
    refine s_pure (.int .i64 0) (fun _ q => q) ?_
    refine s_nil ?_
    refine p_seqN ?_
    refine v_block ?_
    have hw : WayAsk n [] a b 0 := (first_ask (by assumption : (firstOf n [] a b 0).2 = true)).1
    have hn := hw.hn
    have hl2 := hn.l2
    refine v_loop3 (α := Nat) (β := List Int) (γ := Value) (fun k o w => [(1, .int .i64 a), (2, .int .i64 b), (3, .pointer (some ⟨b1, 0, none⟩)), (8, .int .i64 ((firstOf n [] a b 0).1)), (10, w), (25, .int .i64 (n.links.length : Int)), (26, .int .i64 (k : Int))]) (fun k o w hh => Ext h hh ∧ Bx hh b1 [v_n_towers, v_n_links] 32 ∧ SlO hh w o ∧ Fr h.size w ∧ b1 ∉ blks w ∧ k ≤ n.links.length ∧ o = matterTo n a b k) (fun k o w => n.links.length - k) 0 [] (.slice none 0 0) ⟨rfl, rfl, rfl, rfl, rfl, rfl, rfl⟩ ⟨E8, f11, (sl_eq (SlX.nil (α := Int) true h7) (by simp)), (Fr.nil _), (by simp [blks, fpts]), (by simp [matterTo])⟩ ?_
    rintro k o w R13 h12 ⟨Eh, bxb1, s_w, fr_w, np_b1_w, ⟨hk, ho⟩⟩
    have zEh := Eh.size
    have f14 := s_n_towers.ext Eh
    have f15 := s_n_links.ext Eh
    have lbb1 := bxb1.lt
    have lt_w := s_w.lt
    have hol := matter_len n a b k
    rw [← ho] at hol
    refine v_seq ?_
    refine v_ops ?_
    refine s_pure (.bool (decide ((k : Int) < (n.links.length : Int)))) (fun _ q => q) ?_
    refine s_nil ?_
    refine p_seqN ?_
    refine v_seq ?_
    refine v_cond rfl (fun c16 => ?_) (fun c16 => ?_)
    ·
      refine v_skip ?_
      refine p_seqN ?_
      refine v_seq ?_
      refine v_block ?_
      refine v_seq ?_
      refine v_ops ?_
      refine s_pure (.int .i64 (k : Int)) (fun _ q => q) ?_
      refine s_pure (.int .i64 (k : Int)) (fun _ q => q) ?_
      refine s_nil ?_
      refine p_seqN ?_
      refine v_seq ?_
      refine v_ops ?_
      refine s_load (.agg #[v_n_towers, v_n_links]) (fun _ q => bxb1.loadA rfl q) ?_
      refine s_pure (.int .i64 (k : Int)) (fun _ q => q) ?_
      refine s_call [.agg #[v_n_towers, v_n_links], .int .i64 (k : Int)] rfl (impl_withoutLink_ok n v_n_towers v_n_links (k : Int) _ f14 f15 (by omega) (by omega)) ?_
      rintro _ h18 ⟨r17, rfl, s_r17, eh18, fr_r17⟩
      have E19 := Eh.trans eh18
      have z20 := eh18.size
      have lt_r17 := s_r17.lt
      refine s_pure (.int .i64 a) (fun _ q => q) ?_
      refine s_pure (.int .i64 b) (fun _ q => q) ?_
      have f21 := (f14.ext eh18)
      refine s_call [.agg #[v_n_towers, r17], .int .i64 a, .int .i64 b] rfl (impl_plainDelay_ok (⟨n.towers, (n.links.take (k : Int).toNat ++ n.links.drop ((k : Int).toNat + 1))⟩ : NetP) v_n_towers r17 a b _ f21 s_r17.toSl (wo_ask ⟨hn, by omega, by omega⟩ ⟨hn, hw.ha⟩ ⟨hn, hw.hb⟩)) ?_
      rintro _ h22 ⟨rfl, eh22⟩
      have E23 := E19.trans eh22
      have z24 := eh22.size
      refine s_pure (.tuple #[.int .i64 ((firstOf (⟨n.towers, (n.links.take (k : Int).toNat ++ n.links.drop ((k : Int).toNat + 1))⟩ : NetP) [] a b 0).1), .bool ((firstOf (⟨n.towers, (n.links.take (k : Int).toNat ++ n.links.drop ((k : Int).toNat + 1))⟩ : NetP) [] a b 0).2)]) (fun _ q => q) ?_
      refine s_pure (.int .i64 ((firstOf (⟨n.towers, (n.links.take (k : Int).toNat ++ n.links.drop ((k : Int).toNat + 1))⟩ : NetP) [] a b 0).1)) (fun _ q => q) ?_
      refine s_pure (.bool ((firstOf (⟨n.towers, (n.links.take (k : Int).toNat ++ n.links.drop ((k : Int).toNat + 1))⟩ : NetP) [] a b 0).2)) (fun _ q => q) ?_
      refine s_pure (.int .i64 ((firstOf (⟨n.towers, (n.links.take (k : Int).toNat ++ n.links.drop ((k : Int).toNat + 1))⟩ : NetP) [] a b 0).1)) (fun _ q => q) ?_
      refine s_pure (.bool ((firstOf (⟨n.towers, (n.links.take (k : Int).toNat ++ n.links.drop ((k : Int).toNat + 1))⟩ : NetP) [] a b 0).2)) (fun _ q => q) ?_
      refine s_nil ?_
      refine p_seqN ?_
      refine v_seq ?_
      refine v_ops ?_
      refine s_pure (.bool ((firstOf (⟨n.towers, (n.links.take (k : Int).toNat ++ n.links.drop ((k : Int).toNat + 1))⟩ : NetP) [] a b 0).2)) (fun _ q => q) ?_
      refine s_pure (.bool (!(firstOf (⟨n.towers, (n.links.take (k : Int).toNat ++ n.links.drop ((k : Int).toNat + 1))⟩ : NetP) [] a b 0).2)) (fun _ q => q) ?_
      refine s_pure (.bool (!(firstOf (⟨n.towers, (n.links.take (k : Int).toNat ++ n.links.drop ((k : Int).toNat + 1))⟩ : NetP) [] a b 0).2)) (fun _ q => q) ?_
      refine s_splitT rfl (fun c25 => ?_) (fun c25 => ?_)
      ·
        refine s_pass rfl ?_
        refine s_pass rfl ?_
        refine s_pass rfl ?_
        refine s_pure (.bool true) (fun _ q => q) ?_
        refine s_nil ?_
        refine p_seqN ?_
        refine v_condY rfl rfl ?_
        refine v_ops ?_
        refine s_pure w (fun _ q => q) ?_
        refine s_pure (.int .i64 (k : Int)) (fun _ q => q) ?_
        refine s_row (α := Int) [(k : Int)] (fun _ q => seg_i rfl (seg_nil q)) rfl (by simp [maxLen]) (fun r26 h27 eh27 zh27 s_r26 fr_r26 => ?_)
        have E28 := E23.trans eh27
        have z29 := eh27.size
        have lt_r26 := s_r26.lt
        have f30 := (((s_w.ext eh18).ext eh22).ext eh27)
        refine s_app f30 s_r26 rfl rfl rfl (by simp [maxLen]; omega) (by simp; omega) (fun r31 h32 mh32 zh32 s_r31 ab_r31 => ?_)
        have E33 := E28.mod mh32 (fun b hb => by have := fr_w b hb; omega)
        have fr_r31 := fr_w.app ab_r31 (by omega)
        have np34 : b1 ∉ blks r31 := fun hc => (ab_r31 _ hc).elim np_b1_w (fun hc => by omega)
        have np35 : ∀ b ∈ blks r17, b ∉ blks r31 := fun b hb hc => (ab_r31 _ hc).elim (((fun b hb hc => by have := fr_r17 b hb; have := lt_w b hc; omega) : ∀ b ∈ blks r17, b ∉ blks w) b hb) (fun hc => by have := lt_r17 b hb; omega)
        have np36 : ∀ b ∈ blks r26, b ∉ blks r31 := fun b hb hc => (ab_r31 _ hc).elim (((fun b hb hc => by have := fr_r26 b hb; have := lt_w b hc; omega) : ∀ b ∈ blks r26, b ∉ blks w) b hb) (fun hc => by have := lt_r26 b hb; omega)
        have lt_r31 := s_r31.lt
        refine s_pure r31 (fun _ q => q) ?_
        refine s_nil ?_
        refine p_blkN ?_
        refine p_seqN ?_
        refine v_ops ?_
        refine s_pure (.int .i64 ((k : Int) + 1)) (fun _ q => ArithVC.mk (by omega) q) ?_
        refine s_pure (.int .i64 ((k : Int) + 1)) (fun _ q => q) ?_
        refine s_nil ?_
        have f37 := ((((bxb1.ext eh18).ext eh22).ext eh27).mod mh32 np_b1_w)
        exact p_lpN ⟨k + 1, (o ++ [(k : Int)]), r31, ⟨rfl, rfl, rfl, rfl, rfl, rfl, rfl⟩, ⟨E33, f37, (sl_eq s_r31 (by simp)), (fr_r31.mono (by omega)), np34, (by first | exact ⟨by omega, mt1 hn (by omega) ho (by assumption)⟩ | exact ⟨by omega, mt2 hn (by omega) ho (by assumption)⟩ | exact ⟨by omega, mt3 hn (by omega) ho (by assumption) (by assumption)⟩)⟩, by omega⟩
      ·
        have c25 := Classical.not_not.1 c25
        refine s_run rfl ?_
        refine s_pure (.int .i64 ((firstOf (⟨n.towers, (n.links.take (k : Int).toNat ++ n.links.drop ((k : Int).toNat + 1))⟩ : NetP) [] a b 0).1)) (fun _ q => q) ?_
        refine s_run rfl ?_
        refine s_pure (.int .i64 ((firstOf n [] a b 0).1)) (fun _ q => q) ?_
        refine s_run rfl ?_
        refine s_pure (.bool (decide ((firstOf (⟨n.towers, (n.links.take (k : Int).toNat ++ n.links.drop ((k : Int).toNat + 1))⟩ : NetP) [] a b 0).1 > (firstOf n [] a b 0).1))) (fun _ q => q) ?_
        refine s_pure (.bool (decide ((firstOf (⟨n.towers, (n.links.take (k : Int).toNat ++ n.links.drop ((k : Int).toNat + 1))⟩ : NetP) [] a b 0).1 > (firstOf n [] a b 0).1))) (fun _ q => q) ?_
        refine s_nil ?_
        refine p_seqN ?_
        refine v_cond rfl (fun c38 => ?_) (fun c38 => ?_)
        ·
          refine v_ops ?_
          refine s_pure w (fun _ q => q) ?_
          refine s_pure (.int .i64 (k : Int)) (fun _ q => q) ?_
          refine s_row (α := Int) [(k : Int)] (fun _ q => seg_i rfl (seg_nil q)) rfl (by simp [maxLen]) (fun r39 h40 eh40 zh40 s_r39 fr_r39 => ?_)
          have E41 := E23.trans eh40
          have z42 := eh40.size
          have lt_r39 := s_r39.lt
          have f43 := (((s_w.ext eh18).ext eh22).ext eh40)
          refine s_app f43 s_r39 rfl rfl rfl (by simp [maxLen]; omega) (by simp; omega) (fun r44 h45 mh45 zh45 s_r44 ab_r44 => ?_)
          have E46 := E41.mod mh45 (fun b hb => by have := fr_w b hb; omega)
          have fr_r44 := fr_w.app ab_r44 (by omega)
          have np47 : b1 ∉ blks r44 := fun hc => (ab_r44 _ hc).elim np_b1_w (fun hc => by omega)
          have np48 : ∀ b ∈ blks r17, b ∉ blks r44 := fun b hb hc => (ab_r44 _ hc).elim (((fun b hb hc => by have := fr_r17 b hb; have := lt_w b hc; omega) : ∀ b ∈ blks r17, b ∉ blks w) b hb) (fun hc => by have := lt_r17 b hb; omega)
          have np49 : ∀ b ∈ blks r39, b ∉ blks r44 := fun b hb hc => (ab_r44 _ hc).elim (((fun b hb hc => by have := fr_r39 b hb; have := lt_w b hc; omega) : ∀ b ∈ blks r39, b ∉ blks w) b hb) (fun hc => by have := lt_r39 b hb; omega)
          have lt_r44 := s_r44.lt
          refine s_pure r44 (fun _ q => q) ?_
          refine s_nil ?_
          refine p_blkN ?_
          refine p_seqN ?_
          refine v_ops ?_
          refine s_pure (.int .i64 ((k : Int) + 1)) (fun _ q => ArithVC.mk (by omega) q) ?_
          refine s_pure (.int .i64 ((k : Int) + 1)) (fun _ q => q) ?_
          refine s_nil ?_
          have f50 := ((((bxb1.ext eh18).ext eh22).ext eh40).mod mh45 np_b1_w)
          exact p_lpN ⟨k + 1, (o ++ [(k : Int)]), r44, ⟨rfl, rfl, rfl, rfl, rfl, rfl, rfl⟩, ⟨E46, f50, (sl_eq s_r44 (by simp)), (fr_r44.mono (by omega)), np47, (by first | exact ⟨by omega, mt1 hn (by omega) ho (by assumption)⟩ | exact ⟨by omega, mt2 hn (by omega) ho (by assumption)⟩ | exact ⟨by omega, mt3 hn (by omega) ho (by assumption) (by assumption)⟩)⟩, by omega⟩
        ·
          refine v_skip ?_
          refine p_blkN ?_
          refine p_seqN ?_
          refine v_ops ?_
          refine s_pure (.int .i64 ((k : Int) + 1)) (fun _ q => ArithVC.mk (by omega) q) ?_
          refine s_pure (.int .i64 ((k : Int) + 1)) (fun _ q => q) ?_
          refine s_nil ?_
          have f51 := ((bxb1.ext eh18).ext eh22)
          have f52 := ((s_w.ext eh18).ext eh22)
          exact p_lpN ⟨k + 1, o, w, ⟨rfl, rfl, rfl, rfl, rfl, rfl, rfl⟩, ⟨E23, f51, (sl_eq f52 (by simp)), (fr_w.mono (by omega)), np_b1_w, (by first | exact ⟨by omega, mt1 hn (by omega) ho (by assumption)⟩ | exact ⟨by omega, mt2 hn (by omega) ho (by assumption)⟩ | exact ⟨by omega, mt3 hn (by omega) ho (by assumption) (by assumption)⟩)⟩, by omega⟩
    ·
      refine v_exit ?_
      refine p_seqX ?_
      refine p_lpX ?_
      refine p_blkX ?_
      refine p_seqN ?_
      refine v_seq ?_
      refine v_ops ?_
      refine s_pure w (fun _ q => q) ?_
      refine s_pure w (fun _ q => q) ?_
      refine s_pure (.bool true) (fun _ q => q) ?_
      refine s_nil ?_
      refine p_seqN ?_
      refine v_ret ?_
      refine p_ret [w, .bool true] (.tuple #[w, .bool true]) (fun _ q => q) rfl ?_
      have ho : (matterOf n a b) = (o, true) := by first | exact matter_no (by assumption) | (rw [matter_yes (by assumption : (firstOf n [] a b 0).2 = true), ho, show k = n.links.length by omega])
      exact ⟨w, by first | (rw [ho]; done) | rfl, sl_eq s_w (congrArg (fun o => o.1) ho).symm, fr_w.mono (by omega), Eh⟩

set_option maxRecDepth 10000 in
set_option maxHeartbeats 4000000 in
theorem spec_LinksThatMatter_ok (n : NetP) (v_n_towers : Value) (v_n_links : Value) (a : Int) (b : Int) (h : Heap) (s_n_towers : Sl h v_n_towers n.towers) (s_n_links : Sl h v_n_links n.links) : Cn f_spec_LinksThatMatter [.agg #[v_n_towers, v_n_links], .int .i64 a, .int .i64 b] h fun v h' => ∃ r0 : Value, v = .tuple #[r0, .bool ((matterOf n a b).2)] ∧ SlO h' r0 ((matterOf n a b).1) ∧ Fr h.size r0 ∧ Ext h h' := by
  have lt_n_towers := s_n_towers.lt
  have l63_n_towers := s_n_towers.len63
  have lt_n_links := s_n_links.lt
  have l63_n_links := s_n_links.len63
  refine calls_of r_spec_LinksThatMatter ?_
  refine v_seq ?_
  refine v_ops ?_
  refine s_box [v_n_towers, v_n_links] rfl (fun h2 b1 hbb1 hzb1 eh2 bxb1 => ?_)
  have E3 := (Ext.refl h).trans eh2
  have z4 := eh2.size
  have lbb1 := bxb1.lt
  refine s_pure (.slice none 0 0) (fun _ q => q) ?_
  refine s_pure (.bool false) (fun _ q => q) ?_
  refine s_nil ?_
  refine p_seqN ?_
  refine v_seq ?_
  refine v_ops ?_
  refine s_load (.agg #[v_n_towers, v_n_links]) (fun _ q => bxb1.loadA rfl q) ?_
  refine s_pure (.int .i64 a) (fun _ q => q) ?_
  refine s_pure (.int .i64 b) (fun _ q => q) ?_
  have f5 := (s_n_towers.ext eh2)
  have f6 := (s_n_links.ext eh2)
  refine s_call [.agg #[v_n_towers, v_n_links], .int .i64 a, .int .i64 b] rfl (spec_PlainDelay_ok n v_n_towers v_n_links a b _ f5 f6) ?_
  rintro _ h7 ⟨rfl, eh7⟩
  have E8 := E3.trans eh7
  have z9 := eh7.size
  refine s_pure (.tuple #[.int .i64 ((firstOf n [] a b 0).1), .bool ((firstOf n [] a b 0).2)]) (fun _ q => q) ?_
  refine s_pure (.int .i64 ((firstOf n [] a b 0).1)) (fun _ q => q) ?_
  refine s_pure (.bool ((firstOf n [] a b 0).2)) (fun _ q => q) ?_
  refine s_pure (.int .i64 ((firstOf n [] a b 0).1)) (fun _ q => q) ?_
  refine s_pure (.bool ((firstOf n [] a b 0).2)) (fun _ q => q) ?_
  refine s_nil ?_
  refine p_seqN ?_
  refine v_seq ?_
  refine v_seq ?_
  refine v_ops ?_
  refine s_pure (.bool ((firstOf n [] a b 0).2)) (fun _ q => q) ?_
  refine s_pure (.bool (!(firstOf n [] a b 0).2)) (fun _ q => q) ?_
  refine s_nil ?_
  refine p_seqN ?_
  refine v_cond rfl (fun c10 => ?_) (fun c10 => ?_)
  ·
    refine v_seq ?_
    refine v_ops ?_
    refine s_pure (.slice none 0 0) (fun _ q => q) ?_
    refine s_pure (.bool false) (fun _ q => q) ?_
    refine s_nil ?_
    refine p_seqN ?_
    refine v_ret ?_
    refine p_seqR ?_
    refine p_ret [.slice none 0 0, .bool false] (.tuple #[.slice none 0 0, .bool false]) (fun _ q => q) rfl ?_
    have ho : (matterOf n a b) = ([], false) := by first | exact matter_no (by assumption) | (rw [matter_yes (by assumption : (firstOf n [] a b 0).2 = true), ho, show k = n.links.length by omega])
    exact ⟨(.slice none 0 0), by first | (rw [ho]; done) | rfl, sl_eq (SlX.nil (α := Int) true _) (congrArg (fun o => o.1) ho).symm, Fr.nil _, E8⟩
  ·
    have c10 := Classical.not_not.1 c10
    refine v_skip ?_
    refine p_seqN ?_
    refine v_seq ?_
    refine v_ops ?_
    refine s_pure (.slice none 0 0) (fun _ q => q) ?_
    refine s_nil ?_
    refine p_seqN ?_
    refine v_seq ?_
    refine v_seq ?_
    refine v_ops ?_
    refine s_pure (.pointer (some ⟨b1, 1, none⟩)) (fun _ q => q) ?_
    have f11 := (bxb1.ext eh7)
    refine s_load v_n_links (fun _ q => f11.load rfl q) ?_
    refine s_pure (.int .i64 (n.links.length : Int)) (fun _ q => f6.lenVC q) ?_
    refine s_pure (.int .i64 0) (fun _ q => q) ?_
    refine s_nil ?_
    refine p_seqN ?_
    refine v_block ?_
    have hw : WayAsk n [] a b 0 := (first_ask (by assumption : (firstOf n [] a b 0).2 = true)).1
    have hn := hw.hn
    have hl2 := hn.l2
    refine v_loop3 (α := Nat) (β := List Int) (γ := Value) (fun k o w => [(1, .int .i64 a), (2, .int .i64 b), (3, .pointer (some ⟨b1, 0, none⟩)), (8, .int .i64 ((firstOf n [] a b 0).1)), (10, w), (25, .int .i64 (n.links.length : Int)), (26, .int .i64 (k : Int))]) (fun k o w hh => Ext h hh ∧ Bx hh b1 [v_n_towers, v_n_links] 32 ∧ SlO hh w o ∧ Fr h.size w ∧ b1 ∉ blks w ∧ k ≤ n.links.length ∧ o = matterTo n a b k) (fun k o w => n.links.length - k) 0 [] (.slice none 0 0) ⟨rfl, rfl, rfl, rfl, rfl, rfl, rfl⟩ ⟨E8, f11, (sl_eq (SlX.nil (α := Int) true h7) (by simp)), (Fr.nil _), (by simp [blks, fpts]), (by simp [matterTo])⟩ ?_
    rintro k o w R13 h12 ⟨Eh, bxb1, s_w, fr_w, np_b1_w, ⟨hk, ho⟩⟩
    have zEh := Eh.size
    have f14 := s_n_towers.ext Eh
    have f15 := s_n_links.ext Eh
    have lbb1 := bxb1.lt
    have lt_w := s_w.lt
    have hol := matter_len n a b k
    rw [← ho] at hol
    refine v_seq ?_
    refine v_ops ?_
    refine s_pure (.bool (decide ((k : Int) < (n.links.length : Int)))) (fun _ q => q) ?_
    refine s_nil ?_
    refine p_seqN ?_
    refine v_seq ?_
    refine v_cond rfl (fun c16 => ?_) (fun c16 => ?_)
    ·
      refine v_skip ?_
      refine p_seqN ?_
      refine v_seq ?_
      refine v_block ?_
      refine v_seq ?_
      refine v_ops ?_
      refine s_pure (.int .i64 (k : Int)) (fun _ q => q) ?_
      refine s_pure (.int .i64 (k : Int)) (fun _ q => q) ?_
      refine s_nil ?_
      refine p_seqN ?_
      refine v_seq ?_
      refine v_ops ?_
      refine s_load (.agg #[v_n_towers, v_n_links]) (fun _ q => bxb1.loadA rfl q) ?_
      refine s_pure (.int .i64 (k : Int)) (fun _ q => q) ?_
      refine s_call [.agg #[v_n_towers, v_n_links], .int .i64 (k : Int)] rfl (spec_roWithout_ok n v_n_towers v_n_links (k : Int) _ f14 f15 (by omega) (by omega)) ?_
      rintro _ h18 ⟨r17, rfl, s_r17, eh18, fr_r17⟩
      have E19 := Eh.trans eh18
      have z20 := eh18.size
      have lt_r17 := s_r17.lt
      refine s_pure (.int .i64 a) (fun _ q => q) ?_
      refine s_pure (.int .i64 b) (fun _ q => q) ?_
      have f21 := (f14.ext eh18)
      refine s_call [.agg #[v_n_towers, r17], .int .i64 a, .int .i64 b] rfl (spec_PlainDelay_ok (⟨n.towers, (n.links.take (k : Int).toNat ++ n.links.drop ((k : Int).toNat + 1))⟩ : NetP) v_n_towers r17 a b _ f21 s_r17.toSl) ?_
      rintro _ h22 ⟨rfl, eh22⟩
      have E23 := E19.trans eh22
      have z24 := eh22.size
      refine s_pure (.tuple #[.int .i64 ((firstOf (⟨n.towers, (n.links.take (k : Int).toNat ++ n.links.drop ((k : Int).toNat + 1))⟩ : NetP) [] a b 0).1), .bool ((firstOf (⟨n.towers, (n.links.take (k : Int).toNat ++ n.links.drop ((k : Int).toNat + 1))⟩ : NetP) [] a b 0).2)]) (fun _ q => q) ?_
      refine s_pure (.int .i64 ((firstOf (⟨n.towers, (n.links.take (k : Int).toNat ++ n.links.drop ((k : Int).toNat + 1))⟩ : NetP) [] a b 0).1)) (fun _ q => q) ?_
      refine s_pure (.bool ((firstOf (⟨n.towers, (n.links.take (k : Int).toNat ++ n.links.drop ((k : Int).toNat + 1))⟩ : NetP) [] a b 0).2)) (fun _ q => q) ?_
      refine s_pure (.int .i64 ((firstOf (⟨n.towers, (n.links.take (k : Int).toNat ++ n.links.drop ((k : Int).toNat + 1))⟩ : NetP) [] a b 0).1)) (fun _ q => q) ?_
      refine s_pure (.bool ((firstOf (⟨n.towers, (n.links.take (k : Int).toNat ++ n.links.drop ((k : Int).toNat + 1))⟩ : NetP) [] a b 0).2)) (fun _ q => q) ?_
      refine s_nil ?_
      refine p_seqN ?_
      refine v_seq ?_
      refine v_ops ?_
      refine s_pure (.bool ((firstOf (⟨n.towers, (n.links.take (k : Int).toNat ++ n.links.drop ((k : Int).toNat + 1))⟩ : NetP) [] a b 0).2)) (fun _ q => q) ?_
      refine s_pure (.bool (!(firstOf (⟨n.towers, (n.links.take (k : Int).toNat ++ n.links.drop ((k : Int).toNat + 1))⟩ : NetP) [] a b 0).2)) (fun _ q => q) ?_
      refine s_pure (.bool (!(firstOf (⟨n.towers, (n.links.take (k : Int).toNat ++ n.links.drop ((k : Int).toNat + 1))⟩ : NetP) [] a b 0).2)) (fun _ q => q) ?_
      refine s_splitT rfl (fun c25 => ?_) (fun c25 => ?_)
      ·
        refine s_pass rfl ?_
        refine s_pass rfl ?_
        refine s_pass rfl ?_
        refine s_pure (.bool true) (fun _ q => q) ?_
        refine s_nil ?_
        refine p_seqN ?_
        refine v_condY rfl rfl ?_
        refine v_ops ?_
        refine s_pure w (fun _ q => q) ?_
        refine s_pure (.int .i64 (k : Int)) (fun _ q => q) ?_
        refine s_row (α := Int) [(k : Int)] (fun _ q => seg_i rfl (seg_nil q)) rfl (by simp [maxLen]) (fun r26 h27 eh27 zh27 s_r26 fr_r26 => ?_)
        have E28 := E23.trans eh27
        have z29 := eh27.size
        have lt_r26 := s_r26.lt
        have f30 := (((s_w.ext eh18).ext eh22).ext eh27)
        refine s_app f30 s_r26 rfl rfl rfl (by simp [maxLen]; omega) (by simp; omega) (fun r31 h32 mh32 zh32 s_r31 ab_r31 => ?_)
        have E33 := E28.mod mh32 (fun b hb => by have := fr_w b hb; omega)
        have fr_r31 := fr_w.app ab_r31 (by omega)
        have np34 : b1 ∉ blks r31 := fun hc => (ab_r31 _ hc).elim np_b1_w (fun hc => by omega)
        have np35 : ∀ b ∈ blks r17, b ∉ blks r31 := fun b hb hc => (ab_r31 _ hc).elim (((fun b hb hc => by have := fr_r17 b hb; have := lt_w b hc; omega) : ∀ b ∈ blks r17, b ∉ blks w) b hb) (fun hc => by have := lt_r17 b hb; omega)
        have np36 : ∀ b ∈ blks r26, b ∉ blks r31 := fun b hb hc => (ab_r31 _ hc).elim (((fun b hb hc => by have := fr_r26 b hb; have := lt_w b hc; omega) : ∀ b ∈ blks r26, b ∉ blks w) b hb) (fun hc => by have := lt_r26 b hb; omega)
        have lt_r31 := s_r31.lt
        refine s_pure r31 (fun _ q => q) ?_
        refine s_nil ?_
        refine p_blkN ?_
        refine p_seqN ?_
        refine v_ops ?_
        refine s_pure (.int .i64 ((k : Int) + 1)) (fun _ q => ArithVC.mk (by omega) q) ?_
        refine s_pure (.int .i64 ((k : Int) + 1)) (fun _ q => q) ?_
        refine s_nil ?_
        have f37 := ((((bxb1.ext eh18).ext eh22).ext eh27).mod mh32 np_b1_w)
        exact p_lpN ⟨k + 1, (o ++ [(k : Int)]), r31, ⟨rfl, rfl, rfl, rfl, rfl, rfl, rfl⟩, ⟨E33, f37, (sl_eq s_r31 (by simp)), (fr_r31.mono (by omega)), np34, (by first | exact ⟨by omega, mt1 hn (by omega) ho (by assumption)⟩ | exact ⟨by omega, mt2 hn (by omega) ho (by assumption)⟩ | exact ⟨by omega, mt3 hn (by omega) ho (by assumption) (by assumption)⟩)⟩, by omega⟩
      ·
        have c25 := Classical.not_not.1 c25
        refine s_run rfl ?_
        refine s_pure (.int .i64 ((firstOf (⟨n.towers, (n.links.take (k : Int).toNat ++ n.links.drop ((k : Int).toNat + 1))⟩ : NetP) [] a b 0).1)) (fun _ q => q) ?_
        refine s_run rfl ?_
        refine s_pure (.int .i64 ((firstOf n [] a b 0).1)) (fun _ q => q) ?_
        refine s_run rfl ?_
        refine s_pure (.bool (decide ((firstOf (⟨n.towers, (n.links.take (k : Int).toNat ++ n.links.drop ((k : Int).toNat + 1))⟩ : NetP) [] a b 0).1 > (firstOf n [] a b 0).1))) (fun _ q => q) ?_
        refine s_pure (.bool (decide ((firstOf (⟨n.towers, (n.links.take (k : Int).toNat ++ n.links.drop ((k : Int).toNat + 1))⟩ : NetP) [] a b 0).1 > (firstOf n [] a b 0).1))) (fun _ q => q) ?_
        refine s_nil ?_
        refine p_seqN ?_
        refine v_cond rfl (fun c38 => ?_) (fun c38 => ?_)
        ·
          refine v_ops ?_
          refine s_pure w (fun _ q => q) ?_
          refine s_pure (.int .i64 (k : Int)) (fun _ q => q) ?_
          refine s_row (α := Int) [(k : Int)] (fun _ q => seg_i rfl (seg_nil q)) rfl (by simp [maxLen]) (fun r39 h40 eh40 zh40 s_r39 fr_r39 => ?_)
          have E41 := E23.trans eh40
          have z42 := eh40.size
          have lt_r39 := s_r39.lt
          have f43 := (((s_w.ext eh18).ext eh22).ext eh40)
          refine s_app f43 s_r39 rfl rfl rfl (by simp [maxLen]; omega) (by simp; omega) (fun r44 h45 mh45 zh45 s_r44 ab_r44 => ?_)
          have E46 := E41.mod mh45 (fun b hb => by have := fr_w b hb; omega)
          have fr_r44 := fr_w.app ab_r44 (by omega)
          have np47 : b1 ∉ blks r44 := fun hc => (ab_r44 _ hc).elim np_b1_w (fun hc => by omega)
          have np48 : ∀ b ∈ blks r17, b ∉ blks r44 := fun b hb hc => (ab_r44 _ hc).elim (((fun b hb hc => by have := fr_r17 b hb; have := lt_w b hc; omega) : ∀ b ∈ blks r17, b ∉ blks w) b hb) (fun hc => by have := lt_r17 b hb; omega)
          have np49 : ∀ b ∈ blks r39, b ∉ blks r44 := fun b hb hc => (ab_r44 _ hc).elim (((fun b hb hc => by have := fr_r39 b hb; have := lt_w b hc; omega) : ∀ b ∈ blks r39, b ∉ blks w) b hb) (fun hc => by have := lt_r39 b hb; omega)
          have lt_r44 := s_r44.lt
          refine s_pure r44 (fun _ q => q) ?_
          refine s_nil ?_
          refine p_blkN ?_
          refine p_seqN ?_
          refine v_ops ?_
          refine s_pure (.int .i64 ((k : Int) + 1)) (fun _ q => ArithVC.mk (by omega) q) ?_
          refine s_pure (.int .i64 ((k : Int) + 1)) (fun _ q => q) ?_
          refine s_nil ?_
          have f50 := ((((bxb1.ext eh18).ext eh22).ext eh40).mod mh45 np_b1_w)
          exact p_lpN ⟨k + 1, (o ++ [(k : Int)]), r44, ⟨rfl, rfl, rfl, rfl, rfl, rfl, rfl⟩, ⟨E46, f50, (sl_eq s_r44 (by simp)), (fr_r44.mono (by omega)), np47, (by first | exact ⟨by omega, mt1 hn (by omega) ho (by assumption)⟩ | exact ⟨by omega, mt2 hn (by omega) ho (by assumption)⟩ | exact ⟨by omega, mt3 hn (by omega) ho (by assumption) (by assumption)⟩)⟩, by omega⟩
        ·
          refine v_skip ?_
          refine p_blkN ?_
          refine p_seqN ?_
          refine v_ops ?_
          refine s_pure (.int .i64 ((k : Int) + 1)) (fun _ q => ArithVC.mk (by omega) q) ?_
          refine s_pure (.int .i64 ((k : Int) + 1)) (fun _ q => q) ?_
          refine s_nil ?_
          have f51 := ((bxb1.ext eh18).ext eh22)
          have f52 := ((s_w.ext eh18).ext eh22)
          exact p_lpN ⟨k + 1, o, w, ⟨rfl, rfl, rfl, rfl, rfl, rfl, rfl⟩, ⟨E23, f51, (sl_eq f52 (by simp)), (fr_w.mono (by omega)), np_b1_w, (by first | exact ⟨by omega, mt1 hn (by omega) ho (by assumption)⟩ | exact ⟨by omega, mt2 hn (by omega) ho (by assumption)⟩ | exact ⟨by omega, mt3 hn (by omega) ho (by assumption) (by assumption)⟩)⟩, by omega⟩
    ·
      refine v_exit ?_
      refine p_seqX ?_
      refine p_lpX ?_
      refine p_blkX ?_
      refine p_seqN ?_
      refine v_seq ?_
      refine v_ops ?_
      refine s_pure w (fun _ q => q) ?_
      refine s_pure w (fun _ q => q) ?_
      refine s_pure (.bool true) (fun _ q => q) ?_
      refine s_nil ?_
      refine p_seqN ?_
      refine v_ret ?_
      refine p_ret [w, .bool true] (.tuple #[w, .bool true]) (fun _ q => q) rfl ?_
      have ho : (matterOf n a b) = (o, true) := by first | exact matter_no (by assumption) | (rw [matter_yes (by assumption : (firstOf n [] a b 0).2 = true), ho, show k = n.links.length by omega])
      exact ⟨w, by first | (rw [ho]; done) | rfl, sl_eq s_w (congrArg (fun o => o.1) ho).symm, fr_w.mono (by omega), Eh⟩

end Go.Proofs.Ythagdkmalchhgaa
