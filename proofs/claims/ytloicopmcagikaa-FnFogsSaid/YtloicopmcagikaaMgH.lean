/- Ro14, Fo4. Condition: none. -/
import Derived.Test.YtloicopmcagikaaSortLay
import Derived.Test.YtloicopmcagikaaMgA
import Derived.Test.YtloicopmcagikaaMgB
import Derived.Test.YtloicopmcagikaaMgG
import Derived.Test.YtloicopmcagikaaMgD
import Derived.Test.YtloicopmcagikaaSized
/- One fog more. Condition: none. Printed in part by a program. -/
namespace Go.Proofs.Ytloicopmcagikaa
open Go.Vc
set_option linter.all false

theorem mrg_min {x y : FogD} : mrg x y = ⟨x.link, if x.fr < y.fr then x.fr else y.fr, if x.til > y.til then x.til else y.til⟩ := by
  unfold mrg
  congr 1
  · split <;> split <;> omega
  · split <;> split <;> omega
theorem adR_test {n : NetP} {l : List FogD} {x : FogD} (hn : NetOk n) (hf : FogsOk n.links.length l) (hx : FogOk n.links.length x) (h : FogsOk n.links.length (adR (ad x l))) : AddAsk n l x := ⟨hn, hf, hx, (add_test hf hx).1 h⟩

set_option maxRecDepth 10000 in
set_option maxHeartbeats 4000000 in
theorem impl_AddFog_ok (n : NetP) (v_n_towers : Value) (v_n_links : Value) (v_l : Value) (l : List FogD) (x : FogD) (h : Heap) (s_n_towers : Sl h v_n_towers n.towers) (s_n_links : Sl h v_n_links n.links) (s_l : Sl h v_l l) : Cn f_impl_AddFog [.agg #[v_n_towers, v_n_links], v_l, .agg #[.int .i64 x.link, .int .i64 x.fr, .int .i64 x.til]] h fun v h' => ∃ r0 : Value, v = .tuple #[r0, .bool ((addOut n l x).2)] ∧ SlO h' r0 ((addOut n l x).1) ∧ Fr h.size r0 ∧ Ext h h' := by
 have l63_n_towers := s_n_towers.len63
 have l63_n_links := s_n_links.len63
 have l63_l := s_l.len63
 refine calls_of r_impl_AddFog ?_
 refine v_seq <| v_ops ?_
 refine s_box [v_n_towers, v_n_links] rfl (fun h2 b1 hbb1 hzb1 eh2 bxb1 => ?_)
 have E3 := (Ext.refl h).trans eh2
 have z4 := eh2.size
 have lbb1 := bxb1.lt
 refine s_box [.int .i64 x.link, .int .i64 x.fr, .int .i64 x.til] rfl (fun h6 b5 hbb5 hzb5 eh6 bxb5 => ?_)
 have E7 := E3.trans eh6
 have z8 := eh6.size
 have lbb5 := bxb5.lt
 refine s_pq (.slice none 0 0) <| s_pq (.bool false) <| s_nil <| p_seqN <| v_seq <| v_seq <| v_ops ?_
 have f9 := (bxb1.ext eh6)
 refine s_load (.agg #[v_n_towers, v_n_links]) (fun _ q => f9.loadA rfl q) ?_
 have f10 := ((s_n_towers.ext eh2).ext eh6)
 have f11 := ((s_n_links.ext eh2).ext eh6)
 refine s_call [.agg #[v_n_towers, v_n_links]] rfl (impl_IsNet_ok n v_n_towers v_n_links _ f10 f11) ?_
 rintro _ h12 ⟨rfl, eh12⟩
 have E13 := E7.trans eh12
 have z14 := eh12.size
 refine s_pq (.bool (!decide (NetOk n))) <| s_pq (.bool (!decide (NetOk n))) ?_
 refine s_splitT rfl (fun c15 => ?_) (fun c15 => ?_)
 ·
  refine s_pass rfl <| s_pass rfl <| s_pass rfl <| s_pass rfl <| s_pq (.bool true) <| s_pq (.bool true) <| s_splitY rfl rfl <| s_pass rfl <| s_pass rfl <| s_pass rfl <| s_pass rfl <| s_pq (.bool true) <| s_nil <| p_seqN <| v_condY rfl rfl <| v_seq <| v_ops <| s_pq (.slice none 0 0) <| s_pq (.bool false) <| s_nil <| p_seqN <| v_ret <| p_seqR <| p_ret [.slice none 0 0, .bool false] (.tuple #[.slice none 0 0, .bool false]) (fun _ q => q) rfl ?_
  have ho : (addOut n l x) = ([], false) := by first | exact add_no (fun h => by first | exact (by assumption : ¬ NetOk n) h.hn | exact (by assumption : ¬ FogsOk _ _) h.hf | exact (by assumption : ¬ FogOk _ _) h.hx) | ((have hA2 : ad x l = (u, o, j) := by rw [← hA, take_all (by assumption)]); first | exact add_no (fun h => by (have h6 := h.h60); rw [hA2] at h6; simp only at h6; omega) | (rw [add_yes ⟨by assumption, by assumption, by assumption, by rw [hA2]; simp only; omega⟩]; exact congrArg (fun q => (q, true)) (add_sort (by assumption : FogsOk n.links.length l) (by assumption : FogOk n.links.length x) hA2 (by assumption) (by assumption)).symm))
  exact ⟨(.slice none 0 0), by first | (rw [ho]; done) | rfl, sl_eq (SlX.nil (α := FogD) true _) (congrArg (fun o => o.1) ho).symm, Fr.nil _, E13⟩
 have c15 := Classical.not_not.1 c15
 refine s_run rfl ?_
 have f16 := (f9.ext eh12)
 refine s_load (.agg #[v_n_towers, v_n_links]) (fun _ q => f16.loadA rfl q) <| s_run rfl <| s_pq v_l <| s_run rfl ?_
 have f17 := (f10.ext eh12)
 have f18 := (f11.ext eh12)
 have f19 := (((s_l.ext eh2).ext eh6).ext eh12)
 refine s_call [.agg #[v_n_towers, v_n_links], v_l] rfl (impl_areFogs_ok n v_n_towers v_n_links v_l l _ f17 f18 f19) ?_
 rintro _ h20 ⟨rfl, eh20⟩
 have E21 := E13.trans eh20
 have z22 := eh20.size
 refine s_run rfl <| s_pq (.bool (!(decide (FogsOk n.links.length l)))) <| s_pq (.bool (!(decide (FogsOk n.links.length l)))) <| s_pq (.bool (!(decide (FogsOk n.links.length l)))) ?_
 refine s_splitT rfl (fun c23 => ?_) (fun c23 => ?_)
 ·
  refine s_pass rfl <| s_pass rfl <| s_pass rfl <| s_pass rfl <| s_pq (.bool true) <| s_nil <| p_seqN <| v_condY rfl rfl <| v_seq <| v_ops <| s_pq (.slice none 0 0) <| s_pq (.bool false) <| s_nil <| p_seqN <| v_ret <| p_seqR <| p_ret [.slice none 0 0, .bool false] (.tuple #[.slice none 0 0, .bool false]) (fun _ q => q) rfl ?_
  have ho : (addOut n l x) = ([], false) := by first | exact add_no (fun h => by first | exact (by assumption : ¬ NetOk n) h.hn | exact (by assumption : ¬ FogsOk _ _) h.hf | exact (by assumption : ¬ FogOk _ _) h.hx) | ((have hA2 : ad x l = (u, o, j) := by rw [← hA, take_all (by assumption)]); first | exact add_no (fun h => by (have h6 := h.h60); rw [hA2] at h6; simp only at h6; omega) | (rw [add_yes ⟨by assumption, by assumption, by assumption, by rw [hA2]; simp only; omega⟩]; exact congrArg (fun q => (q, true)) (add_sort (by assumption : FogsOk n.links.length l) (by assumption : FogOk n.links.length x) hA2 (by assumption) (by assumption)).symm))
  exact ⟨(.slice none 0 0), by first | (rw [ho]; done) | rfl, sl_eq (SlX.nil (α := FogD) true _) (congrArg (fun o => o.1) ho).symm, Fr.nil _, E21⟩
 have c23 := Classical.not_not.1 c23
 refine s_run rfl ?_
 have f24 := (f16.ext eh20)
 refine s_load (.agg #[v_n_towers, v_n_links]) (fun _ q => f24.loadA rfl q) <| s_run rfl ?_
 have f25 := ((bxb5.ext eh12).ext eh20)
 refine s_load (.agg #[.int .i64 x.link, .int .i64 x.fr, .int .i64 x.til]) (fun _ q => f25.loadA rfl q) <| s_run rfl ?_
 have f26 := (f17.ext eh20)
 have f27 := (f18.ext eh20)
 refine s_call [.agg #[v_n_towers, v_n_links], .agg #[.int .i64 x.link, .int .i64 x.fr, .int .i64 x.til]] rfl (impl_isFog_ok n v_n_towers v_n_links x _ f26 f27) ?_
 rintro _ h28 ⟨rfl, eh28⟩
 have E29 := E21.trans eh28
 have z30 := eh28.size
 refine s_run rfl <| s_pq (.bool (!(decide (FogOk n.links.length x)))) <| s_pq (.bool (!(decide (FogOk n.links.length x)))) <| s_nil <| p_seqN ?_
 refine v_cond rfl (fun c31 => ?_) (fun c31 => ?_)
 ·
  refine v_seq <| v_ops <| s_pq (.slice none 0 0) <| s_pq (.bool false) <| s_nil <| p_seqN <| v_ret <| p_seqR <| p_ret [.slice none 0 0, .bool false] (.tuple #[.slice none 0 0, .bool false]) (fun _ q => q) rfl ?_
  have ho : (addOut n l x) = ([], false) := by first | exact add_no (fun h => by first | exact (by assumption : ¬ NetOk n) h.hn | exact (by assumption : ¬ FogsOk _ _) h.hf | exact (by assumption : ¬ FogOk _ _) h.hx) | ((have hA2 : ad x l = (u, o, j) := by rw [← hA, take_all (by assumption)]); first | exact add_no (fun h => by (have h6 := h.h60); rw [hA2] at h6; simp only at h6; omega) | (rw [add_yes ⟨by assumption, by assumption, by assumption, by rw [hA2]; simp only; omega⟩]; exact congrArg (fun q => (q, true)) (add_sort (by assumption : FogsOk n.links.length l) (by assumption : FogOk n.links.length x) hA2 (by assumption) (by assumption)).symm))
  exact ⟨(.slice none 0 0), by first | (rw [ho]; done) | rfl, sl_eq (SlX.nil (α := FogD) true _) (congrArg (fun o => o.1) ho).symm, Fr.nil _, E29⟩
 have c31 := Classical.not_not.1 c31
 refine v_skip <| p_seqN <| v_seq <| v_ops <| s_pq (.slice none 0 0) <| s_nil <| p_seqN <| v_seq <| v_seq <| v_ops <| s_pq v_l <| s_pure (.int .i64 (l.length : Int)) (fun _ q => f19.lenVC q) <| s_pq (.int .i64 0) <| s_nil <| p_seqN <| v_block ?_
 have f33 := (f25.ext eh28)
 refine v_loop4 (α := Nat) (β := FogD) (γ := List FogD) (δ := Value) (fun k u o w => [(5, .pointer (some ⟨b5, 0, none⟩)), (8, w), (26, v_l), (27, .int .i64 (l.length : Int)), (28, .int .i64 (k : Int))]) (fun k u o w hh => Ext h hh ∧ Bx hh b5 [.int .i64 u.link, .int .i64 u.fr, .int .i64 u.til] 57 ∧ SlO hh w o ∧ Fr h.size w ∧ b5 ∉ blks w ∧ k ≤ l.length ∧ ∃ j, ad x (l.take k) = (u, o, j)) (fun k u o w => l.length - k) 0 x [] (.slice none 0 0) ⟨rfl, rfl, rfl, rfl, rfl⟩ ⟨E29, f33, (sl_eq (SlX.nil (α := FogD) true h28) (by simp)), (Fr.nil _), (by simp [blks, fpts]), (by exact ⟨by omega, 0, rfl⟩)⟩ ?_
 rintro k u o w R34 h32 ⟨Eh, bxb5, s_w, fr_w, np_b5_w, ⟨hk, j, hA⟩⟩
 have zEh := Eh.size
 have f38 := s_l.ext Eh
 have lbb5 := bxb5.lt
 have lt_w := s_w.lt
 have hol := ad_len x (l.take k)
 rw [hA] at hol
 simp only [List.length_take] at hol
 have h60 := (by assumption : FogsOk n.links.length l).1
 refine v_seq <| v_ops <| s_pq (.bool (decide ((k : Int) < (l.length : Int)))) <| s_nil <| p_seqN <| v_seq ?_
 refine v_cond rfl (fun c39 => ?_) (fun c39 => ?_)
 ·
  refine v_skip <| p_seqN <| v_seq <| v_block <| v_seq <| v_ops ?_
  have hk40 : k < l.length := (by first | omega | (simp; omega))
  obtain ⟨x41, hx41⟩ : ∃ x, l[k]? = some x := ⟨_, List.getElem?_eq_getElem hk40⟩
  refine s_pure (.pointer (some ⟨sblk v_l, soff v_l + k * 3, none⟩)) (fun _ q => f38.idx (k := k) rfl hk40 q) <| s_load (.agg #[.int .i64 x41.link, .int .i64 x41.fr, .int .i64 x41.til]) (fun _ q => f38.loadN hx41 rfl q) ?_
  refine s_new (fun h43 b42 hbb42 hzb42 eh43 bxb42 => ?_)
  have E44 := Eh.trans eh43
  have z45 := eh43.size
  have lbb42 := bxb42.lt
  refine s_stBx (.agg #[.int .i64 x41.link, .int .i64 x41.fr, .int .i64 x41.til]) [.int .i64 x41.link, .int .i64 x41.fr, .int .i64 x41.til] [.int .i64 x41.link, .int .i64 x41.fr, .int .i64 x41.til] bxb42 rfl rfl rfl rfl (by simp) (all_cons rfl (all_cons rfl (all_cons rfl all_nil))) rfl (fun h46 mh46 sh46 bxx47 => ?_)
  have E48 := E44.mod mh46 (fun b hb => by simp at hb; omega)
  refine s_nil <| p_seqN <| v_seq <| v_ops <| s_pq (.pointer (some ⟨b42, 0, none⟩)) <| s_load (.int .i64 x41.link) (fun _ q => bxx47.load rfl q) <| s_pq (.pointer (some ⟨b5, 0, none⟩)) ?_
  have f49 := ((bxb5.ext eh43).mod mh46 (by simp; omega))
  refine s_load (.int .i64 u.link) (fun _ q => f49.load rfl q) <| s_pq (.bool (x41.link == u.link)) <| s_pq (.bool (x41.link == u.link)) ?_
  refine s_splitT rfl (fun c50 => ?_) (fun c50 => ?_)
  ·
   refine s_run rfl <| s_pq (.pointer (some ⟨b42, 1, none⟩)) <| s_run rfl <| s_load (.int .i64 x41.fr) (fun _ q => bxx47.load rfl q) <| s_run rfl <| s_pq (.pointer (some ⟨b5, 2, none⟩)) <| s_run rfl <| s_load (.int .i64 u.til) (fun _ q => f49.load rfl q) <| s_run rfl <| s_pq (.bool (decide (x41.fr ≤ u.til))) <| s_pq (.bool (decide (x41.fr ≤ u.til))) <| s_pq (.bool (decide (x41.fr ≤ u.til))) ?_
   refine s_splitT rfl (fun c51 => ?_) (fun c51 => ?_)
   ·
    refine s_run rfl <| s_pq (.pointer (some ⟨b5, 1, none⟩)) <| s_run rfl <| s_load (.int .i64 u.fr) (fun _ q => f49.load rfl q) <| s_run rfl <| s_pq (.pointer (some ⟨b42, 2, none⟩)) <| s_run rfl <| s_load (.int .i64 x41.til) (fun _ q => bxx47.load rfl q) <| s_run rfl <| s_pq (.bool (decide (u.fr ≤ x41.til))) <| s_pq (.bool (decide (u.fr ≤ x41.til))) <| s_nil <| p_seqN ?_
    refine v_cond rfl (fun c52 => ?_) (fun c52 => ?_)
    ·
     refine v_draw (DrawVC.hold ([b42]) ?_)
     refine d_pq (.pointer (some ⟨b5, 1, none⟩)) <| d_pq (.pointer (some ⟨b42, 1, none⟩)) <| d_pq (.pointer (some ⟨b5, 2, none⟩)) <| d_pq (.pointer (some ⟨b42, 2, none⟩)) <| d_loadO (.int .i64 u.fr) (fun _ q => f49.load rfl q) <| d_loadO (.int .i64 x41.fr) (fun _ q => bxx47.load rfl q) <| d_pq (.int .i64 (if x41.fr < u.fr then x41.fr else u.fr)) <| d_loadO (.int .i64 u.til) (fun _ q => f49.load rfl q) <| d_pq (.pointer (some ⟨b5, 1, none⟩)) <| d_loadT (.int .i64 x41.til) (fun _ q => bxx47.take (by simp) rfl q) ?_
     refine d_pq (.int .i64 (if x41.til > u.til then x41.til else u.til)) <| d_eff ?_
     refine s_stBx (.int .i64 (if x41.fr < u.fr then x41.fr else u.fr)) [.int .i64 (if x41.fr < u.fr then x41.fr else u.fr)] [.int .i64 u.link, .int .i64 (if x41.fr < u.fr then x41.fr else u.fr), .int .i64 u.til] f49 rfl rfl rfl rfl (by simp) (all_cons rfl all_nil) rfl (fun h53 mh53 sh53 bxx54 => ?_)
     have E55 := E48.mod mh53 (fun b hb => by simp at hb; omega)
     have G56 := gmod1 (b := b42) (h := h46) (h0 := h46) mh53 (by omega) (by simp; omega) (fun _ _ => rfl)
     refine s_nil ⟨fun _ x hx => G56 x hx, ?_⟩
     refine d_pq (.pointer (some ⟨b5, 2, none⟩)) <| d_eff ?_
     refine s_stBx (.int .i64 (if x41.til > u.til then x41.til else u.til)) [.int .i64 (if x41.til > u.til then x41.til else u.til)] [.int .i64 u.link, .int .i64 (if x41.fr < u.fr then x41.fr else u.fr), .int .i64 (if x41.til > u.til then x41.til else u.til)] bxx54 rfl rfl rfl rfl (by simp) (all_cons rfl all_nil) rfl (fun h57 mh57 sh57 bxx58 => ?_)
     have E59 := E55.mod mh57 (fun b hb => by simp at hb; omega)
     refine s_nil ⟨fun hl => (by cases hl), ?_⟩
     refine d_done <| p_blkN <| p_seqN <| v_ops <| s_pure (.int .i64 ((k : Int) + 1)) (fun _ q => ArithVC.mk (by omega) q) <| s_pq (.int .i64 ((k : Int) + 1)) <| s_nil ?_
     have f60 := ((((s_w.ext eh43).mod mh46 (fun b hb hc => by simp at hc; have := lt_w b hb; omega)).mod mh53 (nb1 np_b5_w)).mod mh57 (nb1 np_b5_w))
     exact p_lpN ⟨k + 1, (mrg u x41), o, w, ⟨rfl, rfl, rfl, rfl, rfl⟩, ⟨E59, bxx58, (sl_eq f60 (by simp)), (fr_w.mono (by omega)), np_b5_w, (by first | exact ⟨by omega, j, by rw [snoc_get (by assumption)]; exact ad_touch hA ⟨by omega, by omega, by omega⟩⟩ | (by_cases hl : x41.link < u.link ∨ (x41.link = u.link ∧ x41.fr < u.fr) <;> first | exact ⟨by omega, o.length + 1, by rw [snoc_get (by assumption)]; exact ad_less hA (by unfold tch; omega) hl⟩ | exact ⟨by omega, j, by rw [snoc_get (by assumption)]; exact ad_more hA (by unfold tch; omega) hl⟩))⟩, by omega⟩
    refine v_ops <| s_pq w <| s_load (.agg #[.int .i64 x41.link, .int .i64 x41.fr, .int .i64 x41.til]) (fun _ q => bxx47.loadA rfl q) ?_
    refine s_row (α := FogD) [(⟨x41.link, x41.fr, x41.til⟩ : FogD)] (fun _ q => seg_agg rfl rfl (seg_nil q)) rfl (by simp [maxLen]) (fun r61 h62 eh62 zh62 s_r61 fr_r61 => ?_)
    have E63 := E48.trans eh62
    have z64 := eh62.size
    have f65 := (((s_w.ext eh43).mod mh46 (fun b hb hc => by simp at hc; have := lt_w b hb; omega)).ext eh62)
    refine s_app f65 s_r61 rfl rfl rfl (by simp [maxLen]; omega) (by simp; omega) (fun r66 h67 mh67 zh67 s_r66 ab_r66 => ?_)
    have E68 := E63.mod mh67 (fun b hb => by have := fr_w b hb; omega)
    have fr_r66 := fr_w.app ab_r66 (by omega)
    have np69 : b5 ∉ blks r66 := fun hc => (ab_r66 _ hc).elim np_b5_w (fun hc => by omega)
    refine s_pq r66 <| s_nil <| p_blkN <| p_seqN <| v_ops <| s_pure (.int .i64 ((k : Int) + 1)) (fun _ q => ArithVC.mk (by omega) q) <| s_pq (.int .i64 ((k : Int) + 1)) <| s_nil ?_
    have f72 := ((f49.ext eh62).mod mh67 np_b5_w)
    exact p_lpN ⟨k + 1, u, (o ++ [(⟨x41.link, x41.fr, x41.til⟩ : FogD)]), r66, ⟨rfl, rfl, rfl, rfl, rfl⟩, ⟨E68, f72, (sl_eq s_r66 (by simp)), (fr_r66.mono (by omega)), np69, (by first | exact ⟨by omega, j, by rw [snoc_get (by assumption)]; exact ad_touch hA ⟨by omega, by omega, by omega⟩⟩ | (by_cases hl : x41.link < u.link ∨ (x41.link = u.link ∧ x41.fr < u.fr) <;> first | exact ⟨by omega, o.length + 1, by rw [snoc_get (by assumption)]; exact ad_less hA (by unfold tch; omega) hl⟩ | exact ⟨by omega, j, by rw [snoc_get (by assumption)]; exact ad_more hA (by unfold tch; omega) hl⟩))⟩, by omega⟩
   refine s_pass rfl <| s_pass rfl <| s_pass rfl <| s_pass rfl <| s_pass rfl <| s_pq (.bool false) <| s_nil <| p_seqN <| v_condN rfl (by simp) <| v_ops <| s_pq w <| s_load (.agg #[.int .i64 x41.link, .int .i64 x41.fr, .int .i64 x41.til]) (fun _ q => bxx47.loadA rfl q) ?_
   refine s_row (α := FogD) [(⟨x41.link, x41.fr, x41.til⟩ : FogD)] (fun _ q => seg_agg rfl rfl (seg_nil q)) rfl (by simp [maxLen]) (fun r73 h74 eh74 zh74 s_r73 fr_r73 => ?_)
   have E75 := E48.trans eh74
   have z76 := eh74.size
   have f77 := (((s_w.ext eh43).mod mh46 (fun b hb hc => by simp at hc; have := lt_w b hb; omega)).ext eh74)
   refine s_app f77 s_r73 rfl rfl rfl (by simp [maxLen]; omega) (by simp; omega) (fun r78 h79 mh79 zh79 s_r78 ab_r78 => ?_)
   have E80 := E75.mod mh79 (fun b hb => by have := fr_w b hb; omega)
   have fr_r78 := fr_w.app ab_r78 (by omega)
   have np81 : b5 ∉ blks r78 := fun hc => (ab_r78 _ hc).elim np_b5_w (fun hc => by omega)
   refine s_pq r78 <| s_nil <| p_blkN <| p_seqN <| v_ops <| s_pure (.int .i64 ((k : Int) + 1)) (fun _ q => ArithVC.mk (by omega) q) <| s_pq (.int .i64 ((k : Int) + 1)) <| s_nil ?_
   have f84 := ((f49.ext eh74).mod mh79 np_b5_w)
   exact p_lpN ⟨k + 1, u, (o ++ [(⟨x41.link, x41.fr, x41.til⟩ : FogD)]), r78, ⟨rfl, rfl, rfl, rfl, rfl⟩, ⟨E80, f84, (sl_eq s_r78 (by simp)), (fr_r78.mono (by omega)), np81, (by first | exact ⟨by omega, j, by rw [snoc_get (by assumption)]; exact ad_touch hA ⟨by omega, by omega, by omega⟩⟩ | (by_cases hl : x41.link < u.link ∨ (x41.link = u.link ∧ x41.fr < u.fr) <;> first | exact ⟨by omega, o.length + 1, by rw [snoc_get (by assumption)]; exact ad_less hA (by unfold tch; omega) hl⟩ | exact ⟨by omega, j, by rw [snoc_get (by assumption)]; exact ad_more hA (by unfold tch; omega) hl⟩))⟩, by omega⟩
  refine s_pass rfl <| s_pass rfl <| s_pass rfl <| s_pass rfl <| s_pass rfl <| s_pq (.bool false) <| s_pq (.bool false) <| s_splitN rfl (by simp) <| s_pass rfl <| s_pass rfl <| s_pass rfl <| s_pass rfl <| s_pass rfl <| s_pq (.bool false) <| s_nil <| p_seqN <| v_condN rfl (by simp) <| v_ops <| s_pq w <| s_load (.agg #[.int .i64 x41.link, .int .i64 x41.fr, .int .i64 x41.til]) (fun _ q => bxx47.loadA rfl q) ?_
  refine s_row (α := FogD) [(⟨x41.link, x41.fr, x41.til⟩ : FogD)] (fun _ q => seg_agg rfl rfl (seg_nil q)) rfl (by simp [maxLen]) (fun r85 h86 eh86 zh86 s_r85 fr_r85 => ?_)
  have E87 := E48.trans eh86
  have z88 := eh86.size
  have f89 := (((s_w.ext eh43).mod mh46 (fun b hb hc => by simp at hc; have := lt_w b hb; omega)).ext eh86)
  refine s_app f89 s_r85 rfl rfl rfl (by simp [maxLen]; omega) (by simp; omega) (fun r90 h91 mh91 zh91 s_r90 ab_r90 => ?_)
  have E92 := E87.mod mh91 (fun b hb => by have := fr_w b hb; omega)
  have fr_r90 := fr_w.app ab_r90 (by omega)
  have np93 : b5 ∉ blks r90 := fun hc => (ab_r90 _ hc).elim np_b5_w (fun hc => by omega)
  refine s_pq r90 <| s_nil <| p_blkN <| p_seqN <| v_ops <| s_pure (.int .i64 ((k : Int) + 1)) (fun _ q => ArithVC.mk (by omega) q) <| s_pq (.int .i64 ((k : Int) + 1)) <| s_nil ?_
  have f96 := ((f49.ext eh86).mod mh91 np_b5_w)
  exact p_lpN ⟨k + 1, u, (o ++ [(⟨x41.link, x41.fr, x41.til⟩ : FogD)]), r90, ⟨rfl, rfl, rfl, rfl, rfl⟩, ⟨E92, f96, (sl_eq s_r90 (by simp)), (fr_r90.mono (by omega)), np93, (by first | exact ⟨by omega, j, by rw [snoc_get (by assumption)]; exact ad_touch hA ⟨by omega, by omega, by omega⟩⟩ | (by_cases hl : x41.link < u.link ∨ (x41.link = u.link ∧ x41.fr < u.fr) <;> first | exact ⟨by omega, o.length + 1, by rw [snoc_get (by assumption)]; exact ad_less hA (by unfold tch; omega) hl⟩ | exact ⟨by omega, j, by rw [snoc_get (by assumption)]; exact ad_more hA (by unfold tch; omega) hl⟩))⟩, by omega⟩
 refine v_exit <| p_seqX <| p_lpX <| p_blkX <| p_seqN <| v_seq <| v_ops <| s_pq w <| s_load (.agg #[.int .i64 u.link, .int .i64 u.fr, .int .i64 u.til]) (fun _ q => bxb5.loadA rfl q) ?_
 refine s_row (α := FogD) [(⟨u.link, u.fr, u.til⟩ : FogD)] (fun _ q => seg_agg rfl rfl (seg_nil q)) rfl (by simp [maxLen]) (fun r97 h98 eh98 zh98 s_r97 fr_r97 => ?_)
 have E99 := Eh.trans eh98
 have z100 := eh98.size
 have f101 := (s_w.ext eh98)
 refine s_app f101 s_r97 rfl rfl rfl (by simp [maxLen]; omega) (by simp; omega) (fun r102 h103 mh103 zh103 s_r102 ab_r102 => ?_)
 have E104 := E99.mod mh103 (fun b hb => by have := fr_w b hb; omega)
 have fr_r102 := fr_w.app ab_r102 (by omega)
 refine s_pq r102 <| s_nil <| p_seqN <| v_seq <| v_ops <| s_pq r102 <| s_call [r102, .func (.func 69) #[] #[]] rfl (sortFogs_ok r102 (o ++ [(⟨u.link, u.fr, u.til⟩ : FogD)]) _ s_r102 (by simp) (by simp; omega)) ?_
 rintro _ h107 ⟨ys108, rfl, s109, mh107, hp110, hs111⟩
 have E112 := E104.mod mh107 (fun b hb => by have := fr_r102 b hb; omega)
 have hlys108 : ys108.length = o.length + 1 := by rw [hp110.length_eq]; simp
 refine s_nil <| p_seqN <| v_seq <| v_seq <| v_ops <| s_pq r102 <| s_pure (.int .i64 (ys108.length : Int)) (fun _ q => s109.lenVC q) <| s_pq (.bool (decide ((ys108.length : Int) > 60))) <| s_nil <| p_seqN ?_
 refine v_cond rfl (fun c113 => ?_) (fun c113 => ?_)
 ·
  refine v_seq <| v_ops <| s_pq (.slice none 0 0) <| s_pq (.bool false) <| s_nil <| p_seqN <| v_ret <| p_seqR <| p_ret [.slice none 0 0, .bool false] (.tuple #[.slice none 0 0, .bool false]) (fun _ q => q) rfl ?_
  have ho : (addOut n l x) = ([], false) := by first | exact add_no (fun h => by first | exact (by assumption : ¬ NetOk n) h.hn | exact (by assumption : ¬ FogsOk _ _) h.hf | exact (by assumption : ¬ FogOk _ _) h.hx) | ((have hA2 : ad x l = (u, o, j) := by rw [← hA, take_all (by assumption)]); first | exact add_no (fun h => by (have h6 := h.h60); rw [hA2] at h6; simp only at h6; omega) | (rw [add_yes ⟨by assumption, by assumption, by assumption, by rw [hA2]; simp only; omega⟩]; exact congrArg (fun q => (q, true)) (add_sort (by assumption : FogsOk n.links.length l) (by assumption : FogOk n.links.length x) hA2 (by assumption) (by assumption)).symm))
  exact ⟨(.slice none 0 0), by first | (rw [ho]; done) | rfl, sl_eq (SlX.nil (α := FogD) true _) (congrArg (fun o => o.1) ho).symm, Fr.nil _, E112⟩
 refine v_skip <| p_seqN <| v_seq <| v_ops <| s_pq r102 <| s_pq r102 <| s_pq (.bool true) <| s_nil <| p_seqN <| v_ret <| p_ret [r102, .bool true] (.tuple #[r102, .bool true]) (fun _ q => q) rfl ?_
 have ho : (addOut n l x) = (ys108, true) := by first | exact add_no (fun h => by first | exact (by assumption : ¬ NetOk n) h.hn | exact (by assumption : ¬ FogsOk _ _) h.hf | exact (by assumption : ¬ FogOk _ _) h.hx) | ((have hA2 : ad x l = (u, o, j) := by rw [← hA, take_all (by assumption)]); first | exact add_no (fun h => by (have h6 := h.h60); rw [hA2] at h6; simp only at h6; omega) | (rw [add_yes ⟨by assumption, by assumption, by assumption, by rw [hA2]; simp only; omega⟩]; exact congrArg (fun q => (q, true)) (add_sort (by assumption : FogsOk n.links.length l) (by assumption : FogOk n.links.length x) hA2 (by assumption) (by assumption)).symm))
 exact ⟨r102, by first | (rw [ho]; done) | rfl, sl_eq s109 (congrArg (fun o => o.1) ho).symm, fr_r102.mono (by omega), E112⟩

set_option maxRecDepth 10000 in
set_option maxHeartbeats 4000000 in
theorem spec_fgAdd_ok (v_l : Value) (l : List FogD) (x : FogD) (h : Heap) (s_l : Sl h v_l l) (m : Nat) (hf : FogsOk m l) (hx : FogOk m x) : Cn f_spec_fgAdd [v_l, .agg #[.int .i64 x.link, .int .i64 x.fr, .int .i64 x.til]] h fun v h' => ∃ r0 : Value, v = r0 ∧ SlO h' r0 (adR (ad x l)) ∧ Fr h.size r0 ∧ Ext h h' := by
 have l63_l := s_l.len63
 refine calls_of r_spec_fgAdd ?_
 refine v_seq <| v_ops ?_
 refine s_box [.int .i64 x.link, .int .i64 x.fr, .int .i64 x.til] rfl (fun h2 b1 hbb1 hzb1 eh2 bxb1 => ?_)
 have E3 := (Ext.refl h).trans eh2
 have z4 := eh2.size
 have lbb1 := bxb1.lt
 refine s_pq (.slice none 0 0) <| s_nil <| p_seqN <| v_seq <| v_ops <| s_pq (.slice none 0 0) <| s_nil <| p_seqN <| v_seq <| v_ops <| s_pq (.int .i64 0) <| s_nil <| p_seqN <| v_seq <| v_seq <| v_ops <| s_pq v_l <| s_pure (.int .i64 (l.length : Int)) (fun _ q => s_l.lenVC q) <| s_pq (.int .i64 0) <| s_nil <| p_seqN <| v_block <| v_loop5 (α := Nat) (β := FogD) (γ := Nat) (δ := List FogD) (ε := Value) (fun k u j o w => [(3, .pointer (some ⟨b1, 0, none⟩)), (5, w), (6, .int .i64 (j : Int)), (9, v_l), (10, .int .i64 (l.length : Int)), (11, .int .i64 (k : Int))]) (fun k u j o w hh => Ext h hh ∧ Bx hh b1 [.int .i64 u.link, .int .i64 u.fr, .int .i64 u.til] 57 ∧ SlO hh w o ∧ Fr h.size w ∧ b1 ∉ blks w ∧ k ≤ l.length ∧ ad x (l.take k) = (u, o, j)) (fun k u j o w => l.length - k) 0 x 0 [] (.slice none 0 0) ⟨rfl, rfl, rfl, rfl, rfl, rfl⟩ ⟨E3, bxb1, (sl_eq (SlX.nil (α := FogD) true h2) (by simp)), (Fr.nil _), (by simp [blks, fpts]), (by exact ⟨by omega, rfl⟩)⟩ ?_
 rintro k u j o w R6 h5 ⟨Eh, bxb1, s_w, fr_w, np_b1_w, ⟨hk, hA⟩⟩
 have zEh := Eh.size
 have f8 := s_l.ext Eh
 have lbb1 := bxb1.lt
 have lt_w := s_w.lt
 have hol := ad_len x (l.take k)
 rw [hA] at hol
 simp only [List.length_take] at hol
 have h60 := hf.1
 have hok := (ad_ok hf hx k (by omega)).jle
 rw [hA] at hok
 simp only at hok
 refine v_seq <| v_ops <| s_pq (.bool (decide ((k : Int) < (l.length : Int)))) <| s_nil <| p_seqN <| v_seq ?_
 refine v_cond rfl (fun c9 => ?_) (fun c9 => ?_)
 ·
  refine v_skip <| p_seqN <| v_seq <| v_block <| v_seq <| v_ops ?_
  have hk10 : k < l.length := (by first | omega | (simp; omega))
  obtain ⟨x11, hx11⟩ : ∃ x, l[k]? = some x := ⟨_, List.getElem?_eq_getElem hk10⟩
  refine s_pure (.pointer (some ⟨sblk v_l, soff v_l + k * 3, none⟩)) (fun _ q => f8.idx (k := k) rfl hk10 q) <| s_load (.agg #[.int .i64 x11.link, .int .i64 x11.fr, .int .i64 x11.til]) (fun _ q => f8.loadN hx11 rfl q) ?_
  refine s_new (fun h13 b12 hbb12 hzb12 eh13 bxb12 => ?_)
  have E14 := Eh.trans eh13
  have z15 := eh13.size
  have lbb12 := bxb12.lt
  refine s_stBx (.agg #[.int .i64 x11.link, .int .i64 x11.fr, .int .i64 x11.til]) [.int .i64 x11.link, .int .i64 x11.fr, .int .i64 x11.til] [.int .i64 x11.link, .int .i64 x11.fr, .int .i64 x11.til] bxb12 rfl rfl rfl rfl (by simp) (all_cons rfl (all_cons rfl (all_cons rfl all_nil))) rfl (fun h16 mh16 sh16 bxx17 => ?_)
  have E18 := E14.mod mh16 (fun b hb => by simp at hb; omega)
  refine s_nil <| p_seqN <| v_seq <| v_seq <| v_ops <| s_pq (.pointer (some ⟨b12, 0, none⟩)) <| s_load (.int .i64 x11.link) (fun _ q => bxx17.load rfl q) <| s_pq (.pointer (some ⟨b1, 0, none⟩)) ?_
  have f19 := ((bxb1.ext eh13).mod mh16 (by simp; omega))
  refine s_load (.int .i64 u.link) (fun _ q => f19.load rfl q) <| s_pq (.bool (x11.link == u.link)) <| s_pq (.bool (x11.link == u.link)) ?_
  refine s_splitT rfl (fun c20 => ?_) (fun c20 => ?_)
  ·
   refine s_run rfl <| s_pq (.pointer (some ⟨b12, 1, none⟩)) <| s_run rfl <| s_load (.int .i64 x11.fr) (fun _ q => bxx17.load rfl q) <| s_run rfl <| s_pq (.pointer (some ⟨b1, 2, none⟩)) <| s_run rfl <| s_load (.int .i64 u.til) (fun _ q => f19.load rfl q) <| s_run rfl <| s_pq (.bool (decide (x11.fr ≤ u.til))) <| s_pq (.bool (decide (x11.fr ≤ u.til))) <| s_pq (.bool (decide (x11.fr ≤ u.til))) ?_
   refine s_splitT rfl (fun c21 => ?_) (fun c21 => ?_)
   ·
    refine s_run rfl <| s_pq (.pointer (some ⟨b1, 1, none⟩)) <| s_run rfl <| s_load (.int .i64 u.fr) (fun _ q => f19.load rfl q) <| s_run rfl <| s_pq (.pointer (some ⟨b12, 2, none⟩)) <| s_run rfl <| s_load (.int .i64 x11.til) (fun _ q => bxx17.load rfl q) <| s_run rfl <| s_pq (.bool (decide (u.fr ≤ x11.til))) <| s_pq (.bool (decide (u.fr ≤ x11.til))) <| s_nil <| p_seqN ?_
    refine v_cond rfl (fun c22 => ?_) (fun c22 => ?_)
    ·
     refine v_seq <| v_ops <| s_pq (.pointer (some ⟨b1, 1, none⟩)) <| s_load (.int .i64 u.fr) (fun _ q => f19.load rfl q) <| s_pq (.pointer (some ⟨b12, 1, none⟩)) <| s_load (.int .i64 x11.fr) (fun _ q => bxx17.load rfl q) <| s_callS [.int .i64 u.fr, .int .i64 x11.fr] (.int .i64 (if u.fr < x11.fr then u.fr else x11.fr)) rfl (spec_l1Least_ok u.fr x11.fr _ ) <| s_pq (.pointer (some ⟨b1, 1, none⟩)) ?_
     refine s_stBx (.int .i64 (if u.fr < x11.fr then u.fr else x11.fr)) [.int .i64 (if u.fr < x11.fr then u.fr else x11.fr)] [.int .i64 u.link, .int .i64 (if u.fr < x11.fr then u.fr else x11.fr), .int .i64 u.til] f19 rfl rfl rfl rfl (by simp) (all_cons rfl all_nil) rfl (fun h23 mh23 sh23 bxx24 => ?_)
     have E25 := E18.mod mh23 (fun b hb => by simp at hb; omega)
     refine s_nil <| p_seqN <| v_seq <| v_ops <| s_pq (.pointer (some ⟨b1, 2, none⟩)) <| s_load (.int .i64 u.til) (fun _ q => bxx24.load rfl q) <| s_pq (.pointer (some ⟨b12, 2, none⟩)) ?_
     have f26 := (bxx17.mod mh23 (by simp; omega))
     refine s_load (.int .i64 x11.til) (fun _ q => f26.load rfl q) <| s_callS [.int .i64 u.til, .int .i64 x11.til] (.int .i64 (if u.til > x11.til then u.til else x11.til)) rfl (spec_l1Most_ok u.til x11.til _ ) <| s_pq (.pointer (some ⟨b1, 2, none⟩)) ?_
     refine s_stBx (.int .i64 (if u.til > x11.til then u.til else x11.til)) [.int .i64 (if u.til > x11.til then u.til else x11.til)] [.int .i64 u.link, .int .i64 (if u.fr < x11.fr then u.fr else x11.fr), .int .i64 (if u.til > x11.til then u.til else x11.til)] bxx24 rfl rfl rfl rfl (by simp) (all_cons rfl all_nil) rfl (fun h27 mh27 sh27 bxx28 => ?_)
     have E29 := E25.mod mh27 (fun b hb => by simp at hb; omega)
     refine s_nil <| p_seqN <| v_exit <| p_seqX <| p_blkX <| p_seqN <| v_ops <| s_pure (.int .i64 ((k : Int) + 1)) (fun _ q => ArithVC.mk (by omega) q) <| s_pq (.int .i64 ((k : Int) + 1)) <| s_nil ?_
     have f30 := ((((s_w.ext eh13).mod mh16 (fun b hb hc => by simp at hc; have := lt_w b hb; omega)).mod mh23 (nb1 np_b1_w)).mod mh27 (nb1 np_b1_w))
     exact p_lpN ⟨k + 1, (⟨u.link, if u.fr < x11.fr then u.fr else x11.fr, if u.til > x11.til then u.til else x11.til⟩ : FogD), j, o, w, ⟨rfl, rfl, rfl, rfl, rfl, rfl⟩, ⟨E29, bxx28, (sl_eq f30 (by simp)), (fr_w.mono (by omega)), np_b1_w, (by first | exact ⟨by omega, by rw [snoc_get (by assumption)]; rw [← mrg_min]; exact ad_touch hA ⟨by omega, by omega, by omega⟩⟩ | exact ⟨by omega, by rw [snoc_get (by assumption)]; (have e := ad_less (y := x11) hA (by unfold tch; omega) (by omega)); simpa using e⟩ | exact ⟨by omega, by rw [snoc_get (by assumption)]; exact ad_more hA (by unfold tch; omega) (by omega)⟩)⟩, by omega⟩
    refine v_skip <| p_seqN <| v_seq <| v_ops <| s_pq w <| s_load (.agg #[.int .i64 x11.link, .int .i64 x11.fr, .int .i64 x11.til]) (fun _ q => bxx17.loadA rfl q) ?_
    refine s_row (α := FogD) [(⟨x11.link, x11.fr, x11.til⟩ : FogD)] (fun _ q => seg_agg rfl rfl (seg_nil q)) rfl (by simp [maxLen]) (fun r31 h32 eh32 zh32 s_r31 fr_r31 => ?_)
    have E33 := E18.trans eh32
    have z34 := eh32.size
    have f35 := (((s_w.ext eh13).mod mh16 (fun b hb hc => by simp at hc; have := lt_w b hb; omega)).ext eh32)
    refine s_app f35 s_r31 rfl rfl rfl (by simp [maxLen]; omega) (by simp; omega) (fun r36 h37 mh37 zh37 s_r36 ab_r36 => ?_)
    have E38 := E33.mod mh37 (fun b hb => by have := fr_w b hb; omega)
    have fr_r36 := fr_w.app ab_r36 (by omega)
    have np39 : b1 ∉ blks r36 := fun hc => (ab_r36 _ hc).elim np_b1_w (fun hc => by omega)
    refine s_pq r36 <| s_nil <| p_seqN <| v_seq <| v_ops <| s_pq (.pointer (some ⟨b12, 0, none⟩)) ?_
    have f42 := ((bxx17.ext eh32).mod mh37 (fun hc => by have := lt_w _ hc; omega))
    refine s_load (.int .i64 x11.link) (fun _ q => f42.load rfl q) <| s_pq (.pointer (some ⟨b1, 0, none⟩)) ?_
    have f43 := ((f19.ext eh32).mod mh37 np_b1_w)
    refine s_load (.int .i64 u.link) (fun _ q => f43.load rfl q) <| s_pq (.bool (decide (x11.link < u.link))) <| s_pq (.bool (decide (x11.link < u.link))) ?_
    refine s_splitT rfl (fun c44 => ?_) (fun c44 => ?_)
    ·
     refine s_pass rfl <| s_pass rfl <| s_pass rfl <| s_pass rfl <| s_pass rfl <| s_pass rfl <| s_splitU rfl <| s_passU rfl <| s_passU rfl <| s_passU rfl <| s_passU rfl <| s_passU rfl <| s_pass rfl <| s_pq (.bool true) <| s_nil <| p_seqN <| v_condY rfl rfl <| v_ops <| s_pq r36 <| s_pure (.int .i64 ((o ++ [(⟨x11.link, x11.fr, x11.til⟩ : FogD)]).length : Int)) (fun _ q => s_r36.lenVC q) <| s_pq (.int .i64 ((o ++ [(⟨x11.link, x11.fr, x11.til⟩ : FogD)]).length : Int)) <| s_nil <| p_blkN <| p_seqN <| v_ops ?_
     refine s_pure (.int .i64 ((k : Int) + 1)) (fun _ q => ArithVC.mk (by omega) q) <| s_pq (.int .i64 ((k : Int) + 1)) <| s_nil ?_
     exact p_lpN ⟨k + 1, u, (o ++ [(⟨x11.link, x11.fr, x11.til⟩ : FogD)]).length, (o ++ [(⟨x11.link, x11.fr, x11.til⟩ : FogD)]), r36, ⟨rfl, rfl, rfl, rfl, rfl, rfl⟩, ⟨E38, f43, (sl_eq s_r36 (by simp)), (fr_r36.mono (by omega)), np39, (by first | exact ⟨by omega, by rw [snoc_get (by assumption)]; rw [← mrg_min]; exact ad_touch hA ⟨by omega, by omega, by omega⟩⟩ | exact ⟨by omega, by rw [snoc_get (by assumption)]; (have e := ad_less (y := x11) hA (by unfold tch; omega) (by omega)); simpa using e⟩ | exact ⟨by omega, by rw [snoc_get (by assumption)]; exact ad_more hA (by unfold tch; omega) (by omega)⟩)⟩, by omega⟩
    refine s_run rfl <| s_pq (.pointer (some ⟨b12, 0, none⟩)) <| s_run rfl <| s_load (.int .i64 x11.link) (fun _ q => f42.load rfl q) <| s_run rfl <| s_pq (.pointer (some ⟨b1, 0, none⟩)) <| s_run rfl <| s_load (.int .i64 u.link) (fun _ q => f43.load rfl q) <| s_run rfl <| s_pq (.bool (x11.link == u.link)) <| s_run rfl <| s_pq (.bool (x11.link == u.link)) <| s_splitY rfl (by first | assumption | omega | (simp; done) | (simp; omega) | simp_all) <| s_run rfl <| s_pq (.pointer (some ⟨b12, 1, none⟩)) ?_
    refine s_run rfl <| s_load (.int .i64 x11.fr) (fun _ q => f42.load rfl q) <| s_run rfl <| s_pq (.pointer (some ⟨b1, 1, none⟩)) <| s_run rfl <| s_load (.int .i64 u.fr) (fun _ q => f43.load rfl q) <| s_run rfl <| s_pq (.bool (decide (x11.fr < u.fr))) <| s_run rfl <| s_pq (.bool (decide (x11.fr < u.fr))) <| s_pq (.bool (decide (x11.fr < u.fr))) <| s_nil <| p_seqN ?_
    refine v_cond rfl (fun c45 => ?_) (fun c45 => ?_)
    ·
     refine v_ops <| s_pq r36 <| s_pure (.int .i64 ((o ++ [(⟨x11.link, x11.fr, x11.til⟩ : FogD)]).length : Int)) (fun _ q => s_r36.lenVC q) <| s_pq (.int .i64 ((o ++ [(⟨x11.link, x11.fr, x11.til⟩ : FogD)]).length : Int)) <| s_nil <| p_blkN <| p_seqN <| v_ops <| s_pure (.int .i64 ((k : Int) + 1)) (fun _ q => ArithVC.mk (by omega) q) <| s_pq (.int .i64 ((k : Int) + 1)) <| s_nil ?_
     exact p_lpN ⟨k + 1, u, (o ++ [(⟨x11.link, x11.fr, x11.til⟩ : FogD)]).length, (o ++ [(⟨x11.link, x11.fr, x11.til⟩ : FogD)]), r36, ⟨rfl, rfl, rfl, rfl, rfl, rfl⟩, ⟨E38, f43, (sl_eq s_r36 (by simp)), (fr_r36.mono (by omega)), np39, (by first | exact ⟨by omega, by rw [snoc_get (by assumption)]; rw [← mrg_min]; exact ad_touch hA ⟨by omega, by omega, by omega⟩⟩ | exact ⟨by omega, by rw [snoc_get (by assumption)]; (have e := ad_less (y := x11) hA (by unfold tch; omega) (by omega)); simpa using e⟩ | exact ⟨by omega, by rw [snoc_get (by assumption)]; exact ad_more hA (by unfold tch; omega) (by omega)⟩)⟩, by omega⟩
    refine v_skip <| p_blkN <| p_seqN <| v_ops <| s_pure (.int .i64 ((k : Int) + 1)) (fun _ q => ArithVC.mk (by omega) q) <| s_pq (.int .i64 ((k : Int) + 1)) <| s_nil ?_
    exact p_lpN ⟨k + 1, u, j, (o ++ [(⟨x11.link, x11.fr, x11.til⟩ : FogD)]), r36, ⟨rfl, rfl, rfl, rfl, rfl, rfl⟩, ⟨E38, f43, (sl_eq s_r36 (by simp)), (fr_r36.mono (by omega)), np39, (by first | exact ⟨by omega, by rw [snoc_get (by assumption)]; rw [← mrg_min]; exact ad_touch hA ⟨by omega, by omega, by omega⟩⟩ | exact ⟨by omega, by rw [snoc_get (by assumption)]; (have e := ad_less (y := x11) hA (by unfold tch; omega) (by omega)); simpa using e⟩ | exact ⟨by omega, by rw [snoc_get (by assumption)]; exact ad_more hA (by unfold tch; omega) (by omega)⟩)⟩, by omega⟩
   refine s_pass rfl <| s_pass rfl <| s_pass rfl <| s_pass rfl <| s_pass rfl <| s_pq (.bool false) <| s_nil <| p_seqN <| v_condN rfl (by simp) <| v_skip <| p_seqN <| v_seq <| v_ops <| s_pq w <| s_load (.agg #[.int .i64 x11.link, .int .i64 x11.fr, .int .i64 x11.til]) (fun _ q => bxx17.loadA rfl q) ?_
   refine s_row (α := FogD) [(⟨x11.link, x11.fr, x11.til⟩ : FogD)] (fun _ q => seg_agg rfl rfl (seg_nil q)) rfl (by simp [maxLen]) (fun r46 h47 eh47 zh47 s_r46 fr_r46 => ?_)
   have E48 := E18.trans eh47
   have z49 := eh47.size
   have f50 := (((s_w.ext eh13).mod mh16 (fun b hb hc => by simp at hc; have := lt_w b hb; omega)).ext eh47)
   refine s_app f50 s_r46 rfl rfl rfl (by simp [maxLen]; omega) (by simp; omega) (fun r51 h52 mh52 zh52 s_r51 ab_r51 => ?_)
   have E53 := E48.mod mh52 (fun b hb => by have := fr_w b hb; omega)
   have fr_r51 := fr_w.app ab_r51 (by omega)
   have np54 : b1 ∉ blks r51 := fun hc => (ab_r51 _ hc).elim np_b1_w (fun hc => by omega)
   refine s_pq r51 <| s_nil <| p_seqN <| v_seq <| v_ops <| s_pq (.pointer (some ⟨b12, 0, none⟩)) ?_
   have f57 := ((bxx17.ext eh47).mod mh52 (fun hc => by have := lt_w _ hc; omega))
   refine s_load (.int .i64 x11.link) (fun _ q => f57.load rfl q) <| s_pq (.pointer (some ⟨b1, 0, none⟩)) ?_
   have f58 := ((f19.ext eh47).mod mh52 np_b1_w)
   refine s_load (.int .i64 u.link) (fun _ q => f58.load rfl q) <| s_pq (.bool (decide (x11.link < u.link))) <| s_pq (.bool (decide (x11.link < u.link))) ?_
   refine s_splitT rfl (fun c59 => ?_) (fun c59 => ?_)
   ·
    refine s_pass rfl <| s_pass rfl <| s_pass rfl <| s_pass rfl <| s_pass rfl <| s_pass rfl <| s_splitU rfl <| s_passU rfl <| s_passU rfl <| s_passU rfl <| s_passU rfl <| s_passU rfl <| s_pass rfl <| s_pq (.bool true) <| s_nil <| p_seqN <| v_condY rfl rfl <| v_ops <| s_pq r51 <| s_pure (.int .i64 ((o ++ [(⟨x11.link, x11.fr, x11.til⟩ : FogD)]).length : Int)) (fun _ q => s_r51.lenVC q) <| s_pq (.int .i64 ((o ++ [(⟨x11.link, x11.fr, x11.til⟩ : FogD)]).length : Int)) <| s_nil <| p_blkN <| p_seqN <| v_ops ?_
    refine s_pure (.int .i64 ((k : Int) + 1)) (fun _ q => ArithVC.mk (by omega) q) <| s_pq (.int .i64 ((k : Int) + 1)) <| s_nil ?_
    exact p_lpN ⟨k + 1, u, (o ++ [(⟨x11.link, x11.fr, x11.til⟩ : FogD)]).length, (o ++ [(⟨x11.link, x11.fr, x11.til⟩ : FogD)]), r51, ⟨rfl, rfl, rfl, rfl, rfl, rfl⟩, ⟨E53, f58, (sl_eq s_r51 (by simp)), (fr_r51.mono (by omega)), np54, (by first | exact ⟨by omega, by rw [snoc_get (by assumption)]; rw [← mrg_min]; exact ad_touch hA ⟨by omega, by omega, by omega⟩⟩ | exact ⟨by omega, by rw [snoc_get (by assumption)]; (have e := ad_less (y := x11) hA (by unfold tch; omega) (by omega)); simpa using e⟩ | exact ⟨by omega, by rw [snoc_get (by assumption)]; exact ad_more hA (by unfold tch; omega) (by omega)⟩)⟩, by omega⟩
   refine s_run rfl <| s_pq (.pointer (some ⟨b12, 0, none⟩)) <| s_run rfl <| s_load (.int .i64 x11.link) (fun _ q => f57.load rfl q) <| s_run rfl <| s_pq (.pointer (some ⟨b1, 0, none⟩)) <| s_run rfl <| s_load (.int .i64 u.link) (fun _ q => f58.load rfl q) <| s_run rfl <| s_pq (.bool (x11.link == u.link)) <| s_run rfl <| s_pq (.bool (x11.link == u.link)) <| s_splitY rfl (by first | assumption | omega | (simp; done) | (simp; omega) | simp_all) <| s_run rfl <| s_pq (.pointer (some ⟨b12, 1, none⟩)) ?_
   refine s_run rfl <| s_load (.int .i64 x11.fr) (fun _ q => f57.load rfl q) <| s_run rfl <| s_pq (.pointer (some ⟨b1, 1, none⟩)) <| s_run rfl <| s_load (.int .i64 u.fr) (fun _ q => f58.load rfl q) <| s_run rfl <| s_pq (.bool (decide (x11.fr < u.fr))) <| s_run rfl <| s_pq (.bool (decide (x11.fr < u.fr))) <| s_pq (.bool (decide (x11.fr < u.fr))) <| s_nil <| p_seqN ?_
   refine v_cond rfl (fun c60 => ?_) (fun c60 => ?_)
   ·
    refine v_ops <| s_pq r51 <| s_pure (.int .i64 ((o ++ [(⟨x11.link, x11.fr, x11.til⟩ : FogD)]).length : Int)) (fun _ q => s_r51.lenVC q) <| s_pq (.int .i64 ((o ++ [(⟨x11.link, x11.fr, x11.til⟩ : FogD)]).length : Int)) <| s_nil <| p_blkN <| p_seqN <| v_ops <| s_pure (.int .i64 ((k : Int) + 1)) (fun _ q => ArithVC.mk (by omega) q) <| s_pq (.int .i64 ((k : Int) + 1)) <| s_nil ?_
    exact p_lpN ⟨k + 1, u, (o ++ [(⟨x11.link, x11.fr, x11.til⟩ : FogD)]).length, (o ++ [(⟨x11.link, x11.fr, x11.til⟩ : FogD)]), r51, ⟨rfl, rfl, rfl, rfl, rfl, rfl⟩, ⟨E53, f58, (sl_eq s_r51 (by simp)), (fr_r51.mono (by omega)), np54, (by first | exact ⟨by omega, by rw [snoc_get (by assumption)]; rw [← mrg_min]; exact ad_touch hA ⟨by omega, by omega, by omega⟩⟩ | exact ⟨by omega, by rw [snoc_get (by assumption)]; (have e := ad_less (y := x11) hA (by unfold tch; omega) (by omega)); simpa using e⟩ | exact ⟨by omega, by rw [snoc_get (by assumption)]; exact ad_more hA (by unfold tch; omega) (by omega)⟩)⟩, by omega⟩
   refine v_skip <| p_blkN <| p_seqN <| v_ops <| s_pure (.int .i64 ((k : Int) + 1)) (fun _ q => ArithVC.mk (by omega) q) <| s_pq (.int .i64 ((k : Int) + 1)) <| s_nil ?_
   exact p_lpN ⟨k + 1, u, j, (o ++ [(⟨x11.link, x11.fr, x11.til⟩ : FogD)]), r51, ⟨rfl, rfl, rfl, rfl, rfl, rfl⟩, ⟨E53, f58, (sl_eq s_r51 (by simp)), (fr_r51.mono (by omega)), np54, (by first | exact ⟨by omega, by rw [snoc_get (by assumption)]; rw [← mrg_min]; exact ad_touch hA ⟨by omega, by omega, by omega⟩⟩ | exact ⟨by omega, by rw [snoc_get (by assumption)]; (have e := ad_less (y := x11) hA (by unfold tch; omega) (by omega)); simpa using e⟩ | exact ⟨by omega, by rw [snoc_get (by assumption)]; exact ad_more hA (by unfold tch; omega) (by omega)⟩)⟩, by omega⟩
  refine s_pass rfl <| s_pass rfl <| s_pass rfl <| s_pass rfl <| s_pass rfl <| s_pq (.bool false) <| s_pq (.bool false) <| s_splitN rfl (by simp) <| s_pass rfl <| s_pass rfl <| s_pass rfl <| s_pass rfl <| s_pass rfl <| s_pq (.bool false) <| s_nil <| p_seqN <| v_condN rfl (by simp) <| v_skip <| p_seqN <| v_seq <| v_ops <| s_pq w <| s_load (.agg #[.int .i64 x11.link, .int .i64 x11.fr, .int .i64 x11.til]) (fun _ q => bxx17.loadA rfl q) ?_
  refine s_row (α := FogD) [(⟨x11.link, x11.fr, x11.til⟩ : FogD)] (fun _ q => seg_agg rfl rfl (seg_nil q)) rfl (by simp [maxLen]) (fun r61 h62 eh62 zh62 s_r61 fr_r61 => ?_)
  have E63 := E18.trans eh62
  have z64 := eh62.size
  have f65 := (((s_w.ext eh13).mod mh16 (fun b hb hc => by simp at hc; have := lt_w b hb; omega)).ext eh62)
  refine s_app f65 s_r61 rfl rfl rfl (by simp [maxLen]; omega) (by simp; omega) (fun r66 h67 mh67 zh67 s_r66 ab_r66 => ?_)
  have E68 := E63.mod mh67 (fun b hb => by have := fr_w b hb; omega)
  have fr_r66 := fr_w.app ab_r66 (by omega)
  have np69 : b1 ∉ blks r66 := fun hc => (ab_r66 _ hc).elim np_b1_w (fun hc => by omega)
  refine s_pq r66 <| s_nil <| p_seqN <| v_seq <| v_ops <| s_pq (.pointer (some ⟨b12, 0, none⟩)) ?_
  have f72 := ((bxx17.ext eh62).mod mh67 (fun hc => by have := lt_w _ hc; omega))
  refine s_load (.int .i64 x11.link) (fun _ q => f72.load rfl q) <| s_pq (.pointer (some ⟨b1, 0, none⟩)) ?_
  have f73 := ((f19.ext eh62).mod mh67 np_b1_w)
  refine s_load (.int .i64 u.link) (fun _ q => f73.load rfl q) <| s_pq (.bool (decide (x11.link < u.link))) <| s_pq (.bool (decide (x11.link < u.link))) ?_
  refine s_splitT rfl (fun c74 => ?_) (fun c74 => ?_)
  ·
   refine s_pass rfl <| s_pass rfl <| s_pass rfl <| s_pass rfl <| s_pass rfl <| s_pass rfl <| s_splitU rfl <| s_passU rfl <| s_passU rfl <| s_passU rfl <| s_passU rfl <| s_passU rfl <| s_pass rfl <| s_pq (.bool true) <| s_nil <| p_seqN <| v_condY rfl rfl <| v_ops <| s_pq r66 <| s_pure (.int .i64 ((o ++ [(⟨x11.link, x11.fr, x11.til⟩ : FogD)]).length : Int)) (fun _ q => s_r66.lenVC q) <| s_pq (.int .i64 ((o ++ [(⟨x11.link, x11.fr, x11.til⟩ : FogD)]).length : Int)) <| s_nil <| p_blkN <| p_seqN <| v_ops ?_
   refine s_pure (.int .i64 ((k : Int) + 1)) (fun _ q => ArithVC.mk (by omega) q) <| s_pq (.int .i64 ((k : Int) + 1)) <| s_nil ?_
   exact p_lpN ⟨k + 1, u, (o ++ [(⟨x11.link, x11.fr, x11.til⟩ : FogD)]).length, (o ++ [(⟨x11.link, x11.fr, x11.til⟩ : FogD)]), r66, ⟨rfl, rfl, rfl, rfl, rfl, rfl⟩, ⟨E68, f73, (sl_eq s_r66 (by simp)), (fr_r66.mono (by omega)), np69, (by first | exact ⟨by omega, by rw [snoc_get (by assumption)]; rw [← mrg_min]; exact ad_touch hA ⟨by omega, by omega, by omega⟩⟩ | exact ⟨by omega, by rw [snoc_get (by assumption)]; (have e := ad_less (y := x11) hA (by unfold tch; omega) (by omega)); simpa using e⟩ | exact ⟨by omega, by rw [snoc_get (by assumption)]; exact ad_more hA (by unfold tch; omega) (by omega)⟩)⟩, by omega⟩
  refine s_run rfl <| s_pq (.pointer (some ⟨b12, 0, none⟩)) <| s_run rfl <| s_load (.int .i64 x11.link) (fun _ q => f72.load rfl q) <| s_run rfl <| s_pq (.pointer (some ⟨b1, 0, none⟩)) <| s_run rfl <| s_load (.int .i64 u.link) (fun _ q => f73.load rfl q) <| s_run rfl <| s_pq (.bool (x11.link == u.link)) <| s_run rfl <| s_pq (.bool (x11.link == u.link)) <| s_splitN rfl (by first | assumption | omega | (simp; done) | (simp; omega) | simp_all) <| s_pass rfl <| s_pass rfl <| s_pass rfl <| s_pass rfl ?_
  refine s_pass rfl <| s_run rfl <| s_pq (.bool false) <| s_pq (.bool false) <| s_nil <| p_seqN <| v_condN rfl (by simp) <| v_skip <| p_blkN <| p_seqN <| v_ops <| s_pure (.int .i64 ((k : Int) + 1)) (fun _ q => ArithVC.mk (by omega) q) <| s_pq (.int .i64 ((k : Int) + 1)) <| s_nil ?_
  exact p_lpN ⟨k + 1, u, j, (o ++ [(⟨x11.link, x11.fr, x11.til⟩ : FogD)]), r66, ⟨rfl, rfl, rfl, rfl, rfl, rfl⟩, ⟨E68, f73, (sl_eq s_r66 (by simp)), (fr_r66.mono (by omega)), np69, (by first | exact ⟨by omega, by rw [snoc_get (by assumption)]; rw [← mrg_min]; exact ad_touch hA ⟨by omega, by omega, by omega⟩⟩ | exact ⟨by omega, by rw [snoc_get (by assumption)]; (have e := ad_less (y := x11) hA (by unfold tch; omega) (by omega)); simpa using e⟩ | exact ⟨by omega, by rw [snoc_get (by assumption)]; exact ad_more hA (by unfold tch; omega) (by omega)⟩)⟩, by omega⟩
 refine v_exit <| p_seqX <| p_lpX <| p_blkX <| p_seqN <| v_seq ?_
 refine v_draw (DrawVC.cut (α := Value) ([b1]) (fun zz => [(4, zz)]) (fun zz h' => SlO h' zz ((([] ++ o.take j) ++ [(⟨u.link, u.fr, u.til⟩ : FogD)]) ++ (o.take o.length).drop j) ∧ Fr h5.size zz ∧ Ext h5 h') ?_ ?_)
 ·
  refine d_pq w <| d_pq (.int .i64 (j : Int)) ?_
  obtain ⟨r75, hqr75, s_r75, bk_r75⟩ := s_w.toSl.slc (l := 0) (m := j) (by first | omega | (simp; omega)) (by first | omega | (simp; omega))
  simp only [List.drop_zero] at s_r75
  refine d_pureT r75 (fun K q => hqr75 _ rfl none (some (.int .i64 (j : Int))) rfl ⟨_, _, rfl, rfl⟩ K q) <| d_pq w <| d_pq (.int .i64 (j : Int)) ?_
  obtain ⟨r76, hqr76, s_r76, bk_r76⟩ := s_w.toSl.slc (l := j) (m := o.length) (by first | omega | (simp; omega)) (by first | omega | (simp; omega))
  refine d_pureT r76 (fun K q => hqr76 _ rfl (some (.int .i64 (j : Int))) none ⟨_, _, rfl, rfl⟩ rfl K q) <| d_loadT (.agg #[.int .i64 u.link, .int .i64 u.fr, .int .i64 u.til]) (fun _ q => bxb1.takeA (by simp) rfl q) ?_
  refine d_fork ?_ ?_
  ·
   refine d_eff ?_
   refine s_row (α := FogD) [] (fun _ q => seg_nil q) rfl (by simp [maxLen]) (fun r77 h78 eh78 zh78 s_r77 fr_r77 => ?_)
   have z80 := eh78.size
   have G81 := eh78
   have lt_r77 := s_r77.lt
   refine s_nil ⟨fun _ x hx => G81.blk x (by simp at hx; omega), ?_⟩
   refine d_fork ?_ ?_
   ·
    refine d_eff ?_
    have f82 := (s_r75.ext eh78)
    refine s_app s_r77 f82 rfl rfl rfl (by simp [maxLen]; omega) (by simp; omega) (fun r83 h84 mh84 zh84 s_r83 ab_r83 => ?_)
    have G86 := G81.mod mh84 (fun b hb => by have := fr_r77 b hb; omega)
    have fr_r83 := fr_r77.app ab_r83 (by omega)
    refine s_nil ⟨fun _ x hx => G86.blk x (by simp at hx; omega), ?_⟩
    refine d_eff ?_
    refine s_row (α := FogD) [(⟨u.link, u.fr, u.til⟩ : FogD)] (fun _ q => seg_agg rfl rfl (seg_nil q)) rfl (by simp [maxLen]) (fun r87 h88 eh88 zh88 s_r87 fr_r87 => ?_)
    have z90 := eh88.size
    have G91 := G86.trans eh88
    refine s_nil ⟨fun _ x hx => G91.blk x (by simp at hx; omega), ?_⟩
    refine d_eff ?_
    have f92 := (s_r83.ext eh88)
    refine s_app f92 s_r87 rfl rfl rfl (by simp [maxLen]; omega) (by simp; omega) (fun r93 h94 mh94 zh94 s_r93 ab_r93 => ?_)
    have G96 := G91.mod mh94 (fun b hb => by have := fr_r83 b hb; omega)
    have fr_r93 := fr_r83.app ab_r93 (by omega)
    refine s_nil ⟨fun _ x hx => G96.blk x (by simp at hx; omega), ?_⟩
    refine d_eff ?_
    have f98 := ((((s_r76.ext eh78).mod mh84 (fun b hb hc => by have := (fun b hb => lt_w b (bk_r76 b hb)) b hb; have := fr_r77 b hc; omega)).ext eh88).mod mh94 (fun b hb hc => by have := (fun b hb => lt_w b (bk_r76 b hb)) b hb; have := fr_r83 b hc; omega))
    refine s_app s_r93 f98 rfl rfl rfl (by simp [maxLen]; omega) (by simp; omega) (fun r99 h100 mh100 zh100 s_r99 ab_r99 => ?_)
    have G102 := G96.mod mh100 (fun b hb => by have := fr_r93 b hb; omega)
    have fr_r99 := fr_r93.app ab_r99 (by omega)
    refine s_nil ⟨fun _ x hx => G102.blk x (by simp at hx; omega), ?_⟩
    refine d_pq r99 ?_
    refine d_done ⟨r99, rfl, s_r99, fr_r99.mono (by omega), G102⟩
   refine d_eff ?_
   refine s_row (α := FogD) [(⟨u.link, u.fr, u.til⟩ : FogD)] (fun _ q => seg_agg rfl rfl (seg_nil q)) rfl (by simp [maxLen]) (fun r105 h106 eh106 zh106 s_r105 fr_r105 => ?_)
   have z108 := eh106.size
   have G109 := G81.trans eh106
   refine s_nil ⟨fun _ x hx => G109.blk x (by simp at hx; omega), ?_⟩
   refine d_eff ?_
   have f110 := (s_r77.ext eh106)
   have f111 := ((s_r75.ext eh78).ext eh106)
   refine s_app f110 f111 rfl rfl rfl (by simp [maxLen]; omega) (by simp; omega) (fun r112 h113 mh113 zh113 s_r112 ab_r112 => ?_)
   have G115 := G109.mod mh113 (fun b hb => by have := fr_r77 b hb; omega)
   have fr_r112 := fr_r77.app ab_r112 (by omega)
   refine s_nil ⟨fun _ x hx => G115.blk x (by simp at hx; omega), ?_⟩
   refine d_eff ?_
   have f117 := (s_r105.mod mh113 (fun b hb hc => by have := fr_r105 b hb; have := lt_r77 b hc; omega))
   refine s_app s_r112 f117 rfl rfl rfl (by simp [maxLen]; omega) (by simp; omega) (fun r118 h119 mh119 zh119 s_r118 ab_r118 => ?_)
   have G121 := G115.mod mh119 (fun b hb => by have := fr_r112 b hb; omega)
   have fr_r118 := fr_r112.app ab_r118 (by omega)
   refine s_nil ⟨fun _ x hx => G121.blk x (by simp at hx; omega), ?_⟩
   refine d_eff ?_
   have f124 := ((((s_r76.ext eh78).ext eh106).mod mh113 (fun b hb hc => by have := (fun b hb => lt_w b (bk_r76 b hb)) b hb; have := fr_r77 b hc; omega)).mod mh119 (fun b hb hc => by have := (fun b hb => lt_w b (bk_r76 b hb)) b hb; have := fr_r112 b hc; omega))
   refine s_app s_r118 f124 rfl rfl rfl (by simp [maxLen]; omega) (by simp; omega) (fun r125 h126 mh126 zh126 s_r125 ab_r125 => ?_)
   have G128 := G121.mod mh126 (fun b hb => by have := fr_r118 b hb; omega)
   have fr_r125 := fr_r118.app ab_r125 (by omega)
   refine s_nil ⟨fun _ x hx => G128.blk x (by simp at hx; omega), ?_⟩
   refine d_pq r125 ?_
   refine d_done ⟨r125, rfl, s_r125, fr_r125.mono (by omega), G128⟩
  refine d_eff ?_
  refine s_row (α := FogD) [(⟨u.link, u.fr, u.til⟩ : FogD)] (fun _ q => seg_agg rfl rfl (seg_nil q)) rfl (by simp [maxLen]) (fun r131 h132 eh132 zh132 s_r131 fr_r131 => ?_)
  have z134 := eh132.size
  have G135 := eh132
  have lt_r131 := s_r131.lt
  refine s_nil ⟨fun _ x hx => G135.blk x (by simp at hx; omega), ?_⟩
  refine d_eff ?_
  refine s_row (α := FogD) [] (fun _ q => seg_nil q) rfl (by simp [maxLen]) (fun r136 h137 eh137 zh137 s_r136 fr_r136 => ?_)
  have z139 := eh137.size
  have G140 := G135.trans eh137
  refine s_nil ⟨fun _ x hx => G140.blk x (by simp at hx; omega), ?_⟩
  refine d_eff ?_
  have f141 := ((s_r75.ext eh132).ext eh137)
  refine s_app s_r136 f141 rfl rfl rfl (by simp [maxLen]; omega) (by simp; omega) (fun r142 h143 mh143 zh143 s_r142 ab_r142 => ?_)
  have G145 := G140.mod mh143 (fun b hb => by have := fr_r136 b hb; omega)
  have fr_r142 := fr_r136.app ab_r142 (by omega)
  refine s_nil ⟨fun _ x hx => G145.blk x (by simp at hx; omega), ?_⟩
  refine d_eff ?_
  have f146 := ((s_r131.ext eh137).mod mh143 (fun b hb hc => by have := lt_r131 b hb; have := fr_r136 b hc; omega))
  refine s_app s_r142 f146 rfl rfl rfl (by simp [maxLen]; omega) (by simp; omega) (fun r147 h148 mh148 zh148 s_r147 ab_r147 => ?_)
  have G150 := G145.mod mh148 (fun b hb => by have := fr_r142 b hb; omega)
  have fr_r147 := fr_r142.app ab_r147 (by omega)
  refine s_nil ⟨fun _ x hx => G150.blk x (by simp at hx; omega), ?_⟩
  refine d_eff ?_
  have f151 := ((((s_r76.ext eh132).ext eh137).mod mh143 (fun b hb hc => by have := (fun b hb => lt_w b (bk_r76 b hb)) b hb; have := fr_r136 b hc; omega)).mod mh148 (fun b hb hc => by have := (fun b hb => lt_w b (bk_r76 b hb)) b hb; have := fr_r142 b hc; omega))
  refine s_app s_r147 f151 rfl rfl rfl (by simp [maxLen]; omega) (by simp; omega) (fun r152 h153 mh153 zh153 s_r152 ab_r152 => ?_)
  have G155 := G150.mod mh153 (fun b hb => by have := fr_r147 b hb; omega)
  have fr_r152 := fr_r147.app ab_r152 (by omega)
  refine s_nil ⟨fun _ x hx => G155.blk x (by simp at hx; omega), ?_⟩
  refine d_pq r152 ?_
  refine d_done ⟨r152, rfl, s_r152, fr_r152.mono (by omega), G155⟩
 rintro r156 R158 h157 ⟨s_r156, fr_r156, eh157⟩
 have E159 := Eh.trans eh157
 have z160 := eh157.size
 refine p_seqN <| v_ret <| p_ret [r156] r156 (fun _ q => q) rfl ?_
 have ho : (adR (ad x l)) = ((([] ++ o.take j) ++ [(⟨u.link, u.fr, u.til⟩ : FogD)]) ++ (o.take o.length).drop j) := by (have hA2 : ad x l = (u, o, j) := by rw [← hA, take_all (by assumption)]); rw [hA2]; simp [adR]
 exact ⟨r156, by first | (rw [ho]; done) | rfl, sl_eq s_r156 (congrArg (fun o => o) ho).symm, fr_r156.mono (by omega), E159⟩

set_option maxRecDepth 10000 in
set_option maxHeartbeats 4000000 in
theorem spec_AddFog_ok (n : NetP) (v_n_towers : Value) (v_n_links : Value) (v_l : Value) (l : List FogD) (x : FogD) (h : Heap) (s_n_towers : Sl h v_n_towers n.towers) (s_n_links : Sl h v_n_links n.links) (s_l : Sl h v_l l) : Cn f_spec_AddFog [.agg #[v_n_towers, v_n_links], v_l, .agg #[.int .i64 x.link, .int .i64 x.fr, .int .i64 x.til]] h fun v h' => ∃ r0 : Value, v = .tuple #[r0, .bool ((addOut n l x).2)] ∧ SlO h' r0 ((addOut n l x).1) ∧ Fr h.size r0 ∧ Ext h h' := by
 have l63_n_towers := s_n_towers.len63
 have l63_n_links := s_n_links.len63
 have l63_l := s_l.len63
 refine calls_of r_spec_AddFog ?_
 refine v_seq <| v_ops ?_
 refine s_box [v_n_towers, v_n_links] rfl (fun h2 b1 hbb1 hzb1 eh2 bxb1 => ?_)
 have E3 := (Ext.refl h).trans eh2
 have z4 := eh2.size
 have lbb1 := bxb1.lt
 refine s_box [.int .i64 x.link, .int .i64 x.fr, .int .i64 x.til] rfl (fun h6 b5 hbb5 hzb5 eh6 bxb5 => ?_)
 have E7 := E3.trans eh6
 have z8 := eh6.size
 have lbb5 := bxb5.lt
 refine s_pq (.slice none 0 0) <| s_pq (.bool false) <| s_nil <| p_seqN <| v_seq <| v_seq ?_
 have f9 := (bxb1.ext eh6)
 refine v_draw (DrawVC.hold ([b1]) ?_)
 refine d_loadO (.agg #[v_n_towers, v_n_links]) (fun _ q => f9.loadA rfl q) <| d_eff ?_
 have f10 := ((s_n_towers.ext eh2).ext eh6)
 have f11 := ((s_n_links.ext eh2).ext eh6)
 refine s_call [.agg #[v_n_towers, v_n_links]] rfl (spec_neGood_ok n v_n_towers v_n_links _ f10 f11) ?_
 rintro _ h12 ⟨rfl, eh12⟩
 have E13 := E7.trans eh12
 have z14 := eh12.size
 have G15 := eh12
 refine s_nil ⟨fun _ x hx => G15.blk x (by simp at hx; omega), ?_⟩
 refine d_pq (.bool (!decide (NetOk n))) <| d_pq (.bool (!decide (NetOk n))) ?_
 refine d_splitT rfl (fun c16 => ?_) (fun c16 => ?_)
 ·
  refine d_passT rfl <| d_passO rfl <| d_passO rfl <| d_passT rfl <| d_pq (.bool true) <| d_pq (.bool true) <| d_splitY rfl rfl <| d_passT rfl <| d_passO rfl <| d_passO rfl <| d_passT rfl <| d_pq (.bool true) <| d_pq (.bool true) <| d_splitY rfl rfl <| d_passT rfl <| d_passT rfl <| d_passO rfl <| d_passO rfl <| d_passO rfl <| d_passT rfl <| d_pq (.bool true) <| d_done <| p_seqN <| v_condY rfl rfl <| v_seq <| v_ops <| s_pq (.slice none 0 0) <| s_pq (.bool false) <| s_nil <| p_seqN <| v_ret <| p_seqR ?_
  refine p_ret [.slice none 0 0, .bool false] (.tuple #[.slice none 0 0, .bool false]) (fun _ q => q) rfl ?_
  have ho : (addOut n l x) = ([], false) := by first | exact add_no (fun h => by first | exact (by assumption : ¬ NetOk n) h.hn | exact (by assumption : ¬ FogsOk _ _) h.hf | exact (by assumption : ¬ FogOk _ _) h.hx) | exact add_no (fun h => (by assumption : ¬ FogsOk _ (adR _)) ((add_test h.hf h.hx).2 h.h60)) | exact add_yes (adR_test (by assumption) (by assumption : FogsOk n.links.length l) (by assumption : FogOk n.links.length x) (by assumption))
  exact ⟨(.slice none 0 0), by first | (rw [ho]; done) | rfl, sl_eq (SlX.nil (α := FogD) true _) (congrArg (fun o => o.1) ho).symm, Fr.nil _, E13⟩
 have c16 := Classical.not_not.1 c16
 refine d_runT rfl <| d_pq v_l <| d_runO rfl ?_
 have f17 := (f9.ext eh12)
 refine d_loadO (.agg #[v_n_towers, v_n_links]) (fun _ q => f17.loadA rfl q) <| d_runO rfl <| d_eff ?_
 have f18 := (f10.ext eh12)
 have f19 := (f11.ext eh12)
 have f20 := (((s_l.ext eh2).ext eh6).ext eh12)
 refine s_call [.agg #[v_n_towers, v_n_links], v_l] rfl (spec_fgGood_ok n v_n_towers v_n_links v_l l _ f18 f19 f20) ?_
 rintro _ h21 ⟨rfl, eh21⟩
 have E22 := E13.trans eh21
 have z23 := eh21.size
 have G24 := G15.trans eh21
 refine s_nil ⟨fun _ x hx => G24.blk x (by simp at hx; omega), ?_⟩
 refine d_runT rfl <| d_pq (.bool (!(decide (FogsOk n.links.length l)))) <| d_pq (.bool (!(decide (FogsOk n.links.length l)))) <| d_pq (.bool (!(decide (FogsOk n.links.length l)))) ?_
 refine d_splitT rfl (fun c25 => ?_) (fun c25 => ?_)
 ·
  refine d_passT rfl <| d_passO rfl <| d_passO rfl <| d_passT rfl <| d_pq (.bool true) <| d_pq (.bool true) <| d_splitY rfl rfl <| d_passT rfl <| d_passT rfl <| d_passO rfl <| d_passO rfl <| d_passO rfl <| d_passT rfl <| d_pq (.bool true) <| d_done <| p_seqN <| v_condY rfl rfl <| v_seq <| v_ops <| s_pq (.slice none 0 0) <| s_pq (.bool false) <| s_nil <| p_seqN <| v_ret <| p_seqR <| p_ret [.slice none 0 0, .bool false] (.tuple #[.slice none 0 0, .bool false]) (fun _ q => q) rfl ?_
  have ho : (addOut n l x) = ([], false) := by first | exact add_no (fun h => by first | exact (by assumption : ¬ NetOk n) h.hn | exact (by assumption : ¬ FogsOk _ _) h.hf | exact (by assumption : ¬ FogOk _ _) h.hx) | exact add_no (fun h => (by assumption : ¬ FogsOk _ (adR _)) ((add_test h.hf h.hx).2 h.h60)) | exact add_yes (adR_test (by assumption) (by assumption : FogsOk n.links.length l) (by assumption : FogOk n.links.length x) (by assumption))
  exact ⟨(.slice none 0 0), by first | (rw [ho]; done) | rfl, sl_eq (SlX.nil (α := FogD) true _) (congrArg (fun o => o.1) ho).symm, Fr.nil _, E22⟩
 have c25 := Classical.not_not.1 c25
 refine d_runT rfl <| d_loadT (.agg #[v_n_towers, v_n_links]) (fun _ q => f9.takeA (by simp) rfl q) <| d_runO rfl ?_
 have f26 := ((bxb5.ext eh12).ext eh21)
 refine d_loadO (.agg #[.int .i64 x.link, .int .i64 x.fr, .int .i64 x.til]) (fun _ q => f26.loadA rfl q) <| d_runO rfl <| d_eff ?_
 have f27 := (f18.ext eh21)
 have f28 := (f19.ext eh21)
 refine s_call [.agg #[v_n_towers, v_n_links], .agg #[.int .i64 x.link, .int .i64 x.fr, .int .i64 x.til]] rfl (spec_fgFog_ok n v_n_towers v_n_links x _ f27 f28) ?_
 rintro _ h29 ⟨rfl, eh29⟩
 have E30 := E22.trans eh29
 have z31 := eh29.size
 have G32 := G24.trans eh29
 refine s_nil ⟨fun _ x hx => G32.blk x (by simp at hx; omega), ?_⟩
 refine d_runT rfl <| d_pq (.bool (!(decide (FogOk n.links.length x)))) <| d_pq (.bool (!(decide (FogOk n.links.length x)))) <| d_pq (.bool (!(decide (FogOk n.links.length x)))) ?_
 refine d_splitT rfl (fun c33 => ?_) (fun c33 => ?_)
 ·
  refine d_passT rfl <| d_passT rfl <| d_passO rfl <| d_passO rfl <| d_passO rfl <| d_passT rfl <| d_pq (.bool true) <| d_done <| p_seqN <| v_condY rfl rfl <| v_seq <| v_ops <| s_pq (.slice none 0 0) <| s_pq (.bool false) <| s_nil <| p_seqN <| v_ret <| p_seqR <| p_ret [.slice none 0 0, .bool false] (.tuple #[.slice none 0 0, .bool false]) (fun _ q => q) rfl ?_
  have ho : (addOut n l x) = ([], false) := by first | exact add_no (fun h => by first | exact (by assumption : ¬ NetOk n) h.hn | exact (by assumption : ¬ FogsOk _ _) h.hf | exact (by assumption : ¬ FogOk _ _) h.hx) | exact add_no (fun h => (by assumption : ¬ FogsOk _ (adR _)) ((add_test h.hf h.hx).2 h.h60)) | exact add_yes (adR_test (by assumption) (by assumption : FogsOk n.links.length l) (by assumption : FogOk n.links.length x) (by assumption))
  exact ⟨(.slice none 0 0), by first | (rw [ho]; done) | rfl, sl_eq (SlX.nil (α := FogD) true _) (congrArg (fun o => o.1) ho).symm, Fr.nil _, E30⟩
 have c33 := Classical.not_not.1 c33
 refine d_runT rfl <| d_pq v_l <| d_runT rfl <| d_loadT (.agg #[v_n_towers, v_n_links]) (fun _ q => f9.takeA (by simp) rfl q) <| d_runO rfl ?_
 have f34 := (f26.ext eh29)
 refine d_loadO (.agg #[.int .i64 x.link, .int .i64 x.fr, .int .i64 x.til]) (fun _ q => f34.loadA rfl q) <| d_runO rfl <| d_eff ?_
 have f35 := ((f20.ext eh21).ext eh29)
 refine s_call [v_l, .agg #[.int .i64 x.link, .int .i64 x.fr, .int .i64 x.til]] rfl (spec_fgAdd_ok v_l l x _ f35 _ (by assumption : FogsOk n.links.length l) (by assumption : FogOk n.links.length x)) ?_
 rintro r36 h37 ⟨_, rfl, s_r36, fr_r36, eh37⟩
 have E38 := E30.trans eh37
 have z39 := eh37.size
 have G40 := G32.trans eh37
 refine s_nil ⟨fun _ x hx => G40.blk x (by simp at hx; omega), ?_⟩
 refine d_runO rfl <| d_eff ?_
 have f41 := ((f27.ext eh29).ext eh37)
 have f42 := ((f28.ext eh29).ext eh37)
 refine s_call [.agg #[v_n_towers, v_n_links], r36] rfl (spec_fgGood_ok n v_n_towers v_n_links r36 (adR (ad x l)) _ f41 f42 s_r36.toSl) ?_
 rintro _ h43 ⟨rfl, eh43⟩
 have E44 := E38.trans eh43
 have z45 := eh43.size
 refine s_nil ⟨fun hl => (by cases hl), ?_⟩
 refine d_runT rfl <| d_pq (.bool (!(decide (FogsOk n.links.length (adR (ad x l)))))) <| d_pq (.bool (!(decide (FogsOk n.links.length (adR (ad x l)))))) <| d_done <| p_seqN ?_
 refine v_cond rfl (fun c47 => ?_) (fun c47 => ?_)
 ·
  refine v_seq <| v_ops <| s_pq (.slice none 0 0) <| s_pq (.bool false) <| s_nil <| p_seqN <| v_ret <| p_seqR <| p_ret [.slice none 0 0, .bool false] (.tuple #[.slice none 0 0, .bool false]) (fun _ q => q) rfl ?_
  have ho : (addOut n l x) = ([], false) := by first | exact add_no (fun h => by first | exact (by assumption : ¬ NetOk n) h.hn | exact (by assumption : ¬ FogsOk _ _) h.hf | exact (by assumption : ¬ FogOk _ _) h.hx) | exact add_no (fun h => (by assumption : ¬ FogsOk _ (adR _)) ((add_test h.hf h.hx).2 h.h60)) | exact add_yes (adR_test (by assumption) (by assumption : FogsOk n.links.length l) (by assumption : FogOk n.links.length x) (by assumption))
  exact ⟨(.slice none 0 0), by first | (rw [ho]; done) | rfl, sl_eq (SlX.nil (α := FogD) true _) (congrArg (fun o => o.1) ho).symm, Fr.nil _, E44⟩
 have c47 := Classical.not_not.1 c47
 refine v_skip <| p_seqN <| v_seq <| v_ops <| s_pq v_l ?_
 have f48 := ((f34.ext eh37).ext eh43)
 refine s_load (.agg #[.int .i64 x.link, .int .i64 x.fr, .int .i64 x.til]) (fun _ q => f48.loadA rfl q) ?_
 have f49 := ((f35.ext eh37).ext eh43)
 refine s_call [v_l, .agg #[.int .i64 x.link, .int .i64 x.fr, .int .i64 x.til]] rfl (spec_fgAdd_ok v_l l x _ f49 _ (by assumption : FogsOk n.links.length l) (by assumption : FogOk n.links.length x)) ?_
 rintro r50 h51 ⟨_, rfl, s_r50, fr_r50, eh51⟩
 have E52 := E44.trans eh51
 have z53 := eh51.size
 refine s_pq r50 <| s_pq (.bool true) <| s_nil <| p_seqN <| v_ret <| p_ret [r50, .bool true] (.tuple #[r50, .bool true]) (fun _ q => q) rfl ?_
 have ho : (addOut n l x) = ((adR (ad x l)), true) := by first | exact add_no (fun h => by first | exact (by assumption : ¬ NetOk n) h.hn | exact (by assumption : ¬ FogsOk _ _) h.hf | exact (by assumption : ¬ FogOk _ _) h.hx) | exact add_no (fun h => (by assumption : ¬ FogsOk _ (adR _)) ((add_test h.hf h.hx).2 h.h60)) | exact add_yes (adR_test (by assumption) (by assumption : FogsOk n.links.length l) (by assumption : FogOk n.links.length x) (by assumption))
 exact ⟨r50, by first | (rw [ho]; done) | rfl, sl_eq s_r50 (congrArg (fun o => o.1) ho).symm, fr_r50.mono (by omega), E52⟩

end Go.Proofs.Ytloicopmcagikaa


/- Contracts and facts wanted by the law of fogs. Condition: none. Printed in part by a program. -/
namespace Go.Proofs.Ytloicopmcagikaa
open Go.Vc
set_option linter.all false

theorem q_step {α : Type} {a b : List α} {k : Nat} {x y : α} (h : a.take k = b.take k) (hx : a[k]? = some x) (hy : b[k]? = some y) (e : x = y) : a.take (k + 1) = b.take (k + 1) := by
 rw [List.take_add_one, List.take_add_one, h, hx, hy, e]
theorem q_done {α : Type} {a b : List α} {k : Nat} (h : a.take k = b.take k) (hk : ¬ (k : Int) < (a.length : Int)) (hl : (a.length : Int) = (b.length : Int)) : a = b := by
 rw [List.take_of_length_le (by omega), List.take_of_length_le (by omega)] at h; exact h
theorem q_ne {α : Type} {a b : List α} {k : Nat} {x y : α} (hx : a[k]? = some x) (hy : b[k]? = some y) (h : ¬ x = y) : a ≠ b := fun e => by
 subst e; rw [hx] at hy; exact h (Option.some.inj hy)
theorem mq_step {α β : Type} {f : α → β} {a b : List α} {k : Nat} {x y : α} (h : (a.map f).take k = (b.map f).take k) (hx : a[k]? = some x) (hy : b[k]? = some y) (e : f x = f y) : (a.map f).take (k + 1) = (b.map f).take (k + 1) := by
 rw [List.take_add_one, List.take_add_one, h, List.getElem?_map, List.getElem?_map, hx, hy]; simp [e]
theorem mq_done {α β : Type} {f : α → β} {a b : List α} {k : Nat} (h : (a.map f).take k = (b.map f).take k) (hk : ¬ (k : Int) < (a.length : Int)) (hl : (a.length : Int) = (b.length : Int)) : a.map f = b.map f := by
 rw [List.take_of_length_le (by rw [List.length_map]; omega), List.take_of_length_le (by rw [List.length_map]; omega)] at h; exact h
theorem mq_ne {α β : Type} {f : α → β} {a b : List α} {k : Nat} {x y : α} (hx : a[k]? = some x) (hy : b[k]? = some y) (h : ¬ f x = f y) : a.map f ≠ b.map f := fun e => by
 have e2 := congrArg (fun l => l[k]?) e
 simp only [List.getElem?_map, hx, hy, Option.map_some, Option.some.injEq] at e2
 exact h e2
theorem mq_len {α β : Type} {f : α → β} {a b : List α} (e : a.map f = b.map f) : (a.length : Int) = (b.length : Int) := by
 have := congrArg List.length e
 rw [List.length_map, List.length_map] at this; omega


theorem cw_ask {n : NetP} {l : List FogD} {link a b : Int} (h : (cwOut n l link a b).2 = true) : AskF n l link a b ∧ (fsOut n l link a b).1 = fgSec l link a b ∧ 0 ≤ fgSec l link a b ∧ fgSec l link a b ≤ 600000 := by
  by_cases c : AskF n l link a b
  · have ha := c.ha
    have hb := c.hb
    have := fgSec_bd l link c.hab (by omega) l.length
    rw [List.take_length] at this
    have h60 := c.hf.1
    exact ⟨c, by rw [fsOut, if_pos c], this.1, by omega⟩
  · rw [cw_no c] at h; cases h
theorem fs_flag (n : NetP) (l : List FogD) (link a b : Int) : (fsOut n l link a b).2 = (cwOut n l link a b).2 := by
  by_cases c : AskF n l link a b
  · rw [fsOut, cwOut, if_pos c, if_pos c]
  · rw [fsOut, cwOut, if_neg c, if_neg c]
theorem nx_flag (n : NetP) (l : List FogD) (link t : Int) : (nxOut n l link t).2 = (clOut n l link t).2 := by
  by_cases c : AskF n l link t t
  · rw [nxOut, clOut, if_pos c, if_pos c]
  · rw [nxOut, clOut, if_neg c, if_neg c]
theorem nx_facts {n : NetP} {l : List FogD} {link t : Int} (h : (nxOut n l link t).2 = true) : ¬ (nxOut n l link t).1 < t ∧ (clOut n l link t).1 = ((nxOut n l link t).1 == t) ∧ ((nxOut n l link t).1 ≤ 10000 → clOut n l link (nxOut n l link t).1 = (true, true)) := by
  by_cases c : AskF n l link t t
  · obtain ⟨h1, h2, h3⟩ := next_facts c
    rw [nxOut, if_pos c, clOut, if_pos c]
    simp only
    refine ⟨by omega, ?_, fun h4 => ?_⟩
    · rw [Bool.eq_iff_iff, h2, beq_iff_eq]
    · have ht := c.ha
      rw [clOut, if_pos ⟨c.hn, c.hf, c.hk, by omega, Int.le_refl _, h4⟩, h3]
  · rw [nxOut, if_neg c] at h; cases h
/-- the windows as rows -/
theorem win_y {n : NetP} {l : List FogD} {link a b cl la : Int} {Q : List RowI} (hA : AskF n l link a b) (hq : Q.map RowI.sig = (cwOut n l link a b).1) {k : Nat} (hw : (cl, la) = wTo a ((cwOut n l link a b).1.take k)) {x : RowI} (hx : Q[k]? = some x) :
    x.sig.length = 2 ∧ (∀ y, x.sig[0]? = some y → clOut n l link y = (true, true)) ∧ (∀ z, x.sig[1]? = some z → clOut n l link (z - 1) = (true, true) ∧ 0 < z ∧ z ≤ 10000) ∧
    ∀ y z, x.sig[0]? = some y → x.sig[1]? = some z → 0 ≤ y ∧ y < z ∧ z ≤ b ∧ z ≤ 10000 ∧ la < y ∧ (cl + (z - y), z) = wTo a ((cwOut n l link a b).1.take (k + 1)) := by
  have hr : (cwOut n l link a b).1[k]? = some x.sig := by rw [← hq, List.getElem?_map, hx]; rfl
  have h2 := win_two hr
  have hy := List.getElem?_eq_getElem (show 0 < x.sig.length by omega)
  have hz := List.getElem?_eq_getElem (show 1 < x.sig.length by omega)
  generalize x.sig[0] = y0 at hy
  generalize x.sig[1] = z0 at hz
  obtain ⟨h1, h2', h3, h4, h5, h6, h7, h8, h9⟩ := win_one hA hr hy hz
  rw [← hw] at h6 h9
  refine ⟨h2, fun y e => ?_, fun z e => ?_, fun y z e e' => ?_⟩
  · rw [hy] at e; obtain rfl := Option.some.inj e; exact h7
  · rw [hz] at e; obtain rfl := Option.some.inj e; exact ⟨h8, by omega, by omega⟩
  · rw [hy] at e; obtain rfl := Option.some.inj e
    rw [hz] at e'; obtain rfl := Option.some.inj e'
    exact ⟨by omega, h2', h3, by omega, h6, h9.symm⟩
theorem win_end {n : NetP} {l : List FogD} {link a b cl la : Int} {Q : List RowI} (hA : AskF n l link a b) (hq : Q.map RowI.sig = (cwOut n l link a b).1) {k : Nat} (hw : (cl, la) = wTo a ((cwOut n l link a b).1.take k)) (hk : Q.length ≤ k) : cl + fgSec l link a b = b - a := by
 have hlen : (cwOut n l link a b).1.length ≤ k := by rw [← hq, List.length_map]; exact hk
 rw [List.take_of_length_le hlen] at hw
 have := (win_facts hA).2
 rw [← hw] at this; exact this
theorem q_len61 {n : NetP} {l : List FogD} {link a b : Int} {Q : List RowI} (hq : Q.map RowI.sig = (cwOut n l link a b).1) : Q.length ≤ 61 := by
 have := win_len n l link a b
 rw [← hq, List.length_map] at this; exact this
/-- what is put together covers the fog added -/
theorem ad_cov (x0 : FogD) (l : List FogD) : (ad x0 l).1.link = x0.link ∧ (ad x0 l).1.fr ≤ x0.fr ∧ x0.til ≤ (ad x0 l).1.til := by
  have : ∀ (l : List FogD) (s : FogD × List FogD × Nat), s.1.link = x0.link ∧ s.1.fr ≤ x0.fr ∧ x0.til ≤ s.1.til → (l.foldl adStep s).1.link = x0.link ∧ (l.foldl adStep s).1.fr ≤ x0.fr ∧ x0.til ≤ (l.foldl adStep s).1.til := by
    intro l
    induction l with
    | nil => intro s h; exact h
    | cons y l ih =>
      intro s h
      refine ih _ ?_
      unfold adStep
      split
      · simp only [mrg]
        refine ⟨h.1, ?_, ?_⟩ <;> split <;> omega
      · exact h
  exact this l _ ⟨rfl, Int.le_refl _, Int.le_refl _⟩
theorem add_facts {n : NetP} {l : List FogD} {x : FogD} (h : (addOut n l x).2 = true) : fsOut n (addOut n l x).1 x.link x.fr x.til = (x.til - x.fr, true) ∧ afOut n (addOut n l x).1 = (true, true) ∧ 0 ≤ x.fr ∧ x.fr < x.til ∧ x.til ≤ 10000 := by
  by_cases c : AddAsk n l x
  · rw [add_yes c]
    simp only
    obtain ⟨hn, hf, hx, h60⟩ := c
    have hR : FogsOk n.links.length (adR (ad x l)) := (add_test hf hx).2 h60
    have hj := (ad_ok hf hx l.length (Nat.le_refl _)).jle
    rw [List.take_length] at hj
    obtain ⟨c1, c2, c3⟩ := ad_cov x l
    have hi : (adR (ad x l))[(ad x l).2.2]? = some (ad x l).1 := by
      rw [adR, List.getElem?_append_right (by rw [List.length_take]; omega), List.length_take, Nat.min_eq_left hj, Nat.sub_self]; rfl
    have hi2 := (List.getElem?_eq_some_iff.1 hi).1
    obtain ⟨x1, x2, x3, x4⟩ := hx
    have hs := sec_full hR (link := x.link) (a := x.fr) (b := x.til) (by omega) hi c1 c2 c3 _ (Nat.le_refl _)
    rw [List.take_length, if_pos hi2] at hs
    exact ⟨by rw [fsOut, if_pos ⟨hn, hR, x1, x2, by omega, x4⟩, hs], by rw [afOut, if_pos hn, decide_eq_true hR], x2, x3, x4⟩
  · rw [add_no c] at h; cases h

theorem laws_big_ok (v_code : Value) (code : List By) (v_more : Value) (more : List By) (h : Heap) (s_code : Sl h v_code code) (s_more : Sl h v_more more) : Cn f_laws_big [v_code, v_more] h fun v h' => v = .bool (decide (1048576 < code.length + more.length)) ∧ Ext h h' := by
 have l63_code := s_code.len63
 have l63_more := s_more.len63
 refine calls_of r_laws_big ?_
 refine v_seq <| v_ops <| s_pq (.bool false) <| s_nil <| p_seqN <| v_seq <| v_ops <| s_pq v_code <| s_pure (.int .i64 (code.length : Int)) (fun _ q => s_code.lenVC q) <| s_pq (.bool (decide ((code.length : Int) > 1048576))) <| s_pq (.bool (decide ((code.length : Int) > 1048576))) ?_
 refine s_splitT rfl (fun c1 => ?_) (fun c1 => ?_)
 ·
  refine s_pass rfl <| s_pass rfl <| s_pass rfl <| s_pass rfl <| s_pass rfl <| s_pass rfl <| s_pq (.bool true) <| s_pq (.bool true) <| s_nil <| p_seqN <| v_ret <| p_ret [.bool true] (.bool true) (fun _ q => q) rfl ?_
  have ho : (decide (1048576 < code.length + more.length)) = true := by first | exact decide_eq_true (by omega) | exact decide_eq_decide.2 (by omega)
  exact ⟨by first | (rw [ho]; done) | rfl, (Ext.refl h)⟩
 refine s_run rfl <| s_pq v_more <| s_run rfl <| s_pure (.int .i64 (more.length : Int)) (fun _ q => s_more.lenVC q) <| s_run rfl <| s_pq v_code <| s_run rfl <| s_pure (.int .i64 (code.length : Int)) (fun _ q => s_code.lenVC q) <| s_run rfl <| s_pure (.int .i64 (1048576 - (code.length : Int))) (fun _ q => ArithVC.mk (by omega) q) <| s_run rfl <| s_pq (.bool (decide ((more.length : Int) > (1048576 - (code.length : Int))))) <| s_pq (.bool (decide ((more.length : Int) > (1048576 - (code.length : Int))))) ?_
 refine s_pq (.bool (decide ((more.length : Int) > (1048576 - (code.length : Int))))) <| s_nil <| p_seqN <| v_ret <| p_ret [.bool (decide ((more.length : Int) > (1048576 - (code.length : Int))))] (.bool (decide ((more.length : Int) > (1048576 - (code.length : Int))))) (fun _ q => q) rfl ?_
 have ho : (decide (1048576 < code.length + more.length)) = (decide ((more.length : Int) > (1048576 - (code.length : Int)))) := by first | exact decide_eq_true (by omega) | exact decide_eq_decide.2 (by omega)
 exact ⟨by first | (rw [ho]; done) | rfl, (Ext.refl h)⟩

theorem laws_sameInts_ok (v_a : Value) (a : List Int) (v_b : Value) (b : List Int) (h : Heap) (s_a : Sl h v_a a) (s_b : Sl h v_b b) : Cn f_laws_sameInts [v_a, v_b] h fun v h' => v = .bool (decide (a = b)) ∧ Ext h h' := by
 have l63_a := s_a.len63
 have l63_b := s_b.len63
 refine calls_of r_laws_sameInts ?_
 refine v_seq <| v_ops <| s_pq (.bool false) <| s_nil <| p_seqN <| v_seq <| v_seq <| v_ops <| s_pq v_a <| s_pure (.int .i64 (a.length : Int)) (fun _ q => s_a.lenVC q) <| s_pq v_b <| s_pure (.int .i64 (b.length : Int)) (fun _ q => s_b.lenVC q) <| s_pq (.bool ((a.length : Int) != (b.length : Int))) <| s_nil <| p_seqN ?_
 refine v_cond rfl (fun c1 => ?_) (fun c1 => ?_)
 ·
  refine v_seq <| v_ops <| s_pq (.bool false) <| s_nil <| p_seqN <| v_ret <| p_seqR <| p_ret [.bool false] (.bool false) (fun _ q => q) rfl ?_
  have ho : (decide (a = b)) = false := by first | exact decide_eq_true (q_done hab (by assumption) (by assumption)) | exact decide_eq_false (q_ne (by assumption) (by assumption) (by first | assumption | (simp_all; done))) | exact decide_eq_false (fun hc => by subst hc; omega)
  exact ⟨by first | (rw [ho]; done) | rfl, (Ext.refl h)⟩
 have c1 := Classical.not_not.1 c1
 refine v_skip <| p_seqN <| v_seq <| v_seq <| v_ops <| s_pq v_a <| s_pure (.int .i64 (a.length : Int)) (fun _ q => s_a.lenVC q) <| s_pq (.int .i64 0) <| s_nil <| p_seqN <| v_block <| v_loop1 (α := Nat) (fun k => [(0, v_a), (1, v_b), (12, .int .i64 (a.length : Int)), (13, .int .i64 (k : Int))]) (fun k hh => Ext h hh ∧ k ≤ a.length ∧ a.take k = b.take k) (fun k => a.length - k) 0 ⟨rfl, rfl, rfl, rfl⟩ ⟨(Ext.refl h), (by simp)⟩ ?_
 rintro k R3 h2 ⟨Eh, ⟨hk, hab⟩⟩
 have zEh := Eh.size
 have f5 := s_a.ext Eh
 have f6 := s_b.ext Eh
 refine v_seq <| v_ops <| s_pq (.bool (decide ((k : Int) < (a.length : Int)))) <| s_nil <| p_seqN <| v_seq ?_
 refine v_cond rfl (fun c7 => ?_) (fun c7 => ?_)
 ·
  refine v_skip <| p_seqN <| v_seq <| v_block <| v_seq <| v_ops <| s_pq (.int .i64 (k : Int)) <| s_pq (.int .i64 (k : Int)) <| s_nil <| p_seqN <| v_seq <| v_ops <| s_pq v_a <| s_pq (.int .i64 (k : Int)) ?_
  have hk8 : k < a.length := (by first | omega | (simp; omega))
  obtain ⟨x9, hx9⟩ : ∃ x, a[k]? = some x := ⟨_, List.getElem?_eq_getElem hk8⟩
  refine s_pure (.pointer (some ⟨sblk v_a, soff v_a + k * 1, none⟩)) (fun _ q => f5.idx (k := k) rfl hk8 q) <| s_pq v_b <| s_pq (.int .i64 (k : Int)) ?_
  have hk10 : k < b.length := (by first | omega | (simp; omega))
  obtain ⟨x11, hx11⟩ : ∃ x, b[k]? = some x := ⟨_, List.getElem?_eq_getElem hk10⟩
  refine s_pure (.pointer (some ⟨sblk v_b, soff v_b + k * 1, none⟩)) (fun _ q => f6.idx (k := k) rfl hk10 q) <| s_load (.int .i64 x9) (fun _ q => f5.load1 hx9 rfl q) <| s_load (.int .i64 x11) (fun _ q => f6.load1 hx11 rfl q) <| s_pq (.bool (x9 != x11)) <| s_nil <| p_seqN ?_
  refine v_cond rfl (fun c12 => ?_) (fun c12 => ?_)
  ·
   refine v_seq <| v_ops <| s_pq (.bool false) <| s_nil <| p_seqN <| v_ret <| p_blkR <| p_seqR <| p_lpR <| p_blkR <| p_seqR <| p_ret [.bool false] (.bool false) (fun _ q => q) rfl ?_
   have ho : (decide (a = b)) = false := by first | exact decide_eq_true (q_done hab (by assumption) (by assumption)) | exact decide_eq_false (q_ne (by assumption) (by assumption) (by first | assumption | (simp_all; done))) | exact decide_eq_false (fun hc => by subst hc; omega)
   exact ⟨by first | (rw [ho]; done) | rfl, Eh⟩
  have c12 := Classical.not_not.1 c12
  refine v_skip <| p_blkN <| p_seqN <| v_ops <| s_pure (.int .i64 ((k : Int) + 1)) (fun _ q => ArithVC.mk (by omega) q) <| s_pq (.int .i64 ((k : Int) + 1)) <| s_nil ?_
  exact p_lpN ⟨k + 1, ⟨rfl, rfl, rfl, rfl⟩, ⟨Eh, (by exact ⟨by omega, q_step hab (by assumption) (by assumption) (by first | assumption | (simp_all; done))⟩)⟩, by omega⟩
 refine v_exit <| p_seqX <| p_lpX <| p_blkX <| p_seqN <| v_seq <| v_ops <| s_pq (.bool true) <| s_nil <| p_seqN <| v_ret <| p_ret [.bool true] (.bool true) (fun _ q => q) rfl ?_
 have ho : (decide (a = b)) = true := by first | exact decide_eq_true (q_done hab (by assumption) (by assumption)) | exact decide_eq_false (q_ne (by assumption) (by assumption) (by first | assumption | (simp_all; done))) | exact decide_eq_false (fun hc => by subst hc; omega)
 exact ⟨by first | (rw [ho]; done) | rfl, Eh⟩

theorem fog_ext (x y : FogD) : x = y ↔ (x.link = y.link ∧ x.fr = y.fr ∧ x.til = y.til) := ⟨fun e => by subst e; exact ⟨rfl, rfl, rfl⟩, fun ⟨a, b, c⟩ => by cases x; cases y; simp_all⟩
theorem laws_pSameFogs_ok (v_a : Value) (a : List FogD) (v_b : Value) (b : List FogD) (h : Heap) (s_a : Sl h v_a a) (s_b : Sl h v_b b) : Cn f_laws_pSameFogs [v_a, v_b] h fun v h' => v = .bool (decide (a = b)) ∧ Ext h h' := by
 have l63_a := s_a.len63
 have l63_b := s_b.len63
 refine calls_of r_laws_pSameFogs ?_
 refine v_seq <| v_ops <| s_pq (.bool false) <| s_nil <| p_seqN <| v_seq <| v_seq <| v_ops <| s_pq v_a <| s_pure (.int .i64 (a.length : Int)) (fun _ q => s_a.lenVC q) <| s_pq v_b <| s_pure (.int .i64 (b.length : Int)) (fun _ q => s_b.lenVC q) <| s_pq (.bool ((a.length : Int) != (b.length : Int))) <| s_nil <| p_seqN ?_
 refine v_cond rfl (fun c1 => ?_) (fun c1 => ?_)
 ·
  refine v_seq <| v_ops <| s_pq (.bool false) <| s_nil <| p_seqN <| v_ret <| p_seqR <| p_ret [.bool false] (.bool false) (fun _ q => q) rfl ?_
  have ho : (decide (a = b)) = false := by first | exact decide_eq_true (q_done hab (by assumption) (by assumption)) | exact decide_eq_false (q_ne (by assumption) (by assumption) (by first | assumption | (rw [fog_ext]; simp_all; done) | (intro e; rw [fog_ext] at e; simp_all; done))) | exact decide_eq_false (fun hc => by subst hc; omega)
  exact ⟨by first | (rw [ho]; done) | rfl, (Ext.refl h)⟩
 have c1 := Classical.not_not.1 c1
 refine v_skip <| p_seqN <| v_seq <| v_seq <| v_ops <| s_pq v_a <| s_pure (.int .i64 (a.length : Int)) (fun _ q => s_a.lenVC q) <| s_pq (.int .i64 0) <| s_nil <| p_seqN <| v_block <| v_loop1 (α := Nat) (fun k => [(0, v_a), (1, v_b), (12, .int .i64 (a.length : Int)), (13, .int .i64 (k : Int))]) (fun k hh => Ext h hh ∧ k ≤ a.length ∧ a.take k = b.take k) (fun k => a.length - k) 0 ⟨rfl, rfl, rfl, rfl⟩ ⟨(Ext.refl h), (by simp)⟩ ?_
 rintro k R3 h2 ⟨Eh, ⟨hk, hab⟩⟩
 have zEh := Eh.size
 have f5 := s_a.ext Eh
 have f6 := s_b.ext Eh
 refine v_seq <| v_ops <| s_pq (.bool (decide ((k : Int) < (a.length : Int)))) <| s_nil <| p_seqN <| v_seq ?_
 refine v_cond rfl (fun c7 => ?_) (fun c7 => ?_)
 ·
  refine v_skip <| p_seqN <| v_seq <| v_block <| v_seq <| v_ops <| s_pq (.int .i64 (k : Int)) <| s_pq (.int .i64 (k : Int)) <| s_nil <| p_seqN <| v_seq <| v_ops <| s_pq v_a <| s_pq (.int .i64 (k : Int)) ?_
  have hk8 : k < a.length := (by first | omega | (simp; omega))
  obtain ⟨x9, hx9⟩ : ∃ x, a[k]? = some x := ⟨_, List.getElem?_eq_getElem hk8⟩
  refine s_pure (.pointer (some ⟨sblk v_a, soff v_a + k * 3, none⟩)) (fun _ q => f5.idx (k := k) rfl hk8 q) <| s_pq v_b <| s_pq (.int .i64 (k : Int)) ?_
  have hk10 : k < b.length := (by first | omega | (simp; omega))
  obtain ⟨x11, hx11⟩ : ∃ x, b[k]? = some x := ⟨_, List.getElem?_eq_getElem hk10⟩
  refine s_pure (.pointer (some ⟨sblk v_b, soff v_b + k * 3, none⟩)) (fun _ q => f6.idx (k := k) rfl hk10 q) <| s_load (.agg #[.int .i64 x9.link, .int .i64 x9.fr, .int .i64 x9.til]) (fun _ q => f5.loadN hx9 rfl q) <| s_load (.agg #[.int .i64 x11.link, .int .i64 x11.fr, .int .i64 x11.til]) (fun _ q => f6.loadN hx11 rfl q) <| s_pure (.bool (!(decide (x9.link = x11.link ∧ x9.fr = x11.fr ∧ x9.til = x11.til)))) (fun _ q => ⟨_, _, _, rfl, rfl, (by simp [eqC, Bool.decide_and, beqI, beqB]), q⟩) <| s_nil <| p_seqN ?_
  refine v_cond rfl (fun c12 => ?_) (fun c12 => ?_)
  ·
   refine v_seq <| v_ops <| s_pq (.bool false) <| s_nil <| p_seqN <| v_ret <| p_blkR <| p_seqR <| p_lpR <| p_blkR <| p_seqR <| p_ret [.bool false] (.bool false) (fun _ q => q) rfl ?_
   have ho : (decide (a = b)) = false := by first | exact decide_eq_true (q_done hab (by assumption) (by assumption)) | exact decide_eq_false (q_ne (by assumption) (by assumption) (by first | assumption | (rw [fog_ext]; simp_all; done) | (intro e; rw [fog_ext] at e; simp_all; done))) | exact decide_eq_false (fun hc => by subst hc; omega)
   exact ⟨by first | (rw [ho]; done) | rfl, Eh⟩
  have c12 := Classical.not_not.1 c12
  refine v_skip <| p_blkN <| p_seqN <| v_ops <| s_pure (.int .i64 ((k : Int) + 1)) (fun _ q => ArithVC.mk (by omega) q) <| s_pq (.int .i64 ((k : Int) + 1)) <| s_nil ?_
  exact p_lpN ⟨k + 1, ⟨rfl, rfl, rfl, rfl⟩, ⟨Eh, (by exact ⟨by omega, q_step hab (by assumption) (by assumption) (by first | assumption | (rw [fog_ext]; simp_all; done) | (intro e; rw [fog_ext] at e; simp_all; done))⟩)⟩, by omega⟩
 refine v_exit <| p_seqX <| p_lpX <| p_blkX <| p_seqN <| v_seq <| v_ops <| s_pq (.bool true) <| s_nil <| p_seqN <| v_ret <| p_ret [.bool true] (.bool true) (fun _ q => q) rfl ?_
 have ho : (decide (a = b)) = true := by first | exact decide_eq_true (q_done hab (by assumption) (by assumption)) | exact decide_eq_false (q_ne (by assumption) (by assumption) (by first | assumption | (rw [fog_ext]; simp_all; done) | (intro e; rw [fog_ext] at e; simp_all; done))) | exact decide_eq_false (fun hc => by subst hc; omega)
 exact ⟨by first | (rw [ho]; done) | rfl, Eh⟩

theorem laws_sameLists_ok (v_a : Value) (a : List RowI) (d_a : List (List Int)) (v_b : Value) (b : List RowI) (d_b : List (List Int)) (h : Heap) (s_a : Sl h v_a a) (in_a : ∀ p ∈ a, Sl h p.sv.v p.sig) (hd_a : a.map RowI.sig = d_a) (s_b : Sl h v_b b) (in_b : ∀ p ∈ b, Sl h p.sv.v p.sig) (hd_b : b.map RowI.sig = d_b) : Cn f_laws_sameLists [v_a, v_b] h fun v h' => v = .bool (decide (d_a = d_b)) ∧ Ext h h' := by
 subst hd_a
 have l63_a := s_a.len63
 have inlt_a := fun p hp => (in_a p hp).lt
 subst hd_b
 have l63_b := s_b.len63
 have inlt_b := fun p hp => (in_b p hp).lt
 refine calls_of r_laws_sameLists ?_
 refine v_seq <| v_ops <| s_pq (.bool false) <| s_nil <| p_seqN <| v_seq <| v_seq <| v_ops <| s_pq v_a <| s_pure (.int .i64 (a.length : Int)) (fun _ q => s_a.lenVC q) <| s_pq v_b <| s_pure (.int .i64 (b.length : Int)) (fun _ q => s_b.lenVC q) <| s_pq (.bool ((a.length : Int) != (b.length : Int))) <| s_nil <| p_seqN ?_
 refine v_cond rfl (fun c1 => ?_) (fun c1 => ?_)
 ·
  refine v_seq <| v_ops <| s_pq (.bool false) <| s_nil <| p_seqN <| v_ret <| p_seqR <| p_ret [.bool false] (.bool false) (fun _ q => q) rfl ?_
  have ho : (decide ((a.map RowI.sig) = (b.map RowI.sig))) = false := by first | exact decide_eq_true (mq_done hab (by assumption) (by assumption)) | exact decide_eq_false (mq_ne (by assumption) (by assumption) (by first | assumption | (simp_all; done))) | exact decide_eq_false (fun hc => absurd (mq_len hc) (by assumption))
  exact ⟨by first | (rw [ho]; done) | rfl, (Ext.refl h)⟩
 have c1 := Classical.not_not.1 c1
 refine v_skip <| p_seqN <| v_seq <| v_seq <| v_ops <| s_pq v_a <| s_pure (.int .i64 (a.length : Int)) (fun _ q => s_a.lenVC q) <| s_pq (.int .i64 0) <| s_nil <| p_seqN <| v_block <| v_loop1 (α := Nat) (fun k => [(0, v_a), (1, v_b), (12, .int .i64 (a.length : Int)), (13, .int .i64 (k : Int))]) (fun k hh => Ext h hh ∧ k ≤ a.length ∧ (a.map RowI.sig).take k = (b.map RowI.sig).take k) (fun k => a.length - k) 0 ⟨rfl, rfl, rfl, rfl⟩ ⟨(Ext.refl h), (by simp)⟩ ?_
 rintro k R3 h2 ⟨Eh, ⟨hk, hab⟩⟩
 have zEh := Eh.size
 have f5 := s_a.ext Eh
 have in6 := fun p hp => (in_a p hp).ext Eh
 have f7 := s_b.ext Eh
 have in8 := fun p hp => (in_b p hp).ext Eh
 refine v_seq <| v_ops <| s_pq (.bool (decide ((k : Int) < (a.length : Int)))) <| s_nil <| p_seqN <| v_seq ?_
 refine v_cond rfl (fun c9 => ?_) (fun c9 => ?_)
 ·
  refine v_skip <| p_seqN <| v_seq <| v_block <| v_seq <| v_ops <| s_pq (.int .i64 (k : Int)) <| s_pq (.int .i64 (k : Int)) <| s_nil <| p_seqN <| v_seq <| v_drawF <| d_pq v_a <| d_pq (.int .i64 (k : Int)) ?_
  have hk10 : k < a.length := (by first | omega | (simp; omega))
  obtain ⟨x11, hx11⟩ : ∃ x, a[k]? = some x := ⟨_, List.getElem?_eq_getElem hk10⟩
  refine d_pureT (.pointer (some ⟨sblk v_a, soff v_a + k * 1, none⟩)) (fun _ q => f5.idx (k := k) rfl hk10 q) <| d_pq v_b <| d_pq (.int .i64 (k : Int)) ?_
  have hk12 : k < b.length := (by first | omega | (simp; omega))
  obtain ⟨x13, hx13⟩ : ∃ x, b[k]? = some x := ⟨_, List.getElem?_eq_getElem hk12⟩
  refine d_pureT (.pointer (some ⟨sblk v_b, soff v_b + k * 1, none⟩)) (fun _ q => f7.idx (k := k) rfl hk12 q) ?_
  have s14 := in6 x11 (List.mem_of_getElem? hx11)
  refine d_loadO x11.sv.v (fun _ q => f5.load1 hx11 rfl q) ?_
  have s15 := in8 x13 (List.mem_of_getElem? hx13)
  refine d_loadO x13.sv.v (fun _ q => f7.load1 hx13 rfl q) <| d_eff <| s_call [x11.sv.v, x13.sv.v] rfl (laws_sameInts_ok x11.sv.v x11.sig x13.sv.v x13.sig _ s14 s15) ?_
  rintro _ h16 ⟨rfl, eh16⟩
  have E17 := Eh.trans eh16
  have z18 := eh16.size
  refine s_nil ⟨fun hl => (by cases hl), ?_⟩
  refine d_pq (.bool (!(decide (x11.sig = x13.sig)))) <| d_done <| p_seqN ?_
  refine v_cond rfl (fun c20 => ?_) (fun c20 => ?_)
  ·
   refine v_seq <| v_ops <| s_pq (.bool false) <| s_nil <| p_seqN <| v_ret <| p_blkR <| p_seqR <| p_lpR <| p_blkR <| p_seqR <| p_ret [.bool false] (.bool false) (fun _ q => q) rfl ?_
   have ho : (decide ((a.map RowI.sig) = (b.map RowI.sig))) = false := by first | exact decide_eq_true (mq_done hab (by assumption) (by assumption)) | exact decide_eq_false (mq_ne (by assumption) (by assumption) (by first | assumption | (simp_all; done))) | exact decide_eq_false (fun hc => absurd (mq_len hc) (by assumption))
   exact ⟨by first | (rw [ho]; done) | rfl, E17⟩
  have c20 := Classical.not_not.1 c20
  refine v_skip <| p_blkN <| p_seqN <| v_ops <| s_pure (.int .i64 ((k : Int) + 1)) (fun _ q => ArithVC.mk (by omega) q) <| s_pq (.int .i64 ((k : Int) + 1)) <| s_nil ?_
  exact p_lpN ⟨k + 1, ⟨rfl, rfl, rfl, rfl⟩, ⟨E17, (by exact ⟨by omega, mq_step hab (by assumption) (by assumption) (by first | assumption | (simp_all; done))⟩)⟩, by omega⟩
 refine v_exit <| p_seqX <| p_lpX <| p_blkX <| p_seqN <| v_seq <| v_ops <| s_pq (.bool true) <| s_nil <| p_seqN <| v_ret <| p_ret [.bool true] (.bool true) (fun _ q => q) rfl ?_
 have ho : (decide ((a.map RowI.sig) = (b.map RowI.sig))) = true := by first | exact decide_eq_true (mq_done hab (by assumption) (by assumption)) | exact decide_eq_false (mq_ne (by assumption) (by assumption) (by first | assumption | (simp_all; done))) | exact decide_eq_false (fun hc => absurd (mq_len hc) (by assumption))
 exact ⟨by first | (rw [ho]; done) | rfl, Eh⟩

end Go.Proofs.Ytloicopmcagikaa

