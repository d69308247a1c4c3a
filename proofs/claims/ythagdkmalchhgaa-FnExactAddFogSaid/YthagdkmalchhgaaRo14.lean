/- One fog more. Condition: none. Printed in part by a program. -/
import Derived.Test.YthagdkmalchhgaaSortLay
import Derived.Test.YthagdkmalchhgaaRo3
import Derived.Test.YthagdkmalchhgaaRo4
namespace Go.Proofs.Ythagdkmalchhgaa
open Go.Vc
set_option linter.all false

theorem mrg_min {x y : FogD} : mrg x y = ⟨x.link, if x.fr < y.fr then x.fr else y.fr, if x.til > y.til then x.til else y.til⟩ := by
  unfold mrg
  congr 1
  · split <;> split <;> omega
  · split <;> split <;> omega
theorem tch_split {x y : FogD} : tch x y ↔ (y.link = x.link ∧ y.fr ≤ x.til ∧ x.fr ≤ y.til) := Iff.rfl
theorem adR_test {n : NetP} {l : List FogD} {x : FogD} (hn : NetOk n) (hf : FogsOk n.links.length l) (hx : FogOk n.links.length x) (h : FogsOk n.links.length (adR (ad x l))) : AddAsk n l x := ⟨hn, hf, hx, (add_test hf hx).1 h⟩

theorem spec_l1Most_ok (a : Int) (b : Int) (h : Heap)  : Cn f_spec_l1Most [.int .i64 a, .int .i64 b] h fun v h' => v = .int .i64 (if a > b then a else b) ∧ h' = h := by
  refine calls_of r_spec_l1Most ?_
  refine v_seq ?_
  refine v_ops ?_
  refine s_pure (.int .i64 0) (fun _ q => q) ?_
  refine s_nil ?_
  refine p_seqN ?_
  refine v_seq ?_
  refine v_seq ?_
  refine v_ops ?_
  refine s_pure (.int .i64 a) (fun _ q => q) ?_
  refine s_pure (.int .i64 b) (fun _ q => q) ?_
  refine s_pure (.bool (decide (a > b))) (fun _ q => q) ?_
  refine s_nil ?_
  refine p_seqN ?_
  refine v_cond rfl (fun c1 => ?_) (fun c1 => ?_)
  ·
    refine v_seq ?_
    refine v_ops ?_
    refine s_pure (.int .i64 a) (fun _ q => q) ?_
    refine s_pure (.int .i64 a) (fun _ q => q) ?_
    refine s_nil ?_
    refine p_seqN ?_
    refine v_ret ?_
    refine p_seqR ?_
    refine p_ret [.int .i64 a] (.int .i64 a) (fun _ q => q) rfl ?_
    have ho : (if a > b then a else b) = a := by simp [*]
    exact ⟨by first | (rw [ho]; done) | rfl, rfl⟩
  ·
    refine v_skip ?_
    refine p_seqN ?_
    refine v_seq ?_
    refine v_ops ?_
    refine s_pure (.int .i64 b) (fun _ q => q) ?_
    refine s_pure (.int .i64 b) (fun _ q => q) ?_
    refine s_nil ?_
    refine p_seqN ?_
    refine v_ret ?_
    refine p_ret [.int .i64 b] (.int .i64 b) (fun _ q => q) rfl ?_
    have ho : (if a > b then a else b) = b := by simp [*]
    exact ⟨by first | (rw [ho]; done) | rfl, rfl⟩

theorem spec_l1Least_ok (a : Int) (b : Int) (h : Heap)  : Cn f_spec_l1Least [.int .i64 a, .int .i64 b] h fun v h' => v = .int .i64 (if a < b then a else b) ∧ h' = h := by
  refine calls_of r_spec_l1Least ?_
  refine v_seq ?_
  refine v_ops ?_
  refine s_pure (.int .i64 0) (fun _ q => q) ?_
  refine s_nil ?_
  refine p_seqN ?_
  refine v_seq ?_
  refine v_seq ?_
  refine v_ops ?_
  refine s_pure (.int .i64 a) (fun _ q => q) ?_
  refine s_pure (.int .i64 b) (fun _ q => q) ?_
  refine s_pure (.bool (decide (a < b))) (fun _ q => q) ?_
  refine s_nil ?_
  refine p_seqN ?_
  refine v_cond rfl (fun c1 => ?_) (fun c1 => ?_)
  ·
    refine v_seq ?_
    refine v_ops ?_
    refine s_pure (.int .i64 a) (fun _ q => q) ?_
    refine s_pure (.int .i64 a) (fun _ q => q) ?_
    refine s_nil ?_
    refine p_seqN ?_
    refine v_ret ?_
    refine p_seqR ?_
    refine p_ret [.int .i64 a] (.int .i64 a) (fun _ q => q) rfl ?_
    have ho : (if a < b then a else b) = a := by simp [*]
    exact ⟨by first | (rw [ho]; done) | rfl, rfl⟩
  ·
    refine v_skip ?_
    refine p_seqN ?_
    refine v_seq ?_
    refine v_ops ?_
    refine s_pure (.int .i64 b) (fun _ q => q) ?_
    refine s_pure (.int .i64 b) (fun _ q => q) ?_
    refine s_nil ?_
    refine p_seqN ?_
    refine v_ret ?_
    refine p_ret [.int .i64 b] (.int .i64 b) (fun _ q => q) rfl ?_
    have ho : (if a < b then a else b) = b := by simp [*]
    exact ⟨by first | (rw [ho]; done) | rfl, rfl⟩

set_option maxRecDepth 10000 in
set_option maxHeartbeats 4000000 in
theorem impl_AddFog_ok (n : NetP) (v_n_towers : Value) (v_n_links : Value) (v_l : Value) (l : List FogD) (x : FogD) (h : Heap) (s_n_towers : Sl h v_n_towers n.towers) (s_n_links : Sl h v_n_links n.links) (s_l : Sl h v_l l) : Cn f_impl_AddFog [.agg #[v_n_towers, v_n_links], v_l, .agg #[.int .i64 x.link, .int .i64 x.fr, .int .i64 x.til]] h fun v h' => ∃ r0 : Value, v = .tuple #[r0, .bool ((addOut n l x).2)] ∧ SlO h' r0 ((addOut n l x).1) ∧ Fr h.size r0 ∧ Ext h h' := by
  have lt_n_towers := s_n_towers.lt
  have l63_n_towers := s_n_towers.len63
  have lt_n_links := s_n_links.lt
  have l63_n_links := s_n_links.len63
  have lt_l := s_l.lt
  have l63_l := s_l.len63
  refine calls_of r_impl_AddFog ?_
  refine v_seq ?_
  refine v_ops ?_
  refine s_box [v_n_towers, v_n_links] rfl (fun h2 b1 hbb1 hzb1 eh2 bxb1 => ?_)
  have E3 := (Ext.refl h).trans eh2
  have z4 := eh2.size
  have lbb1 := bxb1.lt
  refine s_box [.int .i64 x.link, .int .i64 x.fr, .int .i64 x.til] rfl (fun h6 b5 hbb5 hzb5 eh6 bxb5 => ?_)
  have E7 := E3.trans eh6
  have z8 := eh6.size
  have lbb5 := bxb5.lt
  refine s_pure (.slice none 0 0) (fun _ q => q) ?_
  refine s_pure (.bool false) (fun _ q => q) ?_
  refine s_nil ?_
  refine p_seqN ?_
  refine v_seq ?_
  refine v_seq ?_
  refine v_ops ?_
  have f9 := (bxb1.ext eh6)
  refine s_load (.agg #[v_n_towers, v_n_links]) (fun _ q => f9.loadA rfl q) ?_
  have f10 := ((s_n_towers.ext eh2).ext eh6)
  have f11 := ((s_n_links.ext eh2).ext eh6)
  refine s_call [.agg #[v_n_towers, v_n_links]] rfl (impl_IsNet_ok n v_n_towers v_n_links _ f10 f11) ?_
  rintro _ h12 ⟨rfl, eh12⟩
  have E13 := E7.trans eh12
  have z14 := eh12.size
  refine s_pure (.bool (!decide (NetOk n))) (fun _ q => q) ?_
  refine s_pure (.bool (!decide (NetOk n))) (fun _ q => q) ?_
  refine s_splitT rfl (fun c15 => ?_) (fun c15 => ?_)
  ·
    refine s_pass rfl ?_
    refine s_pass rfl ?_
    refine s_pass rfl ?_
    refine s_pass rfl ?_
    refine s_pure (.bool true) (fun _ q => q) ?_
    refine s_pure (.bool true) (fun _ q => q) ?_
    refine s_splitY rfl rfl ?_
    refine s_pass rfl ?_
    refine s_pass rfl ?_
    refine s_pass rfl ?_
    refine s_pass rfl ?_
    refine s_pure (.bool true) (fun _ q => q) ?_
    refine s_nil ?_
    refine p_seqN ?_
    refine v_condY rfl rfl ?_
    refine v_seq ?_
    refine v_ops ?_
    refine s_pure (.slice none 0 0) (fun _ q => q) ?_
    refine s_pure (.bool false) (fun _ q => q) ?_
    refine s_nil ?_
    refine p_seqN ?_
    refine v_ret ?_
    refine p_seqR ?_
    refine p_ret [.slice none 0 0, .bool false] (.tuple #[.slice none 0 0, .bool false]) (fun _ q => q) rfl ?_
    have ho : (addOut n l x) = ([], false) := by first | exact add_no (fun h => by first | exact (by assumption : ¬ NetOk n) h.hn | exact (by assumption : ¬ FogsOk _ _) h.hf | exact (by assumption : ¬ FogOk _ _) h.hx) | ((have hA2 : ad x l = (u, o, j) := by rw [← hA, take_all (by assumption)]); first | exact add_no (fun h => by (have h6 := h.h60); rw [hA2] at h6; simp only at h6; omega) | (rw [add_yes ⟨by assumption, by assumption, by assumption, by rw [hA2]; simp only; omega⟩]; exact congrArg (fun q => (q, true)) (add_sort (by assumption : FogsOk n.links.length l) (by assumption : FogOk n.links.length x) hA2 (by assumption) (by assumption)).symm))
    exact ⟨(.slice none 0 0), by first | (rw [ho]; done) | rfl, sl_eq (SlX.nil (α := FogD) true _) (congrArg (fun o => o.1) ho).symm, Fr.nil _, E13⟩
  ·
    have c15 := Classical.not_not.1 c15
    refine s_run rfl ?_
    have f16 := (f9.ext eh12)
    refine s_load (.agg #[v_n_towers, v_n_links]) (fun _ q => f16.loadA rfl q) ?_
    refine s_run rfl ?_
    refine s_pure v_l (fun _ q => q) ?_
    refine s_run rfl ?_
    have f17 := (f10.ext eh12)
    have f18 := (f11.ext eh12)
    have f19 := (((s_l.ext eh2).ext eh6).ext eh12)
    refine s_call [.agg #[v_n_towers, v_n_links], v_l] rfl (impl_areFogs_ok n v_n_towers v_n_links v_l l _ f17 f18 f19) ?_
    rintro _ h20 ⟨rfl, eh20⟩
    have E21 := E13.trans eh20
    have z22 := eh20.size
    refine s_run rfl ?_
    refine s_pure (.bool (!(decide (FogsOk n.links.length l)))) (fun _ q => q) ?_
    refine s_pure (.bool (!(decide (FogsOk n.links.length l)))) (fun _ q => q) ?_
    refine s_pure (.bool (!(decide (FogsOk n.links.length l)))) (fun _ q => q) ?_
    refine s_splitT rfl (fun c23 => ?_) (fun c23 => ?_)
    ·
      refine s_pass rfl ?_
      refine s_pass rfl ?_
      refine s_pass rfl ?_
      refine s_pass rfl ?_
      refine s_pure (.bool true) (fun _ q => q) ?_
      refine s_nil ?_
      refine p_seqN ?_
      refine v_condY rfl rfl ?_
      refine v_seq ?_
      refine v_ops ?_
      refine s_pure (.slice none 0 0) (fun _ q => q) ?_
      refine s_pure (.bool false) (fun _ q => q) ?_
      refine s_nil ?_
      refine p_seqN ?_
      refine v_ret ?_
      refine p_seqR ?_
      refine p_ret [.slice none 0 0, .bool false] (.tuple #[.slice none 0 0, .bool false]) (fun _ q => q) rfl ?_
      have ho : (addOut n l x) = ([], false) := by first | exact add_no (fun h => by first | exact (by assumption : ¬ NetOk n) h.hn | exact (by assumption : ¬ FogsOk _ _) h.hf | exact (by assumption : ¬ FogOk _ _) h.hx) | ((have hA2 : ad x l = (u, o, j) := by rw [← hA, take_all (by assumption)]); first | exact add_no (fun h => by (have h6 := h.h60); rw [hA2] at h6; simp only at h6; omega) | (rw [add_yes ⟨by assumption, by assumption, by assumption, by rw [hA2]; simp only; omega⟩]; exact congrArg (fun q => (q, true)) (add_sort (by assumption : FogsOk n.links.length l) (by assumption : FogOk n.links.length x) hA2 (by assumption) (by assumption)).symm))
      exact ⟨(.slice none 0 0), by first | (rw [ho]; done) | rfl, sl_eq (SlX.nil (α := FogD) true _) (congrArg (fun o => o.1) ho).symm, Fr.nil _, E21⟩
    ·
      have c23 := Classical.not_not.1 c23
      refine s_run rfl ?_
      have f24 := (f16.ext eh20)
      refine s_load (.agg #[v_n_towers, v_n_links]) (fun _ q => f24.loadA rfl q) ?_
      refine s_run rfl ?_
      have f25 := ((bxb5.ext eh12).ext eh20)
      refine s_load (.agg #[.int .i64 x.link, .int .i64 x.fr, .int .i64 x.til]) (fun _ q => f25.loadA rfl q) ?_
      refine s_run rfl ?_
      have f26 := (f17.ext eh20)
      have f27 := (f18.ext eh20)
      refine s_call [.agg #[v_n_towers, v_n_links], .agg #[.int .i64 x.link, .int .i64 x.fr, .int .i64 x.til]] rfl (impl_isFog_ok n v_n_towers v_n_links x _ f26 f27) ?_
      rintro _ h28 ⟨rfl, eh28⟩
      have E29 := E21.trans eh28
      have z30 := eh28.size
      refine s_run rfl ?_
      refine s_pure (.bool (!(decide (FogOk n.links.length x)))) (fun _ q => q) ?_
      refine s_pure (.bool (!(decide (FogOk n.links.length x)))) (fun _ q => q) ?_
      refine s_nil ?_
      refine p_seqN ?_
      refine v_cond rfl (fun c31 => ?_) (fun c31 => ?_)
      ·
        refine v_seq ?_
        refine v_ops ?_
        refine s_pure (.slice none 0 0) (fun _ q => q) ?_
        refine s_pure (.bool false) (fun _ q => q) ?_
        refine s_nil ?_
        refine p_seqN ?_
        refine v_ret ?_
        refine p_seqR ?_
        refine p_ret [.slice none 0 0, .bool false] (.tuple #[.slice none 0 0, .bool false]) (fun _ q => q) rfl ?_
        have ho : (addOut n l x) = ([], false) := by first | exact add_no (fun h => by first | exact (by assumption : ¬ NetOk n) h.hn | exact (by assumption : ¬ FogsOk _ _) h.hf | exact (by assumption : ¬ FogOk _ _) h.hx) | ((have hA2 : ad x l = (u, o, j) := by rw [← hA, take_all (by assumption)]); first | exact add_no (fun h => by (have h6 := h.h60); rw [hA2] at h6; simp only at h6; omega) | (rw [add_yes ⟨by assumption, by assumption, by assumption, by rw [hA2]; simp only; omega⟩]; exact congrArg (fun q => (q, true)) (add_sort (by assumption : FogsOk n.links.length l) (by assumption : FogOk n.links.length x) hA2 (by assumption) (by assumption)).symm))
        exact ⟨(.slice none 0 0), by first | (rw [ho]; done) | rfl, sl_eq (SlX.nil (α := FogD) true _) (congrArg (fun o => o.1) ho).symm, Fr.nil _, E29⟩
      ·
        have c31 := Classical.not_not.1 c31
        refine v_skip ?_
        refine p_seqN ?_
        refine v_seq ?_
        refine v_ops ?_
        refine s_pure (.slice none 0 0) (fun _ q => q) ?_
        refine s_nil ?_
        refine p_seqN ?_
        refine v_seq ?_
        refine v_seq ?_
        refine v_ops ?_
        refine s_pure v_l (fun _ q => q) ?_
        refine s_pure (.int .i64 (l.length : Int)) (fun _ q => f19.lenVC q) ?_
        refine s_pure (.int .i64 0) (fun _ q => q) ?_
        refine s_nil ?_
        refine p_seqN ?_
        refine v_block ?_
        have f33 := (f25.ext eh28)
        refine v_loop4 (α := Nat) (β := FogD) (γ := List FogD) (δ := Value) (fun k u o w => [(5, .pointer (some ⟨b5, 0, none⟩)), (8, w), (26, v_l), (27, .int .i64 (l.length : Int)), (28, .int .i64 (k : Int))]) (fun k u o w hh => Ext h hh ∧ Bx hh b5 [.int .i64 u.link, .int .i64 u.fr, .int .i64 u.til] 96 ∧ SlO hh w o ∧ Fr h.size w ∧ b5 ∉ blks w ∧ k ≤ l.length ∧ ∃ j, ad x (l.take k) = (u, o, j)) (fun k u o w => l.length - k) 0 x [] (.slice none 0 0) ⟨rfl, rfl, rfl, rfl, rfl⟩ ⟨E29, f33, (sl_eq (SlX.nil (α := FogD) true h28) (by simp)), (Fr.nil _), (by simp [blks, fpts]), (by exact ⟨by omega, 0, rfl⟩)⟩ ?_
        rintro k u o w R34 h32 ⟨Eh, bxb5, s_w, fr_w, np_b5_w, ⟨hk, j, hA⟩⟩
        have zEh := Eh.size
        have f35 := s_n_towers.ext Eh
        have f36 := s_n_links.ext Eh
        have f37 := s_l.ext Eh
        have lbb5 := bxb5.lt
        have lt_w := s_w.lt
        have hol := ad_len x (l.take k)
        rw [hA] at hol
        simp only [List.length_take] at hol
        have h60 := (by assumption : FogsOk n.links.length l).1
        refine v_seq ?_
        refine v_ops ?_
        refine s_pure (.bool (decide ((k : Int) < (l.length : Int)))) (fun _ q => q) ?_
        refine s_nil ?_
        refine p_seqN ?_
        refine v_seq ?_
        refine v_cond rfl (fun c38 => ?_) (fun c38 => ?_)
        ·
          refine v_skip ?_
          refine p_seqN ?_
          refine v_seq ?_
          refine v_block ?_
          refine v_seq ?_
          refine v_ops ?_
          have hk39 : k < l.length := (by first | omega | (simp; omega))
          obtain ⟨x40, hx40⟩ : ∃ x, l[k]? = some x := ⟨_, List.getElem?_eq_getElem hk39⟩
          refine s_pure (.pointer (some ⟨sblk v_l, soff v_l + k * 3, none⟩)) (fun _ q => f37.idx (k := k) rfl hk39 q) ?_
          refine s_load (.agg #[.int .i64 x40.link, .int .i64 x40.fr, .int .i64 x40.til]) (fun _ q => f37.loadN hx40 rfl q) ?_
          refine s_new (fun h42 b41 hbb41 hzb41 eh42 bxb41 => ?_)
          have E43 := Eh.trans eh42
          have z44 := eh42.size
          have lbb41 := bxb41.lt
          refine s_stBx (.agg #[.int .i64 x40.link, .int .i64 x40.fr, .int .i64 x40.til]) [.int .i64 x40.link, .int .i64 x40.fr, .int .i64 x40.til] [.int .i64 x40.link, .int .i64 x40.fr, .int .i64 x40.til] bxb41 rfl rfl rfl rfl (by simp) (all_cons rfl (all_cons rfl (all_cons rfl all_nil))) rfl (fun h45 mh45 sh45 bxx46 => ?_)
          have E47 := E43.mod mh45 (fun b hb => by simp at hb; omega)
          refine s_nil ?_
          refine p_seqN ?_
          refine v_seq ?_
          refine v_ops ?_
          refine s_pure (.pointer (some ⟨b41, 0, none⟩)) (fun _ q => q) ?_
          refine s_load (.int .i64 x40.link) (fun _ q => bxx46.load rfl q) ?_
          refine s_pure (.pointer (some ⟨b5, 0, none⟩)) (fun _ q => q) ?_
          have f48 := ((bxb5.ext eh42).mod mh45 (by simp; omega))
          refine s_load (.int .i64 u.link) (fun _ q => f48.load rfl q) ?_
          refine s_pure (.bool (x40.link == u.link)) (fun _ q => q) ?_
          refine s_pure (.bool (x40.link == u.link)) (fun _ q => q) ?_
          refine s_splitT rfl (fun c49 => ?_) (fun c49 => ?_)
          ·
            refine s_run rfl ?_
            refine s_pure (.pointer (some ⟨b41, 1, none⟩)) (fun _ q => q) ?_
            refine s_run rfl ?_
            refine s_load (.int .i64 x40.fr) (fun _ q => bxx46.load rfl q) ?_
            refine s_run rfl ?_
            refine s_pure (.pointer (some ⟨b5, 2, none⟩)) (fun _ q => q) ?_
            refine s_run rfl ?_
            refine s_load (.int .i64 u.til) (fun _ q => f48.load rfl q) ?_
            refine s_run rfl ?_
            refine s_pure (.bool (decide (x40.fr ≤ u.til))) (fun _ q => q) ?_
            refine s_pure (.bool (decide (x40.fr ≤ u.til))) (fun _ q => q) ?_
            refine s_pure (.bool (decide (x40.fr ≤ u.til))) (fun _ q => q) ?_
            refine s_splitT rfl (fun c50 => ?_) (fun c50 => ?_)
            ·
              refine s_run rfl ?_
              refine s_pure (.pointer (some ⟨b5, 1, none⟩)) (fun _ q => q) ?_
              refine s_run rfl ?_
              refine s_load (.int .i64 u.fr) (fun _ q => f48.load rfl q) ?_
              refine s_run rfl ?_
              refine s_pure (.pointer (some ⟨b41, 2, none⟩)) (fun _ q => q) ?_
              refine s_run rfl ?_
              refine s_load (.int .i64 x40.til) (fun _ q => bxx46.load rfl q) ?_
              refine s_run rfl ?_
              refine s_pure (.bool (decide (u.fr ≤ x40.til))) (fun _ q => q) ?_
              refine s_pure (.bool (decide (u.fr ≤ x40.til))) (fun _ q => q) ?_
              refine s_nil ?_
              refine p_seqN ?_
              refine v_cond rfl (fun c51 => ?_) (fun c51 => ?_)
              ·
                refine v_draw (DrawVC.hold ([b41]) ?_)
                refine d_pureT (.pointer (some ⟨b5, 1, none⟩)) (fun _ q => q) ?_
                refine d_pureT (.pointer (some ⟨b41, 1, none⟩)) (fun _ q => q) ?_
                refine d_pureT (.pointer (some ⟨b5, 2, none⟩)) (fun _ q => q) ?_
                refine d_pureT (.pointer (some ⟨b41, 2, none⟩)) (fun _ q => q) ?_
                refine d_loadO (.int .i64 u.fr) (fun _ q => f48.load rfl q) ?_
                refine d_loadO (.int .i64 x40.fr) (fun _ q => bxx46.load rfl q) ?_
                refine d_pureT (.int .i64 (if x40.fr < u.fr then x40.fr else u.fr)) (fun _ q => q) ?_
                refine d_loadO (.int .i64 u.til) (fun _ q => f48.load rfl q) ?_
                refine d_pureT (.pointer (some ⟨b5, 1, none⟩)) (fun _ q => q) ?_
                refine d_loadT (.int .i64 x40.til) (fun _ q => bxx46.take (by simp) rfl q) ?_
                refine d_pureT (.int .i64 (if x40.til > u.til then x40.til else u.til)) (fun _ q => q) ?_
                refine d_eff ?_
                refine s_stBx (.int .i64 (if x40.fr < u.fr then x40.fr else u.fr)) [.int .i64 (if x40.fr < u.fr then x40.fr else u.fr)] [.int .i64 u.link, .int .i64 (if x40.fr < u.fr then x40.fr else u.fr), .int .i64 u.til] f48 rfl rfl rfl rfl (by simp) (all_cons rfl all_nil) rfl (fun h52 mh52 sh52 bxx53 => ?_)
                have E54 := E47.mod mh52 (fun b hb => by simp at hb; omega)
                have G55 : ∀ x ∈ ([b41]), h52[x]? = h45[x]? := fun x hx => (mh52.blk x (Nat.lt_of_lt_of_le ((by simp at hx; omega) : x < (h45).size) (by omega)) (((fun xx hxx => by simp at hxx; rw [hxx]; exact (by simp; omega)) : ∀ xx ∈ ([b41]), xx ∉ [b5]) x hx)).trans rfl
                refine s_nil ⟨fun _ x hx => G55 x hx, ?_⟩
                refine d_pureT (.pointer (some ⟨b5, 2, none⟩)) (fun _ q => q) ?_
                refine d_eff ?_
                refine s_stBx (.int .i64 (if x40.til > u.til then x40.til else u.til)) [.int .i64 (if x40.til > u.til then x40.til else u.til)] [.int .i64 u.link, .int .i64 (if x40.fr < u.fr then x40.fr else u.fr), .int .i64 (if x40.til > u.til then x40.til else u.til)] bxx53 rfl rfl rfl rfl (by simp) (all_cons rfl all_nil) rfl (fun h56 mh56 sh56 bxx57 => ?_)
                have E58 := E54.mod mh56 (fun b hb => by simp at hb; omega)
                refine s_nil ⟨fun hl => (by cases hl), ?_⟩
                refine d_done ?_
                refine p_blkN ?_
                refine p_seqN ?_
                refine v_ops ?_
                refine s_pure (.int .i64 ((k : Int) + 1)) (fun _ q => ArithVC.mk (by omega) q) ?_
                refine s_pure (.int .i64 ((k : Int) + 1)) (fun _ q => q) ?_
                refine s_nil ?_
                have f59 := ((((s_w.ext eh42).mod mh45 (fun b hb hc => by simp at hc; have := lt_w b hb; omega)).mod mh52 (fun b hb hc => np_b5_w (by simp at hc; rw [← hc]; exact hb))).mod mh56 (fun b hb hc => np_b5_w (by simp at hc; rw [← hc]; exact hb)))
                exact p_lpN ⟨k + 1, (mrg u x40), o, w, ⟨rfl, rfl, rfl, rfl, rfl⟩, ⟨E58, bxx57, (sl_eq f59 (by simp)), (fr_w.mono (by omega)), np_b5_w, (by first | exact ⟨by omega, j, by rw [snoc_get (by assumption)]; exact ad_touch hA ⟨by omega, by omega, by omega⟩⟩ | (by_cases hl : x40.link < u.link ∨ (x40.link = u.link ∧ x40.fr < u.fr) <;> first | exact ⟨by omega, o.length + 1, by rw [snoc_get (by assumption)]; exact ad_less hA (by unfold tch; omega) hl⟩ | exact ⟨by omega, j, by rw [snoc_get (by assumption)]; exact ad_more hA (by unfold tch; omega) hl⟩))⟩, by omega⟩
              ·
                refine v_ops ?_
                refine s_pure w (fun _ q => q) ?_
                refine s_load (.agg #[.int .i64 x40.link, .int .i64 x40.fr, .int .i64 x40.til]) (fun _ q => bxx46.loadA rfl q) ?_
                refine s_row (α := FogD) [(⟨x40.link, x40.fr, x40.til⟩ : FogD)] (fun _ q => seg_agg rfl rfl (seg_nil q)) rfl (by simp [maxLen]) (fun r60 h61 eh61 zh61 s_r60 fr_r60 => ?_)
                have E62 := E47.trans eh61
                have z63 := eh61.size
                have lt_r60 := s_r60.lt
                have f64 := (((s_w.ext eh42).mod mh45 (fun b hb hc => by simp at hc; have := lt_w b hb; omega)).ext eh61)
                refine s_app f64 s_r60 rfl rfl rfl (by simp [maxLen]; omega) (by simp; omega) (fun r65 h66 mh66 zh66 s_r65 ab_r65 => ?_)
                have E67 := E62.mod mh66 (fun b hb => by have := fr_w b hb; omega)
                have fr_r65 := fr_w.app ab_r65 (by omega)
                have np68 : b5 ∉ blks r65 := fun hc => (ab_r65 _ hc).elim np_b5_w (fun hc => by omega)
                have np69 : b41 ∉ blks r65 := fun hc => (ab_r65 _ hc).elim (fun hc => by have := lt_w _ hc; omega) (fun hc => by omega)
                have np70 : ∀ b ∈ blks r60, b ∉ blks r65 := fun b hb hc => (ab_r65 _ hc).elim (((fun b hb hc => by have := fr_r60 b hb; have := lt_w b hc; omega) : ∀ b ∈ blks r60, b ∉ blks w) b hb) (fun hc => by have := lt_r60 b hb; omega)
                have lt_r65 := s_r65.lt
                refine s_pure r65 (fun _ q => q) ?_
                refine s_nil ?_
                refine p_blkN ?_
                refine p_seqN ?_
                refine v_ops ?_
                refine s_pure (.int .i64 ((k : Int) + 1)) (fun _ q => ArithVC.mk (by omega) q) ?_
                refine s_pure (.int .i64 ((k : Int) + 1)) (fun _ q => q) ?_
                refine s_nil ?_
                have f71 := ((f48.ext eh61).mod mh66 np_b5_w)
                exact p_lpN ⟨k + 1, u, (o ++ [(⟨x40.link, x40.fr, x40.til⟩ : FogD)]), r65, ⟨rfl, rfl, rfl, rfl, rfl⟩, ⟨E67, f71, (sl_eq s_r65 (by simp)), (fr_r65.mono (by omega)), np68, (by first | exact ⟨by omega, j, by rw [snoc_get (by assumption)]; exact ad_touch hA ⟨by omega, by omega, by omega⟩⟩ | (by_cases hl : x40.link < u.link ∨ (x40.link = u.link ∧ x40.fr < u.fr) <;> first | exact ⟨by omega, o.length + 1, by rw [snoc_get (by assumption)]; exact ad_less hA (by unfold tch; omega) hl⟩ | exact ⟨by omega, j, by rw [snoc_get (by assumption)]; exact ad_more hA (by unfold tch; omega) hl⟩))⟩, by omega⟩
            ·
              refine s_pass rfl ?_
              refine s_pass rfl ?_
              refine s_pass rfl ?_
              refine s_pass rfl ?_
              refine s_pass rfl ?_
              refine s_pure (.bool false) (fun _ q => q) ?_
              refine s_nil ?_
              refine p_seqN ?_
              refine v_condN rfl (by simp) ?_
              refine v_ops ?_
              refine s_pure w (fun _ q => q) ?_
              refine s_load (.agg #[.int .i64 x40.link, .int .i64 x40.fr, .int .i64 x40.til]) (fun _ q => bxx46.loadA rfl q) ?_
              refine s_row (α := FogD) [(⟨x40.link, x40.fr, x40.til⟩ : FogD)] (fun _ q => seg_agg rfl rfl (seg_nil q)) rfl (by simp [maxLen]) (fun r72 h73 eh73 zh73 s_r72 fr_r72 => ?_)
              have E74 := E47.trans eh73
              have z75 := eh73.size
              have lt_r72 := s_r72.lt
              have f76 := (((s_w.ext eh42).mod mh45 (fun b hb hc => by simp at hc; have := lt_w b hb; omega)).ext eh73)
              refine s_app f76 s_r72 rfl rfl rfl (by simp [maxLen]; omega) (by simp; omega) (fun r77 h78 mh78 zh78 s_r77 ab_r77 => ?_)
              have E79 := E74.mod mh78 (fun b hb => by have := fr_w b hb; omega)
              have fr_r77 := fr_w.app ab_r77 (by omega)
              have np80 : b5 ∉ blks r77 := fun hc => (ab_r77 _ hc).elim np_b5_w (fun hc => by omega)
              have np81 : b41 ∉ blks r77 := fun hc => (ab_r77 _ hc).elim (fun hc => by have := lt_w _ hc; omega) (fun hc => by omega)
              have np82 : ∀ b ∈ blks r72, b ∉ blks r77 := fun b hb hc => (ab_r77 _ hc).elim (((fun b hb hc => by have := fr_r72 b hb; have := lt_w b hc; omega) : ∀ b ∈ blks r72, b ∉ blks w) b hb) (fun hc => by have := lt_r72 b hb; omega)
              have lt_r77 := s_r77.lt
              refine s_pure r77 (fun _ q => q) ?_
              refine s_nil ?_
              refine p_blkN ?_
              refine p_seqN ?_
              refine v_ops ?_
              refine s_pure (.int .i64 ((k : Int) + 1)) (fun _ q => ArithVC.mk (by omega) q) ?_
              refine s_pure (.int .i64 ((k : Int) + 1)) (fun _ q => q) ?_
              refine s_nil ?_
              have f83 := ((f48.ext eh73).mod mh78 np_b5_w)
              exact p_lpN ⟨k + 1, u, (o ++ [(⟨x40.link, x40.fr, x40.til⟩ : FogD)]), r77, ⟨rfl, rfl, rfl, rfl, rfl⟩, ⟨E79, f83, (sl_eq s_r77 (by simp)), (fr_r77.mono (by omega)), np80, (by first | exact ⟨by omega, j, by rw [snoc_get (by assumption)]; exact ad_touch hA ⟨by omega, by omega, by omega⟩⟩ | (by_cases hl : x40.link < u.link ∨ (x40.link = u.link ∧ x40.fr < u.fr) <;> first | exact ⟨by omega, o.length + 1, by rw [snoc_get (by assumption)]; exact ad_less hA (by unfold tch; omega) hl⟩ | exact ⟨by omega, j, by rw [snoc_get (by assumption)]; exact ad_more hA (by unfold tch; omega) hl⟩))⟩, by omega⟩
          ·
            refine s_pass rfl ?_
            refine s_pass rfl ?_
            refine s_pass rfl ?_
            refine s_pass rfl ?_
            refine s_pass rfl ?_
            refine s_pure (.bool false) (fun _ q => q) ?_
            refine s_pure (.bool false) (fun _ q => q) ?_
            refine s_splitN rfl (by simp) ?_
            refine s_pass rfl ?_
            refine s_pass rfl ?_
            refine s_pass rfl ?_
            refine s_pass rfl ?_
            refine s_pass rfl ?_
            refine s_pure (.bool false) (fun _ q => q) ?_
            refine s_nil ?_
            refine p_seqN ?_
            refine v_condN rfl (by simp) ?_
            refine v_ops ?_
            refine s_pure w (fun _ q => q) ?_
            refine s_load (.agg #[.int .i64 x40.link, .int .i64 x40.fr, .int .i64 x40.til]) (fun _ q => bxx46.loadA rfl q) ?_
            refine s_row (α := FogD) [(⟨x40.link, x40.fr, x40.til⟩ : FogD)] (fun _ q => seg_agg rfl rfl (seg_nil q)) rfl (by simp [maxLen]) (fun r84 h85 eh85 zh85 s_r84 fr_r84 => ?_)
            have E86 := E47.trans eh85
            have z87 := eh85.size
            have lt_r84 := s_r84.lt
            have f88 := (((s_w.ext eh42).mod mh45 (fun b hb hc => by simp at hc; have := lt_w b hb; omega)).ext eh85)
            refine s_app f88 s_r84 rfl rfl rfl (by simp [maxLen]; omega) (by simp; omega) (fun r89 h90 mh90 zh90 s_r89 ab_r89 => ?_)
            have E91 := E86.mod mh90 (fun b hb => by have := fr_w b hb; omega)
            have fr_r89 := fr_w.app ab_r89 (by omega)
            have np92 : b5 ∉ blks r89 := fun hc => (ab_r89 _ hc).elim np_b5_w (fun hc => by omega)
            have np93 : b41 ∉ blks r89 := fun hc => (ab_r89 _ hc).elim (fun hc => by have := lt_w _ hc; omega) (fun hc => by omega)
            have np94 : ∀ b ∈ blks r84, b ∉ blks r89 := fun b hb hc => (ab_r89 _ hc).elim (((fun b hb hc => by have := fr_r84 b hb; have := lt_w b hc; omega) : ∀ b ∈ blks r84, b ∉ blks w) b hb) (fun hc => by have := lt_r84 b hb; omega)
            have lt_r89 := s_r89.lt
            refine s_pure r89 (fun _ q => q) ?_
            refine s_nil ?_
            refine p_blkN ?_
            refine p_seqN ?_
            refine v_ops ?_
            refine s_pure (.int .i64 ((k : Int) + 1)) (fun _ q => ArithVC.mk (by omega) q) ?_
            refine s_pure (.int .i64 ((k : Int) + 1)) (fun _ q => q) ?_
            refine s_nil ?_
            have f95 := ((f48.ext eh85).mod mh90 np_b5_w)
            exact p_lpN ⟨k + 1, u, (o ++ [(⟨x40.link, x40.fr, x40.til⟩ : FogD)]), r89, ⟨rfl, rfl, rfl, rfl, rfl⟩, ⟨E91, f95, (sl_eq s_r89 (by simp)), (fr_r89.mono (by omega)), np92, (by first | exact ⟨by omega, j, by rw [snoc_get (by assumption)]; exact ad_touch hA ⟨by omega, by omega, by omega⟩⟩ | (by_cases hl : x40.link < u.link ∨ (x40.link = u.link ∧ x40.fr < u.fr) <;> first | exact ⟨by omega, o.length + 1, by rw [snoc_get (by assumption)]; exact ad_less hA (by unfold tch; omega) hl⟩ | exact ⟨by omega, j, by rw [snoc_get (by assumption)]; exact ad_more hA (by unfold tch; omega) hl⟩))⟩, by omega⟩
        ·
          refine v_exit ?_
          refine p_seqX ?_
          refine p_lpX ?_
          refine p_blkX ?_
          refine p_seqN ?_
          refine v_seq ?_
          refine v_ops ?_
          refine s_pure w (fun _ q => q) ?_
          refine s_load (.agg #[.int .i64 u.link, .int .i64 u.fr, .int .i64 u.til]) (fun _ q => bxb5.loadA rfl q) ?_
          refine s_row (α := FogD) [(⟨u.link, u.fr, u.til⟩ : FogD)] (fun _ q => seg_agg rfl rfl (seg_nil q)) rfl (by simp [maxLen]) (fun r96 h97 eh97 zh97 s_r96 fr_r96 => ?_)
          have E98 := Eh.trans eh97
          have z99 := eh97.size
          have lt_r96 := s_r96.lt
          have f100 := (s_w.ext eh97)
          refine s_app f100 s_r96 rfl rfl rfl (by simp [maxLen]; omega) (by simp; omega) (fun r101 h102 mh102 zh102 s_r101 ab_r101 => ?_)
          have E103 := E98.mod mh102 (fun b hb => by have := fr_w b hb; omega)
          have fr_r101 := fr_w.app ab_r101 (by omega)
          have np104 : b5 ∉ blks r101 := fun hc => (ab_r101 _ hc).elim np_b5_w (fun hc => by omega)
          have np105 : ∀ b ∈ blks r96, b ∉ blks r101 := fun b hb hc => (ab_r101 _ hc).elim (((fun b hb hc => by have := fr_r96 b hb; have := lt_w b hc; omega) : ∀ b ∈ blks r96, b ∉ blks w) b hb) (fun hc => by have := lt_r96 b hb; omega)
          have lt_r101 := s_r101.lt
          refine s_pure r101 (fun _ q => q) ?_
          refine s_nil ?_
          refine p_seqN ?_
          refine v_seq ?_
          refine v_ops ?_
          refine s_pure r101 (fun _ q => q) ?_
          refine s_call [r101, .func (.func 165) #[] #[]] rfl (sortFogs_ok r101 (o ++ [(⟨u.link, u.fr, u.til⟩ : FogD)]) _ s_r101 (by simp) (by simp; omega)) ?_
          rintro _ h106 ⟨ys107, rfl, s108, mh106, hp109, hs110⟩
          have E111 := E103.mod mh106 (fun b hb => by have := fr_r101 b hb; omega)
          have hlys107 : ys107.length = o.length + 1 := by rw [hp109.length_eq]; simp
          refine s_nil ?_
          refine p_seqN ?_
          refine v_seq ?_
          refine v_seq ?_
          refine v_ops ?_
          refine s_pure r101 (fun _ q => q) ?_
          refine s_pure (.int .i64 (ys107.length : Int)) (fun _ q => s108.lenVC q) ?_
          refine s_pure (.bool (decide ((ys107.length : Int) > 60))) (fun _ q => q) ?_
          refine s_nil ?_
          refine p_seqN ?_
          refine v_cond rfl (fun c112 => ?_) (fun c112 => ?_)
          ·
            refine v_seq ?_
            refine v_ops ?_
            refine s_pure (.slice none 0 0) (fun _ q => q) ?_
            refine s_pure (.bool false) (fun _ q => q) ?_
            refine s_nil ?_
            refine p_seqN ?_
            refine v_ret ?_
            refine p_seqR ?_
            refine p_ret [.slice none 0 0, .bool false] (.tuple #[.slice none 0 0, .bool false]) (fun _ q => q) rfl ?_
            have ho : (addOut n l x) = ([], false) := by first | exact add_no (fun h => by first | exact (by assumption : ¬ NetOk n) h.hn | exact (by assumption : ¬ FogsOk _ _) h.hf | exact (by assumption : ¬ FogOk _ _) h.hx) | ((have hA2 : ad x l = (u, o, j) := by rw [← hA, take_all (by assumption)]); first | exact add_no (fun h => by (have h6 := h.h60); rw [hA2] at h6; simp only at h6; omega) | (rw [add_yes ⟨by assumption, by assumption, by assumption, by rw [hA2]; simp only; omega⟩]; exact congrArg (fun q => (q, true)) (add_sort (by assumption : FogsOk n.links.length l) (by assumption : FogOk n.links.length x) hA2 (by assumption) (by assumption)).symm))
            exact ⟨(.slice none 0 0), by first | (rw [ho]; done) | rfl, sl_eq (SlX.nil (α := FogD) true _) (congrArg (fun o => o.1) ho).symm, Fr.nil _, E111⟩
          ·
            refine v_skip ?_
            refine p_seqN ?_
            refine v_seq ?_
            refine v_ops ?_
            refine s_pure r101 (fun _ q => q) ?_
            refine s_pure r101 (fun _ q => q) ?_
            refine s_pure (.bool true) (fun _ q => q) ?_
            refine s_nil ?_
            refine p_seqN ?_
            refine v_ret ?_
            refine p_ret [r101, .bool true] (.tuple #[r101, .bool true]) (fun _ q => q) rfl ?_
            have ho : (addOut n l x) = (ys107, true) := by first | exact add_no (fun h => by first | exact (by assumption : ¬ NetOk n) h.hn | exact (by assumption : ¬ FogsOk _ _) h.hf | exact (by assumption : ¬ FogOk _ _) h.hx) | ((have hA2 : ad x l = (u, o, j) := by rw [← hA, take_all (by assumption)]); first | exact add_no (fun h => by (have h6 := h.h60); rw [hA2] at h6; simp only at h6; omega) | (rw [add_yes ⟨by assumption, by assumption, by assumption, by rw [hA2]; simp only; omega⟩]; exact congrArg (fun q => (q, true)) (add_sort (by assumption : FogsOk n.links.length l) (by assumption : FogOk n.links.length x) hA2 (by assumption) (by assumption)).symm))
            exact ⟨r101, by first | (rw [ho]; done) | rfl, sl_eq s108 (congrArg (fun o => o.1) ho).symm, fr_r101.mono (by omega), E111⟩

set_option maxRecDepth 10000 in
set_option maxHeartbeats 4000000 in
theorem spec_fgAdd_ok (v_l : Value) (l : List FogD) (x : FogD) (h : Heap) (s_l : Sl h v_l l) (m : Nat) (hf : FogsOk m l) (hx : FogOk m x) : Cn f_spec_fgAdd [v_l, .agg #[.int .i64 x.link, .int .i64 x.fr, .int .i64 x.til]] h fun v h' => ∃ r0 : Value, v = r0 ∧ SlO h' r0 (adR (ad x l)) ∧ Fr h.size r0 ∧ Ext h h' := by
  have lt_l := s_l.lt
  have l63_l := s_l.len63
  refine calls_of r_spec_fgAdd ?_
  refine v_seq ?_
  refine v_ops ?_
  refine s_box [.int .i64 x.link, .int .i64 x.fr, .int .i64 x.til] rfl (fun h2 b1 hbb1 hzb1 eh2 bxb1 => ?_)
  have E3 := (Ext.refl h).trans eh2
  have z4 := eh2.size
  have lbb1 := bxb1.lt
  refine s_pure (.slice none 0 0) (fun _ q => q) ?_
  refine s_nil ?_
  refine p_seqN ?_
  refine v_seq ?_
  refine v_ops ?_
  refine s_pure (.slice none 0 0) (fun _ q => q) ?_
  refine s_nil ?_
  refine p_seqN ?_
  refine v_seq ?_
  refine v_ops ?_
  refine s_pure (.int .i64 0) (fun _ q => q) ?_
  refine s_nil ?_
  refine p_seqN ?_
  refine v_seq ?_
  refine v_seq ?_
  refine v_ops ?_
  refine s_pure v_l (fun _ q => q) ?_
  refine s_pure (.int .i64 (l.length : Int)) (fun _ q => s_l.lenVC q) ?_
  refine s_pure (.int .i64 0) (fun _ q => q) ?_
  refine s_nil ?_
  refine p_seqN ?_
  refine v_block ?_
  refine v_loop5 (α := Nat) (β := FogD) (γ := Nat) (δ := List FogD) (ε := Value) (fun k u j o w => [(3, .pointer (some ⟨b1, 0, none⟩)), (5, w), (6, .int .i64 (j : Int)), (9, v_l), (10, .int .i64 (l.length : Int)), (11, .int .i64 (k : Int))]) (fun k u j o w hh => Ext h hh ∧ Bx hh b1 [.int .i64 u.link, .int .i64 u.fr, .int .i64 u.til] 96 ∧ SlO hh w o ∧ Fr h.size w ∧ b1 ∉ blks w ∧ k ≤ l.length ∧ ad x (l.take k) = (u, o, j)) (fun k u j o w => l.length - k) 0 x 0 [] (.slice none 0 0) ⟨rfl, rfl, rfl, rfl, rfl, rfl⟩ ⟨E3, bxb1, (sl_eq (SlX.nil (α := FogD) true h2) (by simp)), (Fr.nil _), (by simp [blks, fpts]), (by exact ⟨by omega, rfl⟩)⟩ ?_
  rintro k u j o w R6 h5 ⟨Eh, bxb1, s_w, fr_w, np_b1_w, ⟨hk, hA⟩⟩
  have zEh := Eh.size
  have f7 := s_l.ext Eh
  have lbb1 := bxb1.lt
  have lt_w := s_w.lt
  have hol := ad_len x (l.take k)
  rw [hA] at hol
  simp only [List.length_take] at hol
  have h60 := hf.1
  have hok := (ad_ok hf hx k (by omega)).jle
  rw [hA] at hok
  simp only at hok
  refine v_seq ?_
  refine v_ops ?_
  refine s_pure (.bool (decide ((k : Int) < (l.length : Int)))) (fun _ q => q) ?_
  refine s_nil ?_
  refine p_seqN ?_
  refine v_seq ?_
  refine v_cond rfl (fun c8 => ?_) (fun c8 => ?_)
  ·
    refine v_skip ?_
    refine p_seqN ?_
    refine v_seq ?_
    refine v_block ?_
    refine v_seq ?_
    refine v_ops ?_
    have hk9 : k < l.length := (by first | omega | (simp; omega))
    obtain ⟨x10, hx10⟩ : ∃ x, l[k]? = some x := ⟨_, List.getElem?_eq_getElem hk9⟩
    refine s_pure (.pointer (some ⟨sblk v_l, soff v_l + k * 3, none⟩)) (fun _ q => f7.idx (k := k) rfl hk9 q) ?_
    refine s_load (.agg #[.int .i64 x10.link, .int .i64 x10.fr, .int .i64 x10.til]) (fun _ q => f7.loadN hx10 rfl q) ?_
    refine s_new (fun h12 b11 hbb11 hzb11 eh12 bxb11 => ?_)
    have E13 := Eh.trans eh12
    have z14 := eh12.size
    have lbb11 := bxb11.lt
    refine s_stBx (.agg #[.int .i64 x10.link, .int .i64 x10.fr, .int .i64 x10.til]) [.int .i64 x10.link, .int .i64 x10.fr, .int .i64 x10.til] [.int .i64 x10.link, .int .i64 x10.fr, .int .i64 x10.til] bxb11 rfl rfl rfl rfl (by simp) (all_cons rfl (all_cons rfl (all_cons rfl all_nil))) rfl (fun h15 mh15 sh15 bxx16 => ?_)
    have E17 := E13.mod mh15 (fun b hb => by simp at hb; omega)
    refine s_nil ?_
    refine p_seqN ?_
    refine v_seq ?_
    refine v_seq ?_
    refine v_ops ?_
    refine s_pure (.pointer (some ⟨b11, 0, none⟩)) (fun _ q => q) ?_
    refine s_load (.int .i64 x10.link) (fun _ q => bxx16.load rfl q) ?_
    refine s_pure (.pointer (some ⟨b1, 0, none⟩)) (fun _ q => q) ?_
    have f18 := ((bxb1.ext eh12).mod mh15 (by simp; omega))
    refine s_load (.int .i64 u.link) (fun _ q => f18.load rfl q) ?_
    refine s_pure (.bool (x10.link == u.link)) (fun _ q => q) ?_
    refine s_pure (.bool (x10.link == u.link)) (fun _ q => q) ?_
    refine s_splitT rfl (fun c19 => ?_) (fun c19 => ?_)
    ·
      refine s_run rfl ?_
      refine s_pure (.pointer (some ⟨b11, 1, none⟩)) (fun _ q => q) ?_
      refine s_run rfl ?_
      refine s_load (.int .i64 x10.fr) (fun _ q => bxx16.load rfl q) ?_
      refine s_run rfl ?_
      refine s_pure (.pointer (some ⟨b1, 2, none⟩)) (fun _ q => q) ?_
      refine s_run rfl ?_
      refine s_load (.int .i64 u.til) (fun _ q => f18.load rfl q) ?_
      refine s_run rfl ?_
      refine s_pure (.bool (decide (x10.fr ≤ u.til))) (fun _ q => q) ?_
      refine s_pure (.bool (decide (x10.fr ≤ u.til))) (fun _ q => q) ?_
      refine s_pure (.bool (decide (x10.fr ≤ u.til))) (fun _ q => q) ?_
      refine s_splitT rfl (fun c20 => ?_) (fun c20 => ?_)
      ·
        refine s_run rfl ?_
        refine s_pure (.pointer (some ⟨b1, 1, none⟩)) (fun _ q => q) ?_
        refine s_run rfl ?_
        refine s_load (.int .i64 u.fr) (fun _ q => f18.load rfl q) ?_
        refine s_run rfl ?_
        refine s_pure (.pointer (some ⟨b11, 2, none⟩)) (fun _ q => q) ?_
        refine s_run rfl ?_
        refine s_load (.int .i64 x10.til) (fun _ q => bxx16.load rfl q) ?_
        refine s_run rfl ?_
        refine s_pure (.bool (decide (u.fr ≤ x10.til))) (fun _ q => q) ?_
        refine s_pure (.bool (decide (u.fr ≤ x10.til))) (fun _ q => q) ?_
        refine s_nil ?_
        refine p_seqN ?_
        refine v_cond rfl (fun c21 => ?_) (fun c21 => ?_)
        ·
          refine v_seq ?_
          refine v_ops ?_
          refine s_pure (.pointer (some ⟨b1, 1, none⟩)) (fun _ q => q) ?_
          refine s_load (.int .i64 u.fr) (fun _ q => f18.load rfl q) ?_
          refine s_pure (.pointer (some ⟨b11, 1, none⟩)) (fun _ q => q) ?_
          refine s_load (.int .i64 x10.fr) (fun _ q => bxx16.load rfl q) ?_
          refine s_callS [.int .i64 u.fr, .int .i64 x10.fr] (.int .i64 (if u.fr < x10.fr then u.fr else x10.fr)) rfl (spec_l1Least_ok u.fr x10.fr _ ) ?_
          refine s_pure (.pointer (some ⟨b1, 1, none⟩)) (fun _ q => q) ?_
          refine s_stBx (.int .i64 (if u.fr < x10.fr then u.fr else x10.fr)) [.int .i64 (if u.fr < x10.fr then u.fr else x10.fr)] [.int .i64 u.link, .int .i64 (if u.fr < x10.fr then u.fr else x10.fr), .int .i64 u.til] f18 rfl rfl rfl rfl (by simp) (all_cons rfl all_nil) rfl (fun h22 mh22 sh22 bxx23 => ?_)
          have E24 := E17.mod mh22 (fun b hb => by simp at hb; omega)
          refine s_nil ?_
          refine p_seqN ?_
          refine v_seq ?_
          refine v_ops ?_
          refine s_pure (.pointer (some ⟨b1, 2, none⟩)) (fun _ q => q) ?_
          refine s_load (.int .i64 u.til) (fun _ q => bxx23.load rfl q) ?_
          refine s_pure (.pointer (some ⟨b11, 2, none⟩)) (fun _ q => q) ?_
          have f25 := (bxx16.mod mh22 (by simp; omega))
          refine s_load (.int .i64 x10.til) (fun _ q => f25.load rfl q) ?_
          refine s_callS [.int .i64 u.til, .int .i64 x10.til] (.int .i64 (if u.til > x10.til then u.til else x10.til)) rfl (spec_l1Most_ok u.til x10.til _ ) ?_
          refine s_pure (.pointer (some ⟨b1, 2, none⟩)) (fun _ q => q) ?_
          refine s_stBx (.int .i64 (if u.til > x10.til then u.til else x10.til)) [.int .i64 (if u.til > x10.til then u.til else x10.til)] [.int .i64 u.link, .int .i64 (if u.fr < x10.fr then u.fr else x10.fr), .int .i64 (if u.til > x10.til then u.til else x10.til)] bxx23 rfl rfl rfl rfl (by simp) (all_cons rfl all_nil) rfl (fun h26 mh26 sh26 bxx27 => ?_)
          have E28 := E24.mod mh26 (fun b hb => by simp at hb; omega)
          refine s_nil ?_
          refine p_seqN ?_
          refine v_exit ?_
          refine p_seqX ?_
          refine p_blkX ?_
          refine p_seqN ?_
          refine v_ops ?_
          refine s_pure (.int .i64 ((k : Int) + 1)) (fun _ q => ArithVC.mk (by omega) q) ?_
          refine s_pure (.int .i64 ((k : Int) + 1)) (fun _ q => q) ?_
          refine s_nil ?_
          have f29 := ((((s_w.ext eh12).mod mh15 (fun b hb hc => by simp at hc; have := lt_w b hb; omega)).mod mh22 (fun b hb hc => np_b1_w (by simp at hc; rw [← hc]; exact hb))).mod mh26 (fun b hb hc => np_b1_w (by simp at hc; rw [← hc]; exact hb)))
          exact p_lpN ⟨k + 1, (⟨u.link, if u.fr < x10.fr then u.fr else x10.fr, if u.til > x10.til then u.til else x10.til⟩ : FogD), j, o, w, ⟨rfl, rfl, rfl, rfl, rfl, rfl⟩, ⟨E28, bxx27, (sl_eq f29 (by simp)), (fr_w.mono (by omega)), np_b1_w, (by first | exact ⟨by omega, by rw [snoc_get (by assumption)]; rw [← mrg_min]; exact ad_touch hA ⟨by omega, by omega, by omega⟩⟩ | exact ⟨by omega, by rw [snoc_get (by assumption)]; (have e := ad_less (y := x10) hA (by unfold tch; omega) (by omega)); simpa using e⟩ | exact ⟨by omega, by rw [snoc_get (by assumption)]; exact ad_more hA (by unfold tch; omega) (by omega)⟩)⟩, by omega⟩
        ·
          refine v_skip ?_
          refine p_seqN ?_
          refine v_seq ?_
          refine v_ops ?_
          refine s_pure w (fun _ q => q) ?_
          refine s_load (.agg #[.int .i64 x10.link, .int .i64 x10.fr, .int .i64 x10.til]) (fun _ q => bxx16.loadA rfl q) ?_
          refine s_row (α := FogD) [(⟨x10.link, x10.fr, x10.til⟩ : FogD)] (fun _ q => seg_agg rfl rfl (seg_nil q)) rfl (by simp [maxLen]) (fun r30 h31 eh31 zh31 s_r30 fr_r30 => ?_)
          have E32 := E17.trans eh31
          have z33 := eh31.size
          have lt_r30 := s_r30.lt
          have f34 := (((s_w.ext eh12).mod mh15 (fun b hb hc => by simp at hc; have := lt_w b hb; omega)).ext eh31)
          refine s_app f34 s_r30 rfl rfl rfl (by simp [maxLen]; omega) (by simp; omega) (fun r35 h36 mh36 zh36 s_r35 ab_r35 => ?_)
          have E37 := E32.mod mh36 (fun b hb => by have := fr_w b hb; omega)
          have fr_r35 := fr_w.app ab_r35 (by omega)
          have np38 : b1 ∉ blks r35 := fun hc => (ab_r35 _ hc).elim np_b1_w (fun hc => by omega)
          have np39 : b11 ∉ blks r35 := fun hc => (ab_r35 _ hc).elim (fun hc => by have := lt_w _ hc; omega) (fun hc => by omega)
          have np40 : ∀ b ∈ blks r30, b ∉ blks r35 := fun b hb hc => (ab_r35 _ hc).elim (((fun b hb hc => by have := fr_r30 b hb; have := lt_w b hc; omega) : ∀ b ∈ blks r30, b ∉ blks w) b hb) (fun hc => by have := lt_r30 b hb; omega)
          have lt_r35 := s_r35.lt
          refine s_pure r35 (fun _ q => q) ?_
          refine s_nil ?_
          refine p_seqN ?_
          refine v_seq ?_
          refine v_ops ?_
          refine s_pure (.pointer (some ⟨b11, 0, none⟩)) (fun _ q => q) ?_
          have f41 := ((bxx16.ext eh31).mod mh36 (fun hc => by have := lt_w _ hc; omega))
          refine s_load (.int .i64 x10.link) (fun _ q => f41.load rfl q) ?_
          refine s_pure (.pointer (some ⟨b1, 0, none⟩)) (fun _ q => q) ?_
          have f42 := ((f18.ext eh31).mod mh36 np_b1_w)
          refine s_load (.int .i64 u.link) (fun _ q => f42.load rfl q) ?_
          refine s_pure (.bool (decide (x10.link < u.link))) (fun _ q => q) ?_
          refine s_pure (.bool (decide (x10.link < u.link))) (fun _ q => q) ?_
          refine s_splitT rfl (fun c43 => ?_) (fun c43 => ?_)
          ·
            refine s_pass rfl ?_
            refine s_pass rfl ?_
            refine s_pass rfl ?_
            refine s_pass rfl ?_
            refine s_pass rfl ?_
            refine s_pass rfl ?_
            refine s_splitU rfl ?_
            refine s_passU rfl ?_
            refine s_passU rfl ?_
            refine s_passU rfl ?_
            refine s_passU rfl ?_
            refine s_passU rfl ?_
            refine s_pass rfl ?_
            refine s_pure (.bool true) (fun _ q => q) ?_
            refine s_nil ?_
            refine p_seqN ?_
            refine v_condY rfl rfl ?_
            refine v_ops ?_
            refine s_pure r35 (fun _ q => q) ?_
            refine s_pure (.int .i64 ((o ++ [(⟨x10.link, x10.fr, x10.til⟩ : FogD)]).length : Int)) (fun _ q => s_r35.lenVC q) ?_
            refine s_pure (.int .i64 ((o ++ [(⟨x10.link, x10.fr, x10.til⟩ : FogD)]).length : Int)) (fun _ q => q) ?_
            refine s_nil ?_
            refine p_blkN ?_
            refine p_seqN ?_
            refine v_ops ?_
            refine s_pure (.int .i64 ((k : Int) + 1)) (fun _ q => ArithVC.mk (by omega) q) ?_
            refine s_pure (.int .i64 ((k : Int) + 1)) (fun _ q => q) ?_
            refine s_nil ?_
            exact p_lpN ⟨k + 1, u, (o ++ [(⟨x10.link, x10.fr, x10.til⟩ : FogD)]).length, (o ++ [(⟨x10.link, x10.fr, x10.til⟩ : FogD)]), r35, ⟨rfl, rfl, rfl, rfl, rfl, rfl⟩, ⟨E37, f42, (sl_eq s_r35 (by simp)), (fr_r35.mono (by omega)), np38, (by first | exact ⟨by omega, by rw [snoc_get (by assumption)]; rw [← mrg_min]; exact ad_touch hA ⟨by omega, by omega, by omega⟩⟩ | exact ⟨by omega, by rw [snoc_get (by assumption)]; (have e := ad_less (y := x10) hA (by unfold tch; omega) (by omega)); simpa using e⟩ | exact ⟨by omega, by rw [snoc_get (by assumption)]; exact ad_more hA (by unfold tch; omega) (by omega)⟩)⟩, by omega⟩
          ·
            refine s_run rfl ?_
            refine s_pure (.pointer (some ⟨b11, 0, none⟩)) (fun _ q => q) ?_
            refine s_run rfl ?_
            refine s_load (.int .i64 x10.link) (fun _ q => f41.load rfl q) ?_
            refine s_run rfl ?_
            refine s_pure (.pointer (some ⟨b1, 0, none⟩)) (fun _ q => q) ?_
            refine s_run rfl ?_
            refine s_load (.int .i64 u.link) (fun _ q => f42.load rfl q) ?_
            refine s_run rfl ?_
            refine s_pure (.bool (x10.link == u.link)) (fun _ q => q) ?_
            refine s_run rfl ?_
            refine s_pure (.bool (x10.link == u.link)) (fun _ q => q) ?_
            refine s_splitY rfl (by first | assumption | omega | (simp; done) | (simp; omega) | simp_all) ?_
            refine s_run rfl ?_
            refine s_pure (.pointer (some ⟨b11, 1, none⟩)) (fun _ q => q) ?_
            refine s_run rfl ?_
            refine s_load (.int .i64 x10.fr) (fun _ q => f41.load rfl q) ?_
            refine s_run rfl ?_
            refine s_pure (.pointer (some ⟨b1, 1, none⟩)) (fun _ q => q) ?_
            refine s_run rfl ?_
            refine s_load (.int .i64 u.fr) (fun _ q => f42.load rfl q) ?_
            refine s_run rfl ?_
            refine s_pure (.bool (decide (x10.fr < u.fr))) (fun _ q => q) ?_
            refine s_run rfl ?_
            refine s_pure (.bool (decide (x10.fr < u.fr))) (fun _ q => q) ?_
            refine s_pure (.bool (decide (x10.fr < u.fr))) (fun _ q => q) ?_
            refine s_nil ?_
            refine p_seqN ?_
            refine v_cond rfl (fun c44 => ?_) (fun c44 => ?_)
            ·
              refine v_ops ?_
              refine s_pure r35 (fun _ q => q) ?_
              refine s_pure (.int .i64 ((o ++ [(⟨x10.link, x10.fr, x10.til⟩ : FogD)]).length : Int)) (fun _ q => s_r35.lenVC q) ?_
              refine s_pure (.int .i64 ((o ++ [(⟨x10.link, x10.fr, x10.til⟩ : FogD)]).length : Int)) (fun _ q => q) ?_
              refine s_nil ?_
              refine p_blkN ?_
              refine p_seqN ?_
              refine v_ops ?_
              refine s_pure (.int .i64 ((k : Int) + 1)) (fun _ q => ArithVC.mk (by omega) q) ?_
              refine s_pure (.int .i64 ((k : Int) + 1)) (fun _ q => q) ?_
              refine s_nil ?_
              exact p_lpN ⟨k + 1, u, (o ++ [(⟨x10.link, x10.fr, x10.til⟩ : FogD)]).length, (o ++ [(⟨x10.link, x10.fr, x10.til⟩ : FogD)]), r35, ⟨rfl, rfl, rfl, rfl, rfl, rfl⟩, ⟨E37, f42, (sl_eq s_r35 (by simp)), (fr_r35.mono (by omega)), np38, (by first | exact ⟨by omega, by rw [snoc_get (by assumption)]; rw [← mrg_min]; exact ad_touch hA ⟨by omega, by omega, by omega⟩⟩ | exact ⟨by omega, by rw [snoc_get (by assumption)]; (have e := ad_less (y := x10) hA (by unfold tch; omega) (by omega)); simpa using e⟩ | exact ⟨by omega, by rw [snoc_get (by assumption)]; exact ad_more hA (by unfold tch; omega) (by omega)⟩)⟩, by omega⟩
            ·
              refine v_skip ?_
              refine p_blkN ?_
              refine p_seqN ?_
              refine v_ops ?_
              refine s_pure (.int .i64 ((k : Int) + 1)) (fun _ q => ArithVC.mk (by omega) q) ?_
              refine s_pure (.int .i64 ((k : Int) + 1)) (fun _ q => q) ?_
              refine s_nil ?_
              exact p_lpN ⟨k + 1, u, j, (o ++ [(⟨x10.link, x10.fr, x10.til⟩ : FogD)]), r35, ⟨rfl, rfl, rfl, rfl, rfl, rfl⟩, ⟨E37, f42, (sl_eq s_r35 (by simp)), (fr_r35.mono (by omega)), np38, (by first | exact ⟨by omega, by rw [snoc_get (by assumption)]; rw [← mrg_min]; exact ad_touch hA ⟨by omega, by omega, by omega⟩⟩ | exact ⟨by omega, by rw [snoc_get (by assumption)]; (have e := ad_less (y := x10) hA (by unfold tch; omega) (by omega)); simpa using e⟩ | exact ⟨by omega, by rw [snoc_get (by assumption)]; exact ad_more hA (by unfold tch; omega) (by omega)⟩)⟩, by omega⟩
      ·
        refine s_pass rfl ?_
        refine s_pass rfl ?_
        refine s_pass rfl ?_
        refine s_pass rfl ?_
        refine s_pass rfl ?_
        refine s_pure (.bool false) (fun _ q => q) ?_
        refine s_nil ?_
        refine p_seqN ?_
        refine v_condN rfl (by simp) ?_
        refine v_skip ?_
        refine p_seqN ?_
        refine v_seq ?_
        refine v_ops ?_
        refine s_pure w (fun _ q => q) ?_
        refine s_load (.agg #[.int .i64 x10.link, .int .i64 x10.fr, .int .i64 x10.til]) (fun _ q => bxx16.loadA rfl q) ?_
        refine s_row (α := FogD) [(⟨x10.link, x10.fr, x10.til⟩ : FogD)] (fun _ q => seg_agg rfl rfl (seg_nil q)) rfl (by simp [maxLen]) (fun r45 h46 eh46 zh46 s_r45 fr_r45 => ?_)
        have E47 := E17.trans eh46
        have z48 := eh46.size
        have lt_r45 := s_r45.lt
        have f49 := (((s_w.ext eh12).mod mh15 (fun b hb hc => by simp at hc; have := lt_w b hb; omega)).ext eh46)
        refine s_app f49 s_r45 rfl rfl rfl (by simp [maxLen]; omega) (by simp; omega) (fun r50 h51 mh51 zh51 s_r50 ab_r50 => ?_)
        have E52 := E47.mod mh51 (fun b hb => by have := fr_w b hb; omega)
        have fr_r50 := fr_w.app ab_r50 (by omega)
        have np53 : b1 ∉ blks r50 := fun hc => (ab_r50 _ hc).elim np_b1_w (fun hc => by omega)
        have np54 : b11 ∉ blks r50 := fun hc => (ab_r50 _ hc).elim (fun hc => by have := lt_w _ hc; omega) (fun hc => by omega)
        have np55 : ∀ b ∈ blks r45, b ∉ blks r50 := fun b hb hc => (ab_r50 _ hc).elim (((fun b hb hc => by have := fr_r45 b hb; have := lt_w b hc; omega) : ∀ b ∈ blks r45, b ∉ blks w) b hb) (fun hc => by have := lt_r45 b hb; omega)
        have lt_r50 := s_r50.lt
        refine s_pure r50 (fun _ q => q) ?_
        refine s_nil ?_
        refine p_seqN ?_
        refine v_seq ?_
        refine v_ops ?_
        refine s_pure (.pointer (some ⟨b11, 0, none⟩)) (fun _ q => q) ?_
        have f56 := ((bxx16.ext eh46).mod mh51 (fun hc => by have := lt_w _ hc; omega))
        refine s_load (.int .i64 x10.link) (fun _ q => f56.load rfl q) ?_
        refine s_pure (.pointer (some ⟨b1, 0, none⟩)) (fun _ q => q) ?_
        have f57 := ((f18.ext eh46).mod mh51 np_b1_w)
        refine s_load (.int .i64 u.link) (fun _ q => f57.load rfl q) ?_
        refine s_pure (.bool (decide (x10.link < u.link))) (fun _ q => q) ?_
        refine s_pure (.bool (decide (x10.link < u.link))) (fun _ q => q) ?_
        refine s_splitT rfl (fun c58 => ?_) (fun c58 => ?_)
        ·
          refine s_pass rfl ?_
          refine s_pass rfl ?_
          refine s_pass rfl ?_
          refine s_pass rfl ?_
          refine s_pass rfl ?_
          refine s_pass rfl ?_
          refine s_splitU rfl ?_
          refine s_passU rfl ?_
          refine s_passU rfl ?_
          refine s_passU rfl ?_
          refine s_passU rfl ?_
          refine s_passU rfl ?_
          refine s_pass rfl ?_
          refine s_pure (.bool true) (fun _ q => q) ?_
          refine s_nil ?_
          refine p_seqN ?_
          refine v_condY rfl rfl ?_
          refine v_ops ?_
          refine s_pure r50 (fun _ q => q) ?_
          refine s_pure (.int .i64 ((o ++ [(⟨x10.link, x10.fr, x10.til⟩ : FogD)]).length : Int)) (fun _ q => s_r50.lenVC q) ?_
          refine s_pure (.int .i64 ((o ++ [(⟨x10.link, x10.fr, x10.til⟩ : FogD)]).length : Int)) (fun _ q => q) ?_
          refine s_nil ?_
          refine p_blkN ?_
          refine p_seqN ?_
          refine v_ops ?_
          refine s_pure (.int .i64 ((k : Int) + 1)) (fun _ q => ArithVC.mk (by omega) q) ?_
          refine s_pure (.int .i64 ((k : Int) + 1)) (fun _ q => q) ?_
          refine s_nil ?_
          exact p_lpN ⟨k + 1, u, (o ++ [(⟨x10.link, x10.fr, x10.til⟩ : FogD)]).length, (o ++ [(⟨x10.link, x10.fr, x10.til⟩ : FogD)]), r50, ⟨rfl, rfl, rfl, rfl, rfl, rfl⟩, ⟨E52, f57, (sl_eq s_r50 (by simp)), (fr_r50.mono (by omega)), np53, (by first | exact ⟨by omega, by rw [snoc_get (by assumption)]; rw [← mrg_min]; exact ad_touch hA ⟨by omega, by omega, by omega⟩⟩ | exact ⟨by omega, by rw [snoc_get (by assumption)]; (have e := ad_less (y := x10) hA (by unfold tch; omega) (by omega)); simpa using e⟩ | exact ⟨by omega, by rw [snoc_get (by assumption)]; exact ad_more hA (by unfold tch; omega) (by omega)⟩)⟩, by omega⟩
        ·
          refine s_run rfl ?_
          refine s_pure (.pointer (some ⟨b11, 0, none⟩)) (fun _ q => q) ?_
          refine s_run rfl ?_
          refine s_load (.int .i64 x10.link) (fun _ q => f56.load rfl q) ?_
          refine s_run rfl ?_
          refine s_pure (.pointer (some ⟨b1, 0, none⟩)) (fun _ q => q) ?_
          refine s_run rfl ?_
          refine s_load (.int .i64 u.link) (fun _ q => f57.load rfl q) ?_
          refine s_run rfl ?_
          refine s_pure (.bool (x10.link == u.link)) (fun _ q => q) ?_
          refine s_run rfl ?_
          refine s_pure (.bool (x10.link == u.link)) (fun _ q => q) ?_
          refine s_splitY rfl (by first | assumption | omega | (simp; done) | (simp; omega) | simp_all) ?_
          refine s_run rfl ?_
          refine s_pure (.pointer (some ⟨b11, 1, none⟩)) (fun _ q => q) ?_
          refine s_run rfl ?_
          refine s_load (.int .i64 x10.fr) (fun _ q => f56.load rfl q) ?_
          refine s_run rfl ?_
          refine s_pure (.pointer (some ⟨b1, 1, none⟩)) (fun _ q => q) ?_
          refine s_run rfl ?_
          refine s_load (.int .i64 u.fr) (fun _ q => f57.load rfl q) ?_
          refine s_run rfl ?_
          refine s_pure (.bool (decide (x10.fr < u.fr))) (fun _ q => q) ?_
          refine s_run rfl ?_
          refine s_pure (.bool (decide (x10.fr < u.fr))) (fun _ q => q) ?_
          refine s_pure (.bool (decide (x10.fr < u.fr))) (fun _ q => q) ?_
          refine s_nil ?_
          refine p_seqN ?_
          refine v_cond rfl (fun c59 => ?_) (fun c59 => ?_)
          ·
            refine v_ops ?_
            refine s_pure r50 (fun _ q => q) ?_
            refine s_pure (.int .i64 ((o ++ [(⟨x10.link, x10.fr, x10.til⟩ : FogD)]).length : Int)) (fun _ q => s_r50.lenVC q) ?_
            refine s_pure (.int .i64 ((o ++ [(⟨x10.link, x10.fr, x10.til⟩ : FogD)]).length : Int)) (fun _ q => q) ?_
            refine s_nil ?_
            refine p_blkN ?_
            refine p_seqN ?_
            refine v_ops ?_
            refine s_pure (.int .i64 ((k : Int) + 1)) (fun _ q => ArithVC.mk (by omega) q) ?_
            refine s_pure (.int .i64 ((k : Int) + 1)) (fun _ q => q) ?_
            refine s_nil ?_
            exact p_lpN ⟨k + 1, u, (o ++ [(⟨x10.link, x10.fr, x10.til⟩ : FogD)]).length, (o ++ [(⟨x10.link, x10.fr, x10.til⟩ : FogD)]), r50, ⟨rfl, rfl, rfl, rfl, rfl, rfl⟩, ⟨E52, f57, (sl_eq s_r50 (by simp)), (fr_r50.mono (by omega)), np53, (by first | exact ⟨by omega, by rw [snoc_get (by assumption)]; rw [← mrg_min]; exact ad_touch hA ⟨by omega, by omega, by omega⟩⟩ | exact ⟨by omega, by rw [snoc_get (by assumption)]; (have e := ad_less (y := x10) hA (by unfold tch; omega) (by omega)); simpa using e⟩ | exact ⟨by omega, by rw [snoc_get (by assumption)]; exact ad_more hA (by unfold tch; omega) (by omega)⟩)⟩, by omega⟩
          ·
            refine v_skip ?_
            refine p_blkN ?_
            refine p_seqN ?_
            refine v_ops ?_
            refine s_pure (.int .i64 ((k : Int) + 1)) (fun _ q => ArithVC.mk (by omega) q) ?_
            refine s_pure (.int .i64 ((k : Int) + 1)) (fun _ q => q) ?_
            refine s_nil ?_
            exact p_lpN ⟨k + 1, u, j, (o ++ [(⟨x10.link, x10.fr, x10.til⟩ : FogD)]), r50, ⟨rfl, rfl, rfl, rfl, rfl, rfl⟩, ⟨E52, f57, (sl_eq s_r50 (by simp)), (fr_r50.mono (by omega)), np53, (by first | exact ⟨by omega, by rw [snoc_get (by assumption)]; rw [← mrg_min]; exact ad_touch hA ⟨by omega, by omega, by omega⟩⟩ | exact ⟨by omega, by rw [snoc_get (by assumption)]; (have e := ad_less (y := x10) hA (by unfold tch; omega) (by omega)); simpa using e⟩ | exact ⟨by omega, by rw [snoc_get (by assumption)]; exact ad_more hA (by unfold tch; omega) (by omega)⟩)⟩, by omega⟩
    ·
      refine s_pass rfl ?_
      refine s_pass rfl ?_
      refine s_pass rfl ?_
      refine s_pass rfl ?_
      refine s_pass rfl ?_
      refine s_pure (.bool false) (fun _ q => q) ?_
      refine s_pure (.bool false) (fun _ q => q) ?_
      refine s_splitN rfl (by simp) ?_
      refine s_pass rfl ?_
      refine s_pass rfl ?_
      refine s_pass rfl ?_
      refine s_pass rfl ?_
      refine s_pass rfl ?_
      refine s_pure (.bool false) (fun _ q => q) ?_
      refine s_nil ?_
      refine p_seqN ?_
      refine v_condN rfl (by simp) ?_
      refine v_skip ?_
      refine p_seqN ?_
      refine v_seq ?_
      refine v_ops ?_
      refine s_pure w (fun _ q => q) ?_
      refine s_load (.agg #[.int .i64 x10.link, .int .i64 x10.fr, .int .i64 x10.til]) (fun _ q => bxx16.loadA rfl q) ?_
      refine s_row (α := FogD) [(⟨x10.link, x10.fr, x10.til⟩ : FogD)] (fun _ q => seg_agg rfl rfl (seg_nil q)) rfl (by simp [maxLen]) (fun r60 h61 eh61 zh61 s_r60 fr_r60 => ?_)
      have E62 := E17.trans eh61
      have z63 := eh61.size
      have lt_r60 := s_r60.lt
      have f64 := (((s_w.ext eh12).mod mh15 (fun b hb hc => by simp at hc; have := lt_w b hb; omega)).ext eh61)
      refine s_app f64 s_r60 rfl rfl rfl (by simp [maxLen]; omega) (by simp; omega) (fun r65 h66 mh66 zh66 s_r65 ab_r65 => ?_)
      have E67 := E62.mod mh66 (fun b hb => by have := fr_w b hb; omega)
      have fr_r65 := fr_w.app ab_r65 (by omega)
      have np68 : b1 ∉ blks r65 := fun hc => (ab_r65 _ hc).elim np_b1_w (fun hc => by omega)
      have np69 : b11 ∉ blks r65 := fun hc => (ab_r65 _ hc).elim (fun hc => by have := lt_w _ hc; omega) (fun hc => by omega)
      have np70 : ∀ b ∈ blks r60, b ∉ blks r65 := fun b hb hc => (ab_r65 _ hc).elim (((fun b hb hc => by have := fr_r60 b hb; have := lt_w b hc; omega) : ∀ b ∈ blks r60, b ∉ blks w) b hb) (fun hc => by have := lt_r60 b hb; omega)
      have lt_r65 := s_r65.lt
      refine s_pure r65 (fun _ q => q) ?_
      refine s_nil ?_
      refine p_seqN ?_
      refine v_seq ?_
      refine v_ops ?_
      refine s_pure (.pointer (some ⟨b11, 0, none⟩)) (fun _ q => q) ?_
      have f71 := ((bxx16.ext eh61).mod mh66 (fun hc => by have := lt_w _ hc; omega))
      refine s_load (.int .i64 x10.link) (fun _ q => f71.load rfl q) ?_
      refine s_pure (.pointer (some ⟨b1, 0, none⟩)) (fun _ q => q) ?_
      have f72 := ((f18.ext eh61).mod mh66 np_b1_w)
      refine s_load (.int .i64 u.link) (fun _ q => f72.load rfl q) ?_
      refine s_pure (.bool (decide (x10.link < u.link))) (fun _ q => q) ?_
      refine s_pure (.bool (decide (x10.link < u.link))) (fun _ q => q) ?_
      refine s_splitT rfl (fun c73 => ?_) (fun c73 => ?_)
      ·
        refine s_pass rfl ?_
        refine s_pass rfl ?_
        refine s_pass rfl ?_
        refine s_pass rfl ?_
        refine s_pass rfl ?_
        refine s_pass rfl ?_
        refine s_splitU rfl ?_
        refine s_passU rfl ?_
        refine s_passU rfl ?_
        refine s_passU rfl ?_
        refine s_passU rfl ?_
        refine s_passU rfl ?_
        refine s_pass rfl ?_
        refine s_pure (.bool true) (fun _ q => q) ?_
        refine s_nil ?_
        refine p_seqN ?_
        refine v_condY rfl rfl ?_
        refine v_ops ?_
        refine s_pure r65 (fun _ q => q) ?_
        refine s_pure (.int .i64 ((o ++ [(⟨x10.link, x10.fr, x10.til⟩ : FogD)]).length : Int)) (fun _ q => s_r65.lenVC q) ?_
        refine s_pure (.int .i64 ((o ++ [(⟨x10.link, x10.fr, x10.til⟩ : FogD)]).length : Int)) (fun _ q => q) ?_
        refine s_nil ?_
        refine p_blkN ?_
        refine p_seqN ?_
        refine v_ops ?_
        refine s_pure (.int .i64 ((k : Int) + 1)) (fun _ q => ArithVC.mk (by omega) q) ?_
        refine s_pure (.int .i64 ((k : Int) + 1)) (fun _ q => q) ?_
        refine s_nil ?_
        exact p_lpN ⟨k + 1, u, (o ++ [(⟨x10.link, x10.fr, x10.til⟩ : FogD)]).length, (o ++ [(⟨x10.link, x10.fr, x10.til⟩ : FogD)]), r65, ⟨rfl, rfl, rfl, rfl, rfl, rfl⟩, ⟨E67, f72, (sl_eq s_r65 (by simp)), (fr_r65.mono (by omega)), np68, (by first | exact ⟨by omega, by rw [snoc_get (by assumption)]; rw [← mrg_min]; exact ad_touch hA ⟨by omega, by omega, by omega⟩⟩ | exact ⟨by omega, by rw [snoc_get (by assumption)]; (have e := ad_less (y := x10) hA (by unfold tch; omega) (by omega)); simpa using e⟩ | exact ⟨by omega, by rw [snoc_get (by assumption)]; exact ad_more hA (by unfold tch; omega) (by omega)⟩)⟩, by omega⟩
      ·
        refine s_run rfl ?_
        refine s_pure (.pointer (some ⟨b11, 0, none⟩)) (fun _ q => q) ?_
        refine s_run rfl ?_
        refine s_load (.int .i64 x10.link) (fun _ q => f71.load rfl q) ?_
        refine s_run rfl ?_
        refine s_pure (.pointer (some ⟨b1, 0, none⟩)) (fun _ q => q) ?_
        refine s_run rfl ?_
        refine s_load (.int .i64 u.link) (fun _ q => f72.load rfl q) ?_
        refine s_run rfl ?_
        refine s_pure (.bool (x10.link == u.link)) (fun _ q => q) ?_
        refine s_run rfl ?_
        refine s_pure (.bool (x10.link == u.link)) (fun _ q => q) ?_
        refine s_splitN rfl (by first | assumption | omega | (simp; done) | (simp; omega) | simp_all) ?_
        refine s_pass rfl ?_
        refine s_pass rfl ?_
        refine s_pass rfl ?_
        refine s_pass rfl ?_
        refine s_pass rfl ?_
        refine s_run rfl ?_
        refine s_pure (.bool false) (fun _ q => q) ?_
        refine s_pure (.bool false) (fun _ q => q) ?_
        refine s_nil ?_
        refine p_seqN ?_
        refine v_condN rfl (by simp) ?_
        refine v_skip ?_
        refine p_blkN ?_
        refine p_seqN ?_
        refine v_ops ?_
        refine s_pure (.int .i64 ((k : Int) + 1)) (fun _ q => ArithVC.mk (by omega) q) ?_
        refine s_pure (.int .i64 ((k : Int) + 1)) (fun _ q => q) ?_
        refine s_nil ?_
        exact p_lpN ⟨k + 1, u, j, (o ++ [(⟨x10.link, x10.fr, x10.til⟩ : FogD)]), r65, ⟨rfl, rfl, rfl, rfl, rfl, rfl⟩, ⟨E67, f72, (sl_eq s_r65 (by simp)), (fr_r65.mono (by omega)), np68, (by first | exact ⟨by omega, by rw [snoc_get (by assumption)]; rw [← mrg_min]; exact ad_touch hA ⟨by omega, by omega, by omega⟩⟩ | exact ⟨by omega, by rw [snoc_get (by assumption)]; (have e := ad_less (y := x10) hA (by unfold tch; omega) (by omega)); simpa using e⟩ | exact ⟨by omega, by rw [snoc_get (by assumption)]; exact ad_more hA (by unfold tch; omega) (by omega)⟩)⟩, by omega⟩
  ·
    refine v_exit ?_
    refine p_seqX ?_
    refine p_lpX ?_
    refine p_blkX ?_
    refine p_seqN ?_
    refine v_seq ?_
    refine v_draw (DrawVC.cut (α := Value) ([b1]) (fun zz => [(4, zz)]) (fun zz h' => SlO h' zz ((([] ++ o.take j) ++ [(⟨u.link, u.fr, u.til⟩ : FogD)]) ++ (o.take o.length).drop j) ∧ Fr h5.size zz ∧ Ext h5 h') ?_ ?_)
    ·
      refine d_pureT w (fun _ q => q) ?_
      refine d_pureT (.int .i64 (j : Int)) (fun _ q => q) ?_
      obtain ⟨r74, hqr74, s_r74, bk_r74⟩ := s_w.toSl.slc (l := 0) (m := j) (by first | omega | (simp; omega)) (by first | omega | (simp; omega))
      simp only [List.drop_zero] at s_r74
      have lt_r74 := s_r74.lt
      refine d_pureT r74 (fun K q => hqr74 _ rfl none (some (.int .i64 (j : Int))) rfl ⟨_, _, rfl, rfl⟩ K q) ?_
      refine d_pureT w (fun _ q => q) ?_
      refine d_pureT (.int .i64 (j : Int)) (fun _ q => q) ?_
      obtain ⟨r75, hqr75, s_r75, bk_r75⟩ := s_w.toSl.slc (l := j) (m := o.length) (by first | omega | (simp; omega)) (by first | omega | (simp; omega))
      have lt_r75 := s_r75.lt
      refine d_pureT r75 (fun K q => hqr75 _ rfl (some (.int .i64 (j : Int))) none ⟨_, _, rfl, rfl⟩ rfl K q) ?_
      refine d_loadT (.agg #[.int .i64 u.link, .int .i64 u.fr, .int .i64 u.til]) (fun _ q => bxb1.takeA (by simp) rfl q) ?_
      refine d_fork ?_ ?_
      ·
        refine d_eff ?_
        refine s_row (α := FogD) [] (fun _ q => seg_nil q) rfl (by simp [maxLen]) (fun r76 h77 eh77 zh77 s_r76 fr_r76 => ?_)
        have E78 := Eh.trans eh77
        have z79 := eh77.size
        have G80 := eh77
        have lt_r76 := s_r76.lt
        refine s_nil ⟨fun _ x hx => G80.blk x (by simp at hx; omega), ?_⟩
        refine d_fork ?_ ?_
        ·
          refine d_eff ?_
          have f81 := (s_r74.ext eh77)
          refine s_app s_r76 f81 rfl rfl rfl (by simp [maxLen]; omega) (by simp; omega) (fun r82 h83 mh83 zh83 s_r82 ab_r82 => ?_)
          have E84 := E78.mod mh83 (fun b hb => by have := fr_r76 b hb; omega)
          have G85 := G80.mod mh83 (fun b hb => by have := fr_r76 b hb; omega)
          have fr_r82 := fr_r76.app ab_r82 (by omega)
          have lt_r82 := s_r82.lt
          refine s_nil ⟨fun _ x hx => G85.blk x (by simp at hx; omega), ?_⟩
          refine d_eff ?_
          refine s_row (α := FogD) [(⟨u.link, u.fr, u.til⟩ : FogD)] (fun _ q => seg_agg rfl rfl (seg_nil q)) rfl (by simp [maxLen]) (fun r86 h87 eh87 zh87 s_r86 fr_r86 => ?_)
          have E88 := E84.trans eh87
          have z89 := eh87.size
          have G90 := G85.trans eh87
          have lt_r86 := s_r86.lt
          refine s_nil ⟨fun _ x hx => G90.blk x (by simp at hx; omega), ?_⟩
          refine d_eff ?_
          have f91 := (s_r82.ext eh87)
          refine s_app f91 s_r86 rfl rfl rfl (by simp [maxLen]; omega) (by simp; omega) (fun r92 h93 mh93 zh93 s_r92 ab_r92 => ?_)
          have E94 := E88.mod mh93 (fun b hb => by have := fr_r82 b hb; omega)
          have G95 := G90.mod mh93 (fun b hb => by have := fr_r82 b hb; omega)
          have fr_r92 := fr_r82.app ab_r92 (by omega)
          have np96 : ∀ b ∈ blks r86, b ∉ blks r92 := fun b hb hc => (ab_r92 _ hc).elim (((fun b hb hc => by have := fr_r86 b hb; have := lt_r82 b hc; omega) : ∀ b ∈ blks r86, b ∉ blks r82) b hb) (fun hc => by have := lt_r86 b hb; omega)
          have lt_r92 := s_r92.lt
          refine s_nil ⟨fun _ x hx => G95.blk x (by simp at hx; omega), ?_⟩
          refine d_eff ?_
          have f97 := ((((s_r75.ext eh77).mod mh83 (fun b hb hc => by have := (fun b hb => lt_w b (bk_r75 b hb)) b hb; have := fr_r76 b hc; omega)).ext eh87).mod mh93 (fun b hb hc => by have := (fun b hb => lt_w b (bk_r75 b hb)) b hb; have := fr_r82 b hc; omega))
          refine s_app s_r92 f97 rfl rfl rfl (by simp [maxLen]; omega) (by simp; omega) (fun r98 h99 mh99 zh99 s_r98 ab_r98 => ?_)
          have E100 := E94.mod mh99 (fun b hb => by have := fr_r92 b hb; omega)
          have G101 := G95.mod mh99 (fun b hb => by have := fr_r92 b hb; omega)
          have fr_r98 := fr_r92.app ab_r98 (by omega)
          have np102 : ∀ b ∈ blks r86, b ∉ blks r98 := fun b hb hc => (ab_r98 _ hc).elim ((np96 : ∀ b ∈ blks r86, b ∉ blks r92) b hb) (fun hc => by have := lt_r86 b hb; omega)
          have np103 : ∀ b ∈ blks r86, b ∉ blks r98 := fun b hb hc => (ab_r98 _ hc).elim ((np96 : ∀ b ∈ blks r86, b ∉ blks r92) b hb) (fun hc => by have := lt_r86 b hb; omega)
          have lt_r98 := s_r98.lt
          refine s_nil ⟨fun _ x hx => G101.blk x (by simp at hx; omega), ?_⟩
          refine d_pureT r98 (fun _ q => q) ?_
          refine d_done ⟨r98, rfl, s_r98, fr_r98.mono (by omega), G101⟩
        ·
          refine d_eff ?_
          refine s_row (α := FogD) [(⟨u.link, u.fr, u.til⟩ : FogD)] (fun _ q => seg_agg rfl rfl (seg_nil q)) rfl (by simp [maxLen]) (fun r104 h105 eh105 zh105 s_r104 fr_r104 => ?_)
          have E106 := E78.trans eh105
          have z107 := eh105.size
          have G108 := G80.trans eh105
          have lt_r104 := s_r104.lt
          refine s_nil ⟨fun _ x hx => G108.blk x (by simp at hx; omega), ?_⟩
          refine d_eff ?_
          have f109 := (s_r76.ext eh105)
          have f110 := ((s_r74.ext eh77).ext eh105)
          refine s_app f109 f110 rfl rfl rfl (by simp [maxLen]; omega) (by simp; omega) (fun r111 h112 mh112 zh112 s_r111 ab_r111 => ?_)
          have E113 := E106.mod mh112 (fun b hb => by have := fr_r76 b hb; omega)
          have G114 := G108.mod mh112 (fun b hb => by have := fr_r76 b hb; omega)
          have fr_r111 := fr_r76.app ab_r111 (by omega)
          have np115 : ∀ b ∈ blks r104, b ∉ blks r111 := fun b hb hc => (ab_r111 _ hc).elim (((fun b hb hc => by have := fr_r104 b hb; have := lt_r76 b hc; omega) : ∀ b ∈ blks r104, b ∉ blks r76) b hb) (fun hc => by have := lt_r104 b hb; omega)
          have lt_r111 := s_r111.lt
          refine s_nil ⟨fun _ x hx => G114.blk x (by simp at hx; omega), ?_⟩
          refine d_eff ?_
          have f116 := (s_r104.mod mh112 (fun b hb hc => by have := fr_r104 b hb; have := lt_r76 b hc; omega))
          refine s_app s_r111 f116 rfl rfl rfl (by simp [maxLen]; omega) (by simp; omega) (fun r117 h118 mh118 zh118 s_r117 ab_r117 => ?_)
          have E119 := E113.mod mh118 (fun b hb => by have := fr_r111 b hb; omega)
          have G120 := G114.mod mh118 (fun b hb => by have := fr_r111 b hb; omega)
          have fr_r117 := fr_r111.app ab_r117 (by omega)
          have np121 : ∀ b ∈ blks r104, b ∉ blks r117 := fun b hb hc => (ab_r117 _ hc).elim ((np115 : ∀ b ∈ blks r104, b ∉ blks r111) b hb) (fun hc => by have := lt_r104 b hb; omega)
          have np122 : ∀ b ∈ blks r104, b ∉ blks r117 := fun b hb hc => (ab_r117 _ hc).elim ((np115 : ∀ b ∈ blks r104, b ∉ blks r111) b hb) (fun hc => by have := lt_r104 b hb; omega)
          have lt_r117 := s_r117.lt
          refine s_nil ⟨fun _ x hx => G120.blk x (by simp at hx; omega), ?_⟩
          refine d_eff ?_
          have f123 := ((((s_r75.ext eh77).ext eh105).mod mh112 (fun b hb hc => by have := (fun b hb => lt_w b (bk_r75 b hb)) b hb; have := fr_r76 b hc; omega)).mod mh118 (fun b hb hc => by have := (fun b hb => lt_w b (bk_r75 b hb)) b hb; have := fr_r111 b hc; omega))
          refine s_app s_r117 f123 rfl rfl rfl (by simp [maxLen]; omega) (by simp; omega) (fun r124 h125 mh125 zh125 s_r124 ab_r124 => ?_)
          have E126 := E119.mod mh125 (fun b hb => by have := fr_r117 b hb; omega)
          have G127 := G120.mod mh125 (fun b hb => by have := fr_r117 b hb; omega)
          have fr_r124 := fr_r117.app ab_r124 (by omega)
          have np128 : ∀ b ∈ blks r104, b ∉ blks r124 := fun b hb hc => (ab_r124 _ hc).elim ((np122 : ∀ b ∈ blks r104, b ∉ blks r117) b hb) (fun hc => by have := lt_r104 b hb; omega)
          have np129 : ∀ b ∈ blks r104, b ∉ blks r124 := fun b hb hc => (ab_r124 _ hc).elim ((np122 : ∀ b ∈ blks r104, b ∉ blks r117) b hb) (fun hc => by have := lt_r104 b hb; omega)
          have lt_r124 := s_r124.lt
          refine s_nil ⟨fun _ x hx => G127.blk x (by simp at hx; omega), ?_⟩
          refine d_pureT r124 (fun _ q => q) ?_
          refine d_done ⟨r124, rfl, s_r124, fr_r124.mono (by omega), G127⟩
      ·
        refine d_eff ?_
        refine s_row (α := FogD) [(⟨u.link, u.fr, u.til⟩ : FogD)] (fun _ q => seg_agg rfl rfl (seg_nil q)) rfl (by simp [maxLen]) (fun r130 h131 eh131 zh131 s_r130 fr_r130 => ?_)
        have E132 := Eh.trans eh131
        have z133 := eh131.size
        have G134 := eh131
        have lt_r130 := s_r130.lt
        refine s_nil ⟨fun _ x hx => G134.blk x (by simp at hx; omega), ?_⟩
        refine d_eff ?_
        refine s_row (α := FogD) [] (fun _ q => seg_nil q) rfl (by simp [maxLen]) (fun r135 h136 eh136 zh136 s_r135 fr_r135 => ?_)
        have E137 := E132.trans eh136
        have z138 := eh136.size
        have G139 := G134.trans eh136
        have lt_r135 := s_r135.lt
        refine s_nil ⟨fun _ x hx => G139.blk x (by simp at hx; omega), ?_⟩
        refine d_eff ?_
        have f140 := ((s_r74.ext eh131).ext eh136)
        refine s_app s_r135 f140 rfl rfl rfl (by simp [maxLen]; omega) (by simp; omega) (fun r141 h142 mh142 zh142 s_r141 ab_r141 => ?_)
        have E143 := E137.mod mh142 (fun b hb => by have := fr_r135 b hb; omega)
        have G144 := G139.mod mh142 (fun b hb => by have := fr_r135 b hb; omega)
        have fr_r141 := fr_r135.app ab_r141 (by omega)
        have lt_r141 := s_r141.lt
        refine s_nil ⟨fun _ x hx => G144.blk x (by simp at hx; omega), ?_⟩
        refine d_eff ?_
        have f145 := ((s_r130.ext eh136).mod mh142 (fun b hb hc => by have := lt_r130 b hb; have := fr_r135 b hc; omega))
        refine s_app s_r141 f145 rfl rfl rfl (by simp [maxLen]; omega) (by simp; omega) (fun r146 h147 mh147 zh147 s_r146 ab_r146 => ?_)
        have E148 := E143.mod mh147 (fun b hb => by have := fr_r141 b hb; omega)
        have G149 := G144.mod mh147 (fun b hb => by have := fr_r141 b hb; omega)
        have fr_r146 := fr_r141.app ab_r146 (by omega)
        have lt_r146 := s_r146.lt
        refine s_nil ⟨fun _ x hx => G149.blk x (by simp at hx; omega), ?_⟩
        refine d_eff ?_
        have f150 := ((((s_r75.ext eh131).ext eh136).mod mh142 (fun b hb hc => by have := (fun b hb => lt_w b (bk_r75 b hb)) b hb; have := fr_r135 b hc; omega)).mod mh147 (fun b hb hc => by have := (fun b hb => lt_w b (bk_r75 b hb)) b hb; have := fr_r141 b hc; omega))
        refine s_app s_r146 f150 rfl rfl rfl (by simp [maxLen]; omega) (by simp; omega) (fun r151 h152 mh152 zh152 s_r151 ab_r151 => ?_)
        have E153 := E148.mod mh152 (fun b hb => by have := fr_r146 b hb; omega)
        have G154 := G149.mod mh152 (fun b hb => by have := fr_r146 b hb; omega)
        have fr_r151 := fr_r146.app ab_r151 (by omega)
        have lt_r151 := s_r151.lt
        refine s_nil ⟨fun _ x hx => G154.blk x (by simp at hx; omega), ?_⟩
        refine d_pureT r151 (fun _ q => q) ?_
        refine d_done ⟨r151, rfl, s_r151, fr_r151.mono (by omega), G154⟩
    rintro r155 R157 h156 ⟨s_r155, fr_r155, eh156⟩
    have E158 := Eh.trans eh156
    have z159 := eh156.size
    have lt_r155 := s_r155.lt
    refine p_seqN ?_
    refine v_ret ?_
    refine p_ret [r155] r155 (fun _ q => q) rfl ?_
    have ho : (adR (ad x l)) = ((([] ++ o.take j) ++ [(⟨u.link, u.fr, u.til⟩ : FogD)]) ++ (o.take o.length).drop j) := by (have hA2 : ad x l = (u, o, j) := by rw [← hA, take_all (by assumption)]); rw [hA2]; simp [adR]
    exact ⟨r155, by first | (rw [ho]; done) | rfl, sl_eq s_r155 (congrArg (fun o => o) ho).symm, fr_r155.mono (by omega), E158⟩

set_option maxRecDepth 10000 in
set_option maxHeartbeats 4000000 in
theorem spec_AddFog_ok (n : NetP) (v_n_towers : Value) (v_n_links : Value) (v_l : Value) (l : List FogD) (x : FogD) (h : Heap) (s_n_towers : Sl h v_n_towers n.towers) (s_n_links : Sl h v_n_links n.links) (s_l : Sl h v_l l) : Cn f_spec_AddFog [.agg #[v_n_towers, v_n_links], v_l, .agg #[.int .i64 x.link, .int .i64 x.fr, .int .i64 x.til]] h fun v h' => ∃ r0 : Value, v = .tuple #[r0, .bool ((addOut n l x).2)] ∧ SlO h' r0 ((addOut n l x).1) ∧ Fr h.size r0 ∧ Ext h h' := by
  have lt_n_towers := s_n_towers.lt
  have l63_n_towers := s_n_towers.len63
  have lt_n_links := s_n_links.lt
  have l63_n_links := s_n_links.len63
  have lt_l := s_l.lt
  have l63_l := s_l.len63
  refine calls_of r_spec_AddFog ?_
  refine v_seq ?_
  refine v_ops ?_
  refine s_box [v_n_towers, v_n_links] rfl (fun h2 b1 hbb1 hzb1 eh2 bxb1 => ?_)
  have E3 := (Ext.refl h).trans eh2
  have z4 := eh2.size
  have lbb1 := bxb1.lt
  refine s_box [.int .i64 x.link, .int .i64 x.fr, .int .i64 x.til] rfl (fun h6 b5 hbb5 hzb5 eh6 bxb5 => ?_)
  have E7 := E3.trans eh6
  have z8 := eh6.size
  have lbb5 := bxb5.lt
  refine s_pure (.slice none 0 0) (fun _ q => q) ?_
  refine s_pure (.bool false) (fun _ q => q) ?_
  refine s_nil ?_
  refine p_seqN ?_
  refine v_seq ?_
  refine v_seq ?_
  have f9 := (bxb1.ext eh6)
  refine v_draw (DrawVC.hold ([b1]) ?_)
  refine d_loadO (.agg #[v_n_towers, v_n_links]) (fun _ q => f9.loadA rfl q) ?_
  refine d_eff ?_
  have f10 := ((s_n_towers.ext eh2).ext eh6)
  have f11 := ((s_n_links.ext eh2).ext eh6)
  refine s_call [.agg #[v_n_towers, v_n_links]] rfl (spec_neGood_ok n v_n_towers v_n_links _ f10 f11) ?_
  rintro _ h12 ⟨rfl, eh12⟩
  have E13 := E7.trans eh12
  have z14 := eh12.size
  have G15 := eh12
  refine s_nil ⟨fun _ x hx => G15.blk x (by simp at hx; omega), ?_⟩
  refine d_pureT (.bool (!decide (NetOk n))) (fun _ q => q) ?_
  refine d_pureT (.bool (!decide (NetOk n))) (fun _ q => q) ?_
  refine d_splitT rfl (fun c16 => ?_) (fun c16 => ?_)
  ·
    refine d_passT rfl ?_
    refine d_passO rfl ?_
    refine d_passO rfl ?_
    refine d_passT rfl ?_
    refine d_pureT (.bool true) (fun _ q => q) ?_
    refine d_pureT (.bool true) (fun _ q => q) ?_
    refine d_splitY rfl rfl ?_
    refine d_passT rfl ?_
    refine d_passO rfl ?_
    refine d_passO rfl ?_
    refine d_passT rfl ?_
    refine d_pureT (.bool true) (fun _ q => q) ?_
    refine d_pureT (.bool true) (fun _ q => q) ?_
    refine d_splitY rfl rfl ?_
    refine d_passT rfl ?_
    refine d_passT rfl ?_
    refine d_passO rfl ?_
    refine d_passO rfl ?_
    refine d_passO rfl ?_
    refine d_passT rfl ?_
    refine d_pureT (.bool true) (fun _ q => q) ?_
    refine d_done ?_
    refine p_seqN ?_
    refine v_condY rfl rfl ?_
    refine v_seq ?_
    refine v_ops ?_
    refine s_pure (.slice none 0 0) (fun _ q => q) ?_
    refine s_pure (.bool false) (fun _ q => q) ?_
    refine s_nil ?_
    refine p_seqN ?_
    refine v_ret ?_
    refine p_seqR ?_
    refine p_ret [.slice none 0 0, .bool false] (.tuple #[.slice none 0 0, .bool false]) (fun _ q => q) rfl ?_
    have ho : (addOut n l x) = ([], false) := by first | exact add_no (fun h => by first | exact (by assumption : ¬ NetOk n) h.hn | exact (by assumption : ¬ FogsOk _ _) h.hf | exact (by assumption : ¬ FogOk _ _) h.hx) | exact add_no (fun h => (by assumption : ¬ FogsOk _ (adR _)) ((add_test h.hf h.hx).2 h.h60)) | exact add_yes (adR_test (by assumption) (by assumption : FogsOk n.links.length l) (by assumption : FogOk n.links.length x) (by assumption))
    exact ⟨(.slice none 0 0), by first | (rw [ho]; done) | rfl, sl_eq (SlX.nil (α := FogD) true _) (congrArg (fun o => o.1) ho).symm, Fr.nil _, E13⟩
  ·
    have c16 := Classical.not_not.1 c16
    refine d_runT rfl ?_
    refine d_pureT v_l (fun _ q => q) ?_
    refine d_runO rfl ?_
    have f17 := (f9.ext eh12)
    refine d_loadO (.agg #[v_n_towers, v_n_links]) (fun _ q => f17.loadA rfl q) ?_
    refine d_runO rfl ?_
    refine d_eff ?_
    have f18 := (f10.ext eh12)
    have f19 := (f11.ext eh12)
    have f20 := (((s_l.ext eh2).ext eh6).ext eh12)
    refine s_call [.agg #[v_n_towers, v_n_links], v_l] rfl (spec_fgGood_ok n v_n_towers v_n_links v_l l _ f18 f19 f20) ?_
    rintro _ h21 ⟨rfl, eh21⟩
    have E22 := E13.trans eh21
    have z23 := eh21.size
    have G24 := G15.trans eh21
    refine s_nil ⟨fun _ x hx => G24.blk x (by simp at hx; omega), ?_⟩
    refine d_runT rfl ?_
    refine d_pureT (.bool (!(decide (FogsOk n.links.length l)))) (fun _ q => q) ?_
    refine d_pureT (.bool (!(decide (FogsOk n.links.length l)))) (fun _ q => q) ?_
    refine d_pureT (.bool (!(decide (FogsOk n.links.length l)))) (fun _ q => q) ?_
    refine d_splitT rfl (fun c25 => ?_) (fun c25 => ?_)
    ·
      refine d_passT rfl ?_
      refine d_passO rfl ?_
      refine d_passO rfl ?_
      refine d_passT rfl ?_
      refine d_pureT (.bool true) (fun _ q => q) ?_
      refine d_pureT (.bool true) (fun _ q => q) ?_
      refine d_splitY rfl rfl ?_
      refine d_passT rfl ?_
      refine d_passT rfl ?_
      refine d_passO rfl ?_
      refine d_passO rfl ?_
      refine d_passO rfl ?_
      refine d_passT rfl ?_
      refine d_pureT (.bool true) (fun _ q => q) ?_
      refine d_done ?_
      refine p_seqN ?_
      refine v_condY rfl rfl ?_
      refine v_seq ?_
      refine v_ops ?_
      refine s_pure (.slice none 0 0) (fun _ q => q) ?_
      refine s_pure (.bool false) (fun _ q => q) ?_
      refine s_nil ?_
      refine p_seqN ?_
      refine v_ret ?_
      refine p_seqR ?_
      refine p_ret [.slice none 0 0, .bool false] (.tuple #[.slice none 0 0, .bool false]) (fun _ q => q) rfl ?_
      have ho : (addOut n l x) = ([], false) := by first | exact add_no (fun h => by first | exact (by assumption : ¬ NetOk n) h.hn | exact (by assumption : ¬ FogsOk _ _) h.hf | exact (by assumption : ¬ FogOk _ _) h.hx) | exact add_no (fun h => (by assumption : ¬ FogsOk _ (adR _)) ((add_test h.hf h.hx).2 h.h60)) | exact add_yes (adR_test (by assumption) (by assumption : FogsOk n.links.length l) (by assumption : FogOk n.links.length x) (by assumption))
      exact ⟨(.slice none 0 0), by first | (rw [ho]; done) | rfl, sl_eq (SlX.nil (α := FogD) true _) (congrArg (fun o => o.1) ho).symm, Fr.nil _, E22⟩
    ·
      have c25 := Classical.not_not.1 c25
      refine d_runT rfl ?_
      refine d_loadT (.agg #[v_n_towers, v_n_links]) (fun _ q => f9.takeA (by simp) rfl q) ?_
      refine d_runO rfl ?_
      have f26 := ((bxb5.ext eh12).ext eh21)
      refine d_loadO (.agg #[.int .i64 x.link, .int .i64 x.fr, .int .i64 x.til]) (fun _ q => f26.loadA rfl q) ?_
      refine d_runO rfl ?_
      refine d_eff ?_
      have f27 := (f18.ext eh21)
      have f28 := (f19.ext eh21)
      refine s_call [.agg #[v_n_towers, v_n_links], .agg #[.int .i64 x.link, .int .i64 x.fr, .int .i64 x.til]] rfl (spec_fgFog_ok n v_n_towers v_n_links x _ f27 f28) ?_
      rintro _ h29 ⟨rfl, eh29⟩
      have E30 := E22.trans eh29
      have z31 := eh29.size
      have G32 := G24.trans eh29
      refine s_nil ⟨fun _ x hx => G32.blk x (by simp at hx; omega), ?_⟩
      refine d_runT rfl ?_
      refine d_pureT (.bool (!(decide (FogOk n.links.length x)))) (fun _ q => q) ?_
      refine d_pureT (.bool (!(decide (FogOk n.links.length x)))) (fun _ q => q) ?_
      refine d_pureT (.bool (!(decide (FogOk n.links.length x)))) (fun _ q => q) ?_
      refine d_splitT rfl (fun c33 => ?_) (fun c33 => ?_)
      ·
        refine d_passT rfl ?_
        refine d_passT rfl ?_
        refine d_passO rfl ?_
        refine d_passO rfl ?_
        refine d_passO rfl ?_
        refine d_passT rfl ?_
        refine d_pureT (.bool true) (fun _ q => q) ?_
        refine d_done ?_
        refine p_seqN ?_
        refine v_condY rfl rfl ?_
        refine v_seq ?_
        refine v_ops ?_
        refine s_pure (.slice none 0 0) (fun _ q => q) ?_
        refine s_pure (.bool false) (fun _ q => q) ?_
        refine s_nil ?_
        refine p_seqN ?_
        refine v_ret ?_
        refine p_seqR ?_
        refine p_ret [.slice none 0 0, .bool false] (.tuple #[.slice none 0 0, .bool false]) (fun _ q => q) rfl ?_
        have ho : (addOut n l x) = ([], false) := by first | exact add_no (fun h => by first | exact (by assumption : ¬ NetOk n) h.hn | exact (by assumption : ¬ FogsOk _ _) h.hf | exact (by assumption : ¬ FogOk _ _) h.hx) | exact add_no (fun h => (by assumption : ¬ FogsOk _ (adR _)) ((add_test h.hf h.hx).2 h.h60)) | exact add_yes (adR_test (by assumption) (by assumption : FogsOk n.links.length l) (by assumption : FogOk n.links.length x) (by assumption))
        exact ⟨(.slice none 0 0), by first | (rw [ho]; done) | rfl, sl_eq (SlX.nil (α := FogD) true _) (congrArg (fun o => o.1) ho).symm, Fr.nil _, E30⟩
      ·
        have c33 := Classical.not_not.1 c33
        refine d_runT rfl ?_
        refine d_pureT v_l (fun _ q => q) ?_
        refine d_runT rfl ?_
        refine d_loadT (.agg #[v_n_towers, v_n_links]) (fun _ q => f9.takeA (by simp) rfl q) ?_
        refine d_runO rfl ?_
        have f34 := (f26.ext eh29)
        refine d_loadO (.agg #[.int .i64 x.link, .int .i64 x.fr, .int .i64 x.til]) (fun _ q => f34.loadA rfl q) ?_
        refine d_runO rfl ?_
        refine d_eff ?_
        have f35 := ((f20.ext eh21).ext eh29)
        refine s_call [v_l, .agg #[.int .i64 x.link, .int .i64 x.fr, .int .i64 x.til]] rfl (spec_fgAdd_ok v_l l x _ f35 _ (by assumption : FogsOk n.links.length l) (by assumption : FogOk n.links.length x)) ?_
        rintro r36 h37 ⟨_, rfl, s_r36, fr_r36, eh37⟩
        have E38 := E30.trans eh37
        have z39 := eh37.size
        have G40 := G32.trans eh37
        have lt_r36 := s_r36.lt
        refine s_nil ⟨fun _ x hx => G40.blk x (by simp at hx; omega), ?_⟩
        refine d_runO rfl ?_
        refine d_eff ?_
        have f41 := ((f27.ext eh29).ext eh37)
        have f42 := ((f28.ext eh29).ext eh37)
        refine s_call [.agg #[v_n_towers, v_n_links], r36] rfl (spec_fgGood_ok n v_n_towers v_n_links r36 (adR (ad x l)) _ f41 f42 s_r36.toSl) ?_
        rintro _ h43 ⟨rfl, eh43⟩
        have E44 := E38.trans eh43
        have z45 := eh43.size
        have G46 := G40.trans eh43
        refine s_nil ⟨fun hl => (by cases hl), ?_⟩
        refine d_runT rfl ?_
        refine d_pureT (.bool (!(decide (FogsOk n.links.length (adR (ad x l)))))) (fun _ q => q) ?_
        refine d_pureT (.bool (!(decide (FogsOk n.links.length (adR (ad x l)))))) (fun _ q => q) ?_
        refine d_done ?_
        refine p_seqN ?_
        refine v_cond rfl (fun c47 => ?_) (fun c47 => ?_)
        ·
          refine v_seq ?_
          refine v_ops ?_
          refine s_pure (.slice none 0 0) (fun _ q => q) ?_
          refine s_pure (.bool false) (fun _ q => q) ?_
          refine s_nil ?_
          refine p_seqN ?_
          refine v_ret ?_
          refine p_seqR ?_
          refine p_ret [.slice none 0 0, .bool false] (.tuple #[.slice none 0 0, .bool false]) (fun _ q => q) rfl ?_
          have ho : (addOut n l x) = ([], false) := by first | exact add_no (fun h => by first | exact (by assumption : ¬ NetOk n) h.hn | exact (by assumption : ¬ FogsOk _ _) h.hf | exact (by assumption : ¬ FogOk _ _) h.hx) | exact add_no (fun h => (by assumption : ¬ FogsOk _ (adR _)) ((add_test h.hf h.hx).2 h.h60)) | exact add_yes (adR_test (by assumption) (by assumption : FogsOk n.links.length l) (by assumption : FogOk n.links.length x) (by assumption))
          exact ⟨(.slice none 0 0), by first | (rw [ho]; done) | rfl, sl_eq (SlX.nil (α := FogD) true _) (congrArg (fun o => o.1) ho).symm, Fr.nil _, E44⟩
        ·
          have c47 := Classical.not_not.1 c47
          refine v_skip ?_
          refine p_seqN ?_
          refine v_seq ?_
          refine v_ops ?_
          refine s_pure v_l (fun _ q => q) ?_
          have f48 := ((f34.ext eh37).ext eh43)
          refine s_load (.agg #[.int .i64 x.link, .int .i64 x.fr, .int .i64 x.til]) (fun _ q => f48.loadA rfl q) ?_
          have f49 := ((f35.ext eh37).ext eh43)
          refine s_call [v_l, .agg #[.int .i64 x.link, .int .i64 x.fr, .int .i64 x.til]] rfl (spec_fgAdd_ok v_l l x _ f49 _ (by assumption : FogsOk n.links.length l) (by assumption : FogOk n.links.length x)) ?_
          rintro r50 h51 ⟨_, rfl, s_r50, fr_r50, eh51⟩
          have E52 := E44.trans eh51
          have z53 := eh51.size
          have lt_r50 := s_r50.lt
          refine s_pure r50 (fun _ q => q) ?_
          refine s_pure (.bool true) (fun _ q => q) ?_
          refine s_nil ?_
          refine p_seqN ?_
          refine v_ret ?_
          refine p_ret [r50, .bool true] (.tuple #[r50, .bool true]) (fun _ q => q) rfl ?_
          have ho : (addOut n l x) = ((adR (ad x l)), true) := by first | exact add_no (fun h => by first | exact (by assumption : ¬ NetOk n) h.hn | exact (by assumption : ¬ FogsOk _ _) h.hf | exact (by assumption : ¬ FogOk _ _) h.hx) | exact add_no (fun h => (by assumption : ¬ FogsOk _ (adR _)) ((add_test h.hf h.hx).2 h.h60)) | exact add_yes (adR_test (by assumption) (by assumption : FogsOk n.links.length l) (by assumption : FogOk n.links.length x) (by assumption))
          exact ⟨r50, by first | (rw [ho]; done) | rfl, sl_eq s_r50 (congrArg (fun o => o.1) ho).symm, fr_r50.mono (by omega), E52⟩

end Go.Proofs.Ythagdkmalchhgaa
