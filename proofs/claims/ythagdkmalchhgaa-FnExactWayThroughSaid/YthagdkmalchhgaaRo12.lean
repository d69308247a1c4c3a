/- Ways through a net. Condition: none. Printed in part by a program. -/
import Derived.Test.YthagdkmalchhgaaRo11
namespace Go.Proofs.Ythagdkmalchhgaa
open Go.Vc
set_option linter.all false

theorem WayAsk.elem {n : NetP} {l : List FogD} {a b t : Int} (h : WayAsk n l a b t) {i : Nat} {x : Int} (hx : (arrOf n l a t)[i]? = some x) : -1 ≤ x ∧ x ≤ 10960 := by
  have e := gI_get hx
  have := h.le (i : Int)
  omega
theorem arr_good {n : NetP} {l : List FogD} {a b t i : Int} {R : List Int} (hw : WayAsk n l a b t) (h : WV n l a (arrOf n l a t) b i R) (hne : i ≠ a) : ∃ p, Good n l (arrOf n l a t) i p := ⟨_, hw.arr.prev hw.hn h.tow.1 h.tow.2 h.pos hne⟩
theorem arr_top {n : NetP} {l : List FogD} {a b t : Int} (hw : WayAsk n l a b t) : ∀ v ∈ arrOf n l a t, v ≤ 20000 := by
  intro v hv
  obtain ⟨i, hi, rfl⟩ := List.getElem_of_mem hv
  have := hw.elem (List.getElem?_eq_getElem hi)
  omega

set_option maxRecDepth 10000 in
set_option maxHeartbeats 4000000 in
theorem impl_WayThrough_ok (n : NetP) (v_n_towers : Value) (v_n_links : Value) (v_l : Value) (l : List FogD) (a : Int) (b : Int) (t : Int) (h : Heap) (s_n_towers : Sl h v_n_towers n.towers) (s_n_links : Sl h v_n_links n.links) (s_l : Sl h v_l l) : Cn f_impl_WayThrough [.agg #[v_n_towers, v_n_links], v_l, .int .i64 a, .int .i64 b, .int .i64 t] h fun v h' => ∃ r0 : Value, v = .tuple #[r0, .bool ((wayOf n l a b t).2)] ∧ SlO h' r0 ((wayOf n l a b t).1) ∧ Fr h.size r0 ∧ Ext h h' := by
  have lt_n_towers := s_n_towers.lt
  have l63_n_towers := s_n_towers.len63
  have lt_n_links := s_n_links.lt
  have l63_n_links := s_n_links.len63
  have lt_l := s_l.lt
  have l63_l := s_l.len63
  refine calls_of r_impl_WayThrough ?_
  refine v_seq ?_
  refine v_ops ?_
  refine s_box [v_n_towers, v_n_links] rfl (fun h2 b1 hbb1 hzb1 eh2 bxb1 => ?_)
  have E3 := (Ext.refl h).trans eh2
  have z4 := eh2.size
  have lbb1 := bxb1.lt
  refine s_pure (.slice none 0 0) (fun _ q => q) ?_
  refine s_pure (.bool false) (fun _ q => q) ?_
  refine s_nil ?_
  refine p_seqN ?_
  refine v_seq ?_
  refine v_seq ?_
  refine v_ops ?_
  refine s_load (.agg #[v_n_towers, v_n_links]) (fun _ q => bxb1.loadA rfl q) ?_
  refine s_pure v_l (fun _ q => q) ?_
  refine s_pure (.int .i64 a) (fun _ q => q) ?_
  refine s_pure (.int .i64 b) (fun _ q => q) ?_
  refine s_pure (.int .i64 t) (fun _ q => q) ?_
  have f5 := (s_n_towers.ext eh2)
  have f6 := (s_n_links.ext eh2)
  have f7 := (s_l.ext eh2)
  refine s_call [.agg #[v_n_towers, v_n_links], v_l, .int .i64 a, .int .i64 b, .int .i64 t] rfl (impl_wayAsked_ok n v_n_towers v_n_links v_l l a b t _ f5 f6 f7) ?_
  rintro _ h8 ⟨rfl, eh8⟩
  have E9 := E3.trans eh8
  have z10 := eh8.size
  refine s_pure (.bool (!(decide (WayAsk n l a b t)))) (fun _ q => q) ?_
  refine s_nil ?_
  refine p_seqN ?_
  refine v_cond rfl (fun c11 => ?_) (fun c11 => ?_)
  ·
    refine v_seq ?_
    refine v_ops ?_
    refine s_pure (.slice none 0 0) (fun _ q => q) ?_
    refine s_pure (.bool false) (fun _ q => q) ?_
    refine s_nil ?_
    refine p_seqN ?_
    refine v_ret ?_
    refine p_seqR ?_
    refine p_ret [.slice none 0 0, .bool false] (.tuple #[.slice none 0 0, .bool false]) (fun _ q => q) rfl ?_
    have ho : (wayOf n l a b t) = ([], false) := by first | exact wayOf_no (by assumption) | exact wayOf_neg (by assumption : (arrOf n l a t)[b.toNat]? = some _) (by assumption) | exact wayOf_yes hw (by assumption : (arrOf n l a t)[b.toNat]? = some _) (by assumption) (hv.ends (by omega))
    exact ⟨(.slice none 0 0), by first | (rw [ho]; done) | rfl, sl_eq (SlX.nil (α := Int) true _) (congrArg (fun o => o.1) ho).symm, Fr.nil _, E9⟩
  ·
    have c11 := Classical.not_not.1 c11
    refine v_skip ?_
    refine p_seqN ?_
    refine v_seq ?_
    refine v_ops ?_
    have f12 := (bxb1.ext eh8)
    refine s_load (.agg #[v_n_towers, v_n_links]) (fun _ q => f12.loadA rfl q) ?_
    refine s_pure v_l (fun _ q => q) ?_
    refine s_pure (.int .i64 a) (fun _ q => q) ?_
    refine s_pure (.int .i64 t) (fun _ q => q) ?_
    have f13 := (f5.ext eh8)
    have f14 := (f6.ext eh8)
    have f15 := (f7.ext eh8)
    refine s_call [.agg #[v_n_towers, v_n_links], v_l, .int .i64 a, .int .i64 t] rfl (impl_arrivals_ok n v_n_towers v_n_links v_l l a t _ f13 f14 f15 _ (by assumption : WayAsk n l a b t).hn (by assumption : WayAsk n l a b t).hf (by assumption : WayAsk n l a b t).ha (by assumption : WayAsk n l a b t).ht) ?_
    rintro r16 h17 ⟨_, rfl, s_r16, fr_r16, eh17⟩
    have E18 := E9.trans eh17
    have z19 := eh17.size
    have lt_r16 := s_r16.lt
    refine s_pure r16 (fun _ q => q) ?_
    refine s_nil ?_
    refine p_seqN ?_
    refine v_seq ?_
    refine v_seq ?_
    refine v_ops ?_
    refine s_pure r16 (fun _ q => q) ?_
    refine s_pure (.int .i64 b) (fun _ q => q) ?_
    have hk20 : (b).toNat < (arrOf n l a t).length := (by (have h1 := (by assumption : WayAsk n l a b t).hb); rw [arrOf_len]; omega)
    obtain ⟨x21, hx21⟩ : ∃ x, (arrOf n l a t)[(b).toNat]? = some x := ⟨_, List.getElem?_eq_getElem hk20⟩
    refine s_pure (.pointer (some ⟨sblk r16, soff r16 + ((b).toNat) * 1, none⟩)) (fun _ q => s_r16.idx (k := (b).toNat) (by have := (by assumption : WayAsk n l a b t).hb; omega) hk20 q) ?_
    refine s_load (.int .i64 x21) (fun _ q => s_r16.load1 hx21 rfl q) ?_
    refine s_pure (.bool (decide (x21 < 0))) (fun _ q => q) ?_
    refine s_nil ?_
    refine p_seqN ?_
    refine v_cond rfl (fun c22 => ?_) (fun c22 => ?_)
    ·
      refine v_seq ?_
      refine v_ops ?_
      refine s_pure (.slice none 0 0) (fun _ q => q) ?_
      refine s_pure (.bool false) (fun _ q => q) ?_
      refine s_nil ?_
      refine p_seqN ?_
      refine v_ret ?_
      refine p_seqR ?_
      refine p_ret [.slice none 0 0, .bool false] (.tuple #[.slice none 0 0, .bool false]) (fun _ q => q) rfl ?_
      have ho : (wayOf n l a b t) = ([], false) := by first | exact wayOf_no (by assumption) | exact wayOf_neg (by assumption : (arrOf n l a t)[b.toNat]? = some _) (by assumption) | exact wayOf_yes hw (by assumption : (arrOf n l a t)[b.toNat]? = some _) (by assumption) (hv.ends (by omega))
      exact ⟨(.slice none 0 0), by first | (rw [ho]; done) | rfl, sl_eq (SlX.nil (α := Int) true _) (congrArg (fun o => o.1) ho).symm, Fr.nil _, E18⟩
    ·
      refine v_skip ?_
      refine p_seqN ?_
      refine v_seq ?_
      refine v_ops ?_
      refine s_pure (.int .i64 b) (fun _ q => q) ?_
      refine s_row (α := Int) [b] (fun _ q => seg_i rfl (seg_nil q)) rfl (by simp [maxLen]) (fun r23 h24 eh24 zh24 s_r23 fr_r23 => ?_)
      have E25 := E18.trans eh24
      have z26 := eh24.size
      have lt_r23 := s_r23.lt
      refine s_pure r23 (fun _ q => q) ?_
      refine s_nil ?_
      refine p_seqN ?_
      refine v_seq ?_
      refine v_seq ?_
      refine v_ops ?_
      refine s_pure (.int .i64 b) (fun _ q => q) ?_
      refine s_pure (.int .i64 b) (fun _ q => q) ?_
      refine s_nil ?_
      refine p_seqN ?_
      refine v_block ?_
      have hw : WayAsk n l a b t := by assumption
      have hbp := gI_at (by assumption : (arrOf n l a t)[b.toNat]? = some _)
      have hbl := hw.le b
      have f28 := ((f12.ext eh17).ext eh24)
      have f29 := (s_r16.ext eh24)
      refine v_loop3 (α := Int) (β := List Int) (γ := Value) (fun i o w => [(1, v_l), (2, .int .i64 a), (5, .pointer (some ⟨b1, 0, none⟩)), (12, r16), (13, w), (14, .int .i64 i)]) (fun i o w hh => Ext h hh ∧ Bx hh b1 [v_n_towers, v_n_links] 32 ∧ SlO hh r16 (arrOf n l a t) ∧ SlO hh w o ∧ Fr h.size w ∧ b1 ∉ blks w ∧ (∀ b ∈ blks r16, b ∉ blks w) ∧ WV n l a (arrOf n l a t) b i o.reverse) (fun i o w => (gI (arrOf n l a t) i).toNat) b [b] r23 ⟨rfl, rfl, rfl, rfl, rfl, rfl⟩ ⟨E25, f28, f29, (sl_eq s_r23 (by simp)), (fr_r23.mono (by omega)), (fun hc => by have := fr_r23 _ hc; omega), (fun b hb hc => by have := lt_r16 b hb; have := fr_r23 b hc; omega), (by first | (simpa using WV.start hw (by omega)) | exact WV.start hw (by omega))⟩ ?_
      rintro i o w R30 h27 ⟨Eh, bxb1, s_r16, s_w, fr_w, np_b1_w, np_r16_w, hv⟩
      have zEh := Eh.size
      have f31 := s_n_towers.ext Eh
      have f32 := s_n_links.ext Eh
      have f33 := s_l.ext Eh
      have lbb1 := bxb1.lt
      have ltk_r16 := s_r16.lt
      have lt_w := s_w.lt
      have htw := hv.tow
      have hln := hv.len
      simp only [List.length_reverse] at hln
      refine v_seq ?_
      refine v_seq ?_
      refine v_ops ?_
      refine s_pure (.int .i64 i) (fun _ q => q) ?_
      refine s_pure (.int .i64 a) (fun _ q => q) ?_
      refine s_pure (.bool (i != a)) (fun _ q => q) ?_
      refine s_nil ?_
      refine p_seqN ?_
      refine v_cond rfl (fun c34 => ?_) (fun c34 => ?_)
      ·
        refine v_skip ?_
        refine p_seqN ?_
        refine v_block ?_
        refine v_seq ?_
        refine v_seq ?_
        refine v_ops ?_
        refine s_pure (.pointer (some ⟨b1, 0, none⟩)) (fun _ q => q) ?_
        refine s_load v_n_towers (fun _ q => bxb1.load rfl q) ?_
        refine s_pure (.int .i64 (n.towers.length : Int)) (fun _ q => f31.lenVC q) ?_
        refine s_pure (.int .i64 0) (fun _ q => q) ?_
        refine s_nil ?_
        refine p_seqN ?_
        refine v_block ?_
        refine v_loop1 (α := Nat) (fun k => [(1, v_l), (2, .int .i64 a), (5, .pointer (some ⟨b1, 0, none⟩)), (12, r16), (13, w), (14, .int .i64 i), (42, .int .i64 (n.towers.length : Int)), (43, .int .i64 (k : Int))]) (fun k hh => Ext h hh ∧ Bx hh b1 [v_n_towers, v_n_links] 32 ∧ SlO hh r16 (arrOf n l a t) ∧ SlO hh w o ∧ k ≤ n.towers.length ∧ NoGood n l (arrOf n l a t) i k) (fun k => n.towers.length - k) 0 ⟨rfl, rfl, rfl, rfl, rfl, rfl, rfl, rfl⟩ ⟨Eh, bxb1, s_r16, s_w, (by exact ⟨by omega, fun q h0 hq => by omega⟩)⟩ ?_
        rintro k R36 h35 ⟨Eh, bxb1, s_r16, s_w, ⟨hk, hng⟩⟩
        have zEh := Eh.size
        have f37 := s_n_towers.ext Eh
        have f38 := s_n_links.ext Eh
        have f39 := s_l.ext Eh
        have lbb1 := bxb1.lt
        have ltk_r16 := s_r16.lt
        have ltk_w := s_w.lt
        refine v_seq ?_
        refine v_ops ?_
        refine s_pure (.bool (decide ((k : Int) < (n.towers.length : Int)))) (fun _ q => q) ?_
        refine s_nil ?_
        refine p_seqN ?_
        refine v_seq ?_
        refine v_cond rfl (fun c40 => ?_) (fun c40 => ?_)
        ·
          refine v_skip ?_
          refine p_seqN ?_
          refine v_seq ?_
          refine v_block ?_
          refine v_seq ?_
          refine v_ops ?_
          refine s_pure (.int .i64 (k : Int)) (fun _ q => q) ?_
          refine s_pure (.int .i64 (k : Int)) (fun _ q => q) ?_
          refine s_nil ?_
          refine p_seqN ?_
          refine v_seq ?_
          refine v_ops ?_
          refine s_load (.agg #[v_n_towers, v_n_links]) (fun _ q => bxb1.loadA rfl q) ?_
          refine s_pure (.int .i64 (k : Int)) (fun _ q => q) ?_
          refine s_pure (.int .i64 i) (fun _ q => q) ?_
          refine s_call [.agg #[v_n_towers, v_n_links], .int .i64 (k : Int), .int .i64 i] rfl (impl_linkIndex_ok n v_n_towers v_n_links (k : Int) i _ f37 f38 hw.hn) ?_
          rintro _ h41 ⟨rfl, eh41⟩
          have E42 := Eh.trans eh41
          have z43 := eh41.size
          refine s_pure (.int .i64 (lkI n (k : Int) i)) (fun _ q => q) ?_
          refine s_nil ?_
          refine p_seqN ?_
          refine v_seq ?_
          have f44 := (bxb1.ext eh41)
          have f45 := (s_r16.ext eh41)
          refine v_draw (DrawVC.hold ([b1] ++ blks r16) ?_)
          refine d_pureT (.int .i64 (lkI n (k : Int) i)) (fun _ q => q) ?_
          refine d_pureT (.bool (decide ((lkI n (k : Int) i) ≥ 0))) (fun _ q => q) ?_
          refine d_pureT (.bool (decide ((lkI n (k : Int) i) ≥ 0))) (fun _ q => q) ?_
          refine d_splitT rfl (fun c46 => ?_) (fun c46 => ?_)
          ·
            refine d_runT rfl ?_
            refine d_pureT r16 (fun _ q => q) ?_
            refine d_runT rfl ?_
            refine d_pureT (.int .i64 (k : Int)) (fun _ q => q) ?_
            refine d_runT rfl ?_
            have hk47 : k < (arrOf n l a t).length := (by first | (rw [arrOf_len]; omega) | omega)
            obtain ⟨x48, hx48⟩ : ∃ x, (arrOf n l a t)[k]? = some x := ⟨_, List.getElem?_eq_getElem hk47⟩
            refine d_pureT (.pointer (some ⟨sblk r16, soff r16 + k * 1, none⟩)) (fun _ q => f45.idx (k := k) rfl hk47 q) ?_
            refine d_runO rfl ?_
            refine d_loadO (.int .i64 x48) (fun _ q => f45.load1 hx48 rfl q) ?_
            refine d_runT rfl ?_
            refine d_pureT (.bool (decide (x48 ≥ 0))) (fun _ q => q) ?_
            refine d_pureT (.bool (decide (x48 ≥ 0))) (fun _ q => q) ?_
            refine d_pureT (.bool (decide (x48 ≥ 0))) (fun _ q => q) ?_
            refine d_splitT rfl (fun c49 => ?_) (fun c49 => ?_)
            ·
              refine d_runT rfl ?_
              refine d_pureT v_l (fun _ q => q) ?_
              refine d_runT rfl ?_
              refine d_pureT (.int .i64 (lkI n (k : Int) i)) (fun _ q => q) ?_
              refine d_runT rfl ?_
              refine d_pureT r16 (fun _ q => q) ?_
              refine d_runT rfl ?_
              refine d_pureT (.int .i64 (k : Int)) (fun _ q => q) ?_
              refine d_runT rfl ?_
              refine d_pureT (.pointer (some ⟨sblk r16, soff r16 + k * 1, none⟩)) (fun _ q => f45.idx (k := k) rfl hk47 q) ?_
              refine d_runT rfl ?_
              refine d_pureT r16 (fun _ q => q) ?_
              refine d_runT rfl ?_
              refine d_pureT (.int .i64 i) (fun _ q => q) ?_
              refine d_runT rfl ?_
              have hk50 : (i).toNat < (arrOf n l a t).length := (by rw [arrOf_len]; omega)
              obtain ⟨x51, hx51⟩ : ∃ x, (arrOf n l a t)[(i).toNat]? = some x := ⟨_, List.getElem?_eq_getElem hk50⟩
              refine d_pureT (.pointer (some ⟨sblk r16, soff r16 + ((i).toNat) * 1, none⟩)) (fun _ q => f45.idx (k := (i).toNat) (by omega) hk50 q) ?_
              refine d_runT rfl ?_
              refine d_loadT (.agg #[v_n_towers, v_n_links]) (fun _ q => f44.takeA (by simp) rfl q) ?_
              refine d_runT rfl ?_
              refine d_loadT (.int .i64 x48) (fun _ q => f45.take1 (fun b hb => by simp [hb]) hx48 rfl q) ?_
              refine d_runT rfl ?_
              refine d_loadT (.int .i64 x51) (fun _ q => f45.take1 (fun b hb => by simp [hb]) hx51 rfl q) ?_
              refine d_runO rfl ?_
              refine d_eff ?_
              have f52 := (f37.ext eh41)
              have f53 := (f38.ext eh41)
              have f54 := (f39.ext eh41)
              refine s_call [.agg #[v_n_towers, v_n_links], v_l, .int .i64 (lkI n (k : Int) i), .int .i64 x48] rfl (impl_goOver_ok n v_n_towers v_n_links v_l l (lkI n (k : Int) i) x48 _ f52 f53 f54 _ hw.hn hw.hf ⟨by omega, (lkI_bd hw.hn _ _).2⟩ (by have := hw.elem (by assumption : (arrOf n l a t)[k]? = some _); omega)) ?_
              rintro _ h55 ⟨rfl, eh55⟩
              have E56 := E42.trans eh55
              have z57 := eh55.size
              have G58 := eh55
              refine s_nil ⟨fun _ x hx => G58.blk x (by simp at hx; rcases hx with hx | hx <;> first | omega | (have := ltk_r16 x hx; omega)), ?_⟩
              refine d_runT rfl ?_
              refine d_pureT (.bool ((over l (lkI n (k : Int) i) (lk n (lkI n (k : Int) i)) x48) == x51)) (fun _ q => q) ?_
              refine d_pureT (.bool ((over l (lkI n (k : Int) i) (lk n (lkI n (k : Int) i)) x48) == x51)) (fun _ q => q) ?_
              refine d_done ?_
              refine p_seqN ?_
              refine v_cond rfl (fun c59 => ?_) (fun c59 => ?_)
              ·
                refine v_seq ?_
                refine v_ops ?_
                refine s_pure (.int .i64 (k : Int)) (fun _ q => q) ?_
                refine s_pure (.int .i64 (k : Int)) (fun _ q => q) ?_
                refine s_nil ?_
                refine p_seqN ?_
                refine v_exit ?_
                refine p_blkY rfl ?_
                refine p_seqX ?_
                refine p_lpX ?_
                refine p_blkX ?_
                refine p_seqN ?_
                refine v_ops ?_
                refine s_pure w (fun _ q => q) ?_
                refine s_pure (.int .i64 (k : Int)) (fun _ q => q) ?_
                refine s_row (α := Int) [(k : Int)] (fun _ q => seg_i rfl (seg_nil q)) rfl (by simp [maxLen]) (fun r60 h61 eh61 zh61 s_r60 fr_r60 => ?_)
                have E62 := E56.trans eh61
                have z63 := eh61.size
                have lt_r60 := s_r60.lt
                have f64 := (((s_w.ext eh41).ext eh55).ext eh61)
                refine s_app f64 s_r60 rfl rfl rfl (by simp [maxLen]; omega) (by simp; omega) (fun r65 h66 mh66 zh66 s_r65 ab_r65 => ?_)
                have E67 := E62.mod mh66 (fun b hb => by have := fr_w b hb; omega)
                have fr_r65 := fr_w.app ab_r65 (by omega)
                have np68 : b1 ∉ blks r65 := fun hc => (ab_r65 _ hc).elim np_b1_w (fun hc => by omega)
                have np69 : ∀ b ∈ blks r16, b ∉ blks r65 := fun b hb hc => (ab_r65 _ hc).elim ((np_r16_w : ∀ b ∈ blks r16, b ∉ blks w) b hb) (fun hc => by have := ltk_r16 b hb; omega)
                have np70 : ∀ b ∈ blks r16, b ∉ blks r65 := fun b hb hc => (ab_r65 _ hc).elim ((np_r16_w : ∀ b ∈ blks r16, b ∉ blks w) b hb) (fun hc => by have := ltk_r16 b hb; omega)
                have np71 : ∀ b ∈ blks r60, b ∉ blks r65 := fun b hb hc => (ab_r65 _ hc).elim (((fun b hb hc => by have := fr_r60 b hb; have := ltk_w b hc; omega) : ∀ b ∈ blks r60, b ∉ blks w) b hb) (fun hc => by have := lt_r60 b hb; omega)
                have lt_r65 := s_r65.lt
                refine s_pure r65 (fun _ q => q) ?_
                refine s_nil ?_
                refine p_blkN ?_
                have f72 := (((f44.ext eh55).ext eh61).mod mh66 np_b1_w)
                have f73 := (((f45.ext eh55).ext eh61).mod mh66 np_r16_w)
                exact p_lpN ⟨(k : Int), (o ++ [(k : Int)]), r65, ⟨rfl, rfl, rfl, rfl, rfl, rfl⟩, ⟨E67, f72, f73, (sl_eq s_r65 (by simp)), (fr_r65.mono (by omega)), np68, np70, (by first | exact noGood_all hw hv (by assumption) hng (by omega) | ((have hp := prevOf_good (by omega) (good_at hw.hn (by assumption : (arrOf n l a t)[k]? = some _) (by assumption : (arrOf n l a t)[i.toNat]? = some _) (by assumption) (by assumption) (by assumption)) hng); rw [List.reverse_append]; exact (hv.step hw (by assumption) hp).1))⟩, by first | exact noGood_all hw hv (by assumption) hng (by omega) | ((have hp := prevOf_good (by omega) (good_at hw.hn (by assumption : (arrOf n l a t)[k]? = some _) (by assumption : (arrOf n l a t)[i.toNat]? = some _) (by assumption) (by assumption) (by assumption)) hng); exact (hv.step hw (by assumption) hp).2)⟩
              ·
                refine v_skip ?_
                refine p_blkN ?_
                refine p_seqN ?_
                refine v_ops ?_
                refine s_pure (.int .i64 ((k : Int) + 1)) (fun _ q => ArithVC.mk (by omega) q) ?_
                refine s_pure (.int .i64 ((k : Int) + 1)) (fun _ q => q) ?_
                refine s_nil ?_
                have f74 := (f44.ext eh55)
                have f75 := (f45.ext eh55)
                have f76 := ((s_w.ext eh41).ext eh55)
                exact p_lpN ⟨k + 1, ⟨rfl, rfl, rfl, rfl, rfl, rfl, rfl, rfl⟩, ⟨E56, f74, f75, f76, (by first | exact ⟨by omega, noGood1 hw.hn hng (by assumption)⟩ | exact ⟨by omega, noGood2 hw.hn hng (by assumption : (arrOf n l a t)[k]? = some _) (by assumption)⟩ | exact ⟨by omega, noGood3 hw.hn hng (by assumption : (arrOf n l a t)[k]? = some _) (by assumption : (arrOf n l a t)[i.toNat]? = some _) (by assumption)⟩)⟩, by omega⟩
            ·
              refine d_passT rfl ?_
              refine d_passT rfl ?_
              refine d_passT rfl ?_
              refine d_passT rfl ?_
              refine d_passT rfl ?_
              refine d_passT rfl ?_
              refine d_passT rfl ?_
              refine d_passT rfl ?_
              refine d_passT rfl ?_
              refine d_passT rfl ?_
              refine d_passT rfl ?_
              refine d_passO rfl ?_
              refine d_passT rfl ?_
              refine d_pureT (.bool false) (fun _ q => q) ?_
              refine d_done ?_
              refine p_seqN ?_
              refine v_condN rfl (by simp) ?_
              refine v_skip ?_
              refine p_blkN ?_
              refine p_seqN ?_
              refine v_ops ?_
              refine s_pure (.int .i64 ((k : Int) + 1)) (fun _ q => ArithVC.mk (by omega) q) ?_
              refine s_pure (.int .i64 ((k : Int) + 1)) (fun _ q => q) ?_
              refine s_nil ?_
              have f77 := (s_w.ext eh41)
              exact p_lpN ⟨k + 1, ⟨rfl, rfl, rfl, rfl, rfl, rfl, rfl, rfl⟩, ⟨E42, f44, f45, f77, (by first | exact ⟨by omega, noGood1 hw.hn hng (by assumption)⟩ | exact ⟨by omega, noGood2 hw.hn hng (by assumption : (arrOf n l a t)[k]? = some _) (by assumption)⟩ | exact ⟨by omega, noGood3 hw.hn hng (by assumption : (arrOf n l a t)[k]? = some _) (by assumption : (arrOf n l a t)[i.toNat]? = some _) (by assumption)⟩)⟩, by omega⟩
          ·
            refine d_passT rfl ?_
            refine d_passT rfl ?_
            refine d_passT rfl ?_
            refine d_passO rfl ?_
            refine d_passT rfl ?_
            refine d_pureT (.bool false) (fun _ q => q) ?_
            refine d_pureT (.bool false) (fun _ q => q) ?_
            refine d_splitN rfl (by simp) ?_
            refine d_passT rfl ?_
            refine d_passT rfl ?_
            refine d_passT rfl ?_
            refine d_passT rfl ?_
            refine d_passT rfl ?_
            refine d_passT rfl ?_
            refine d_passT rfl ?_
            refine d_passT rfl ?_
            refine d_passT rfl ?_
            refine d_passT rfl ?_
            refine d_passT rfl ?_
            refine d_passO rfl ?_
            refine d_passT rfl ?_
            refine d_pureT (.bool false) (fun _ q => q) ?_
            refine d_done ?_
            refine p_seqN ?_
            refine v_condN rfl (by simp) ?_
            refine v_skip ?_
            refine p_blkN ?_
            refine p_seqN ?_
            refine v_ops ?_
            refine s_pure (.int .i64 ((k : Int) + 1)) (fun _ q => ArithVC.mk (by omega) q) ?_
            refine s_pure (.int .i64 ((k : Int) + 1)) (fun _ q => q) ?_
            refine s_nil ?_
            have f78 := (s_w.ext eh41)
            exact p_lpN ⟨k + 1, ⟨rfl, rfl, rfl, rfl, rfl, rfl, rfl, rfl⟩, ⟨E42, f44, f45, f78, (by first | exact ⟨by omega, noGood1 hw.hn hng (by assumption)⟩ | exact ⟨by omega, noGood2 hw.hn hng (by assumption : (arrOf n l a t)[k]? = some _) (by assumption)⟩ | exact ⟨by omega, noGood3 hw.hn hng (by assumption : (arrOf n l a t)[k]? = some _) (by assumption : (arrOf n l a t)[i.toNat]? = some _) (by assumption)⟩)⟩, by omega⟩
        ·
          refine v_exit ?_
          refine p_seqX ?_
          refine p_lpX ?_
          refine p_blkX ?_
          refine p_seqN ?_
          refine v_ops ?_
          refine s_pure w (fun _ q => q) ?_
          refine s_pure (.int .i64 i) (fun _ q => q) ?_
          refine s_row (α := Int) [i] (fun _ q => seg_i rfl (seg_nil q)) rfl (by simp [maxLen]) (fun r79 h80 eh80 zh80 s_r79 fr_r79 => ?_)
          have E81 := Eh.trans eh80
          have z82 := eh80.size
          have lt_r79 := s_r79.lt
          have f83 := (s_w.ext eh80)
          refine s_app f83 s_r79 rfl rfl rfl (by simp [maxLen]; omega) (by simp; omega) (fun r84 h85 mh85 zh85 s_r84 ab_r84 => ?_)
          have E86 := E81.mod mh85 (fun b hb => by have := fr_w b hb; omega)
          have fr_r84 := fr_w.app ab_r84 (by omega)
          have np87 : b1 ∉ blks r84 := fun hc => (ab_r84 _ hc).elim np_b1_w (fun hc => by omega)
          have np88 : ∀ b ∈ blks r16, b ∉ blks r84 := fun b hb hc => (ab_r84 _ hc).elim ((np_r16_w : ∀ b ∈ blks r16, b ∉ blks w) b hb) (fun hc => by have := ltk_r16 b hb; omega)
          have np89 : ∀ b ∈ blks r16, b ∉ blks r84 := fun b hb hc => (ab_r84 _ hc).elim ((np_r16_w : ∀ b ∈ blks r16, b ∉ blks w) b hb) (fun hc => by have := ltk_r16 b hb; omega)
          have np90 : ∀ b ∈ blks r79, b ∉ blks r84 := fun b hb hc => (ab_r84 _ hc).elim (((fun b hb hc => by have := fr_r79 b hb; have := ltk_w b hc; omega) : ∀ b ∈ blks r79, b ∉ blks w) b hb) (fun hc => by have := lt_r79 b hb; omega)
          have lt_r84 := s_r84.lt
          refine s_pure r84 (fun _ q => q) ?_
          refine s_nil ?_
          refine p_blkN ?_
          have f91 := ((bxb1.ext eh80).mod mh85 np_b1_w)
          have f92 := ((s_r16.ext eh80).mod mh85 np_r16_w)
          exact p_lpN ⟨i, (o ++ [i]), r84, ⟨rfl, rfl, rfl, rfl, rfl, rfl⟩, ⟨E86, f91, f92, (sl_eq s_r84 (by simp)), (fr_r84.mono (by omega)), np87, np89, (by first | exact noGood_all hw hv (by assumption) hng (by omega) | ((have hp := prevOf_good (by omega) (good_at hw.hn (by assumption : (arrOf n l a t)[k]? = some _) (by assumption : (arrOf n l a t)[i.toNat]? = some _) (by assumption) (by assumption) (by assumption)) hng); rw [List.reverse_append]; exact (hv.step hw (by assumption) hp).1))⟩, by first | exact noGood_all hw hv (by assumption) hng (by omega) | ((have hp := prevOf_good (by omega) (good_at hw.hn (by assumption : (arrOf n l a t)[k]? = some _) (by assumption : (arrOf n l a t)[i.toNat]? = some _) (by assumption) (by assumption) (by assumption)) hng); exact (hv.step hw (by assumption) hp).2)⟩
      ·
        have c34 := Classical.not_not.1 c34
        refine v_exit ?_
        refine p_seqX ?_
        refine p_lpX ?_
        refine p_blkX ?_
        refine p_seqN ?_
        refine v_seq ?_
        refine v_ops ?_
        refine s_pure w (fun _ q => q) ?_
        refine s_call [w] rfl (slices_Reverse_Lint_int_ok w o _ s_w (by omega)) ?_
        rintro _ h93 ⟨rfl, s94, mh93, zh93⟩
        have E95 := Eh.mod mh93 (fun b hb => by have := fr_w b hb; omega)
        refine s_nil ?_
        refine p_seqN ?_
        refine v_seq ?_
        refine v_ops ?_
        refine s_pure w (fun _ q => q) ?_
        refine s_pure w (fun _ q => q) ?_
        refine s_pure (.bool true) (fun _ q => q) ?_
        refine s_nil ?_
        refine p_seqN ?_
        refine v_ret ?_
        refine p_ret [w, .bool true] (.tuple #[w, .bool true]) (fun _ q => q) rfl ?_
        have ho : (wayOf n l a b t) = (o.reverse, true) := by first | exact wayOf_no (by assumption) | exact wayOf_neg (by assumption : (arrOf n l a t)[b.toNat]? = some _) (by assumption) | exact wayOf_yes hw (by assumption : (arrOf n l a t)[b.toNat]? = some _) (by assumption) (hv.ends (by omega))
        exact ⟨w, by first | (rw [ho]; done) | rfl, sl_eq s94 (congrArg (fun o => o.1) ho).symm, fr_w.mono (by omega), E95⟩

set_option maxRecDepth 10000 in
set_option maxHeartbeats 4000000 in
theorem spec_roBefore_ok (n : NetP) (v_n_towers : Value) (v_n_links : Value) (v_l : Value) (l : List FogD) (v_first : Value) (first : List Int) (b : Int) (h : Heap) (s_n_towers : Sl h v_n_towers n.towers) (s_n_links : Sl h v_n_links n.links) (s_l : Sl h v_l l) (s_first : Sl h v_first first) (m : Nat) (hn : NetOk n) (hf : FogsOk m l) (hl : first.length = n.towers.length) (hb : 0 ≤ b ∧ b ≤ (n.towers.length : Int) - 1) (hv : ∀ v ∈ first, v ≤ 20000) (hex : ∃ p, Good n l first b p) : Cn f_spec_roBefore [.agg #[v_n_towers, v_n_links], v_l, v_first, .int .i64 b] h fun v h' => v = .int .i64 (prevOf n l first b) ∧ Ext h h' := by
  have lt_n_towers := s_n_towers.lt
  have l63_n_towers := s_n_towers.len63
  have lt_n_links := s_n_links.lt
  have l63_n_links := s_n_links.len63
  have lt_l := s_l.lt
  have l63_l := s_l.len63
  have lt_first := s_first.lt
  have l63_first := s_first.len63
  refine calls_of r_spec_roBefore ?_
  refine v_seq ?_
  refine v_ops ?_
  refine s_box [v_n_towers, v_n_links] rfl (fun h2 b1 hbb1 hzb1 eh2 bxb1 => ?_)
  have E3 := (Ext.refl h).trans eh2
  have z4 := eh2.size
  have lbb1 := bxb1.lt
  refine s_pure (.int .i64 0) (fun _ q => q) ?_
  refine s_nil ?_
  refine p_seqN ?_
  refine v_seq ?_
  refine v_ops ?_
  refine s_pure (.int .i64 (-1)) (fun _ q => q) ?_
  refine s_nil ?_
  refine p_seqN ?_
  refine v_seq ?_
  refine v_seq ?_
  refine v_ops ?_
  refine s_pure (.pointer (some ⟨b1, 1, none⟩)) (fun _ q => q) ?_
  refine s_load v_n_links (fun _ q => bxb1.load rfl q) ?_
  refine s_pure (.int .i64 (n.links.length : Int)) (fun _ q => s_n_links.lenVC q) ?_
  refine s_pure (.int .i64 0) (fun _ q => q) ?_
  refine s_nil ?_
  refine p_seqN ?_
  refine v_block ?_
  refine v_loop2 (α := Nat) (β := Int) (fun k c => [(1, v_l), (2, v_first), (3, .int .i64 b), (4, .pointer (some ⟨b1, 0, none⟩)), (9, .int .i64 c), (14, v_n_links), (15, .int .i64 (n.links.length : Int)), (16, .int .i64 (k : Int))]) (fun k c hh => Ext h hh ∧ Bx hh b1 [v_n_towers, v_n_links] 32 ∧ k ≤ n.links.length ∧ Bst n l first b k c) (fun k c => n.links.length - k) 0 (-1) ⟨rfl, rfl, rfl, rfl, rfl, rfl, rfl, rfl⟩ ⟨E3, bxb1, (by exact ⟨by omega, Bst.start n l first b⟩)⟩ ?_
  rintro k c R6 h5 ⟨Eh, bxb1, ⟨hk, hB⟩⟩
  have zEh := Eh.size
  have f7 := s_n_towers.ext Eh
  have f8 := s_n_links.ext Eh
  have f9 := s_l.ext Eh
  have f10 := s_first.ext Eh
  have lbb1 := bxb1.lt
  refine v_seq ?_
  refine v_ops ?_
  refine s_pure (.bool (decide ((k : Int) < (n.links.length : Int)))) (fun _ q => q) ?_
  refine s_nil ?_
  refine p_seqN ?_
  refine v_seq ?_
  refine v_cond rfl (fun c11 => ?_) (fun c11 => ?_)
  ·
    refine v_skip ?_
    refine p_seqN ?_
    refine v_seq ?_
    refine v_block ?_
    refine v_seq ?_
    refine v_ops ?_
    refine s_pure (.int .i64 (k : Int)) (fun _ q => q) ?_
    have hk12 : k < n.links.length := (by first | omega | (simp; omega))
    obtain ⟨x13, hx13⟩ : ∃ x, n.links[k]? = some x := ⟨_, List.getElem?_eq_getElem hk12⟩
    refine s_pure (.pointer (some ⟨sblk v_n_links, soff v_n_links + k * 3, none⟩)) (fun _ q => f8.idx (k := k) rfl hk12 q) ?_
    refine s_load (.agg #[.int .i64 x13.a, .int .i64 x13.b, .int .i64 x13.delay]) (fun _ q => f8.loadN hx13 rfl q) ?_
    refine s_new (fun h15 b14 hbb14 hzb14 eh15 bxb14 => ?_)
    have E16 := Eh.trans eh15
    have z17 := eh15.size
    have lbb14 := bxb14.lt
    refine s_pure (.int .i64 (k : Int)) (fun _ q => q) ?_
    refine s_stBx (.agg #[.int .i64 x13.a, .int .i64 x13.b, .int .i64 x13.delay]) [.int .i64 x13.a, .int .i64 x13.b, .int .i64 x13.delay] [.int .i64 x13.a, .int .i64 x13.b, .int .i64 x13.delay] bxb14 rfl rfl rfl rfl (by simp) (all_cons rfl (all_cons rfl (all_cons rfl all_nil))) rfl (fun h18 mh18 sh18 bxx19 => ?_)
    have E20 := E16.mod mh18 (fun b hb => by simp at hb; omega)
    refine s_nil ?_
    refine p_seqN ?_
    refine v_seq ?_
    refine v_ops ?_
    refine s_load (.agg #[.int .i64 x13.a, .int .i64 x13.b, .int .i64 x13.delay]) (fun _ q => bxx19.loadA rfl q) ?_
    refine s_pure (.int .i64 b) (fun _ q => q) ?_
    refine s_call [.agg #[.int .i64 x13.a, .int .i64 x13.b, .int .i64 x13.delay], .int .i64 b] rfl (spec_roOther_ok x13 b _ ) ?_
    rintro _ h21 ⟨rfl, eh21⟩
    have E22 := E20.trans eh21
    have z23 := eh21.size
    refine s_pure (.int .i64 (othr x13 b)) (fun _ q => q) ?_
    refine s_nil ?_
    refine p_seqN ?_
    refine v_seq ?_
    have f24 := (((bxb1.ext eh15).mod mh18 (by simp; omega)).ext eh21)
    have f25 := (((f10.ext eh15).mod mh18 (fun b hb hc => by simp at hc; have := lt_first b hb; omega)).ext eh21)
    refine v_draw (DrawVC.hold ([b1] ++ blks v_first) ?_)
    refine d_pureT (.int .i64 (othr x13 b)) (fun _ q => q) ?_
    refine d_pureT (.bool (decide ((othr x13 b) ≥ 0))) (fun _ q => q) ?_
    refine d_pureT (.bool (decide ((othr x13 b) ≥ 0))) (fun _ q => q) ?_
    refine d_splitT rfl (fun c26 => ?_) (fun c26 => ?_)
    ·
      refine d_runT rfl ?_
      refine d_pureT v_first (fun _ q => q) ?_
      refine d_runT rfl ?_
      refine d_pureT (.int .i64 (othr x13 b)) (fun _ q => q) ?_
      refine d_runT rfl ?_
      have hk27 : ((othr x13 b)).toNat < first.length := (by have := othr_bd (hn.at hx13) b; omega)
      obtain ⟨x28, hx28⟩ : ∃ x, first[((othr x13 b)).toNat]? = some x := ⟨_, List.getElem?_eq_getElem hk27⟩
      refine d_pureT (.pointer (some ⟨sblk v_first, soff v_first + (((othr x13 b)).toNat) * 1, none⟩)) (fun _ q => f25.idx (k := ((othr x13 b)).toNat) (by omega) hk27 q) ?_
      refine d_runO rfl ?_
      refine d_loadO (.int .i64 x28) (fun _ q => f25.load1 hx28 rfl q) ?_
      refine d_runT rfl ?_
      refine d_pureT (.bool (decide (x28 ≥ 0))) (fun _ q => q) ?_
      refine d_pureT (.bool (decide (x28 ≥ 0))) (fun _ q => q) ?_
      refine d_pureT (.bool (decide (x28 ≥ 0))) (fun _ q => q) ?_
      refine d_splitT rfl (fun c29 => ?_) (fun c29 => ?_)
      ·
        refine d_runT rfl ?_
        refine d_pureT v_l (fun _ q => q) ?_
        refine d_runT rfl ?_
        refine d_pureT (.int .i64 (k : Int)) (fun _ q => q) ?_
        refine d_runT rfl ?_
        refine d_pureT v_first (fun _ q => q) ?_
        refine d_runT rfl ?_
        refine d_pureT (.int .i64 (othr x13 b)) (fun _ q => q) ?_
        refine d_runT rfl ?_
        refine d_pureT (.pointer (some ⟨sblk v_first, soff v_first + (((othr x13 b)).toNat) * 1, none⟩)) (fun _ q => f25.idx (k := ((othr x13 b)).toNat) (by omega) hk27 q) ?_
        refine d_runT rfl ?_
        refine d_pureT v_first (fun _ q => q) ?_
        refine d_runT rfl ?_
        refine d_pureT (.int .i64 b) (fun _ q => q) ?_
        refine d_runT rfl ?_
        have hk30 : (b).toNat < first.length := (by first | omega | (simp; omega))
        obtain ⟨x31, hx31⟩ : ∃ x, first[(b).toNat]? = some x := ⟨_, List.getElem?_eq_getElem hk30⟩
        refine d_pureT (.pointer (some ⟨sblk v_first, soff v_first + ((b).toNat) * 1, none⟩)) (fun _ q => f25.idx (k := (b).toNat) (by omega) hk30 q) ?_
        refine d_runT rfl ?_
        refine d_loadT (.agg #[v_n_towers, v_n_links]) (fun _ q => f24.takeA (by simp) rfl q) ?_
        refine d_runT rfl ?_
        refine d_loadT (.int .i64 x28) (fun _ q => f25.take1 (fun b hb => by simp [hb]) hx28 rfl q) ?_
        refine d_runT rfl ?_
        refine d_loadT (.int .i64 x31) (fun _ q => f25.take1 (fun b hb => by simp [hb]) hx31 rfl q) ?_
        refine d_runO rfl ?_
        refine d_eff ?_
        have f32 := (((f7.ext eh15).mod mh18 (fun b hb hc => by simp at hc; have := lt_n_towers b hb; omega)).ext eh21)
        have f33 := (((f8.ext eh15).mod mh18 (fun b hb hc => by simp at hc; have := lt_n_links b hb; omega)).ext eh21)
        have f34 := (((f9.ext eh15).mod mh18 (fun b hb hc => by simp at hc; have := lt_l b hb; omega)).ext eh21)
        refine s_call [.agg #[v_n_towers, v_n_links], v_l, .int .i64 (k : Int), .int .i64 x28] rfl (spec_roOver_ok n v_n_towers v_n_links v_l l (k : Int) x28 _ f32 f33 f34 _ hn hf (by omega) (by have := hv _ (List.mem_of_getElem? (by assumption : first[(othr _ b).toNat]? = some _)); omega)) ?_
        rintro _ h35 ⟨rfl, eh35⟩
        have E36 := E22.trans eh35
        have z37 := eh35.size
        have G38 := eh35
        refine s_nil ⟨fun _ x hx => G38.blk x (by simp at hx; rcases hx with hx | hx <;> first | omega | (have := lt_first x hx; omega)), ?_⟩
        refine d_runT rfl ?_
        refine d_pureT (.bool ((over l (k : Int) (lk n (k : Int)) x28) == x31)) (fun _ q => q) ?_
        refine d_pureT (.bool ((over l (k : Int) (lk n (k : Int)) x28) == x31)) (fun _ q => q) ?_
        refine d_pureT (.bool ((over l (k : Int) (lk n (k : Int)) x28) == x31)) (fun _ q => q) ?_
        refine d_splitT rfl (fun c39 => ?_) (fun c39 => ?_)
        ·
          refine d_runT rfl ?_
          refine d_pureT (.int .i64 c) (fun _ q => q) ?_
          refine d_runT rfl ?_
          refine d_pureT (.bool (decide (c < 0))) (fun _ q => q) ?_
          refine d_runT rfl ?_
          refine d_pureT (.bool (decide (c < 0))) (fun _ q => q) ?_
          refine d_splitT rfl (fun c40 => ?_) (fun c40 => ?_)
          ·
            refine d_passT rfl ?_
            refine d_passT rfl ?_
            refine d_passT rfl ?_
            refine d_runT rfl ?_
            refine d_pureT (.bool true) (fun _ q => q) ?_
            refine d_pureT (.bool true) (fun _ q => q) ?_
            refine d_done ?_
            refine p_seqN ?_
            refine v_condY rfl rfl ?_
            refine v_ops ?_
            refine s_pure (.int .i64 (othr x13 b)) (fun _ q => q) ?_
            refine s_pure (.int .i64 (othr x13 b)) (fun _ q => q) ?_
            refine s_nil ?_
            refine p_blkN ?_
            refine p_seqN ?_
            refine v_ops ?_
            refine s_pure (.int .i64 ((k : Int) + 1)) (fun _ q => ArithVC.mk (by omega) q) ?_
            refine s_pure (.int .i64 ((k : Int) + 1)) (fun _ q => q) ?_
            refine s_nil ?_
            have f41 := (f24.ext eh35)
            exact p_lpN ⟨k + 1, (othr x13 b), ⟨rfl, rfl, rfl, rfl, rfl, rfl, rfl, rfl⟩, ⟨E36, f41, (by first | exact ⟨by omega, hB.keep1 hx13 (by assumption)⟩ | exact ⟨by omega, hB.keep2 hx13 (by assumption : first[(othr x13 b).toNat]? = some _) (by assumption)⟩ | exact ⟨by omega, hB.keep3 hx13 (by assumption : first[(othr x13 b).toNat]? = some _) (by assumption : first[b.toNat]? = some _) (by assumption)⟩ | exact ⟨by omega, hB.take hn hx13 (by assumption) (by assumption : first[(othr x13 b).toNat]? = some _) (by assumption) (by assumption : first[b.toNat]? = some _) (by assumption) (by omega)⟩ | exact ⟨by omega, hB.keep4 hx13 (by omega) (by omega)⟩)⟩, by omega⟩
          ·
            refine d_runT rfl ?_
            refine d_pureT (.int .i64 (othr x13 b)) (fun _ q => q) ?_
            refine d_runT rfl ?_
            refine d_pureT (.int .i64 c) (fun _ q => q) ?_
            refine d_runT rfl ?_
            refine d_pureT (.bool (decide ((othr x13 b) < c))) (fun _ q => q) ?_
            refine d_runT rfl ?_
            refine d_pureT (.bool (decide ((othr x13 b) < c))) (fun _ q => q) ?_
            refine d_pureT (.bool (decide ((othr x13 b) < c))) (fun _ q => q) ?_
            refine d_done ?_
            refine p_seqN ?_
            refine v_cond rfl (fun c42 => ?_) (fun c42 => ?_)
            ·
              refine v_ops ?_
              refine s_pure (.int .i64 (othr x13 b)) (fun _ q => q) ?_
              refine s_pure (.int .i64 (othr x13 b)) (fun _ q => q) ?_
              refine s_nil ?_
              refine p_blkN ?_
              refine p_seqN ?_
              refine v_ops ?_
              refine s_pure (.int .i64 ((k : Int) + 1)) (fun _ q => ArithVC.mk (by omega) q) ?_
              refine s_pure (.int .i64 ((k : Int) + 1)) (fun _ q => q) ?_
              refine s_nil ?_
              have f43 := (f24.ext eh35)
              exact p_lpN ⟨k + 1, (othr x13 b), ⟨rfl, rfl, rfl, rfl, rfl, rfl, rfl, rfl⟩, ⟨E36, f43, (by first | exact ⟨by omega, hB.keep1 hx13 (by assumption)⟩ | exact ⟨by omega, hB.keep2 hx13 (by assumption : first[(othr x13 b).toNat]? = some _) (by assumption)⟩ | exact ⟨by omega, hB.keep3 hx13 (by assumption : first[(othr x13 b).toNat]? = some _) (by assumption : first[b.toNat]? = some _) (by assumption)⟩ | exact ⟨by omega, hB.take hn hx13 (by assumption) (by assumption : first[(othr x13 b).toNat]? = some _) (by assumption) (by assumption : first[b.toNat]? = some _) (by assumption) (by omega)⟩ | exact ⟨by omega, hB.keep4 hx13 (by omega) (by omega)⟩)⟩, by omega⟩
            ·
              refine v_skip ?_
              refine p_blkN ?_
              refine p_seqN ?_
              refine v_ops ?_
              refine s_pure (.int .i64 ((k : Int) + 1)) (fun _ q => ArithVC.mk (by omega) q) ?_
              refine s_pure (.int .i64 ((k : Int) + 1)) (fun _ q => q) ?_
              refine s_nil ?_
              have f44 := (f24.ext eh35)
              exact p_lpN ⟨k + 1, c, ⟨rfl, rfl, rfl, rfl, rfl, rfl, rfl, rfl⟩, ⟨E36, f44, (by first | exact ⟨by omega, hB.keep1 hx13 (by assumption)⟩ | exact ⟨by omega, hB.keep2 hx13 (by assumption : first[(othr x13 b).toNat]? = some _) (by assumption)⟩ | exact ⟨by omega, hB.keep3 hx13 (by assumption : first[(othr x13 b).toNat]? = some _) (by assumption : first[b.toNat]? = some _) (by assumption)⟩ | exact ⟨by omega, hB.take hn hx13 (by assumption) (by assumption : first[(othr x13 b).toNat]? = some _) (by assumption) (by assumption : first[b.toNat]? = some _) (by assumption) (by omega)⟩ | exact ⟨by omega, hB.keep4 hx13 (by omega) (by omega)⟩)⟩, by omega⟩
        ·
          refine d_passT rfl ?_
          refine d_passT rfl ?_
          refine d_passT rfl ?_
          refine d_splitU rfl ?_
          refine d_passTU rfl ?_
          refine d_passTU rfl ?_
          refine d_passTU rfl ?_
          refine d_passT rfl ?_
          refine d_pureT (.bool false) (fun _ q => q) ?_
          refine d_done ?_
          refine p_seqN ?_
          refine v_condN rfl (by simp) ?_
          refine v_skip ?_
          refine p_blkN ?_
          refine p_seqN ?_
          refine v_ops ?_
          refine s_pure (.int .i64 ((k : Int) + 1)) (fun _ q => ArithVC.mk (by omega) q) ?_
          refine s_pure (.int .i64 ((k : Int) + 1)) (fun _ q => q) ?_
          refine s_nil ?_
          have f45 := (f24.ext eh35)
          exact p_lpN ⟨k + 1, c, ⟨rfl, rfl, rfl, rfl, rfl, rfl, rfl, rfl⟩, ⟨E36, f45, (by first | exact ⟨by omega, hB.keep1 hx13 (by assumption)⟩ | exact ⟨by omega, hB.keep2 hx13 (by assumption : first[(othr x13 b).toNat]? = some _) (by assumption)⟩ | exact ⟨by omega, hB.keep3 hx13 (by assumption : first[(othr x13 b).toNat]? = some _) (by assumption : first[b.toNat]? = some _) (by assumption)⟩ | exact ⟨by omega, hB.take hn hx13 (by assumption) (by assumption : first[(othr x13 b).toNat]? = some _) (by assumption) (by assumption : first[b.toNat]? = some _) (by assumption) (by omega)⟩ | exact ⟨by omega, hB.keep4 hx13 (by omega) (by omega)⟩)⟩, by omega⟩
      ·
        refine d_passT rfl ?_
        refine d_passT rfl ?_
        refine d_passT rfl ?_
        refine d_passT rfl ?_
        refine d_passT rfl ?_
        refine d_passT rfl ?_
        refine d_passT rfl ?_
        refine d_passT rfl ?_
        refine d_passT rfl ?_
        refine d_passT rfl ?_
        refine d_passT rfl ?_
        refine d_passO rfl ?_
        refine d_passT rfl ?_
        refine d_pureT (.bool false) (fun _ q => q) ?_
        refine d_pureT (.bool false) (fun _ q => q) ?_
        refine d_splitN rfl (by simp) ?_
        refine d_passT rfl ?_
        refine d_passT rfl ?_
        refine d_passT rfl ?_
        refine d_splitU rfl ?_
        refine d_passTU rfl ?_
        refine d_passTU rfl ?_
        refine d_passTU rfl ?_
        refine d_passT rfl ?_
        refine d_pureT (.bool false) (fun _ q => q) ?_
        refine d_done ?_
        refine p_seqN ?_
        refine v_condN rfl (by simp) ?_
        refine v_skip ?_
        refine p_blkN ?_
        refine p_seqN ?_
        refine v_ops ?_
        refine s_pure (.int .i64 ((k : Int) + 1)) (fun _ q => ArithVC.mk (by omega) q) ?_
        refine s_pure (.int .i64 ((k : Int) + 1)) (fun _ q => q) ?_
        refine s_nil ?_
        exact p_lpN ⟨k + 1, c, ⟨rfl, rfl, rfl, rfl, rfl, rfl, rfl, rfl⟩, ⟨E22, f24, (by first | exact ⟨by omega, hB.keep1 hx13 (by assumption)⟩ | exact ⟨by omega, hB.keep2 hx13 (by assumption : first[(othr x13 b).toNat]? = some _) (by assumption)⟩ | exact ⟨by omega, hB.keep3 hx13 (by assumption : first[(othr x13 b).toNat]? = some _) (by assumption : first[b.toNat]? = some _) (by assumption)⟩ | exact ⟨by omega, hB.take hn hx13 (by assumption) (by assumption : first[(othr x13 b).toNat]? = some _) (by assumption) (by assumption : first[b.toNat]? = some _) (by assumption) (by omega)⟩ | exact ⟨by omega, hB.keep4 hx13 (by omega) (by omega)⟩)⟩, by omega⟩
    ·
      refine d_passT rfl ?_
      refine d_passT rfl ?_
      refine d_passT rfl ?_
      refine d_passO rfl ?_
      refine d_passT rfl ?_
      refine d_pureT (.bool false) (fun _ q => q) ?_
      refine d_pureT (.bool false) (fun _ q => q) ?_
      refine d_splitN rfl (by simp) ?_
      refine d_passT rfl ?_
      refine d_passT rfl ?_
      refine d_passT rfl ?_
      refine d_passT rfl ?_
      refine d_passT rfl ?_
      refine d_passT rfl ?_
      refine d_passT rfl ?_
      refine d_passT rfl ?_
      refine d_passT rfl ?_
      refine d_passT rfl ?_
      refine d_passT rfl ?_
      refine d_passO rfl ?_
      refine d_passT rfl ?_
      refine d_pureT (.bool false) (fun _ q => q) ?_
      refine d_pureT (.bool false) (fun _ q => q) ?_
      refine d_splitN rfl (by simp) ?_
      refine d_passT rfl ?_
      refine d_passT rfl ?_
      refine d_passT rfl ?_
      refine d_splitU rfl ?_
      refine d_passTU rfl ?_
      refine d_passTU rfl ?_
      refine d_passTU rfl ?_
      refine d_passT rfl ?_
      refine d_pureT (.bool false) (fun _ q => q) ?_
      refine d_done ?_
      refine p_seqN ?_
      refine v_condN rfl (by simp) ?_
      refine v_skip ?_
      refine p_blkN ?_
      refine p_seqN ?_
      refine v_ops ?_
      refine s_pure (.int .i64 ((k : Int) + 1)) (fun _ q => ArithVC.mk (by omega) q) ?_
      refine s_pure (.int .i64 ((k : Int) + 1)) (fun _ q => q) ?_
      refine s_nil ?_
      exact p_lpN ⟨k + 1, c, ⟨rfl, rfl, rfl, rfl, rfl, rfl, rfl, rfl⟩, ⟨E22, f24, (by first | exact ⟨by omega, hB.keep1 hx13 (by assumption)⟩ | exact ⟨by omega, hB.keep2 hx13 (by assumption : first[(othr x13 b).toNat]? = some _) (by assumption)⟩ | exact ⟨by omega, hB.keep3 hx13 (by assumption : first[(othr x13 b).toNat]? = some _) (by assumption : first[b.toNat]? = some _) (by assumption)⟩ | exact ⟨by omega, hB.take hn hx13 (by assumption) (by assumption : first[(othr x13 b).toNat]? = some _) (by assumption) (by assumption : first[b.toNat]? = some _) (by assumption) (by omega)⟩ | exact ⟨by omega, hB.keep4 hx13 (by omega) (by omega)⟩)⟩, by omega⟩
  ·
    refine v_exit ?_
    refine p_seqX ?_
    refine p_lpX ?_
    refine p_blkX ?_
    refine p_seqN ?_
    refine v_seq ?_
    refine v_ops ?_
    refine s_pure (.int .i64 c) (fun _ q => q) ?_
    refine s_pure (.int .i64 c) (fun _ q => q) ?_
    refine s_nil ?_
    refine p_seqN ?_
    refine v_ret ?_
    refine p_ret [.int .i64 c] (.int .i64 c) (fun _ q => q) rfl ?_
    have ho : (prevOf n l first b) = c := by exact hB.ends hn (by omega) hex
    exact ⟨by first | (rw [ho]; done) | rfl, Eh⟩

set_option maxRecDepth 10000 in
set_option maxHeartbeats 4000000 in
theorem spec_WayThrough_ok (n : NetP) (v_n_towers : Value) (v_n_links : Value) (v_l : Value) (l : List FogD) (a : Int) (b : Int) (t : Int) (h : Heap) (s_n_towers : Sl h v_n_towers n.towers) (s_n_links : Sl h v_n_links n.links) (s_l : Sl h v_l l) : Cn f_spec_WayThrough [.agg #[v_n_towers, v_n_links], v_l, .int .i64 a, .int .i64 b, .int .i64 t] h fun v h' => ∃ r0 : Value, v = .tuple #[r0, .bool ((wayOf n l a b t).2)] ∧ SlO h' r0 ((wayOf n l a b t).1) ∧ Fr h.size r0 ∧ Ext h h' := by
  have lt_n_towers := s_n_towers.lt
  have l63_n_towers := s_n_towers.len63
  have lt_n_links := s_n_links.lt
  have l63_n_links := s_n_links.len63
  have lt_l := s_l.lt
  have l63_l := s_l.len63
  refine calls_of r_spec_WayThrough ?_
  refine v_seq ?_
  refine v_ops ?_
  refine s_box [v_n_towers, v_n_links] rfl (fun h2 b1 hbb1 hzb1 eh2 bxb1 => ?_)
  have E3 := (Ext.refl h).trans eh2
  have z4 := eh2.size
  have lbb1 := bxb1.lt
  refine s_pure (.slice none 0 0) (fun _ q => q) ?_
  refine s_pure (.bool false) (fun _ q => q) ?_
  refine s_nil ?_
  refine p_seqN ?_
  refine v_seq ?_
  refine v_seq ?_
  refine v_ops ?_
  refine s_load (.agg #[v_n_towers, v_n_links]) (fun _ q => bxb1.loadA rfl q) ?_
  refine s_pure v_l (fun _ q => q) ?_
  refine s_pure (.int .i64 a) (fun _ q => q) ?_
  refine s_pure (.int .i64 b) (fun _ q => q) ?_
  refine s_pure (.int .i64 t) (fun _ q => q) ?_
  have f5 := (s_n_towers.ext eh2)
  have f6 := (s_n_links.ext eh2)
  have f7 := (s_l.ext eh2)
  refine s_call [.agg #[v_n_towers, v_n_links], v_l, .int .i64 a, .int .i64 b, .int .i64 t] rfl (spec_roAsked_ok n v_n_towers v_n_links v_l l a b t _ f5 f6 f7) ?_
  rintro _ h8 ⟨rfl, eh8⟩
  have E9 := E3.trans eh8
  have z10 := eh8.size
  refine s_pure (.bool (!(decide (WayAsk n l a b t)))) (fun _ q => q) ?_
  refine s_nil ?_
  refine p_seqN ?_
  refine v_cond rfl (fun c11 => ?_) (fun c11 => ?_)
  ·
    refine v_seq ?_
    refine v_ops ?_
    refine s_pure (.slice none 0 0) (fun _ q => q) ?_
    refine s_pure (.bool false) (fun _ q => q) ?_
    refine s_nil ?_
    refine p_seqN ?_
    refine v_ret ?_
    refine p_seqR ?_
    refine p_ret [.slice none 0 0, .bool false] (.tuple #[.slice none 0 0, .bool false]) (fun _ q => q) rfl ?_
    have ho : (wayOf n l a b t) = ([], false) := by first | exact wayOf_no (by assumption) | exact wayOf_neg (by assumption : (arrOf n l a t)[b.toNat]? = some _) (by assumption) | exact wayOf_yes hw (by assumption : (arrOf n l a t)[b.toNat]? = some _) (by assumption) (hv.ends (by omega))
    exact ⟨(.slice none 0 0), by first | (rw [ho]; done) | rfl, sl_eq (SlX.nil (α := Int) true _) (congrArg (fun o => o.1) ho).symm, Fr.nil _, E9⟩
  ·
    have c11 := Classical.not_not.1 c11
    refine v_skip ?_
    refine p_seqN ?_
    refine v_seq ?_
    refine v_ops ?_
    have f12 := (bxb1.ext eh8)
    refine s_load (.agg #[v_n_towers, v_n_links]) (fun _ q => f12.loadA rfl q) ?_
    refine s_pure v_l (fun _ q => q) ?_
    refine s_pure (.int .i64 a) (fun _ q => q) ?_
    refine s_pure (.int .i64 t) (fun _ q => q) ?_
    have f13 := (f5.ext eh8)
    have f14 := (f6.ext eh8)
    have f15 := (f7.ext eh8)
    refine s_call [.agg #[v_n_towers, v_n_links], v_l, .int .i64 a, .int .i64 t] rfl (spec_roFirst_ok n v_n_towers v_n_links v_l l a t _ f13 f14 f15 _ (by assumption : WayAsk n l a b t).hn (by assumption : WayAsk n l a b t).hf (by assumption : WayAsk n l a b t).ha (by assumption : WayAsk n l a b t).ht) ?_
    rintro r16 h17 ⟨_, rfl, s_r16, fr_r16, eh17⟩
    have E18 := E9.trans eh17
    have z19 := eh17.size
    have lt_r16 := s_r16.lt
    refine s_pure r16 (fun _ q => q) ?_
    refine s_nil ?_
    refine p_seqN ?_
    refine v_seq ?_
    refine v_seq ?_
    refine v_ops ?_
    refine s_pure r16 (fun _ q => q) ?_
    refine s_pure (.int .i64 b) (fun _ q => q) ?_
    have hk20 : (b).toNat < (arrOf n l a t).length := (by (have h1 := (by assumption : WayAsk n l a b t).hb); rw [arrOf_len]; omega)
    obtain ⟨x21, hx21⟩ : ∃ x, (arrOf n l a t)[(b).toNat]? = some x := ⟨_, List.getElem?_eq_getElem hk20⟩
    refine s_pure (.pointer (some ⟨sblk r16, soff r16 + ((b).toNat) * 1, none⟩)) (fun _ q => s_r16.idx (k := (b).toNat) (by have := (by assumption : WayAsk n l a b t).hb; omega) hk20 q) ?_
    refine s_load (.int .i64 x21) (fun _ q => s_r16.load1 hx21 rfl q) ?_
    refine s_pure (.bool (decide (x21 < 0))) (fun _ q => q) ?_
    refine s_nil ?_
    refine p_seqN ?_
    refine v_cond rfl (fun c22 => ?_) (fun c22 => ?_)
    ·
      refine v_seq ?_
      refine v_ops ?_
      refine s_pure (.slice none 0 0) (fun _ q => q) ?_
      refine s_pure (.bool false) (fun _ q => q) ?_
      refine s_nil ?_
      refine p_seqN ?_
      refine v_ret ?_
      refine p_seqR ?_
      refine p_ret [.slice none 0 0, .bool false] (.tuple #[.slice none 0 0, .bool false]) (fun _ q => q) rfl ?_
      have ho : (wayOf n l a b t) = ([], false) := by first | exact wayOf_no (by assumption) | exact wayOf_neg (by assumption : (arrOf n l a t)[b.toNat]? = some _) (by assumption) | exact wayOf_yes hw (by assumption : (arrOf n l a t)[b.toNat]? = some _) (by assumption) (hv.ends (by omega))
      exact ⟨(.slice none 0 0), by first | (rw [ho]; done) | rfl, sl_eq (SlX.nil (α := Int) true _) (congrArg (fun o => o.1) ho).symm, Fr.nil _, E18⟩
    ·
      refine v_skip ?_
      refine p_seqN ?_
      refine v_seq ?_
      refine v_ops ?_
      refine s_pure (.int .i64 b) (fun _ q => q) ?_
      refine s_row (α := Int) [b] (fun _ q => seg_i rfl (seg_nil q)) rfl (by simp [maxLen]) (fun r23 h24 eh24 zh24 s_r23 fr_r23 => ?_)
      have E25 := E18.trans eh24
      have z26 := eh24.size
      have lt_r23 := s_r23.lt
      refine s_pure r23 (fun _ q => q) ?_
      refine s_nil ?_
      refine p_seqN ?_
      refine v_seq ?_
      refine v_block ?_
      have hw : WayAsk n l a b t := by assumption
      have hbp := gI_at (by assumption : (arrOf n l a t)[b.toNat]? = some _)
      have hbl := hw.le b
      have f28 := ((f12.ext eh17).ext eh24)
      have f29 := (s_r16.ext eh24)
      refine v_loop3 (α := Int) (β := List Int) (γ := Value) (fun i o w => [(1, v_l), (2, .int .i64 a), (3, .int .i64 i), (5, .pointer (some ⟨b1, 0, none⟩)), (12, r16), (13, w)]) (fun i o w hh => Ext h hh ∧ Bx hh b1 [v_n_towers, v_n_links] 32 ∧ SlO hh r16 (arrOf n l a t) ∧ SlO hh w o ∧ Fr h.size w ∧ b1 ∉ blks w ∧ (∀ b ∈ blks r16, b ∉ blks w) ∧ WV n l a (arrOf n l a t) b i o) (fun i o w => (gI (arrOf n l a t) i).toNat) b [b] r23 ⟨rfl, rfl, rfl, rfl, rfl, rfl⟩ ⟨E25, f28, f29, (sl_eq s_r23 (by simp)), (fr_r23.mono (by omega)), (fun hc => by have := fr_r23 _ hc; omega), (fun b hb hc => by have := lt_r16 b hb; have := fr_r23 b hc; omega), (by first | (simpa using WV.start hw (by omega)) | exact WV.start hw (by omega))⟩ ?_
      rintro i o w R30 h27 ⟨Eh, bxb1, s_r16, s_w, fr_w, np_b1_w, np_r16_w, hv⟩
      have zEh := Eh.size
      have f31 := s_n_towers.ext Eh
      have f32 := s_n_links.ext Eh
      have f33 := s_l.ext Eh
      have lbb1 := bxb1.lt
      have ltk_r16 := s_r16.lt
      have lt_w := s_w.lt
      have htw := hv.tow
      have hln := hv.len
      refine v_seq ?_
      refine v_seq ?_
      refine v_ops ?_
      refine s_pure (.int .i64 i) (fun _ q => q) ?_
      refine s_pure (.int .i64 a) (fun _ q => q) ?_
      refine s_pure (.bool (i != a)) (fun _ q => q) ?_
      refine s_nil ?_
      refine p_seqN ?_
      refine v_cond rfl (fun c34 => ?_) (fun c34 => ?_)
      ·
        refine v_skip ?_
        refine p_seqN ?_
        refine v_block ?_
        refine v_seq ?_
        refine v_ops ?_
        refine s_load (.agg #[v_n_towers, v_n_links]) (fun _ q => bxb1.loadA rfl q) ?_
        refine s_pure v_l (fun _ q => q) ?_
        refine s_pure r16 (fun _ q => q) ?_
        refine s_pure (.int .i64 i) (fun _ q => q) ?_
        refine s_call [.agg #[v_n_towers, v_n_links], v_l, r16, .int .i64 i] rfl (spec_roBefore_ok n v_n_towers v_n_links v_l l r16 (arrOf n l a t) i _ f31 f32 f33 s_r16.toSl _ hw.hn hw.hf (arrOf_len n l a t) htw (arr_top hw) (arr_good hw hv (by assumption))) ?_
        rintro _ h35 ⟨rfl, eh35⟩
        have E36 := Eh.trans eh35
        have z37 := eh35.size
        refine s_pure (.int .i64 (prevOf n l (arrOf n l a t) i)) (fun _ q => q) ?_
        refine s_nil ?_
        refine p_seqN ?_
        refine v_ops ?_
        refine s_pure (.int .i64 (prevOf n l (arrOf n l a t) i)) (fun _ q => q) ?_
        refine s_row (α := Int) [(prevOf n l (arrOf n l a t) i)] (fun _ q => seg_i rfl (seg_nil q)) rfl (by simp [maxLen]) (fun r38 h39 eh39 zh39 s_r38 fr_r38 => ?_)
        have E40 := E36.trans eh39
        have z41 := eh39.size
        have lt_r38 := s_r38.lt
        refine s_pure w (fun _ q => q) ?_
        have f42 := ((s_w.ext eh35).ext eh39)
        refine s_app s_r38 f42 rfl rfl rfl (by simp [maxLen]; omega) (by simp; omega) (fun r43 h44 mh44 zh44 s_r43 ab_r43 => ?_)
        have E45 := E40.mod mh44 (fun b hb => by have := fr_r38 b hb; omega)
        have fr_r43 := fr_r38.app ab_r43 (by omega)
        have lt_r43 := s_r43.lt
        refine s_pure r43 (fun _ q => q) ?_
        refine s_nil ?_
        refine p_blkN ?_
        have f46 := (((bxb1.ext eh35).ext eh39).mod mh44 (fun hc => by have := fr_r38 _ hc; omega))
        have f47 := (((s_r16.ext eh35).ext eh39).mod mh44 (fun b hb hc => by have := ltk_r16 b hb; have := fr_r38 b hc; omega))
        exact p_lpN ⟨(prevOf n l (arrOf n l a t) i), ([(prevOf n l (arrOf n l a t) i)] ++ o), r43, ⟨rfl, rfl, rfl, rfl, rfl, rfl⟩, ⟨E45, f46, f47, (sl_eq s_r43 (by simp)), (fr_r43.mono (by omega)), (fun hc => by have := fr_r43 _ hc; omega), (fun b hb hc => by have := ltk_r16 b hb; have := fr_r43 b hc; omega), (by exact (hv.step hw (by assumption) rfl).1)⟩, by exact (hv.step hw (by assumption) rfl).2⟩
      ·
        have c34 := Classical.not_not.1 c34
        refine v_exit ?_
        refine p_seqX ?_
        refine p_lpX ?_
        refine p_blkX ?_
        refine p_seqN ?_
        refine v_seq ?_
        refine v_ops ?_
        refine s_pure w (fun _ q => q) ?_
        refine s_pure w (fun _ q => q) ?_
        refine s_pure (.bool true) (fun _ q => q) ?_
        refine s_nil ?_
        refine p_seqN ?_
        refine v_ret ?_
        refine p_ret [w, .bool true] (.tuple #[w, .bool true]) (fun _ q => q) rfl ?_
        have ho : (wayOf n l a b t) = (o, true) := by first | exact wayOf_no (by assumption) | exact wayOf_neg (by assumption : (arrOf n l a t)[b.toNat]? = some _) (by assumption) | exact wayOf_yes hw (by assumption : (arrOf n l a t)[b.toNat]? = some _) (by assumption) (hv.ends (by omega))
        exact ⟨w, by first | (rw [ho]; done) | rfl, sl_eq s_w (congrArg (fun o => o.1) ho).symm, fr_w.mono (by omega), Eh⟩

end Go.Proofs.Ythagdkmalchhgaa
