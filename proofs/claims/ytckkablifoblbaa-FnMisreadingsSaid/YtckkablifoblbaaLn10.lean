/- A table of lines: the code. Condition: none. Printed in part by a program. -/
import Derived.Test.YtckkablifoblbaaLn9
namespace Go.Proofs.Ytckkablifoblbaa
open Go.Vc
set_option linter.all false
set_option maxRecDepth 10000 in
set_option maxHeartbeats 4000000 in
theorem impl_LineTable_ok (l : LineD) (v_sg : Value) (sg : List Int) (v_scs : Value) (scs : List RowI) (d_scs : List (List Int)) (h : Heap) (s_sg : Sl h v_sg sg) (s_scs : Sl h v_scs scs) (in_scs : ∀ p ∈ scs, Sl h p.sv.v p.sig) (hd_scs : scs.map RowI.sig = d_scs) : Cn f_impl_LineTable [.agg #[.int .i64 l.towers, .int .i64 l.tries], v_sg, v_scs] h fun v h' => ∃ r0 : Value, v = .tuple #[r0, .bool ((tabOut l.towers l.tries sg d_scs).2)] ∧ SlO h' r0 ((tabOut l.towers l.tries sg d_scs).1) ∧ Fr h.size r0 ∧ Ext h h' := by
  have lt_sg := s_sg.lt
  have l63_sg := s_sg.len63
  subst hd_scs
  have lt_scs := s_scs.lt
  have l63_scs := s_scs.len63
  have inlt_scs := fun p hp => (in_scs p hp).lt
  refine calls_of r_impl_LineTable ?_
  refine v_seq ?_
  refine v_ops ?_
  refine s_box [.int .i64 l.towers, .int .i64 l.tries] rfl (fun h2 b1 hbb1 hzb1 eh2 bxb1 => ?_)
  have E3 := (Ext.refl h).trans eh2
  have z4 := eh2.size
  have lbb1 := bxb1.lt
  refine s_pure (.slice none 0 0) (fun _ q => q) ?_
  refine s_pure (.bool false) (fun _ q => q) ?_
  refine s_nil ?_
  refine p_seqN ?_
  refine v_seq ?_
  refine v_seq ?_
  refine v_ops ?_
  refine s_pure v_scs (fun _ q => q) ?_
  refine s_pure (.int .i64 (scs.length : Int)) (fun _ q => s_scs.lenVC q) ?_
  refine s_pure (.bool (decide ((scs.length : Int) > 10))) (fun _ q => q) ?_
  refine s_pure (.bool (decide ((scs.length : Int) > 10))) (fun _ q => q) ?_
  refine s_splitT rfl (fun c5 => ?_) (fun c5 => ?_)
  ·
    refine s_pass rfl ?_
    refine s_pass rfl ?_
    refine s_pass rfl ?_
    refine s_pass rfl ?_
    refine s_pure (.bool true) (fun _ q => q) ?_
    refine s_nil ?_
    refine p_seqN ?_
    refine v_condY rfl rfl ?_
    refine v_seq ?_
    refine v_ops ?_
    refine s_pure (.slice none 0 0) (fun _ q => q) ?_
    refine s_pure (.bool false) (fun _ q => q) ?_
    refine s_nil ?_
    refine p_seqN ?_
    refine v_ret ?_
    refine p_seqR ?_
    refine p_ret [.slice none 0 0, .bool false] (.tuple #[.slice none 0 0, .bool false]) (fun _ q => q) rfl ?_
    have ho : tabOut l.towers l.tries sg (scs.map RowI.sig) = ([], false) := by first | exact tab_no (fun c => by (have hc1 := c.1); simp at hc1; omega) | exact tab_no (fun c => (by assumption : ¬ Asked _ _ _ _) c.2.1) | exact tab_bad (by assumption) (by assumption) | exact (tab_end hl10 hask hall (by assumption) ho).symm
    exact ⟨(.slice none 0 0), by first | (rw [ho]; done) | rfl, sl_eq (SlX.nil (α := Int) true _) (congrArg (fun o => o.1) ho).symm, Fr.nil _, E3⟩
  ·
    refine s_run rfl ?_
    refine s_load (.agg #[.int .i64 l.towers, .int .i64 l.tries]) (fun _ q => bxb1.loadA rfl q) ?_
    refine s_run rfl ?_
    refine s_pure v_sg (fun _ q => q) ?_
    refine s_run rfl ?_
    have f6 := (s_sg.ext eh2)
    refine s_call [.agg #[.int .i64 l.towers, .int .i64 l.tries], v_sg, .slice none 0 0] rfl (lineAsked_ok l.towers l.tries v_sg (.slice none 0 0) sg [] _ f6 (SlX.nil (α := Int) false _)) ?_
    rintro _ h7 ⟨rfl, eh7⟩
    have E8 := E3.trans eh7
    have z9 := eh7.size
    refine s_run rfl ?_
    refine s_pure (.bool (!(decide (Asked l.towers l.tries sg [])))) (fun _ q => q) ?_
    refine s_pure (.bool (!(decide (Asked l.towers l.tries sg [])))) (fun _ q => q) ?_
    refine s_nil ?_
    refine p_seqN ?_
    refine v_cond rfl (fun c10 => ?_) (fun c10 => ?_)
    ·
      refine v_seq ?_
      refine v_ops ?_
      refine s_pure (.slice none 0 0) (fun _ q => q) ?_
      refine s_pure (.bool false) (fun _ q => q) ?_
      refine s_nil ?_
      refine p_seqN ?_
      refine v_ret ?_
      refine p_seqR ?_
      refine p_ret [.slice none 0 0, .bool false] (.tuple #[.slice none 0 0, .bool false]) (fun _ q => q) rfl ?_
      have ho : tabOut l.towers l.tries sg (scs.map RowI.sig) = ([], false) := by first | exact tab_no (fun c => by (have hc1 := c.1); simp at hc1; omega) | exact tab_no (fun c => (by assumption : ¬ Asked _ _ _ _) c.2.1) | exact tab_bad (by assumption) (by assumption) | exact (tab_end hl10 hask hall (by assumption) ho).symm
      exact ⟨(.slice none 0 0), by first | (rw [ho]; done) | rfl, sl_eq (SlX.nil (α := Int) true _) (congrArg (fun o => o.1) ho).symm, Fr.nil _, E8⟩
    ·
      have c10 := Classical.not_not.1 c10
      refine v_skip ?_
      refine p_seqN ?_
      refine v_seq ?_
      refine v_ops ?_
      refine s_mk (α := Int) 3 0 rfl rfl rfl rfl rfl rfl (by first | (simp [maxLen]; done) | (simp [maxLen]; omega)) (by omega) (fun r11 h12 eh12 zh12 s_r11 fr_r11 => ?_)
      have E13 := E8.trans eh12
      have z14 := eh12.size
      have lt_r11 := s_r11.lt
      refine s_pure r11 (fun _ q => q) ?_
      refine s_nil ?_
      refine p_seqN ?_
      refine v_seq ?_
      refine v_seq ?_
      refine v_ops ?_
      refine s_pure v_scs (fun _ q => q) ?_
      refine s_pure (.int .i64 (scs.length : Int)) (fun _ q => s_scs.lenVC q) ?_
      refine s_pure (.int .i64 0) (fun _ q => q) ?_
      refine s_nil ?_
      refine p_seqN ?_
      refine v_block ?_
      have hask : Asked l.towers l.tries sg [] := by assumption
      have hl10 : scs.length ≤ 10 := by omega
      have f16 := ((bxb1.ext eh7).ext eh12)
      refine v_loop3 (α := Nat) (β := List Int) (γ := Value) (fun k o w => [(1, v_sg), (3, .pointer (some ⟨b1, 0, none⟩)), (8, w), (22, v_scs), (23, .int .i64 (scs.length : Int)), (24, .int .i64 (k : Int))]) (fun k o w hh => Ext h hh ∧ Bx hh b1 [.int .i64 l.towers, .int .i64 l.tries] 25 ∧ SlO hh w o ∧ Fr h.size w ∧ b1 ∉ blks w ∧ k ≤ scs.length ∧ (∀ p ∈ scs.take k, ScriptOk p.sig) ∧ o = tabF l.towers l.tries sg ((scs.take k).map RowI.sig)) (fun k o w => scs.length - k) 0 (List.replicate 3 0) r11 ⟨rfl, rfl, rfl, rfl, rfl, rfl⟩ ⟨E13, f16, (sl_eq s_r11 (by simp)), (fr_r11.mono (by omega)), (fun hc => by have := fr_r11 _ hc; omega), (by exact ⟨by omega, by simp, rfl⟩)⟩ ?_
      rintro k o w R17 h15 ⟨Eh, bxb1, s_w, fr_w, np_b1_w, ⟨hk, hall, ho⟩⟩
      have zEh := Eh.size
      have f18 := s_sg.ext Eh
      have f19 := s_scs.ext Eh
      have in20 := fun p hp => (in_scs p hp).ext Eh
      have lbb1 := bxb1.lt
      have lt_w := s_w.lt
      have hol : o.length = 3 := by rw [ho]; exact tab_len _
      have hoi : ∀ x ∈ o, 0 ≤ x ∧ x ≤ 10 := by (intro x hx; rw [ho] at hx; have := tab_in _ x hx; simp at this; omega)
      refine v_seq ?_
      refine v_ops ?_
      refine s_pure (.bool (decide ((k : Int) < (scs.length : Int)))) (fun _ q => q) ?_
      refine s_nil ?_
      refine p_seqN ?_
      refine v_seq ?_
      refine v_cond rfl (fun c21 => ?_) (fun c21 => ?_)
      ·
        refine v_skip ?_
        refine p_seqN ?_
        refine v_seq ?_
        refine v_block ?_
        refine v_seq ?_
        refine v_ops ?_
        have hk22 : k < scs.length := (by first | omega | (simp; omega))
        obtain ⟨x23, hx23⟩ : ∃ x, scs[k]? = some x := ⟨_, List.getElem?_eq_getElem hk22⟩
        refine s_pure (.pointer (some ⟨sblk v_scs, soff v_scs + k * 1, none⟩)) (fun _ q => f19.idx (k := k) rfl hk22 q) ?_
        have s24 := in20 x23 (List.mem_of_getElem? hx23)
        refine s_load x23.sv.v (fun _ q => f19.load1 hx23 rfl q) ?_
        refine s_pure x23.sv.v (fun _ q => q) ?_
        refine s_nil ?_
        refine p_seqN ?_
        refine v_seq ?_
        refine v_seq ?_
        refine v_ops ?_
        refine s_pure x23.sv.v (fun _ q => q) ?_
        refine s_callS [x23.sv.v] (.bool (decide (ScriptOk x23.sig))) rfl (isScript_ok x23.sv.v x23.sig _ s24) ?_
        refine s_pure (.bool (!(decide (ScriptOk x23.sig)))) (fun _ q => q) ?_
        refine s_nil ?_
        refine p_seqN ?_
        refine v_cond rfl (fun c25 => ?_) (fun c25 => ?_)
        ·
          refine v_seq ?_
          refine v_ops ?_
          refine s_pure (.slice none 0 0) (fun _ q => q) ?_
          refine s_pure (.bool false) (fun _ q => q) ?_
          refine s_nil ?_
          refine p_seqN ?_
          refine v_ret ?_
          refine p_seqR ?_
          refine p_blkR ?_
          refine p_seqR ?_
          refine p_lpR ?_
          refine p_blkR ?_
          refine p_seqR ?_
          refine p_ret [.slice none 0 0, .bool false] (.tuple #[.slice none 0 0, .bool false]) (fun _ q => q) rfl ?_
          have ho : tabOut l.towers l.tries sg (scs.map RowI.sig) = ([], false) := by first | exact tab_no (fun c => by (have hc1 := c.1); simp at hc1; omega) | exact tab_no (fun c => (by assumption : ¬ Asked _ _ _ _) c.2.1) | exact tab_bad (by assumption) (by assumption) | exact (tab_end hl10 hask hall (by assumption) ho).symm
          exact ⟨(.slice none 0 0), by first | (rw [ho]; done) | rfl, sl_eq (SlX.nil (α := Int) true _) (congrArg (fun o => o.1) ho).symm, Fr.nil _, Eh⟩
        ·
          have c25 := Classical.not_not.1 c25
          refine v_skip ?_
          refine p_seqN ?_
          refine v_seq ?_
          refine v_ops ?_
          refine s_load (.agg #[.int .i64 l.towers, .int .i64 l.tries]) (fun _ q => bxb1.loadA rfl q) ?_
          refine s_pure v_sg (fun _ q => q) ?_
          refine s_pure x23.sv.v (fun _ q => q) ?_
          have hsch26 : ScriptOk x23.sig := by assumption
          refine s_call [.agg #[.int .i64 l.towers, .int .i64 l.tries], v_sg, x23.sv.v] rfl (passLine_ok l.towers l.tries v_sg x23.sv.v sg x23.sig _ hask.1.1 hask.1.2 f18 s24 (by have := hask.2.1.1; omega) hask.2.1.2 hsch26.2) ?_
          rintro _ h26 ⟨H27, _, rfl, hhh26, eh26⟩
          obtain ⟨q28, hqq28, _, Dq28⟩ := hhh26.deep
          have E29 := Eh.trans eh26
          have z30 := eh26.size
          have lt_H27 := Dq28.lt
          have fr_H27 := Dq28.fr
          have hlq28 : q28.length = l.towers.toNat := by (have hc := congrArg List.length hqq28); rw [List.length_map, runOf_rows] at hc; exact hc
          refine s_new (fun h32 b31 hbb31 hzb31 eh32 bxb31 => ?_)
          have E33 := E29.trans eh32
          have z34 := eh32.size
          have lbb31 := bxb31.lt
          refine s_stBx (.agg #[H27, .int .i64 ((runOf l.towers l.tries sg x23.sig).2.1 : Int), .int .i64 ((runOf l.towers l.tries sg x23.sig).stuck), .int .i64 ((runOf l.towers l.tries sg x23.sig).tow)]) [H27, .int .i64 ((runOf l.towers l.tries sg x23.sig).2.1 : Int), .int .i64 ((runOf l.towers l.tries sg x23.sig).stuck), .int .i64 ((runOf l.towers l.tries sg x23.sig).tow)] [H27, .int .i64 ((runOf l.towers l.tries sg x23.sig).2.1 : Int), .int .i64 ((runOf l.towers l.tries sg x23.sig).stuck), .int .i64 ((runOf l.towers l.tries sg x23.sig).tow)] bxb31 rfl rfl rfl rfl (by simp) (all_cons Dq28.row.one1 (all_cons rfl (all_cons rfl (all_cons rfl all_nil)))) rfl (fun h35 mh35 sh35 bxx36 => ?_)
          have E37 := E33.mod mh35 (fun b hb => by simp at hb; omega)
          refine s_nil ?_
          refine p_seqN ?_
          refine v_block ?_
          refine v_seq ?_
          refine v_ops ?_
          refine s_pure (.pointer (some ⟨b31, 2, none⟩)) (fun _ q => q) ?_
          refine s_load (.int .i64 ((runOf l.towers l.tries sg x23.sig).stuck)) (fun _ q => bxx36.load rfl q) ?_
          refine s_pure (.bool (decide ((runOf l.towers l.tries sg x23.sig).stuck ≥ 0))) (fun _ q => q) ?_
          refine s_pure (.bool (decide ((runOf l.towers l.tries sg x23.sig).stuck ≥ 0))) (fun _ q => q) ?_
          refine s_nil ?_
          refine p_seqN ?_
          refine v_cond rfl (fun c38 => ?_) (fun c38 => ?_)
          ·
            refine v_ops ?_
            refine s_pure w (fun _ q => q) ?_
            have f39 := (((s_w.ext eh26).ext eh32).mod mh35 (fun b hb hc => by simp at hc; have := lt_w b hb; omega))
            have hk40 : 2 < o.length := (by first | omega | (simp; omega))
            obtain ⟨x41, hx41⟩ : ∃ x, o[2]? = some x := ⟨_, List.getElem?_eq_getElem hk40⟩
            refine s_pure (.pointer (some ⟨sblk w, soff w + 2 * 1, none⟩)) (fun _ q => f39.idx (k := 2) rfl hk40 q) ?_
            refine s_load (.int .i64 x41) (fun _ q => f39.load1 hx41 rfl q) ?_
            refine s_pure (.int .i64 (x41 + 1)) (fun _ q => ArithVC.mk (by have hb_ := hoi x41 (List.mem_of_getElem? hx41); omega) q) ?_
            refine s_pure (.pointer (some ⟨sblk w, soff w + 2 * 1, none⟩)) (fun _ q => f39.idx (k := 2) rfl hk40 q) ?_
            refine s_stSl (k := 2) (j := 0) (x41 + 1) (.int .i64 (x41 + 1)) [.int .i64 (x41 + 1)] f39 rfl rfl rfl rfl rfl hx41 (Nat.le_of_ble_eq_true rfl) rfl (all_cons rfl all_nil) (fun h42 mh42 sh42 s43 => ?_)
            have E44 := E37.mod mh42 (fun b hb => by have := fr_w b hb; omega)
            refine s_nil ?_
            refine p_blkN ?_
            refine p_blkN ?_
            refine p_seqN ?_
            refine v_ops ?_
            refine s_pure (.int .i64 ((k : Int) + 1)) (fun _ q => ArithVC.mk (by omega) q) ?_
            refine s_pure (.int .i64 ((k : Int) + 1)) (fun _ q => q) ?_
            refine s_nil ?_
            have f45 := ((((bxb1.ext eh26).ext eh32).mod mh35 (by simp; omega)).mod mh42 np_b1_w)
            exact p_lpN ⟨k + 1, (o.set 2 (x41 + 1)), w, ⟨rfl, rfl, rfl, rfl, rfl, rfl⟩, ⟨E44, f45, (sl_eq s43 (by simp)), (fr_w.mono (by omega)), np_b1_w, (by first | exact ⟨by omega, (sc_snoc hall (by assumption) (by assumption)), tab_at ho (by assumption) (by assumption) (cl_stuck (st_pos (by assumption)))⟩ | exact ⟨by omega, (sc_snoc hall (by assumption) (by assumption)), tab_at ho (by assumption) (by assumption) (cl_stuck (by assumption))⟩ | exact ⟨by omega, (sc_snoc hall (by assumption) (by assumption)), tab_at ho (by assumption) (by assumption) (cl_wrong (st_neg (by assumption)) (by rw [← hrow_]; omega))⟩ | exact ⟨by omega, (sc_snoc hall (by assumption) (by assumption)), tab_at ho (by assumption) (by assumption) (cl_wrong (by assumption) (by rw [← hrow_]; omega))⟩ | exact ⟨by omega, (sc_snoc hall (by assumption) (by assumption)), tab_at ho (by assumption) (by assumption) (cl_good (st_neg (by assumption)) (by rw [← hrow_]; omega))⟩ | exact ⟨by omega, (sc_snoc hall (by assumption) (by assumption)), tab_at ho (by assumption) (by assumption) (cl_good (by assumption) (by rw [← hrow_]; omega))⟩)⟩, by omega⟩
          ·
            refine v_seq ?_
            refine v_ops ?_
            refine s_pure (.pointer (some ⟨b31, 0, none⟩)) (fun _ q => q) ?_
            refine s_load H27 (fun _ q => bxx36.load rfl q) ?_
            refine s_pure (.pointer (some ⟨b1, 0, none⟩)) (fun _ q => q) ?_
            have f46 := (((bxb1.ext eh26).ext eh32).mod mh35 (by simp; omega))
            refine s_load (.int .i64 l.towers) (fun _ q => f46.load rfl q) ?_
            refine s_pure (.int .i64 (l.towers - 1)) (fun _ q => ArithVC.mk (by omega) q) ?_
            have f47 := ((Dq28.ext eh32).mod mh35 (fun b hb hc => by simp at hc; have := lt_H27 b hb; omega))
            have hk48 : ((l.towers - 1)).toNat < q28.length := (by first | omega | (simp; omega))
            obtain ⟨x49, hx49⟩ : ∃ x, q28[((l.towers - 1)).toNat]? = some x := ⟨_, List.getElem?_eq_getElem hk48⟩
            refine s_pure (.pointer (some ⟨sblk H27, soff H27 + (((l.towers - 1)).toNat) * 1, none⟩)) (fun _ q => f47.row.idx (k := ((l.towers - 1)).toNat) (by omega) hk48 q) ?_
            have s50 := f47.insL x49 (List.mem_of_getElem? hx49)
            refine s_load x49.sv.v (fun _ q => f47.row.load1 hx49 rfl q) ?_
            refine s_pure v_sg (fun _ q => q) ?_
            have f51 := (((f18.ext eh26).ext eh32).mod mh35 (fun b hb hc => by simp at hc; have := lt_sg b hb; omega))
            have hrow_ := (row_at hqq28 hx49).trans (by rw [show (l.towers - 1).toNat = l.towers.toNat - 1 by omega])
            have hwlh52 : x49.sig.length ≤ sg.length := by rw [hrow_]; exact rowlen _ _ _ _ _
            refine s_call [x49.sv.v, v_sg] rfl (wrongSignals_ok x49.sv.v x49.sig v_sg sg _ f51 s50 hwlh52 (by have := hask.2.1.1; omega)) ?_
            rintro r53 h52 ⟨s_r53, eh52, fr_r53⟩
            have E54 := E37.trans eh52
            have z55 := eh52.size
            have lt_r53 := s_r53.lt
            refine s_pure (.int .i64 ((wrongF sg x49.sig 0).length : Int)) (fun _ q => s_r53.lenVC q) ?_
            refine s_pure (.bool (decide (((wrongF sg x49.sig 0).length : Int) > 0))) (fun _ q => q) ?_
            refine s_pure (.bool (decide (((wrongF sg x49.sig 0).length : Int) > 0))) (fun _ q => q) ?_
            refine s_nil ?_
            refine p_seqN ?_
            refine v_cond rfl (fun c56 => ?_) (fun c56 => ?_)
            ·
              refine v_ops ?_
              refine s_pure w (fun _ q => q) ?_
              have f57 := ((((s_w.ext eh26).ext eh32).mod mh35 (fun b hb hc => by simp at hc; have := lt_w b hb; omega)).ext eh52)
              have hk58 : 1 < o.length := (by first | omega | (simp; omega))
              obtain ⟨x59, hx59⟩ : ∃ x, o[1]? = some x := ⟨_, List.getElem?_eq_getElem hk58⟩
              refine s_pure (.pointer (some ⟨sblk w, soff w + 1 * 1, none⟩)) (fun _ q => f57.idx (k := 1) rfl hk58 q) ?_
              refine s_load (.int .i64 x59) (fun _ q => f57.load1 hx59 rfl q) ?_
              refine s_pure (.int .i64 (x59 + 1)) (fun _ q => ArithVC.mk (by have hb_ := hoi x59 (List.mem_of_getElem? hx59); omega) q) ?_
              refine s_pure (.pointer (some ⟨sblk w, soff w + 1 * 1, none⟩)) (fun _ q => f57.idx (k := 1) rfl hk58 q) ?_
              refine s_stSl (k := 1) (j := 0) (x59 + 1) (.int .i64 (x59 + 1)) [.int .i64 (x59 + 1)] f57 rfl rfl rfl rfl rfl hx59 (Nat.le_of_ble_eq_true rfl) rfl (all_cons rfl all_nil) (fun h60 mh60 sh60 s61 => ?_)
              have E62 := E54.mod mh60 (fun b hb => by have := fr_w b hb; omega)
              refine s_nil ?_
              refine p_blkN ?_
              refine p_blkN ?_
              refine p_seqN ?_
              refine v_ops ?_
              refine s_pure (.int .i64 ((k : Int) + 1)) (fun _ q => ArithVC.mk (by omega) q) ?_
              refine s_pure (.int .i64 ((k : Int) + 1)) (fun _ q => q) ?_
              refine s_nil ?_
              have f63 := ((f46.ext eh52).mod mh60 np_b1_w)
              exact p_lpN ⟨k + 1, (o.set 1 (x59 + 1)), w, ⟨rfl, rfl, rfl, rfl, rfl, rfl⟩, ⟨E62, f63, (sl_eq s61 (by simp)), (fr_w.mono (by omega)), np_b1_w, (by first | exact ⟨by omega, (sc_snoc hall (by assumption) (by assumption)), tab_at ho (by assumption) (by assumption) (cl_stuck (st_pos (by assumption)))⟩ | exact ⟨by omega, (sc_snoc hall (by assumption) (by assumption)), tab_at ho (by assumption) (by assumption) (cl_stuck (by assumption))⟩ | exact ⟨by omega, (sc_snoc hall (by assumption) (by assumption)), tab_at ho (by assumption) (by assumption) (cl_wrong (st_neg (by assumption)) (by rw [← hrow_]; omega))⟩ | exact ⟨by omega, (sc_snoc hall (by assumption) (by assumption)), tab_at ho (by assumption) (by assumption) (cl_wrong (by assumption) (by rw [← hrow_]; omega))⟩ | exact ⟨by omega, (sc_snoc hall (by assumption) (by assumption)), tab_at ho (by assumption) (by assumption) (cl_good (st_neg (by assumption)) (by rw [← hrow_]; omega))⟩ | exact ⟨by omega, (sc_snoc hall (by assumption) (by assumption)), tab_at ho (by assumption) (by assumption) (cl_good (by assumption) (by rw [← hrow_]; omega))⟩)⟩, by omega⟩
            ·
              refine v_ops ?_
              refine s_pure w (fun _ q => q) ?_
              have f64 := ((((s_w.ext eh26).ext eh32).mod mh35 (fun b hb hc => by simp at hc; have := lt_w b hb; omega)).ext eh52)
              have hk65 : 0 < o.length := (by first | omega | (simp; omega))
              obtain ⟨x66, hx66⟩ : ∃ x, o[0]? = some x := ⟨_, List.getElem?_eq_getElem hk65⟩
              refine s_pure (.pointer (some ⟨sblk w, soff w + 0 * 1, none⟩)) (fun _ q => f64.idx (k := 0) rfl hk65 q) ?_
              refine s_load (.int .i64 x66) (fun _ q => f64.load1 hx66 rfl q) ?_
              refine s_pure (.int .i64 (x66 + 1)) (fun _ q => ArithVC.mk (by have hb_ := hoi x66 (List.mem_of_getElem? hx66); omega) q) ?_
              refine s_pure (.pointer (some ⟨sblk w, soff w + 0 * 1, none⟩)) (fun _ q => f64.idx (k := 0) rfl hk65 q) ?_
              refine s_stSl (k := 0) (j := 0) (x66 + 1) (.int .i64 (x66 + 1)) [.int .i64 (x66 + 1)] f64 rfl rfl rfl rfl rfl hx66 (Nat.le_of_ble_eq_true rfl) rfl (all_cons rfl all_nil) (fun h67 mh67 sh67 s68 => ?_)
              have E69 := E54.mod mh67 (fun b hb => by have := fr_w b hb; omega)
              refine s_nil ?_
              refine p_blkN ?_
              refine p_blkN ?_
              refine p_seqN ?_
              refine v_ops ?_
              refine s_pure (.int .i64 ((k : Int) + 1)) (fun _ q => ArithVC.mk (by omega) q) ?_
              refine s_pure (.int .i64 ((k : Int) + 1)) (fun _ q => q) ?_
              refine s_nil ?_
              have f70 := ((f46.ext eh52).mod mh67 np_b1_w)
              exact p_lpN ⟨k + 1, (o.set 0 (x66 + 1)), w, ⟨rfl, rfl, rfl, rfl, rfl, rfl⟩, ⟨E69, f70, (sl_eq s68 (by simp)), (fr_w.mono (by omega)), np_b1_w, (by first | exact ⟨by omega, (sc_snoc hall (by assumption) (by assumption)), tab_at ho (by assumption) (by assumption) (cl_stuck (st_pos (by assumption)))⟩ | exact ⟨by omega, (sc_snoc hall (by assumption) (by assumption)), tab_at ho (by assumption) (by assumption) (cl_stuck (by assumption))⟩ | exact ⟨by omega, (sc_snoc hall (by assumption) (by assumption)), tab_at ho (by assumption) (by assumption) (cl_wrong (st_neg (by assumption)) (by rw [← hrow_]; omega))⟩ | exact ⟨by omega, (sc_snoc hall (by assumption) (by assumption)), tab_at ho (by assumption) (by assumption) (cl_wrong (by assumption) (by rw [← hrow_]; omega))⟩ | exact ⟨by omega, (sc_snoc hall (by assumption) (by assumption)), tab_at ho (by assumption) (by assumption) (cl_good (st_neg (by assumption)) (by rw [← hrow_]; omega))⟩ | exact ⟨by omega, (sc_snoc hall (by assumption) (by assumption)), tab_at ho (by assumption) (by assumption) (cl_good (by assumption) (by rw [← hrow_]; omega))⟩)⟩, by omega⟩
      ·
        refine v_exit ?_
        refine p_seqX ?_
        refine p_lpX ?_
        refine p_blkX ?_
        refine p_seqN ?_
        refine v_seq ?_
        refine v_ops ?_
        refine s_pure w (fun _ q => q) ?_
        refine s_pure w (fun _ q => q) ?_
        refine s_pure (.bool true) (fun _ q => q) ?_
        refine s_nil ?_
        refine p_seqN ?_
        refine v_ret ?_
        refine p_ret [w, .bool true] (.tuple #[w, .bool true]) (fun _ q => q) rfl ?_
        have ho : tabOut l.towers l.tries sg (scs.map RowI.sig) = (o, true) := by first | exact tab_no (fun c => by (have hc1 := c.1); simp at hc1; omega) | exact tab_no (fun c => (by assumption : ¬ Asked _ _ _ _) c.2.1) | exact tab_bad (by assumption) (by assumption) | exact (tab_end hl10 hask hall (by assumption) ho).symm
        exact ⟨w, by first | (rw [ho]; done) | rfl, sl_eq s_w (congrArg (fun o => o.1) ho).symm, fr_w.mono (by omega), Eh⟩

set_option maxRecDepth 10000 in
set_option maxHeartbeats 4000000 in
theorem spec_LineTable_ok (l : LineD) (v_sg : Value) (sg : List Int) (v_scs : Value) (scs : List RowI) (d_scs : List (List Int)) (h : Heap) (s_sg : Sl h v_sg sg) (s_scs : Sl h v_scs scs) (in_scs : ∀ p ∈ scs, Sl h p.sv.v p.sig) (hd_scs : scs.map RowI.sig = d_scs) : Cn f_spec_LineTable [.agg #[.int .i64 l.towers, .int .i64 l.tries], v_sg, v_scs] h fun v h' => ∃ r0 : Value, v = .tuple #[r0, .bool ((tabOut l.towers l.tries sg d_scs).2)] ∧ SlO h' r0 ((tabOut l.towers l.tries sg d_scs).1) ∧ Fr h.size r0 ∧ Ext h h' := by
  have lt_sg := s_sg.lt
  have l63_sg := s_sg.len63
  subst hd_scs
  have lt_scs := s_scs.lt
  have l63_scs := s_scs.len63
  have inlt_scs := fun p hp => (in_scs p hp).lt
  refine calls_of r_spec_LineTable ?_
  refine v_seq ?_
  refine v_ops ?_
  refine s_box [.int .i64 l.towers, .int .i64 l.tries] rfl (fun h2 b1 hbb1 hzb1 eh2 bxb1 => ?_)
  have E3 := (Ext.refl h).trans eh2
  have z4 := eh2.size
  have lbb1 := bxb1.lt
  refine s_pure (.slice none 0 0) (fun _ q => q) ?_
  refine s_pure (.bool false) (fun _ q => q) ?_
  refine s_nil ?_
  refine p_seqN ?_
  refine v_seq ?_
  refine v_seq ?_
  refine v_ops ?_
  refine s_pure v_scs (fun _ q => q) ?_
  refine s_pure (.int .i64 (scs.length : Int)) (fun _ q => s_scs.lenVC q) ?_
  refine s_pure (.bool (decide ((scs.length : Int) > 10))) (fun _ q => q) ?_
  refine s_pure (.bool (decide ((scs.length : Int) > 10))) (fun _ q => q) ?_
  refine s_splitT rfl (fun c5 => ?_) (fun c5 => ?_)
  ·
    refine s_pass rfl ?_
    refine s_pass rfl ?_
    refine s_pass rfl ?_
    refine s_pass rfl ?_
    refine s_pure (.bool true) (fun _ q => q) ?_
    refine s_nil ?_
    refine p_seqN ?_
    refine v_condY rfl rfl ?_
    refine v_seq ?_
    refine v_ops ?_
    refine s_pure (.slice none 0 0) (fun _ q => q) ?_
    refine s_pure (.bool false) (fun _ q => q) ?_
    refine s_nil ?_
    refine p_seqN ?_
    refine v_ret ?_
    refine p_seqR ?_
    refine p_ret [.slice none 0 0, .bool false] (.tuple #[.slice none 0 0, .bool false]) (fun _ q => q) rfl ?_
    have ho : tabOut l.towers l.tries sg (scs.map RowI.sig) = ([], false) := by first | exact tab_no (fun c => by (have hc1 := c.1); simp at hc1; omega) | exact tab_no (fun c => (by assumption : ¬ Asked _ _ _ _) c.2.1) | exact tab_bad (by assumption) (by assumption) | exact (tab_end hl10 hask hall (by assumption) ho).symm
    exact ⟨(.slice none 0 0), by first | (rw [ho]; done) | rfl, sl_eq (SlX.nil (α := Int) true _) (congrArg (fun o => o.1) ho).symm, Fr.nil _, E3⟩
  ·
    refine s_run rfl ?_
    refine s_load (.agg #[.int .i64 l.towers, .int .i64 l.tries]) (fun _ q => bxb1.loadA rfl q) ?_
    refine s_run rfl ?_
    refine s_pure v_sg (fun _ q => q) ?_
    refine s_run rfl ?_
    have f6 := (s_sg.ext eh2)
    refine s_call [.agg #[.int .i64 l.towers, .int .i64 l.tries], v_sg, .slice none 0 0] rfl (liAsked_ok l.towers l.tries v_sg (.slice none 0 0) sg [] _ f6 (SlX.nil (α := Int) false _)) ?_
    rintro _ h7 ⟨rfl, eh7⟩
    have E8 := E3.trans eh7
    have z9 := eh7.size
    refine s_run rfl ?_
    refine s_pure (.bool (!(decide (Asked l.towers l.tries sg [])))) (fun _ q => q) ?_
    refine s_pure (.bool (!(decide (Asked l.towers l.tries sg [])))) (fun _ q => q) ?_
    refine s_nil ?_
    refine p_seqN ?_
    refine v_cond rfl (fun c10 => ?_) (fun c10 => ?_)
    ·
      refine v_seq ?_
      refine v_ops ?_
      refine s_pure (.slice none 0 0) (fun _ q => q) ?_
      refine s_pure (.bool false) (fun _ q => q) ?_
      refine s_nil ?_
      refine p_seqN ?_
      refine v_ret ?_
      refine p_seqR ?_
      refine p_ret [.slice none 0 0, .bool false] (.tuple #[.slice none 0 0, .bool false]) (fun _ q => q) rfl ?_
      have ho : tabOut l.towers l.tries sg (scs.map RowI.sig) = ([], false) := by first | exact tab_no (fun c => by (have hc1 := c.1); simp at hc1; omega) | exact tab_no (fun c => (by assumption : ¬ Asked _ _ _ _) c.2.1) | exact tab_bad (by assumption) (by assumption) | exact (tab_end hl10 hask hall (by assumption) ho).symm
      exact ⟨(.slice none 0 0), by first | (rw [ho]; done) | rfl, sl_eq (SlX.nil (α := Int) true _) (congrArg (fun o => o.1) ho).symm, Fr.nil _, E8⟩
    ·
      have c10 := Classical.not_not.1 c10
      refine v_skip ?_
      refine p_seqN ?_
      refine v_seq ?_
      refine v_ops ?_
      refine s_mk (α := Int) 3 0 rfl rfl rfl rfl rfl rfl (by first | (simp [maxLen]; done) | (simp [maxLen]; omega)) (by omega) (fun r11 h12 eh12 zh12 s_r11 fr_r11 => ?_)
      have E13 := E8.trans eh12
      have z14 := eh12.size
      have lt_r11 := s_r11.lt
      refine s_pure r11 (fun _ q => q) ?_
      refine s_nil ?_
      refine p_seqN ?_
      refine v_seq ?_
      refine v_seq ?_
      refine v_ops ?_
      refine s_pure v_scs (fun _ q => q) ?_
      refine s_pure (.int .i64 (scs.length : Int)) (fun _ q => s_scs.lenVC q) ?_
      refine s_pure (.int .i64 0) (fun _ q => q) ?_
      refine s_nil ?_
      refine p_seqN ?_
      refine v_block ?_
      have hask : Asked l.towers l.tries sg [] := by assumption
      have hl10 : scs.length ≤ 10 := by omega
      have f16 := ((bxb1.ext eh7).ext eh12)
      refine v_loop3 (α := Nat) (β := List Int) (γ := Value) (fun k o w => [(1, v_sg), (3, .pointer (some ⟨b1, 0, none⟩)), (8, w), (22, v_scs), (23, .int .i64 (scs.length : Int)), (24, .int .i64 (k : Int))]) (fun k o w hh => Ext h hh ∧ Bx hh b1 [.int .i64 l.towers, .int .i64 l.tries] 25 ∧ SlO hh w o ∧ Fr h.size w ∧ b1 ∉ blks w ∧ k ≤ scs.length ∧ (∀ p ∈ scs.take k, ScriptOk p.sig) ∧ o = tabF l.towers l.tries sg ((scs.take k).map RowI.sig)) (fun k o w => scs.length - k) 0 (List.replicate 3 0) r11 ⟨rfl, rfl, rfl, rfl, rfl, rfl⟩ ⟨E13, f16, (sl_eq s_r11 (by simp)), (fr_r11.mono (by omega)), (fun hc => by have := fr_r11 _ hc; omega), (by exact ⟨by omega, by simp, rfl⟩)⟩ ?_
      rintro k o w R17 h15 ⟨Eh, bxb1, s_w, fr_w, np_b1_w, ⟨hk, hall, ho⟩⟩
      have zEh := Eh.size
      have f18 := s_sg.ext Eh
      have f19 := s_scs.ext Eh
      have in20 := fun p hp => (in_scs p hp).ext Eh
      have lbb1 := bxb1.lt
      have lt_w := s_w.lt
      have hol : o.length = 3 := by rw [ho]; exact tab_len _
      have hoi : ∀ x ∈ o, 0 ≤ x ∧ x ≤ 10 := by (intro x hx; rw [ho] at hx; have := tab_in _ x hx; simp at this; omega)
      refine v_seq ?_
      refine v_ops ?_
      refine s_pure (.bool (decide ((k : Int) < (scs.length : Int)))) (fun _ q => q) ?_
      refine s_nil ?_
      refine p_seqN ?_
      refine v_seq ?_
      refine v_cond rfl (fun c21 => ?_) (fun c21 => ?_)
      ·
        refine v_skip ?_
        refine p_seqN ?_
        refine v_seq ?_
        refine v_block ?_
        refine v_seq ?_
        refine v_ops ?_
        have hk22 : k < scs.length := (by first | omega | (simp; omega))
        obtain ⟨x23, hx23⟩ : ∃ x, scs[k]? = some x := ⟨_, List.getElem?_eq_getElem hk22⟩
        refine s_pure (.pointer (some ⟨sblk v_scs, soff v_scs + k * 1, none⟩)) (fun _ q => f19.idx (k := k) rfl hk22 q) ?_
        have s24 := in20 x23 (List.mem_of_getElem? hx23)
        refine s_load x23.sv.v (fun _ q => f19.load1 hx23 rfl q) ?_
        refine s_pure x23.sv.v (fun _ q => q) ?_
        refine s_nil ?_
        refine p_seqN ?_
        refine v_seq ?_
        refine v_seq ?_
        refine v_ops ?_
        refine s_pure x23.sv.v (fun _ q => q) ?_
        refine s_callS [x23.sv.v] (.bool (decide (ScriptOk x23.sig))) rfl (liScript_ok x23.sv.v x23.sig _ s24) ?_
        refine s_pure (.bool (!(decide (ScriptOk x23.sig)))) (fun _ q => q) ?_
        refine s_nil ?_
        refine p_seqN ?_
        refine v_cond rfl (fun c25 => ?_) (fun c25 => ?_)
        ·
          refine v_seq ?_
          refine v_ops ?_
          refine s_pure (.slice none 0 0) (fun _ q => q) ?_
          refine s_pure (.bool false) (fun _ q => q) ?_
          refine s_nil ?_
          refine p_seqN ?_
          refine v_ret ?_
          refine p_seqR ?_
          refine p_blkR ?_
          refine p_seqR ?_
          refine p_lpR ?_
          refine p_blkR ?_
          refine p_seqR ?_
          refine p_ret [.slice none 0 0, .bool false] (.tuple #[.slice none 0 0, .bool false]) (fun _ q => q) rfl ?_
          have ho : tabOut l.towers l.tries sg (scs.map RowI.sig) = ([], false) := by first | exact tab_no (fun c => by (have hc1 := c.1); simp at hc1; omega) | exact tab_no (fun c => (by assumption : ¬ Asked _ _ _ _) c.2.1) | exact tab_bad (by assumption) (by assumption) | exact (tab_end hl10 hask hall (by assumption) ho).symm
          exact ⟨(.slice none 0 0), by first | (rw [ho]; done) | rfl, sl_eq (SlX.nil (α := Int) true _) (congrArg (fun o => o.1) ho).symm, Fr.nil _, Eh⟩
        ·
          have c25 := Classical.not_not.1 c25
          refine v_skip ?_
          refine p_seqN ?_
          refine v_seq ?_
          refine v_ops ?_
          refine s_load (.agg #[.int .i64 l.towers, .int .i64 l.tries]) (fun _ q => bxb1.loadA rfl q) ?_
          refine s_pure v_sg (fun _ q => q) ?_
          refine s_pure x23.sv.v (fun _ q => q) ?_
          have hsch26 : ScriptOk x23.sig := by assumption
          refine s_call [.agg #[.int .i64 l.towers, .int .i64 l.tries], v_sg, x23.sv.v] rfl (liRun_ok l.towers l.tries v_sg x23.sv.v sg x23.sig _ hask.1.1 hask.1.2 f18 s24 (by have := hask.2.1.1; omega) hask.2.1.2 hsch26.2) ?_
          rintro _ h26 ⟨X29, H27, _, rfl, bxX29, hhh26, eh26, loX29⟩
          obtain ⟨q28, hqq28, _, Dq28⟩ := hhh26.deep
          have E30 := Eh.trans eh26
          have z31 := eh26.size
          have lt_H27 := Dq28.lt
          have fr_H27 := Dq28.fr
          have hlq28 : q28.length = l.towers.toNat := by (have hc := congrArg List.length hqq28); rw [List.length_map, runOf_rows] at hc; exact hc
          have lbX29 := bxX29.lt
          refine s_pure (.pointer (some ⟨X29, 0, none⟩)) (fun _ q => q) ?_
          refine s_nil ?_
          refine p_seqN ?_
          refine v_block ?_
          refine v_seq ?_
          refine v_ops ?_
          refine s_pure (.pointer (some ⟨X29, 0, none⟩)) (fun _ q => q) ?_
          refine s_pure (.pointer (some ⟨X29, 0, none⟩)) (fun _ q => q) ?_
          refine s_pure (.pointer (some ⟨X29, 5, none⟩)) (fun _ q => q) ?_
          refine s_load (.bool ((runOf l.towers l.tries sg x23.sig).2.2.isSome)) (fun _ q => bxX29.load rfl q) ?_
          refine s_pure (.bool ((runOf l.towers l.tries sg x23.sig).2.2.isSome)) (fun _ q => q) ?_
          refine s_nil ?_
          refine p_seqN ?_
          refine v_cond rfl (fun c32 => ?_) (fun c32 => ?_)
          ·
            refine v_ops ?_
            refine s_pure w (fun _ q => q) ?_
            have f33 := (s_w.ext eh26)
            have hk34 : 2 < o.length := (by first | omega | (simp; omega))
            obtain ⟨x35, hx35⟩ : ∃ x, o[2]? = some x := ⟨_, List.getElem?_eq_getElem hk34⟩
            refine s_pure (.pointer (some ⟨sblk w, soff w + 2 * 1, none⟩)) (fun _ q => f33.idx (k := 2) rfl hk34 q) ?_
            refine s_load (.int .i64 x35) (fun _ q => f33.load1 hx35 rfl q) ?_
            refine s_pure (.int .i64 (x35 + 1)) (fun _ q => ArithVC.mk (by have hb_ := hoi x35 (List.mem_of_getElem? hx35); omega) q) ?_
            refine s_pure (.pointer (some ⟨sblk w, soff w + 2 * 1, none⟩)) (fun _ q => f33.idx (k := 2) rfl hk34 q) ?_
            refine s_stSl (k := 2) (j := 0) (x35 + 1) (.int .i64 (x35 + 1)) [.int .i64 (x35 + 1)] f33 rfl rfl rfl rfl rfl hx35 (Nat.le_of_ble_eq_true rfl) rfl (all_cons rfl all_nil) (fun h36 mh36 sh36 s37 => ?_)
            have E38 := E30.mod mh36 (fun b hb => by have := fr_w b hb; omega)
            refine s_nil ?_
            refine p_blkN ?_
            refine p_blkN ?_
            refine p_seqN ?_
            refine v_ops ?_
            refine s_pure (.int .i64 ((k : Int) + 1)) (fun _ q => ArithVC.mk (by omega) q) ?_
            refine s_pure (.int .i64 ((k : Int) + 1)) (fun _ q => q) ?_
            refine s_nil ?_
            have f39 := ((bxb1.ext eh26).mod mh36 np_b1_w)
            exact p_lpN ⟨k + 1, (o.set 2 (x35 + 1)), w, ⟨rfl, rfl, rfl, rfl, rfl, rfl⟩, ⟨E38, f39, (sl_eq s37 (by simp)), (fr_w.mono (by omega)), np_b1_w, (by first | exact ⟨by omega, (sc_snoc hall (by assumption) (by assumption)), tab_at ho (by assumption) (by assumption) (cl_stuck (st_pos (by assumption)))⟩ | exact ⟨by omega, (sc_snoc hall (by assumption) (by assumption)), tab_at ho (by assumption) (by assumption) (cl_stuck (by assumption))⟩ | exact ⟨by omega, (sc_snoc hall (by assumption) (by assumption)), tab_at ho (by assumption) (by assumption) (cl_wrong (st_neg (by assumption)) (by rw [← hrow_]; omega))⟩ | exact ⟨by omega, (sc_snoc hall (by assumption) (by assumption)), tab_at ho (by assumption) (by assumption) (cl_wrong (by assumption) (by rw [← hrow_]; omega))⟩ | exact ⟨by omega, (sc_snoc hall (by assumption) (by assumption)), tab_at ho (by assumption) (by assumption) (cl_good (st_neg (by assumption)) (by rw [← hrow_]; omega))⟩ | exact ⟨by omega, (sc_snoc hall (by assumption) (by assumption)), tab_at ho (by assumption) (by assumption) (cl_good (by assumption) (by rw [← hrow_]; omega))⟩)⟩, by omega⟩
          ·
            refine v_seq ?_
            refine v_drawF ?_
            refine d_pureT v_sg (fun _ q => q) ?_
            refine d_pureT (.pointer (some ⟨X29, 0, none⟩)) (fun _ q => q) ?_
            refine d_pureT (.pointer (some ⟨X29, 0, none⟩)) (fun _ q => q) ?_
            refine d_pureT (.pointer (some ⟨X29, 2, none⟩)) (fun _ q => q) ?_
            refine d_pureT (.pointer (some ⟨b1, 0, none⟩)) (fun _ q => q) ?_
            refine d_loadO H27 (fun _ q => bxX29.load rfl q) ?_
            have f40 := (bxb1.ext eh26)
            refine d_loadO (.int .i64 l.towers) (fun _ q => f40.load rfl q) ?_
            refine d_pureT (.int .i64 (l.towers - 1)) (fun _ q => ArithVC.mk (by omega) q) ?_
            have hk41 : ((l.towers - 1)).toNat < q28.length := (by first | omega | (simp; omega))
            obtain ⟨x42, hx42⟩ : ∃ x, q28[((l.towers - 1)).toNat]? = some x := ⟨_, List.getElem?_eq_getElem hk41⟩
            refine d_pureT (.pointer (some ⟨sblk H27, soff H27 + (((l.towers - 1)).toNat) * 1, none⟩)) (fun _ q => Dq28.row.idx (k := ((l.towers - 1)).toNat) (by omega) hk41 q) ?_
            have s43 := Dq28.insL x42 (List.mem_of_getElem? hx42)
            refine d_loadO x42.sv.v (fun _ q => Dq28.row.load1 hx42 rfl q) ?_
            refine d_eff ?_
            have f44 := (f18.ext eh26)
            have hrow_ := (row_at hqq28 hx42).trans (by rw [show (l.towers - 1).toNat = l.towers.toNat - 1 by omega])
            have hwlh45 : x42.sig.length ≤ sg.length := by rw [hrow_]; exact rowlen _ _ _ _ _
            refine s_call [v_sg, x42.sv.v] rfl (liWrong_ok v_sg sg x42.sv.v x42.sig _ f44 s43 hwlh45 (by have := hask.2.1.1; omega)) ?_
            rintro r46 h45 ⟨s_r46, eh45, fr_r46⟩
            have E47 := E30.trans eh45
            have z48 := eh45.size
            have G49 := eh45
            have lt_r46 := s_r46.lt
            refine s_nil ⟨fun hl => (by cases hl), ?_⟩
            refine d_pureT (.int .i64 ((wrongF sg x42.sig 0).length : Int)) (fun _ q => s_r46.lenVC q) ?_
            refine d_pureT (.bool (decide (((wrongF sg x42.sig 0).length : Int) > 0))) (fun _ q => q) ?_
            refine d_pureT (.bool (decide (((wrongF sg x42.sig 0).length : Int) > 0))) (fun _ q => q) ?_
            refine d_done ?_
            refine p_seqN ?_
            refine v_cond rfl (fun c50 => ?_) (fun c50 => ?_)
            ·
              refine v_ops ?_
              refine s_pure w (fun _ q => q) ?_
              have f51 := ((s_w.ext eh26).ext eh45)
              have hk52 : 1 < o.length := (by first | omega | (simp; omega))
              obtain ⟨x53, hx53⟩ : ∃ x, o[1]? = some x := ⟨_, List.getElem?_eq_getElem hk52⟩
              refine s_pure (.pointer (some ⟨sblk w, soff w + 1 * 1, none⟩)) (fun _ q => f51.idx (k := 1) rfl hk52 q) ?_
              refine s_load (.int .i64 x53) (fun _ q => f51.load1 hx53 rfl q) ?_
              refine s_pure (.int .i64 (x53 + 1)) (fun _ q => ArithVC.mk (by have hb_ := hoi x53 (List.mem_of_getElem? hx53); omega) q) ?_
              refine s_pure (.pointer (some ⟨sblk w, soff w + 1 * 1, none⟩)) (fun _ q => f51.idx (k := 1) rfl hk52 q) ?_
              refine s_stSl (k := 1) (j := 0) (x53 + 1) (.int .i64 (x53 + 1)) [.int .i64 (x53 + 1)] f51 rfl rfl rfl rfl rfl hx53 (Nat.le_of_ble_eq_true rfl) rfl (all_cons rfl all_nil) (fun h54 mh54 sh54 s55 => ?_)
              have E56 := E47.mod mh54 (fun b hb => by have := fr_w b hb; omega)
              refine s_nil ?_
              refine p_blkN ?_
              refine p_blkN ?_
              refine p_seqN ?_
              refine v_ops ?_
              refine s_pure (.int .i64 ((k : Int) + 1)) (fun _ q => ArithVC.mk (by omega) q) ?_
              refine s_pure (.int .i64 ((k : Int) + 1)) (fun _ q => q) ?_
              refine s_nil ?_
              have f57 := ((f40.ext eh45).mod mh54 np_b1_w)
              exact p_lpN ⟨k + 1, (o.set 1 (x53 + 1)), w, ⟨rfl, rfl, rfl, rfl, rfl, rfl⟩, ⟨E56, f57, (sl_eq s55 (by simp)), (fr_w.mono (by omega)), np_b1_w, (by first | exact ⟨by omega, (sc_snoc hall (by assumption) (by assumption)), tab_at ho (by assumption) (by assumption) (cl_stuck (st_pos (by assumption)))⟩ | exact ⟨by omega, (sc_snoc hall (by assumption) (by assumption)), tab_at ho (by assumption) (by assumption) (cl_stuck (by assumption))⟩ | exact ⟨by omega, (sc_snoc hall (by assumption) (by assumption)), tab_at ho (by assumption) (by assumption) (cl_wrong (st_neg (by assumption)) (by rw [← hrow_]; omega))⟩ | exact ⟨by omega, (sc_snoc hall (by assumption) (by assumption)), tab_at ho (by assumption) (by assumption) (cl_wrong (by assumption) (by rw [← hrow_]; omega))⟩ | exact ⟨by omega, (sc_snoc hall (by assumption) (by assumption)), tab_at ho (by assumption) (by assumption) (cl_good (st_neg (by assumption)) (by rw [← hrow_]; omega))⟩ | exact ⟨by omega, (sc_snoc hall (by assumption) (by assumption)), tab_at ho (by assumption) (by assumption) (cl_good (by assumption) (by rw [← hrow_]; omega))⟩)⟩, by omega⟩
            ·
              refine v_ops ?_
              refine s_pure w (fun _ q => q) ?_
              have f58 := ((s_w.ext eh26).ext eh45)
              have hk59 : 0 < o.length := (by first | omega | (simp; omega))
              obtain ⟨x60, hx60⟩ : ∃ x, o[0]? = some x := ⟨_, List.getElem?_eq_getElem hk59⟩
              refine s_pure (.pointer (some ⟨sblk w, soff w + 0 * 1, none⟩)) (fun _ q => f58.idx (k := 0) rfl hk59 q) ?_
              refine s_load (.int .i64 x60) (fun _ q => f58.load1 hx60 rfl q) ?_
              refine s_pure (.int .i64 (x60 + 1)) (fun _ q => ArithVC.mk (by have hb_ := hoi x60 (List.mem_of_getElem? hx60); omega) q) ?_
              refine s_pure (.pointer (some ⟨sblk w, soff w + 0 * 1, none⟩)) (fun _ q => f58.idx (k := 0) rfl hk59 q) ?_
              refine s_stSl (k := 0) (j := 0) (x60 + 1) (.int .i64 (x60 + 1)) [.int .i64 (x60 + 1)] f58 rfl rfl rfl rfl rfl hx60 (Nat.le_of_ble_eq_true rfl) rfl (all_cons rfl all_nil) (fun h61 mh61 sh61 s62 => ?_)
              have E63 := E47.mod mh61 (fun b hb => by have := fr_w b hb; omega)
              refine s_nil ?_
              refine p_blkN ?_
              refine p_blkN ?_
              refine p_seqN ?_
              refine v_ops ?_
              refine s_pure (.int .i64 ((k : Int) + 1)) (fun _ q => ArithVC.mk (by omega) q) ?_
              refine s_pure (.int .i64 ((k : Int) + 1)) (fun _ q => q) ?_
              refine s_nil ?_
              have f64 := ((f40.ext eh45).mod mh61 np_b1_w)
              exact p_lpN ⟨k + 1, (o.set 0 (x60 + 1)), w, ⟨rfl, rfl, rfl, rfl, rfl, rfl⟩, ⟨E63, f64, (sl_eq s62 (by simp)), (fr_w.mono (by omega)), np_b1_w, (by first | exact ⟨by omega, (sc_snoc hall (by assumption) (by assumption)), tab_at ho (by assumption) (by assumption) (cl_stuck (st_pos (by assumption)))⟩ | exact ⟨by omega, (sc_snoc hall (by assumption) (by assumption)), tab_at ho (by assumption) (by assumption) (cl_stuck (by assumption))⟩ | exact ⟨by omega, (sc_snoc hall (by assumption) (by assumption)), tab_at ho (by assumption) (by assumption) (cl_wrong (st_neg (by assumption)) (by rw [← hrow_]; omega))⟩ | exact ⟨by omega, (sc_snoc hall (by assumption) (by assumption)), tab_at ho (by assumption) (by assumption) (cl_wrong (by assumption) (by rw [← hrow_]; omega))⟩ | exact ⟨by omega, (sc_snoc hall (by assumption) (by assumption)), tab_at ho (by assumption) (by assumption) (cl_good (st_neg (by assumption)) (by rw [← hrow_]; omega))⟩ | exact ⟨by omega, (sc_snoc hall (by assumption) (by assumption)), tab_at ho (by assumption) (by assumption) (cl_good (by assumption) (by rw [← hrow_]; omega))⟩)⟩, by omega⟩
      ·
        refine v_exit ?_
        refine p_seqX ?_
        refine p_lpX ?_
        refine p_blkX ?_
        refine p_seqN ?_
        refine v_seq ?_
        refine v_ops ?_
        refine s_pure w (fun _ q => q) ?_
        refine s_pure w (fun _ q => q) ?_
        refine s_pure (.bool true) (fun _ q => q) ?_
        refine s_nil ?_
        refine p_seqN ?_
        refine v_ret ?_
        refine p_ret [w, .bool true] (.tuple #[w, .bool true]) (fun _ q => q) rfl ?_
        have ho : tabOut l.towers l.tries sg (scs.map RowI.sig) = (o, true) := by first | exact tab_no (fun c => by (have hc1 := c.1); simp at hc1; omega) | exact tab_no (fun c => (by assumption : ¬ Asked _ _ _ _) c.2.1) | exact tab_bad (by assumption) (by assumption) | exact (tab_end hl10 hask hall (by assumption) ho).symm
        exact ⟨w, by first | (rw [ho]; done) | rfl, sl_eq s_w (congrArg (fun o => o.1) ho).symm, fr_w.mono (by omega), Eh⟩

end Go.Proofs.Ytckkablifoblbaa
