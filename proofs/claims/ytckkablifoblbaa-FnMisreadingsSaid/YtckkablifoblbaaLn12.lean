/- Lines: contracts wanted by the laws of draws. Condition: none. Printed in part by a program. -/
import Derived.Test.YtckkablifoblbaaLn11
import Derived.Test.YtckkablifoblbaaDr1
import Derived.Test.YtckkablifoblbaaLn10
namespace Go.Proofs.Ytckkablifoblbaa
open Go.Vc
set_option linter.all false
theorem w_implPassLine (l : LineD) (v_sg : Value) (sg : List Int) (v_sc : Value) (sc : List Int) (h : Heap) (s_sg : Sl h v_sg sg) (s_sc : Sl h v_sc sc) : Cn f_impl_PassLine [.agg #[.int .i64 l.towers, .int .i64 l.tries], v_sg, v_sc] h fun v h' => ∃ r0 : Value, v = .tuple #[r0, .bool ((plOut l.towers l.tries sg sc).2.1), .bool ((plOut l.towers l.tries sg sc).2.2)] ∧ SlO h' r0 ((plOut l.towers l.tries sg sc).1) ∧ Fr h.size r0 ∧ Ext h h' := (implPassLine_ok l.towers l.tries v_sg sg v_sc sc h s_sg s_sc).mono (fun _ _ ⟨r, e, s, x, f⟩ => ⟨r, e, s, f, x⟩)
theorem w_specPassLine (l : LineD) (v_sg : Value) (sg : List Int) (v_sc : Value) (sc : List Int) (h : Heap) (s_sg : Sl h v_sg sg) (s_sc : Sl h v_sc sc) : Cn f_spec_PassLine [.agg #[.int .i64 l.towers, .int .i64 l.tries], v_sg, v_sc] h fun v h' => ∃ r0 : Value, v = .tuple #[r0, .bool ((plOut l.towers l.tries sg sc).2.1), .bool ((plOut l.towers l.tries sg sc).2.2)] ∧ SlO h' r0 ((plOut l.towers l.tries sg sc).1) ∧ Fr h.size r0 ∧ Ext h h' := (specPassLine_ok l.towers l.tries v_sg sg v_sc sc h s_sg s_sc).mono (fun _ _ ⟨r, e, s, x, f⟩ => ⟨r, e, s, f, x⟩)
theorem w_implLineGlances (l : LineD) (v_sg : Value) (sg : List Int) (v_sc : Value) (sc : List Int) (h : Heap) (s_sg : Sl h v_sg sg) (s_sc : Sl h v_sc sc) : Cn f_impl_LineGlances [.agg #[.int .i64 l.towers, .int .i64 l.tries], v_sg, v_sc] h fun v h' => v = .tuple #[.int .i64 ((glOut l.towers l.tries sg sc).1), .bool ((glOut l.towers l.tries sg sc).2)] ∧ Ext h h' := (implLineGlances_ok l.towers l.tries v_sg sg v_sc sc h s_sg s_sc)
theorem w_specLineGlances (l : LineD) (v_sg : Value) (sg : List Int) (v_sc : Value) (sc : List Int) (h : Heap) (s_sg : Sl h v_sg sg) (s_sc : Sl h v_sc sc) : Cn f_spec_LineGlances [.agg #[.int .i64 l.towers, .int .i64 l.tries], v_sg, v_sc] h fun v h' => v = .tuple #[.int .i64 ((glOut l.towers l.tries sg sc).1), .bool ((glOut l.towers l.tries sg sc).2)] ∧ Ext h h' := (specLineGlances_ok l.towers l.tries v_sg sg v_sc sc h s_sg s_sc)
theorem w_implStuckAt (l : LineD) (v_sg : Value) (sg : List Int) (v_sc : Value) (sc : List Int) (h : Heap) (s_sg : Sl h v_sg sg) (s_sc : Sl h v_sc sc) : Cn f_impl_StuckAt [.agg #[.int .i64 l.towers, .int .i64 l.tries], v_sg, v_sc] h fun v h' => v = .tuple #[.int .i64 ((stOut l.towers l.tries sg sc).1), .int .i64 ((stOut l.towers l.tries sg sc).2.1), .bool ((stOut l.towers l.tries sg sc).2.2)] ∧ Ext h h' := (implStuckAt_ok l.towers l.tries v_sg sg v_sc sc h s_sg s_sc)
theorem w_specStuckAt (l : LineD) (v_sg : Value) (sg : List Int) (v_sc : Value) (sc : List Int) (h : Heap) (s_sg : Sl h v_sg sg) (s_sc : Sl h v_sc sc) : Cn f_spec_StuckAt [.agg #[.int .i64 l.towers, .int .i64 l.tries], v_sg, v_sc] h fun v h' => v = .tuple #[.int .i64 ((stOut l.towers l.tries sg sc).1), .int .i64 ((stOut l.towers l.tries sg sc).2.1), .bool ((stOut l.towers l.tries sg sc).2.2)] ∧ Ext h h' := (specStuckAt_ok l.towers l.tries v_sg sg v_sc sc h s_sg s_sc)
theorem w_implLeastLineTries (l : LineD) (v_sg : Value) (sg : List Int) (v_sc : Value) (sc : List Int) (h : Heap) (s_sg : Sl h v_sg sg) (s_sc : Sl h v_sc sc) : Cn f_impl_LeastLineTries [.agg #[.int .i64 l.towers, .int .i64 l.tries], v_sg, v_sc] h fun v h' => v = .tuple #[.int .i64 ((ltOut l.towers l.tries sg sc).1), .bool ((ltOut l.towers l.tries sg sc).2)] ∧ Ext h h' := (implLeastLineTries_ok l.towers l.tries v_sg sg v_sc sc h s_sg s_sc)
theorem w_specLeastLineTries (l : LineD) (v_sg : Value) (sg : List Int) (v_sc : Value) (sc : List Int) (h : Heap) (s_sg : Sl h v_sg sg) (s_sc : Sl h v_sc sc) : Cn f_spec_LeastLineTries [.agg #[.int .i64 l.towers, .int .i64 l.tries], v_sg, v_sc] h fun v h' => v = .tuple #[.int .i64 ((ltOut l.towers l.tries sg sc).1), .bool ((ltOut l.towers l.tries sg sc).2)] ∧ Ext h h' := (specLeastLineTries_ok l.towers l.tries v_sg sg v_sc sc h s_sg s_sc)
theorem w_implHeldAtTower (l : LineD) (v_sg : Value) (sg : List Int) (v_sc : Value) (sc : List Int) (w : Int) (h : Heap) (s_sg : Sl h v_sg sg) (s_sc : Sl h v_sc sc) : Cn f_impl_HeldAtTower [.agg #[.int .i64 l.towers, .int .i64 l.tries], v_sg, v_sc, .int .i64 w] h fun v h' => ∃ r0 : Value, v = .tuple #[r0, .bool ((haOut l.towers l.tries sg sc w).2)] ∧ SlO h' r0 ((haOut l.towers l.tries sg sc w).1) ∧ Fr h.size r0 ∧ Ext h h' := (implHeldAtTower_ok l.towers l.tries v_sg sg v_sc sc w h s_sg s_sc).mono (fun _ _ ⟨r, e, s, x, f⟩ => ⟨r, e, s, f, x⟩)
theorem w_specHeldAtTower (l : LineD) (v_sg : Value) (sg : List Int) (v_sc : Value) (sc : List Int) (w : Int) (h : Heap) (s_sg : Sl h v_sg sg) (s_sc : Sl h v_sc sc) : Cn f_spec_HeldAtTower [.agg #[.int .i64 l.towers, .int .i64 l.tries], v_sg, v_sc, .int .i64 w] h fun v h' => ∃ r0 : Value, v = .tuple #[r0, .bool ((haOut l.towers l.tries sg sc w).2)] ∧ SlO h' r0 ((haOut l.towers l.tries sg sc w).1) ∧ Fr h.size r0 ∧ Ext h h' := (specHeldAtTower_ok l.towers l.tries v_sg sg v_sc sc w h s_sg s_sc).mono (fun _ _ ⟨r, e, s, x, f⟩ => ⟨r, e, s, f, x⟩)
theorem w_implWithPattern (v_xs : Value) (xs : List Int) (i p : Int) (h : Heap) (s_xs : Sl h v_xs xs) : Cn f_impl_WithPattern [v_xs, .int .i64 i, .int .i64 p] h fun v h' => ∃ r0 : Value, v = .tuple #[r0, .bool ((patOut xs i p).2)] ∧ SlO h' r0 ((patOut xs i p).1) ∧ Fr h.size r0 ∧ Ext h h' := (implWithPattern_ok v_xs xs i p h s_xs).mono (fun _ _ ⟨r, e, s, x, f⟩ => ⟨r, e, s, f, x⟩)
theorem w_implPlainCount (l : LineD) (n : Int) (h : Heap) : Cn f_impl_PlainCount [.agg #[.int .i64 l.towers, .int .i64 l.tries], .int .i64 n] h fun v h' => v = .tuple #[.int .i64 ((plainOut l.towers l.tries n).1), .bool ((plainOut l.towers l.tries n).2)] ∧ Ext h h' := (implPlainCount_ok l.towers l.tries n h).mono (fun _ _ ⟨a, b, e, s, x⟩ => by rw [s]; exact ⟨e, x⟩)
theorem w_implIsLine (l : LineD) (h : Heap) : Cn f_impl_IsLine [.agg #[.int .i64 l.towers, .int .i64 l.tries]] h fun v h' => v = .bool (decide (LineOk l.towers l.tries)) ∧ Ext h h' := isLine_ok l.towers l.tries h
theorem w_specWithPattern (v_xs : Value) (xs : List Int) (i p : Int) (h : Heap) (s_xs : Sl h v_xs xs) : Cn f_spec_WithPattern [v_xs, .int .i64 i, .int .i64 p] h fun v h' => ∃ r0 : Value, v = .tuple #[r0, .bool ((patOut xs i p).2)] ∧ SlO h' r0 ((patOut xs i p).1) ∧ Fr h.size r0 ∧ Ext h h' := (specWithPattern_ok v_xs xs i p h s_xs).mono (fun _ _ ⟨r, e, s, x, f⟩ => ⟨r, e, s, f, x⟩)
theorem w_specPlainCount (l : LineD) (n : Int) (h : Heap) : Cn f_spec_PlainCount [.agg #[.int .i64 l.towers, .int .i64 l.tries], .int .i64 n] h fun v h' => v = .tuple #[.int .i64 ((plainOut l.towers l.tries n).1), .bool ((plainOut l.towers l.tries n).2)] ∧ Ext h h' := (specPlainCount_ok l.towers l.tries n h).mono (fun _ _ ⟨a, b, e, s, x⟩ => by rw [s]; exact ⟨e, x⟩)
theorem w_specIsLine (l : LineD) (h : Heap) : Cn f_spec_IsLine [.agg #[.int .i64 l.towers, .int .i64 l.tries]] h fun v h' => v = .bool (decide (LineOk l.towers l.tries)) ∧ Ext h h' := specIsLine_ok l.towers l.tries h
theorem impl_WrongSignals_ok (l : LineD) (v_sg : Value) (sg : List Int) (v_sc : Value) (sc : List Int) (h : Heap) (s_sg : Sl h v_sg sg) (s_sc : Sl h v_sc sc) : Cn f_impl_WrongSignals [.agg #[.int .i64 l.towers, .int .i64 l.tries], v_sg, v_sc] h fun v h' => ∃ r0 : Value, v = .tuple #[r0, .bool ((wsOut l.towers l.tries sg sc).2)] ∧ SlO h' r0 ((wsOut l.towers l.tries sg sc).1) ∧ Fr h.size r0 ∧ Ext h h' := by
  have lt_sg := s_sg.lt
  have l63_sg := s_sg.len63
  have lt_sc := s_sc.lt
  have l63_sc := s_sc.len63
  refine calls_of r_impl_WrongSignals ?_
  refine v_seq ?_
  refine v_ops ?_
  refine s_box [.int .i64 l.towers, .int .i64 l.tries] rfl (fun h2 b1 hbb1 hzb1 eh2 bxb1 => ?_)
  have E3 := (Ext.refl h).trans eh2
  have z4 := eh2.size
  have lbb1 := bxb1.lt
  refine s_pure (.slice none 0 0) (fun _ q => q) ?_
  refine s_pure (.bool false) (fun _ q => q) ?_
  refine s_nil ?_
  refine p_seqN ?_
  refine v_seq ?_
  refine v_seq ?_
  refine v_ops ?_
  refine s_load (.agg #[.int .i64 l.towers, .int .i64 l.tries]) (fun _ q => bxb1.loadA rfl q) ?_
  refine s_pure v_sg (fun _ q => q) ?_
  refine s_pure v_sc (fun _ q => q) ?_
  have f5 := (s_sg.ext eh2)
  have f6 := (s_sc.ext eh2)
  refine s_call [.agg #[.int .i64 l.towers, .int .i64 l.tries], v_sg, v_sc] rfl (lineAsked_ok l.towers l.tries v_sg v_sc sg sc _ f5 f6) ?_
  rintro _ h7 ⟨rfl, eh7⟩
  have E8 := E3.trans eh7
  have z9 := eh7.size
  refine s_pure (.bool (!(decide (Asked l.towers l.tries sg sc)))) (fun _ q => q) ?_
  refine s_nil ?_
  refine p_seqN ?_
  refine v_cond rfl (fun c10 => ?_) (fun c10 => ?_)
  ·
    refine v_seq ?_
    refine v_ops ?_
    refine s_pure (.slice none 0 0) (fun _ q => q) ?_
    refine s_pure (.bool false) (fun _ q => q) ?_
    refine s_nil ?_
    refine p_seqN ?_
    refine v_ret ?_
    refine p_seqR ?_
    refine p_ret [.slice none 0 0, .bool false] (.tuple #[.slice none 0 0, .bool false]) (fun _ q => q) rfl ?_
    have ho : wsOut l.towers l.tries sg sc = ([], false) := by first | (rw [wsOut, if_neg (by assumption)]; done) | (rw [wsOut, if_pos hask, ← hrow_])
    exact ⟨(.slice none 0 0), by first | (rw [ho]; done) | rfl, sl_eq (SlX.nil (α := Int) true _) (congrArg (fun o => o.1) ho).symm, Fr.nil _, E8⟩
  ·
    have c10 := Classical.not_not.1 c10
    have hask : Asked l.towers l.tries sg sc := c10
    have hsc_ := hask.2.2
    have ht_ := hask.1.1
    refine v_skip ?_
    refine p_seqN ?_
    refine v_seq ?_
    have f11 := (bxb1.ext eh7)
    refine v_draw (DrawVC.hold ([b1]) ?_)
    refine d_pureT v_sg (fun _ q => q) ?_
    refine d_pureT v_sc (fun _ q => q) ?_
    refine d_pureT (.pointer (some ⟨b1, 0, none⟩)) (fun _ q => q) ?_
    refine d_pureT v_sg (fun _ q => q) ?_
    refine d_loadO (.agg #[.int .i64 l.towers, .int .i64 l.tries]) (fun _ q => f11.loadA rfl q) ?_
    refine d_loadT (.int .i64 l.towers) (fun _ q => f11.take (by simp) rfl q) ?_
    refine d_pureT (.int .i64 (l.towers - 1)) (fun _ q => ArithVC.mk (by omega) q) ?_
    refine d_eff ?_
    have f12 := (f5.ext eh7)
    have f13 := (f6.ext eh7)
    have hsch14 : ScriptOk sc := by assumption
    refine s_call [.agg #[.int .i64 l.towers, .int .i64 l.tries], v_sg, v_sc] rfl (passLine_ok l.towers l.tries v_sg v_sc sg sc _ hask.1.1 hask.1.2 f12 f13 (by have := hask.2.1.1; omega) hask.2.1.2 hsch14.2) ?_
    rintro _ h14 ⟨H15, _, rfl, hhh14, eh14⟩
    obtain ⟨q16, hqq16, _, Dq16⟩ := hhh14.deep
    have E17 := E8.trans eh14
    have z18 := eh14.size
    have G19 := eh14
    have lt_H15 := Dq16.lt
    have fr_H15 := Dq16.fr
    have hlq16 : q16.length = l.towers.toNat := by (have hc := congrArg List.length hqq16); rw [List.length_map, runOf_rows] at hc; exact hc
    refine s_nil ⟨fun _ x hx => G19.blk x (by simp at hx; omega), ?_⟩
    refine d_pureT H15 (fun _ q => q) ?_
    have hk20 : ((l.towers - 1)).toNat < q16.length := (by first | omega | (simp; omega))
    obtain ⟨x21, hx21⟩ : ∃ x, q16[((l.towers - 1)).toNat]? = some x := ⟨_, List.getElem?_eq_getElem hk20⟩
    refine d_pureT (.pointer (some ⟨sblk H15, soff H15 + (((l.towers - 1)).toNat) * 1, none⟩)) (fun _ q => Dq16.row.idx (k := ((l.towers - 1)).toNat) (by omega) hk20 q) ?_
    have s22 := Dq16.insL x21 (List.mem_of_getElem? hx21)
    refine d_loadO x21.sv.v (fun _ q => Dq16.row.load1 hx21 rfl q) ?_
    refine d_eff ?_
    have f23 := (f12.ext eh14)
    have hrow_ := (row_at hqq16 hx21).trans (by rw [show (l.towers - 1).toNat = l.towers.toNat - 1 by omega])
    have hwlh24 : x21.sig.length ≤ sg.length := by rw [hrow_]; exact rowlen _ _ _ _ _
    refine s_call [x21.sv.v, v_sg] rfl (wrongSignals_ok x21.sv.v x21.sig v_sg sg _ f23 s22 hwlh24 (by have := hask.2.1.1; omega)) ?_
    rintro r25 h24 ⟨s_r25, eh24, fr_r25⟩
    have E26 := E17.trans eh24
    have z27 := eh24.size
    have G28 := G19.trans eh24
    have lt_r25 := s_r25.lt
    refine s_nil ⟨fun hl => (by cases hl), ?_⟩
    refine d_pureT r25 (fun _ q => q) ?_
    refine d_pureT (.bool true) (fun _ q => q) ?_
    refine d_done ?_
    refine p_seqN ?_
    refine v_ret ?_
    refine p_ret [r25, .bool true] (.tuple #[r25, .bool true]) (fun _ q => q) rfl ?_
    have ho : wsOut l.towers l.tries sg sc = ((wrongF sg x21.sig 0), true) := by first | (rw [wsOut, if_neg (by assumption)]; done) | (rw [wsOut, if_pos hask, ← hrow_])
    exact ⟨r25, by first | (rw [ho]; done) | rfl, sl_eq s_r25 (congrArg (fun o => o.1) ho).symm, fr_r25.mono (by omega), E26⟩

theorem spec_WrongSignals_ok (l : LineD) (v_sg : Value) (sg : List Int) (v_sc : Value) (sc : List Int) (h : Heap) (s_sg : Sl h v_sg sg) (s_sc : Sl h v_sc sc) : Cn f_spec_WrongSignals [.agg #[.int .i64 l.towers, .int .i64 l.tries], v_sg, v_sc] h fun v h' => ∃ r0 : Value, v = .tuple #[r0, .bool ((wsOut l.towers l.tries sg sc).2)] ∧ SlO h' r0 ((wsOut l.towers l.tries sg sc).1) ∧ Fr h.size r0 ∧ Ext h h' := by
  have lt_sg := s_sg.lt
  have l63_sg := s_sg.len63
  have lt_sc := s_sc.lt
  have l63_sc := s_sc.len63
  refine calls_of r_spec_WrongSignals ?_
  refine v_seq ?_
  refine v_ops ?_
  refine s_box [.int .i64 l.towers, .int .i64 l.tries] rfl (fun h2 b1 hbb1 hzb1 eh2 bxb1 => ?_)
  have E3 := (Ext.refl h).trans eh2
  have z4 := eh2.size
  have lbb1 := bxb1.lt
  refine s_pure (.slice none 0 0) (fun _ q => q) ?_
  refine s_pure (.bool false) (fun _ q => q) ?_
  refine s_nil ?_
  refine p_seqN ?_
  refine v_seq ?_
  refine v_seq ?_
  refine v_ops ?_
  refine s_load (.agg #[.int .i64 l.towers, .int .i64 l.tries]) (fun _ q => bxb1.loadA rfl q) ?_
  refine s_pure v_sg (fun _ q => q) ?_
  refine s_pure v_sc (fun _ q => q) ?_
  have f5 := (s_sg.ext eh2)
  have f6 := (s_sc.ext eh2)
  refine s_call [.agg #[.int .i64 l.towers, .int .i64 l.tries], v_sg, v_sc] rfl (liAsked_ok l.towers l.tries v_sg v_sc sg sc _ f5 f6) ?_
  rintro _ h7 ⟨rfl, eh7⟩
  have E8 := E3.trans eh7
  have z9 := eh7.size
  refine s_pure (.bool (!(decide (Asked l.towers l.tries sg sc)))) (fun _ q => q) ?_
  refine s_nil ?_
  refine p_seqN ?_
  refine v_cond rfl (fun c10 => ?_) (fun c10 => ?_)
  ·
    refine v_seq ?_
    refine v_ops ?_
    refine s_pure (.slice none 0 0) (fun _ q => q) ?_
    refine s_pure (.bool false) (fun _ q => q) ?_
    refine s_nil ?_
    refine p_seqN ?_
    refine v_ret ?_
    refine p_seqR ?_
    refine p_ret [.slice none 0 0, .bool false] (.tuple #[.slice none 0 0, .bool false]) (fun _ q => q) rfl ?_
    have ho : wsOut l.towers l.tries sg sc = ([], false) := by first | (rw [wsOut, if_neg (by assumption)]; done) | (rw [wsOut, if_pos hask, ← hrow_])
    exact ⟨(.slice none 0 0), by first | (rw [ho]; done) | rfl, sl_eq (SlX.nil (α := Int) true _) (congrArg (fun o => o.1) ho).symm, Fr.nil _, E8⟩
  ·
    have c10 := Classical.not_not.1 c10
    have hask : Asked l.towers l.tries sg sc := c10
    have hsc_ := hask.2.2
    have ht_ := hask.1.1
    refine v_skip ?_
    refine p_seqN ?_
    refine v_seq ?_
    have f11 := (bxb1.ext eh7)
    refine v_draw (DrawVC.hold ([b1]) ?_)
    refine d_pureT v_sg (fun _ q => q) ?_
    refine d_pureT v_sg (fun _ q => q) ?_
    refine d_pureT v_sc (fun _ q => q) ?_
    refine d_pureT (.pointer (some ⟨b1, 0, none⟩)) (fun _ q => q) ?_
    refine d_loadO (.agg #[.int .i64 l.towers, .int .i64 l.tries]) (fun _ q => f11.loadA rfl q) ?_
    refine d_loadT (.int .i64 l.towers) (fun _ q => f11.take (by simp) rfl q) ?_
    refine d_pureT (.int .i64 (l.towers - 1)) (fun _ q => ArithVC.mk (by omega) q) ?_
    refine d_eff ?_
    have f12 := (f5.ext eh7)
    have f13 := (f6.ext eh7)
    have hsch14 : ScriptOk sc := by assumption
    refine s_call [.agg #[.int .i64 l.towers, .int .i64 l.tries], v_sg, v_sc] rfl (liRun_ok l.towers l.tries v_sg v_sc sg sc _ hask.1.1 hask.1.2 f12 f13 (by have := hask.2.1.1; omega) hask.2.1.2 hsch14.2) ?_
    rintro _ h14 ⟨X17, H15, _, rfl, bxX17, hhh14, eh14, loX17⟩
    obtain ⟨q16, hqq16, _, Dq16⟩ := hhh14.deep
    have E18 := E8.trans eh14
    have z19 := eh14.size
    have G20 := eh14
    have lt_H15 := Dq16.lt
    have fr_H15 := Dq16.fr
    have hlq16 : q16.length = l.towers.toNat := by (have hc := congrArg List.length hqq16); rw [List.length_map, runOf_rows] at hc; exact hc
    have lbX17 := bxX17.lt
    refine s_nil ⟨fun _ x hx => G20.blk x (by simp at hx; omega), ?_⟩
    refine d_pureT (.pointer (some ⟨X17, 0, none⟩)) (fun _ q => q) ?_
    refine d_pureT (.pointer (some ⟨X17, 2, none⟩)) (fun _ q => q) ?_
    refine d_loadO H15 (fun _ q => bxX17.load rfl q) ?_
    have hk21 : ((l.towers - 1)).toNat < q16.length := (by first | omega | (simp; omega))
    obtain ⟨x22, hx22⟩ : ∃ x, q16[((l.towers - 1)).toNat]? = some x := ⟨_, List.getElem?_eq_getElem hk21⟩
    refine d_pureT (.pointer (some ⟨sblk H15, soff H15 + (((l.towers - 1)).toNat) * 1, none⟩)) (fun _ q => Dq16.row.idx (k := ((l.towers - 1)).toNat) (by omega) hk21 q) ?_
    have s23 := Dq16.insL x22 (List.mem_of_getElem? hx22)
    refine d_loadO x22.sv.v (fun _ q => Dq16.row.load1 hx22 rfl q) ?_
    refine d_eff ?_
    have f24 := (f12.ext eh14)
    have hrow_ := (row_at hqq16 hx22).trans (by rw [show (l.towers - 1).toNat = l.towers.toNat - 1 by omega])
    have hwlh25 : x22.sig.length ≤ sg.length := by rw [hrow_]; exact rowlen _ _ _ _ _
    refine s_call [v_sg, x22.sv.v] rfl (liWrong_ok v_sg sg x22.sv.v x22.sig _ f24 s23 hwlh25 (by have := hask.2.1.1; omega)) ?_
    rintro r26 h25 ⟨s_r26, eh25, fr_r26⟩
    have E27 := E18.trans eh25
    have z28 := eh25.size
    have G29 := G20.trans eh25
    have lt_r26 := s_r26.lt
    refine s_nil ⟨fun hl => (by cases hl), ?_⟩
    refine d_pureT r26 (fun _ q => q) ?_
    refine d_pureT (.bool true) (fun _ q => q) ?_
    refine d_done ?_
    refine p_seqN ?_
    refine v_ret ?_
    refine p_ret [r26, .bool true] (.tuple #[r26, .bool true]) (fun _ q => q) rfl ?_
    have ho : wsOut l.towers l.tries sg sc = ((wrongF sg x22.sig 0), true) := by first | (rw [wsOut, if_neg (by assumption)]; done) | (rw [wsOut, if_pos hask, ← hrow_])
    exact ⟨r26, by first | (rw [ho]; done) | rfl, sl_eq s_r26 (congrArg (fun o => o.1) ho).symm, fr_r26.mono (by omega), E27⟩

theorem laws_big_ok (v_code : Value) (code : List By) (v_more : Value) (more : List By) (h : Heap) (s_code : Sl h v_code code) (s_more : Sl h v_more more) : Cn f_laws_big [v_code, v_more] h fun v h' => v = .bool (decide (1048576 < code.length + more.length)) ∧ Ext h h' := by
  have lt_code := s_code.lt
  have l63_code := s_code.len63
  have lt_more := s_more.lt
  have l63_more := s_more.len63
  refine calls_of r_laws_big ?_
  refine v_seq ?_
  refine v_ops ?_
  refine s_pure (.bool false) (fun _ q => q) ?_
  refine s_nil ?_
  refine p_seqN ?_
  refine v_seq ?_
  refine v_ops ?_
  refine s_pure v_code (fun _ q => q) ?_
  refine s_pure (.int .i64 (code.length : Int)) (fun _ q => s_code.lenVC q) ?_
  refine s_pure (.bool (decide ((code.length : Int) > 1048576))) (fun _ q => q) ?_
  refine s_pure (.bool (decide ((code.length : Int) > 1048576))) (fun _ q => q) ?_
  refine s_splitT rfl (fun c1 => ?_) (fun c1 => ?_)
  ·
    refine s_pass rfl ?_
    refine s_pass rfl ?_
    refine s_pass rfl ?_
    refine s_pass rfl ?_
    refine s_pass rfl ?_
    refine s_pass rfl ?_
    refine s_pure (.bool true) (fun _ q => q) ?_
    refine s_pure (.bool true) (fun _ q => q) ?_
    refine s_nil ?_
    refine p_seqN ?_
    refine v_ret ?_
    refine p_ret [.bool true] (.bool true) (fun _ q => q) rfl ?_
    have ho : (decide (1048576 < code.length + more.length)) = true := by first | exact decide_eq_true (by omega) | exact decide_eq_decide.2 (by omega)
    exact ⟨by first | (rw [ho]; done) | rfl, (Ext.refl h)⟩
  ·
    refine s_run rfl ?_
    refine s_pure v_more (fun _ q => q) ?_
    refine s_run rfl ?_
    refine s_pure (.int .i64 (more.length : Int)) (fun _ q => s_more.lenVC q) ?_
    refine s_run rfl ?_
    refine s_pure v_code (fun _ q => q) ?_
    refine s_run rfl ?_
    refine s_pure (.int .i64 (code.length : Int)) (fun _ q => s_code.lenVC q) ?_
    refine s_run rfl ?_
    refine s_pure (.int .i64 (1048576 - (code.length : Int))) (fun _ q => ArithVC.mk (by omega) q) ?_
    refine s_run rfl ?_
    refine s_pure (.bool (decide ((more.length : Int) > (1048576 - (code.length : Int))))) (fun _ q => q) ?_
    refine s_pure (.bool (decide ((more.length : Int) > (1048576 - (code.length : Int))))) (fun _ q => q) ?_
    refine s_pure (.bool (decide ((more.length : Int) > (1048576 - (code.length : Int))))) (fun _ q => q) ?_
    refine s_nil ?_
    refine p_seqN ?_
    refine v_ret ?_
    refine p_ret [.bool (decide ((more.length : Int) > (1048576 - (code.length : Int))))] (.bool (decide ((more.length : Int) > (1048576 - (code.length : Int))))) (fun _ q => q) rfl ?_
    have ho : (decide (1048576 < code.length + more.length)) = (decide ((more.length : Int) > (1048576 - (code.length : Int)))) := by first | exact decide_eq_true (by omega) | exact decide_eq_decide.2 (by omega)
    exact ⟨by first | (rw [ho]; done) | rfl, (Ext.refl h)⟩

theorem laws_sameInts_ok (v_a : Value) (a : List Int) (v_b : Value) (b : List Int) (h : Heap) (s_a : Sl h v_a a) (s_b : Sl h v_b b) : Cn f_laws_sameInts [v_a, v_b] h fun v h' => v = .bool (decide (a = b)) ∧ Ext h h' := by
  have lt_a := s_a.lt
  have l63_a := s_a.len63
  have lt_b := s_b.lt
  have l63_b := s_b.len63
  refine calls_of r_laws_sameInts ?_
  refine v_seq ?_
  refine v_ops ?_
  refine s_pure (.bool false) (fun _ q => q) ?_
  refine s_nil ?_
  refine p_seqN ?_
  refine v_seq ?_
  refine v_seq ?_
  refine v_ops ?_
  refine s_pure v_a (fun _ q => q) ?_
  refine s_pure (.int .i64 (a.length : Int)) (fun _ q => s_a.lenVC q) ?_
  refine s_pure v_b (fun _ q => q) ?_
  refine s_pure (.int .i64 (b.length : Int)) (fun _ q => s_b.lenVC q) ?_
  refine s_pure (.bool ((a.length : Int) != (b.length : Int))) (fun _ q => q) ?_
  refine s_nil ?_
  refine p_seqN ?_
  refine v_cond rfl (fun c1 => ?_) (fun c1 => ?_)
  ·
    refine v_seq ?_
    refine v_ops ?_
    refine s_pure (.bool false) (fun _ q => q) ?_
    refine s_nil ?_
    refine p_seqN ?_
    refine v_ret ?_
    refine p_seqR ?_
    refine p_ret [.bool false] (.bool false) (fun _ q => q) rfl ?_
    have ho : (decide (a = b)) = false := by first | exact decide_eq_true (si_done hab (by assumption) (by assumption)) | exact decide_eq_false (si_ne (by assumption) (by assumption) (by assumption)) | exact decide_eq_false (fun hc => by subst hc; omega)
    exact ⟨by first | (rw [ho]; done) | rfl, (Ext.refl h)⟩
  ·
    have c1 := Classical.not_not.1 c1
    refine v_skip ?_
    refine p_seqN ?_
    refine v_seq ?_
    refine v_seq ?_
    refine v_ops ?_
    refine s_pure v_a (fun _ q => q) ?_
    refine s_pure (.int .i64 (a.length : Int)) (fun _ q => s_a.lenVC q) ?_
    refine s_pure (.int .i64 0) (fun _ q => q) ?_
    refine s_nil ?_
    refine p_seqN ?_
    refine v_block ?_
    refine v_loop1 (α := Nat) (fun k => [(0, v_a), (1, v_b), (12, .int .i64 (a.length : Int)), (13, .int .i64 (k : Int))]) (fun k hh => Ext h hh ∧ k ≤ a.length ∧ a.take k = b.take k) (fun k => a.length - k) 0 ⟨rfl, rfl, rfl, rfl⟩ ⟨(Ext.refl h), (by simp)⟩ ?_
    rintro k R3 h2 ⟨Eh, ⟨hk, hab⟩⟩
    have zEh := Eh.size
    have f4 := s_a.ext Eh
    have f5 := s_b.ext Eh
    refine v_seq ?_
    refine v_ops ?_
    refine s_pure (.bool (decide ((k : Int) < (a.length : Int)))) (fun _ q => q) ?_
    refine s_nil ?_
    refine p_seqN ?_
    refine v_seq ?_
    refine v_cond rfl (fun c6 => ?_) (fun c6 => ?_)
    ·
      refine v_skip ?_
      refine p_seqN ?_
      refine v_seq ?_
      refine v_block ?_
      refine v_seq ?_
      refine v_ops ?_
      refine s_pure (.int .i64 (k : Int)) (fun _ q => q) ?_
      refine s_pure (.int .i64 (k : Int)) (fun _ q => q) ?_
      refine s_nil ?_
      refine p_seqN ?_
      refine v_seq ?_
      refine v_ops ?_
      refine s_pure v_a (fun _ q => q) ?_
      refine s_pure (.int .i64 (k : Int)) (fun _ q => q) ?_
      have hk7 : k < a.length := (by first | omega | (simp; omega))
      obtain ⟨x8, hx8⟩ : ∃ x, a[k]? = some x := ⟨_, List.getElem?_eq_getElem hk7⟩
      refine s_pure (.pointer (some ⟨sblk v_a, soff v_a + k * 1, none⟩)) (fun _ q => f4.idx (k := k) rfl hk7 q) ?_
      refine s_pure v_b (fun _ q => q) ?_
      refine s_pure (.int .i64 (k : Int)) (fun _ q => q) ?_
      have hk9 : k < b.length := (by first | omega | (simp; omega))
      obtain ⟨x10, hx10⟩ : ∃ x, b[k]? = some x := ⟨_, List.getElem?_eq_getElem hk9⟩
      refine s_pure (.pointer (some ⟨sblk v_b, soff v_b + k * 1, none⟩)) (fun _ q => f5.idx (k := k) rfl hk9 q) ?_
      refine s_load (.int .i64 x8) (fun _ q => f4.load1 hx8 rfl q) ?_
      refine s_load (.int .i64 x10) (fun _ q => f5.load1 hx10 rfl q) ?_
      refine s_pure (.bool (x8 != x10)) (fun _ q => q) ?_
      refine s_nil ?_
      refine p_seqN ?_
      refine v_cond rfl (fun c11 => ?_) (fun c11 => ?_)
      ·
        refine v_seq ?_
        refine v_ops ?_
        refine s_pure (.bool false) (fun _ q => q) ?_
        refine s_nil ?_
        refine p_seqN ?_
        refine v_ret ?_
        refine p_blkR ?_
        refine p_seqR ?_
        refine p_lpR ?_
        refine p_blkR ?_
        refine p_seqR ?_
        refine p_ret [.bool false] (.bool false) (fun _ q => q) rfl ?_
        have ho : (decide (a = b)) = false := by first | exact decide_eq_true (si_done hab (by assumption) (by assumption)) | exact decide_eq_false (si_ne (by assumption) (by assumption) (by assumption)) | exact decide_eq_false (fun hc => by subst hc; omega)
        exact ⟨by first | (rw [ho]; done) | rfl, Eh⟩
      ·
        have c11 := Classical.not_not.1 c11
        refine v_skip ?_
        refine p_blkN ?_
        refine p_seqN ?_
        refine v_ops ?_
        refine s_pure (.int .i64 ((k : Int) + 1)) (fun _ q => ArithVC.mk (by omega) q) ?_
        refine s_pure (.int .i64 ((k : Int) + 1)) (fun _ q => q) ?_
        refine s_nil ?_
        exact p_lpN ⟨k + 1, ⟨rfl, rfl, rfl, rfl⟩, ⟨Eh, (by exact ⟨by omega, si_step hab (by assumption) (by assumption) (by assumption)⟩)⟩, by omega⟩
    ·
      refine v_exit ?_
      refine p_seqX ?_
      refine p_lpX ?_
      refine p_blkX ?_
      refine p_seqN ?_
      refine v_seq ?_
      refine v_ops ?_
      refine s_pure (.bool true) (fun _ q => q) ?_
      refine s_nil ?_
      refine p_seqN ?_
      refine v_ret ?_
      refine p_ret [.bool true] (.bool true) (fun _ q => q) rfl ?_
      have ho : (decide (a = b)) = true := by first | exact decide_eq_true (si_done hab (by assumption) (by assumption)) | exact decide_eq_false (si_ne (by assumption) (by assumption) (by assumption)) | exact decide_eq_false (fun hc => by subst hc; omega)
      exact ⟨by first | (rw [ho]; done) | rfl, Eh⟩

theorem laws_pSum_ok (v_l : Value) (l : List Int) (h : Heap) (s_l : Sl h v_l l) (hb : ∀ x ∈ l, 0 ≤ x ∧ x ≤ 1000000) (hl : l.length ≤ 1000000) : Cn f_laws_pSum [v_l] h fun v h' => v = .int .i64 l.sum ∧ Ext h h' := by
  have lt_l := s_l.lt
  have l63_l := s_l.len63
  refine calls_of r_laws_pSum ?_
  refine v_seq ?_
  refine v_ops ?_
  refine s_pure (.int .i64 0) (fun _ q => q) ?_
  refine s_nil ?_
  refine p_seqN ?_
  refine v_seq ?_
  refine v_ops ?_
  refine s_pure (.int .i64 0) (fun _ q => q) ?_
  refine s_nil ?_
  refine p_seqN ?_
  refine v_seq ?_
  refine v_seq ?_
  refine v_ops ?_
  refine s_pure v_l (fun _ q => q) ?_
  refine s_pure (.int .i64 (l.length : Int)) (fun _ q => s_l.lenVC q) ?_
  refine s_pure (.int .i64 0) (fun _ q => q) ?_
  refine s_nil ?_
  refine p_seqN ?_
  refine v_block ?_
  refine v_loop2 (α := Nat) (β := Int) (fun k n => [(3, .int .i64 n), (6, v_l), (7, .int .i64 (l.length : Int)), (8, .int .i64 (k : Int))]) (fun k n hh => Ext h hh ∧ k ≤ l.length ∧ n = (l.take k).sum ∧ 0 ≤ n ∧ n ≤ 1000000 * (k : Int)) (fun k n => l.length - k) 0 0 ⟨rfl, rfl, rfl, rfl⟩ ⟨(Ext.refl h), (by simp)⟩ ?_
  rintro k n R2 h1 ⟨Eh, ⟨hk, hn, hn0, hn1⟩⟩
  have zEh := Eh.size
  have f3 := s_l.ext Eh
  refine v_seq ?_
  refine v_ops ?_
  refine s_pure (.bool (decide ((k : Int) < (l.length : Int)))) (fun _ q => q) ?_
  refine s_nil ?_
  refine p_seqN ?_
  refine v_seq ?_
  refine v_cond rfl (fun c4 => ?_) (fun c4 => ?_)
  ·
    refine v_skip ?_
    refine p_seqN ?_
    refine v_seq ?_
    refine v_block ?_
    refine v_seq ?_
    refine v_ops ?_
    have hk5 : k < l.length := (by first | omega | (simp; omega))
    obtain ⟨x6, hx6⟩ : ∃ x, l[k]? = some x := ⟨_, List.getElem?_eq_getElem hk5⟩
    refine s_pure (.pointer (some ⟨sblk v_l, soff v_l + k * 1, none⟩)) (fun _ q => f3.idx (k := k) rfl hk5 q) ?_
    refine s_load (.int .i64 x6) (fun _ q => f3.load1 hx6 rfl q) ?_
    refine s_pure (.int .i64 x6) (fun _ q => q) ?_
    refine s_nil ?_
    refine p_seqN ?_
    refine v_ops ?_
    refine s_pure (.int .i64 n) (fun _ q => q) ?_
    refine s_pure (.int .i64 x6) (fun _ q => q) ?_
    refine s_pure (.int .i64 (n + x6)) (fun _ q => ArithVC.mk (by (have hx_ := hb _ (List.mem_of_getElem? hx6)); omega) q) ?_
    refine s_pure (.int .i64 (n + x6)) (fun _ q => q) ?_
    refine s_nil ?_
    refine p_blkN ?_
    refine p_seqN ?_
    refine v_ops ?_
    refine s_pure (.int .i64 ((k : Int) + 1)) (fun _ q => ArithVC.mk (by omega) q) ?_
    refine s_pure (.int .i64 ((k : Int) + 1)) (fun _ q => q) ?_
    refine s_nil ?_
    exact p_lpN ⟨k + 1, (n + x6), ⟨rfl, rfl, rfl, rfl⟩, ⟨Eh, (by (have hx_ := hb _ (List.mem_of_getElem? hx6)); exact ⟨by omega, by rw [List.take_add_one, hx6]; simp [hn], by omega, by omega⟩)⟩, by omega⟩
  ·
    refine v_exit ?_
    refine p_seqX ?_
    refine p_lpX ?_
    refine p_blkX ?_
    refine p_seqN ?_
    refine v_seq ?_
    refine v_ops ?_
    refine s_pure (.int .i64 n) (fun _ q => q) ?_
    refine s_pure (.int .i64 n) (fun _ q => q) ?_
    refine s_nil ?_
    refine p_seqN ?_
    refine v_ret ?_
    refine p_ret [.int .i64 n] (.int .i64 n) (fun _ q => q) rfl ?_
    have ho : l.sum = n := by rw [hn, List.take_of_length_le (by omega)]
    exact ⟨by first | (rw [ho]; done) | rfl, Eh⟩

end Go.Proofs.Ytckkablifoblbaa
