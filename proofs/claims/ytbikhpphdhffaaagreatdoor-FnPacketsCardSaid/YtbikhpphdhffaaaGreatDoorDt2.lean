/- A packet read back by the implementation. Condition: none. Printed in part by a program. -/
import Derived.Test.YtbikhpphdhffaaaGreatDoorDt1
namespace Go.Proofs.YtbikhpphdhffaaaGreatDoor
open Go.Vc
set_option linter.all false
set_option maxRecDepth 10000 in
set_option maxHeartbeats 4000000 in
theorem impl_ParsePacket_ok (s : ByteArray) (h : Heap) (b_s : s.size ≤ maxLen) (g : Gl h) (hs : s.size ≤ 1048576) : Cn f_impl_ParsePacket [.string s] h fun v h' => ∃ r0 : Value, v = .tuple #[.agg #[.int .i64 (((ppOut s.data.toList).1).message), .int .i64 (((ppOut s.data.toList).1).part), .int .i64 (((ppOut s.data.toList).1).parts), r0], .bool ((ppOut s.data.toList).2)] ∧ SlO h' r0 (((ppOut s.data.toList).1).signals) ∧ Fr h.size r0 ∧ Ext h h' := by
  refine calls_of r_impl_ParsePacket ?_
  refine v_seq ?_
  refine v_ops ?_
  refine s_new (fun h2 b1 hbb1 hzb1 eh2 bxb1 => ?_)
  have E3 := (Ext.refl h).trans eh2
  have z4 := eh2.size
  have lbb1 := bxb1.lt
  refine s_pure (.bool false) (fun _ q => q) ?_
  refine s_nil ?_
  refine p_seqN ?_
  refine v_seq ?_
  refine v_ops ?_
  refine s_pure (.string s) (fun _ q => q) ?_
  refine s_call [.string s, .string (tx [58])] rfl (cut_ok s (tx [58]) _ (by omega) (g.ext E3)) ?_
  rintro _ h5 ⟨rfl, eh5⟩
  have E6 := E3.trans eh5
  have z7 := eh5.size
  have hcl := cut_len 58 s.data.toList
  rw [bsize] at hcl
  refine s_pure (.tuple #[.string (tx (Lib.cut s.data.toList [58]).1), .string (tx (Lib.cut s.data.toList [58]).2.1), .bool ((Lib.cut s.data.toList [58]).2.2)]) (fun _ q => q) ?_
  refine s_pure (.string (tx (Lib.cut s.data.toList [58]).1)) (fun _ q => q) ?_
  refine s_pure (.string (tx (Lib.cut s.data.toList [58]).2.1)) (fun _ q => q) ?_
  refine s_pure (.bool ((Lib.cut s.data.toList [58]).2.2)) (fun _ q => q) ?_
  refine s_pure (.string (tx (Lib.cut s.data.toList [58]).1)) (fun _ q => q) ?_
  refine s_pure (.string (tx (Lib.cut s.data.toList [58]).2.1)) (fun _ q => q) ?_
  refine s_pure (.bool ((Lib.cut s.data.toList [58]).2.2)) (fun _ q => q) ?_
  refine s_nil ?_
  refine p_seqN ?_
  refine v_seq ?_
  refine v_ops ?_
  refine s_pure (.string (tx (Lib.cut s.data.toList [58]).1)) (fun _ q => q) ?_
  refine s_call [.string (tx (Lib.cut s.data.toList [58]).1), .string (tx [47])] rfl (impl_splitNumbers_ok (tx (Lib.cut s.data.toList [58]).1) (tx [47]) _ (by first | omega | (simp [maxLen]; omega) | decide | (rw [tx_size]; simp [maxLen]; omega)) (by first | omega | (simp [maxLen]; omega) | decide | (rw [tx_size]; simp [maxLen]; omega)) (g.ext E6) (by first | omega | (rw [tx_size]; omega)) 47 rfl) ?_
  rintro _ h9 ⟨r8, rfl, s_r8, fr_r8, eh9⟩
  have E10 := E6.trans eh9
  have z11 := eh9.size
  have lt_r8 := s_r8.lt
  refine s_pure (.tuple #[r8, .bool ((sn (splitOn 47 ((Lib.cut s.data.toList [58]).1))).2)]) (fun _ q => q) ?_
  refine s_pure r8 (fun _ q => q) ?_
  refine s_pure (.bool ((sn (splitOn 47 ((Lib.cut s.data.toList [58]).1))).2)) (fun _ q => q) ?_
  refine s_pure r8 (fun _ q => q) ?_
  refine s_pure (.bool ((sn (splitOn 47 ((Lib.cut s.data.toList [58]).1))).2)) (fun _ q => q) ?_
  refine s_nil ?_
  refine p_seqN ?_
  refine v_seq ?_
  refine v_ops ?_
  refine s_pure (.string (tx (Lib.cut s.data.toList [58]).2.1)) (fun _ q => q) ?_
  refine s_call [.string (tx (Lib.cut s.data.toList [58]).2.1), .string (tx [32])] rfl (impl_splitNumbers_ok (tx (Lib.cut s.data.toList [58]).2.1) (tx [32]) _ (by first | omega | (simp [maxLen]; omega) | decide | (rw [tx_size]; simp [maxLen]; omega)) (by first | omega | (simp [maxLen]; omega) | decide | (rw [tx_size]; simp [maxLen]; omega)) (g.ext E10) (by first | omega | (rw [tx_size]; omega)) 32 rfl) ?_
  rintro _ h13 ⟨r12, rfl, s_r12, fr_r12, eh13⟩
  have E14 := E10.trans eh13
  have z15 := eh13.size
  have lt_r12 := s_r12.lt
  refine s_pure (.tuple #[r12, .bool ((sn (splitOn 32 ((Lib.cut s.data.toList [58]).2.1))).2)]) (fun _ q => q) ?_
  refine s_pure r12 (fun _ q => q) ?_
  refine s_pure (.bool ((sn (splitOn 32 ((Lib.cut s.data.toList [58]).2.1))).2)) (fun _ q => q) ?_
  refine s_pure r12 (fun _ q => q) ?_
  refine s_pure (.bool ((sn (splitOn 32 ((Lib.cut s.data.toList [58]).2.1))).2)) (fun _ q => q) ?_
  refine s_nil ?_
  refine p_seqN ?_
  refine v_seq ?_
  refine v_seq ?_
  refine v_ops ?_
  refine s_pure (.bool ((sn (splitOn 47 ((Lib.cut s.data.toList [58]).1))).2)) (fun _ q => q) ?_
  refine s_pure (.bool (!(sn (splitOn 47 ((Lib.cut s.data.toList [58]).1))).2)) (fun _ q => q) ?_
  refine s_pure (.bool (!(sn (splitOn 47 ((Lib.cut s.data.toList [58]).1))).2)) (fun _ q => q) ?_
  refine s_splitT rfl (fun c16 => ?_) (fun c16 => ?_)
  ·
    refine s_pass rfl ?_
    refine s_pass rfl ?_
    refine s_pure (.bool true) (fun _ q => q) ?_
    refine s_pure (.bool true) (fun _ q => q) ?_
    refine s_splitY rfl rfl ?_
    refine s_pass rfl ?_
    refine s_pass rfl ?_
    refine s_pass rfl ?_
    refine s_pure (.bool true) (fun _ q => q) ?_
    refine s_nil ?_
    refine p_seqN ?_
    refine v_condY rfl rfl ?_
    refine v_seq ?_
    refine v_ops ?_
    refine s_pure (.agg #[.int .i64 0, .int .i64 0, .int .i64 0, .slice none 0 0]) (fun _ q => w_build (seg_nil q)) ?_
    have f17 := (((bxb1.ext eh5).ext eh9).ext eh13)
    refine s_stBx (.agg #[.int .i64 0, .int .i64 0, .int .i64 0, .slice none 0 0]) [.int .i64 0, .int .i64 0, .int .i64 0, .slice none 0 0] [.int .i64 0, .int .i64 0, .int .i64 0, .slice none 0 0] f17 rfl rfl rfl rfl (by simp) (all_cons rfl (all_cons rfl (all_cons rfl (all_cons rfl all_nil)))) rfl (fun h18 mh18 sh18 bxx19 => ?_)
    have E20 := E14.mod mh18 (fun b hb => by simp at hb; omega)
    refine s_pure (.bool false) (fun _ q => q) ?_
    refine s_nil ?_
    refine p_seqN ?_
    refine v_ret ?_
    refine p_seqR ?_
    refine p_ret [.agg #[.int .i64 0, .int .i64 0, .int .i64 0, .slice none 0 0], .bool false] (.tuple #[.agg #[.int .i64 0, .int .i64 0, .int .i64 0, .slice none 0 0], .bool false]) (fun _ q => (bxx19.loadA rfl q)) rfl ?_
    have ho : (ppOut s.data.toList) = (⟨0, 0, 0, []⟩, false) := by first | exact impl_no1 (by assumption) | exact impl_no1 (Bool.eq_false_iff.1 (by assumption)) | exact impl_no2 (by assumption) | exact impl_no2 (Bool.eq_false_iff.1 (by assumption)) | exact impl_no3 (by assumption) | exact impl_no4 (by omega) (by assumption) (by assumption) (by assumption) (by assumption) | exact impl_yes (by assumption) (by assumption) (by omega) (by assumption) (by assumption) (by assumption) (by assumption)
    exact ⟨(.slice none 0 0), by first | (rw [ho]; done) | rfl, sl_eq (SlX.nil (α := Int) true _) (congrArg (fun o => o.1.signals) ho).symm, Fr.nil _, E20⟩
  ·
    have c16 := Classical.not_not.1 c16
    refine s_run rfl ?_
    refine s_pure (.bool ((sn (splitOn 32 ((Lib.cut s.data.toList [58]).2.1))).2)) (fun _ q => q) ?_
    refine s_run rfl ?_
    refine s_pure (.bool (!(sn (splitOn 32 ((Lib.cut s.data.toList [58]).2.1))).2)) (fun _ q => q) ?_
    refine s_pure (.bool (!(sn (splitOn 32 ((Lib.cut s.data.toList [58]).2.1))).2)) (fun _ q => q) ?_
    refine s_pure (.bool (!(sn (splitOn 32 ((Lib.cut s.data.toList [58]).2.1))).2)) (fun _ q => q) ?_
    refine s_splitT rfl (fun c21 => ?_) (fun c21 => ?_)
    ·
      refine s_pass rfl ?_
      refine s_pass rfl ?_
      refine s_pass rfl ?_
      refine s_pure (.bool true) (fun _ q => q) ?_
      refine s_nil ?_
      refine p_seqN ?_
      refine v_condY rfl rfl ?_
      refine v_seq ?_
      refine v_ops ?_
      refine s_pure (.agg #[.int .i64 0, .int .i64 0, .int .i64 0, .slice none 0 0]) (fun _ q => w_build (seg_nil q)) ?_
      have f22 := (((bxb1.ext eh5).ext eh9).ext eh13)
      refine s_stBx (.agg #[.int .i64 0, .int .i64 0, .int .i64 0, .slice none 0 0]) [.int .i64 0, .int .i64 0, .int .i64 0, .slice none 0 0] [.int .i64 0, .int .i64 0, .int .i64 0, .slice none 0 0] f22 rfl rfl rfl rfl (by simp) (all_cons rfl (all_cons rfl (all_cons rfl (all_cons rfl all_nil)))) rfl (fun h23 mh23 sh23 bxx24 => ?_)
      have E25 := E14.mod mh23 (fun b hb => by simp at hb; omega)
      refine s_pure (.bool false) (fun _ q => q) ?_
      refine s_nil ?_
      refine p_seqN ?_
      refine v_ret ?_
      refine p_seqR ?_
      refine p_ret [.agg #[.int .i64 0, .int .i64 0, .int .i64 0, .slice none 0 0], .bool false] (.tuple #[.agg #[.int .i64 0, .int .i64 0, .int .i64 0, .slice none 0 0], .bool false]) (fun _ q => (bxx24.loadA rfl q)) rfl ?_
      have ho : (ppOut s.data.toList) = (⟨0, 0, 0, []⟩, false) := by first | exact impl_no1 (by assumption) | exact impl_no1 (Bool.eq_false_iff.1 (by assumption)) | exact impl_no2 (by assumption) | exact impl_no2 (Bool.eq_false_iff.1 (by assumption)) | exact impl_no3 (by assumption) | exact impl_no4 (by omega) (by assumption) (by assumption) (by assumption) (by assumption) | exact impl_yes (by assumption) (by assumption) (by omega) (by assumption) (by assumption) (by assumption) (by assumption)
      exact ⟨(.slice none 0 0), by first | (rw [ho]; done) | rfl, sl_eq (SlX.nil (α := Int) true _) (congrArg (fun o => o.1.signals) ho).symm, Fr.nil _, E25⟩
    ·
      have c21 := Classical.not_not.1 c21
      refine s_run rfl ?_
      refine s_pure r8 (fun _ q => q) ?_
      refine s_run rfl ?_
      refine s_pure (.int .i64 (((sn (splitOn 47 ((Lib.cut s.data.toList [58]).1))).1).length : Int)) (fun _ q => s_r8.lenVC q) ?_
      refine s_run rfl ?_
      refine s_pure (.bool ((((sn (splitOn 47 ((Lib.cut s.data.toList [58]).1))).1).length : Int) != 3)) (fun _ q => q) ?_
      refine s_pure (.bool ((((sn (splitOn 47 ((Lib.cut s.data.toList [58]).1))).1).length : Int) != 3)) (fun _ q => q) ?_
      refine s_nil ?_
      refine p_seqN ?_
      refine v_cond rfl (fun c26 => ?_) (fun c26 => ?_)
      ·
        refine v_seq ?_
        refine v_ops ?_
        refine s_pure (.agg #[.int .i64 0, .int .i64 0, .int .i64 0, .slice none 0 0]) (fun _ q => w_build (seg_nil q)) ?_
        have f27 := (((bxb1.ext eh5).ext eh9).ext eh13)
        refine s_stBx (.agg #[.int .i64 0, .int .i64 0, .int .i64 0, .slice none 0 0]) [.int .i64 0, .int .i64 0, .int .i64 0, .slice none 0 0] [.int .i64 0, .int .i64 0, .int .i64 0, .slice none 0 0] f27 rfl rfl rfl rfl (by simp) (all_cons rfl (all_cons rfl (all_cons rfl (all_cons rfl all_nil)))) rfl (fun h28 mh28 sh28 bxx29 => ?_)
        have E30 := E14.mod mh28 (fun b hb => by simp at hb; omega)
        refine s_pure (.bool false) (fun _ q => q) ?_
        refine s_nil ?_
        refine p_seqN ?_
        refine v_ret ?_
        refine p_seqR ?_
        refine p_ret [.agg #[.int .i64 0, .int .i64 0, .int .i64 0, .slice none 0 0], .bool false] (.tuple #[.agg #[.int .i64 0, .int .i64 0, .int .i64 0, .slice none 0 0], .bool false]) (fun _ q => (bxx29.loadA rfl q)) rfl ?_
        have ho : (ppOut s.data.toList) = (⟨0, 0, 0, []⟩, false) := by first | exact impl_no1 (by assumption) | exact impl_no1 (Bool.eq_false_iff.1 (by assumption)) | exact impl_no2 (by assumption) | exact impl_no2 (Bool.eq_false_iff.1 (by assumption)) | exact impl_no3 (by assumption) | exact impl_no4 (by omega) (by assumption) (by assumption) (by assumption) (by assumption) | exact impl_yes (by assumption) (by assumption) (by omega) (by assumption) (by assumption) (by assumption) (by assumption)
        exact ⟨(.slice none 0 0), by first | (rw [ho]; done) | rfl, sl_eq (SlX.nil (α := Int) true _) (congrArg (fun o => o.1.signals) ho).symm, Fr.nil _, E30⟩
      ·
        have c26 := Classical.not_not.1 c26
        refine v_skip ?_
        refine p_seqN ?_
        refine v_seq ?_
        have f31 := (s_r8.ext eh13)
        refine v_draw (DrawVC.hold (blks r8) ?_)
        refine d_pureT r8 (fun _ q => q) ?_
        have hk32 : 0 < ((sn (splitOn 47 ((Lib.cut s.data.toList [58]).1))).1).length := (by first | omega | (simp; omega))
        obtain ⟨x33, hx33⟩ : ∃ x, ((sn (splitOn 47 ((Lib.cut s.data.toList [58]).1))).1)[0]? = some x := ⟨_, List.getElem?_eq_getElem hk32⟩
        refine d_pureT (.pointer (some ⟨sblk r8, soff r8 + 0 * 1, none⟩)) (fun _ q => f31.idx (k := 0) rfl hk32 q) ?_
        refine d_pureT r8 (fun _ q => q) ?_
        have hk34 : 1 < ((sn (splitOn 47 ((Lib.cut s.data.toList [58]).1))).1).length := (by first | omega | (simp; omega))
        obtain ⟨x35, hx35⟩ : ∃ x, ((sn (splitOn 47 ((Lib.cut s.data.toList [58]).1))).1)[1]? = some x := ⟨_, List.getElem?_eq_getElem hk34⟩
        refine d_pureT (.pointer (some ⟨sblk r8, soff r8 + 1 * 1, none⟩)) (fun _ q => f31.idx (k := 1) rfl hk34 q) ?_
        refine d_pureT r8 (fun _ q => q) ?_
        have hk36 : 2 < ((sn (splitOn 47 ((Lib.cut s.data.toList [58]).1))).1).length := (by first | omega | (simp; omega))
        obtain ⟨x37, hx37⟩ : ∃ x, ((sn (splitOn 47 ((Lib.cut s.data.toList [58]).1))).1)[2]? = some x := ⟨_, List.getElem?_eq_getElem hk36⟩
        refine d_pureT (.pointer (some ⟨sblk r8, soff r8 + 2 * 1, none⟩)) (fun _ q => f31.idx (k := 2) rfl hk36 q) ?_
        refine d_pureT r12 (fun _ q => q) ?_
        refine d_loadT (.int .i64 x33) (fun _ q => f31.take1 (fun b hb => by first | exact hb | simp [hb]) hx33 rfl q) ?_
        refine d_loadT (.int .i64 x35) (fun _ q => f31.take1 (fun b hb => by first | exact hb | simp [hb]) hx35 rfl q) ?_
        refine d_loadT (.int .i64 x37) (fun _ q => f31.take1 (fun b hb => by first | exact hb | simp [hb]) hx37 rfl q) ?_
        refine d_pureT (.agg #[.int .i64 x33, .int .i64 x35, .int .i64 x37, r12]) (fun _ q => w_build (seg_i rfl (seg_i rfl (seg_i rfl (seg_sl s_r12 rfl (seg_nil q)))))) ?_
        refine d_eff ?_
        refine s_new (fun h39 b38 hbb38 hzb38 eh39 bxb38 => ?_)
        have E40 := E14.trans eh39
        have z41 := eh39.size
        have G42 := eh39
        have lbb38 := bxb38.lt
        refine s_nil ⟨fun _ x hx => G42.blk x (by have := lt_r8 x hx; omega), ?_⟩
        refine d_eff ?_
        refine s_stBx (.agg #[.int .i64 x33, .int .i64 x35, .int .i64 x37, r12]) [.int .i64 x33, .int .i64 x35, .int .i64 x37, r12] [.int .i64 x33, .int .i64 x35, .int .i64 x37, r12] bxb38 rfl rfl rfl rfl (by simp) (all_cons rfl (all_cons rfl (all_cons rfl (all_cons s_r12.one1 all_nil)))) rfl (fun h43 mh43 sh43 bxx44 => ?_)
        have E45 := E40.mod mh43 (fun b hb => by simp at hb; omega)
        refine s_nil ⟨fun hl => (by cases hl), ?_⟩
        refine d_done ?_
        refine p_seqN ?_
        refine v_seq ?_
        refine v_seq ?_
        refine v_ops ?_
        refine s_load (.agg #[.int .i64 x33, .int .i64 x35, .int .i64 x37, r12]) (fun _ q => bxx44.loadA rfl q) ?_
        have f46 := ((s_r12.ext eh39).mod mh43 (fun b hb hc => by simp at hc; have := lt_r12 b hb; omega))
        refine s_call [.agg #[.int .i64 x33, .int .i64 x35, .int .i64 x37, r12]] rfl (impl_IsPacket_ok (⟨x33, x35, x37, (sn (splitOn 32 ((Lib.cut s.data.toList [58]).2.1))).1⟩ : PkP) r12 _ f46.toSl) ?_
        rintro _ h47 ⟨rfl, eh47⟩
        have E48 := E45.trans eh47
        have z49 := eh47.size
        refine s_pure (.bool (!decide (PkOk (⟨x33, x35, x37, (sn (splitOn 32 ((Lib.cut s.data.toList [58]).2.1))).1⟩ : PkP)))) (fun _ q => q) ?_
        refine s_nil ?_
        refine p_seqN ?_
        refine v_cond rfl (fun c50 => ?_) (fun c50 => ?_)
        ·
          refine v_seq ?_
          refine v_ops ?_
          refine s_pure (.agg #[.int .i64 0, .int .i64 0, .int .i64 0, .slice none 0 0]) (fun _ q => w_build (seg_nil q)) ?_
          have f51 := ((((((bxb1.ext eh5).ext eh9).ext eh13).ext eh39).mod mh43 (by simp; omega)).ext eh47)
          refine s_stBx (.agg #[.int .i64 0, .int .i64 0, .int .i64 0, .slice none 0 0]) [.int .i64 0, .int .i64 0, .int .i64 0, .slice none 0 0] [.int .i64 0, .int .i64 0, .int .i64 0, .slice none 0 0] f51 rfl rfl rfl rfl (by simp) (all_cons rfl (all_cons rfl (all_cons rfl (all_cons rfl all_nil)))) rfl (fun h52 mh52 sh52 bxx53 => ?_)
          have E54 := E48.mod mh52 (fun b hb => by simp at hb; omega)
          refine s_pure (.bool false) (fun _ q => q) ?_
          refine s_nil ?_
          refine p_seqN ?_
          refine v_ret ?_
          refine p_seqR ?_
          refine p_ret [.agg #[.int .i64 0, .int .i64 0, .int .i64 0, .slice none 0 0], .bool false] (.tuple #[.agg #[.int .i64 0, .int .i64 0, .int .i64 0, .slice none 0 0], .bool false]) (fun _ q => (bxx53.loadA rfl q)) rfl ?_
          have ho : (ppOut s.data.toList) = (⟨0, 0, 0, []⟩, false) := by first | exact impl_no1 (by assumption) | exact impl_no1 (Bool.eq_false_iff.1 (by assumption)) | exact impl_no2 (by assumption) | exact impl_no2 (Bool.eq_false_iff.1 (by assumption)) | exact impl_no3 (by assumption) | exact impl_no4 (by omega) (by assumption) (by assumption) (by assumption) (by assumption) | exact impl_yes (by assumption) (by assumption) (by omega) (by assumption) (by assumption) (by assumption) (by assumption)
          exact ⟨(.slice none 0 0), by first | (rw [ho]; done) | rfl, sl_eq (SlX.nil (α := Int) true _) (congrArg (fun o => o.1.signals) ho).symm, Fr.nil _, E54⟩
        ·
          have c50 := Classical.not_not.1 c50
          refine v_skip ?_
          refine p_seqN ?_
          refine v_seq ?_
          refine v_ops ?_
          have f55 := (bxx44.ext eh47)
          refine s_load (.agg #[.int .i64 x33, .int .i64 x35, .int .i64 x37, r12]) (fun _ q => f55.loadA rfl q) ?_
          have f56 := ((((((bxb1.ext eh5).ext eh9).ext eh13).ext eh39).mod mh43 (by simp; omega)).ext eh47)
          refine s_stBx (.agg #[.int .i64 x33, .int .i64 x35, .int .i64 x37, r12]) [.int .i64 x33, .int .i64 x35, .int .i64 x37, r12] [.int .i64 x33, .int .i64 x35, .int .i64 x37, r12] f56 rfl rfl rfl rfl (by simp) (all_cons rfl (all_cons rfl (all_cons rfl (all_cons f46.one1 all_nil)))) rfl (fun h57 mh57 sh57 bxx58 => ?_)
          have E59 := E48.mod mh57 (fun b hb => by simp at hb; omega)
          refine s_pure (.bool true) (fun _ q => q) ?_
          refine s_nil ?_
          refine p_seqN ?_
          refine v_ret ?_
          refine p_ret [.agg #[.int .i64 x33, .int .i64 x35, .int .i64 x37, r12], .bool true] (.tuple #[.agg #[.int .i64 x33, .int .i64 x35, .int .i64 x37, r12], .bool true]) (fun _ q => (bxx58.loadA rfl q)) rfl ?_
          have ho : (ppOut s.data.toList) = (⟨x33, x35, x37, (sn (splitOn 32 ((Lib.cut s.data.toList [58]).2.1))).1⟩, true) := by first | exact impl_no1 (by assumption) | exact impl_no1 (Bool.eq_false_iff.1 (by assumption)) | exact impl_no2 (by assumption) | exact impl_no2 (Bool.eq_false_iff.1 (by assumption)) | exact impl_no3 (by assumption) | exact impl_no4 (by omega) (by assumption) (by assumption) (by assumption) (by assumption) | exact impl_yes (by assumption) (by assumption) (by omega) (by assumption) (by assumption) (by assumption) (by assumption)
          have f60 := ((f46.ext eh47).mod mh57 (fun b hb hc => by simp at hc; have := fr_r12 b hb; omega))
          exact ⟨r12, by first | (rw [ho]; done) | rfl, sl_eq f60 (congrArg (fun o => o.1.signals) ho).symm, fr_r12.mono (by omega), E59⟩

end Go.Proofs.YtbikhpphdhffaaaGreatDoor
