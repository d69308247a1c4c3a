/- The law FnMisreadings: its text returns true. Condition: none. Printed by a program. -/
import Derived.Test.YtckkablifoblbaaLn12
import Derived.Test.YtckkablifoblbaaMerge
namespace Go.Proofs.Ytckkablifoblbaa.finFnMisreadings
open Go.Vc
set_option linter.all false
set_option maxRecDepth 100000
set_option maxHeartbeats 4000000
set_option maxRecDepth 10000 in
set_option maxHeartbeats 4000000 in
theorem laws_FnMisreadings_ok (v_code : Value) (code : List By) (v_more : Value) (more : List By) (h : Heap) (s_code : Sl h v_code code) (s_more : Sl h v_more more) (hb0 : ∀ y ∈ code, 0 ≤ y.n ∧ y.n ≤ 255) (hb1 : ∀ y ∈ more, 0 ≤ y.n ∧ y.n ≤ 255) : Cn f_laws_FnMisreadings [v_code, v_more] h fun v h' => v = .bool true ∧ Ext h h' := by
  have lt_code := s_code.lt
  have l63_code := s_code.len63
  have lt_more := s_more.lt
  have l63_more := s_more.len63
  refine calls_of r_laws_FnMisreadings ?_
  refine v_seq ?_
  refine v_ops ?_
  refine s_pure (.bool false) (fun _ q => q) ?_
  refine s_nil ?_
  refine p_seqN ?_
  refine v_seq ?_
  refine v_seq ?_
  refine v_ops ?_
  refine s_pure v_code (fun _ q => q) ?_
  refine s_pure v_more (fun _ q => q) ?_
  refine s_call [v_code, v_more] rfl (laws_big_ok v_code code v_more more _ s_code s_more) ?_
  rintro _ h1 ⟨rfl, eh1⟩
  have E2 := (Ext.refl h).trans eh1
  have z3 := eh1.size
  refine s_nil ?_
  refine p_seqN ?_
  refine v_cond rfl (fun c4 => ?_) (fun c4 => ?_)
  ·
    refine v_seq ?_
    refine v_ops ?_
    refine s_pure (.bool true) (fun _ q => q) ?_
    refine s_nil ?_
    refine p_seqN ?_
    refine v_ret ?_
    refine p_seqR ?_
    refine p_ret [.bool true] (.bool true) (fun _ q => q) rfl ?_
    have ho : true = true := by first | rfl | (exfalso; first | omega | (simp_all; done))
    exact ⟨by first | (rw [ho]; done) | rfl, E2⟩
  ·
    have hbig : code.length ≤ 1048576 ∧ more.length ≤ 1048576 := by omega
    refine v_skip ?_
    refine p_seqN ?_
    refine v_seq ?_
    refine v_ops ?_
    refine s_pure v_code (fun _ q => q) ?_
    have f5 := (s_code.ext eh1)
    refine s_call [v_code] rfl (spec_DrawStuckAt_ok v_code code _ f5 (by first | omega | assumption | (simp; done) | (simp; omega)) (by first | omega | assumption | (simp; done) | (simp; omega))) ?_
    rintro _ h11 ⟨g6, g7, g9, r8, r10, rfl, s_r8, fr_r8, s_r10, fr_r10, qh11, eh11⟩
    have E12 := E2.trans eh11
    have z13 := eh11.size
    have lt_r8 := s_r8.lt
    have lt_r10 := s_r10.lt
    refine s_pure (.tuple #[.agg #[.int .i64 g6.towers, .int .i64 g6.tries], r8, r10]) (fun _ q => q) ?_
    refine s_pure (.agg #[.int .i64 g6.towers, .int .i64 g6.tries]) (fun _ q => q) ?_
    refine s_pure r8 (fun _ q => q) ?_
    refine s_pure r10 (fun _ q => q) ?_
    refine s_new (fun h15 b14 hbb14 hzb14 eh15 bxb14 => ?_)
    have E16 := E12.trans eh15
    have z17 := eh15.size
    have lbb14 := bxb14.lt
    refine s_stBx (.agg #[.int .i64 g6.towers, .int .i64 g6.tries]) [.int .i64 g6.towers, .int .i64 g6.tries] [.int .i64 g6.towers, .int .i64 g6.tries] bxb14 rfl rfl rfl rfl (by simp) (all_cons rfl (all_cons rfl all_nil)) rfl (fun h18 mh18 sh18 bxx19 => ?_)
    have E20 := E16.mod mh18 (fun b hb => by simp at hb; omega)
    refine s_pure r8 (fun _ q => q) ?_
    refine s_pure r10 (fun _ q => q) ?_
    refine s_nil ?_
    refine p_seqN ?_
    refine v_seq ?_
    refine v_ops ?_
    refine s_load (.agg #[.int .i64 g6.towers, .int .i64 g6.tries]) (fun _ q => bxx19.loadA rfl q) ?_
    refine s_pure r8 (fun _ q => q) ?_
    refine s_pure r10 (fun _ q => q) ?_
    have f21 := ((s_r8.ext eh15).mod mh18 (fun b hb hc => by simp at hc; have := lt_r8 b hb; omega))
    have f22 := ((s_r10.ext eh15).mod mh18 (fun b hb hc => by simp at hc; have := lt_r10 b hb; omega))
    refine s_call [.agg #[.int .i64 g6.towers, .int .i64 g6.tries], r8, r10] rfl (w_implStuckAt g6 r8 g7 r10 g9 _ f21.toSl f22.toSl) ?_
    rintro _ h23 ⟨rfl, eh23⟩
    have E24 := E20.trans eh23
    have z25 := eh23.size
    refine s_pure (.tuple #[.int .i64 ((stOut g6.towers g6.tries g7 g9).1), .int .i64 ((stOut g6.towers g6.tries g7 g9).2.1), .bool ((stOut g6.towers g6.tries g7 g9).2.2)]) (fun _ q => q) ?_
    refine s_pure (.int .i64 ((stOut g6.towers g6.tries g7 g9).1)) (fun _ q => q) ?_
    refine s_pure (.int .i64 ((stOut g6.towers g6.tries g7 g9).2.1)) (fun _ q => q) ?_
    refine s_pure (.bool ((stOut g6.towers g6.tries g7 g9).2.2)) (fun _ q => q) ?_
    refine s_pure (.int .i64 ((stOut g6.towers g6.tries g7 g9).1)) (fun _ q => q) ?_
    refine s_pure (.int .i64 ((stOut g6.towers g6.tries g7 g9).2.1)) (fun _ q => q) ?_
    refine s_pure (.bool ((stOut g6.towers g6.tries g7 g9).2.2)) (fun _ q => q) ?_
    refine s_nil ?_
    refine p_seqN ?_
    refine v_seq ?_
    refine v_ops ?_
    have f26 := (bxx19.ext eh23)
    refine s_load (.agg #[.int .i64 g6.towers, .int .i64 g6.tries]) (fun _ q => f26.loadA rfl q) ?_
    refine s_pure r8 (fun _ q => q) ?_
    refine s_pure r10 (fun _ q => q) ?_
    have f27 := (f21.ext eh23)
    have f28 := (f22.ext eh23)
    refine s_call [.agg #[.int .i64 g6.towers, .int .i64 g6.tries], r8, r10] rfl (w_specStuckAt g6 r8 g7 r10 g9 _ f27.toSl f28.toSl) ?_
    rintro _ h29 ⟨rfl, eh29⟩
    have E30 := E24.trans eh29
    have z31 := eh29.size
    refine s_pure (.tuple #[.int .i64 ((stOut g6.towers g6.tries g7 g9).1), .int .i64 ((stOut g6.towers g6.tries g7 g9).2.1), .bool ((stOut g6.towers g6.tries g7 g9).2.2)]) (fun _ q => q) ?_
    refine s_pure (.int .i64 ((stOut g6.towers g6.tries g7 g9).1)) (fun _ q => q) ?_
    refine s_pure (.int .i64 ((stOut g6.towers g6.tries g7 g9).2.1)) (fun _ q => q) ?_
    refine s_pure (.bool ((stOut g6.towers g6.tries g7 g9).2.2)) (fun _ q => q) ?_
    refine s_pure (.int .i64 ((stOut g6.towers g6.tries g7 g9).1)) (fun _ q => q) ?_
    refine s_pure (.int .i64 ((stOut g6.towers g6.tries g7 g9).2.1)) (fun _ q => q) ?_
    refine s_pure (.bool ((stOut g6.towers g6.tries g7 g9).2.2)) (fun _ q => q) ?_
    refine s_nil ?_
    refine p_seqN ?_
    refine v_seqM1 [(1, v_more), (5, .pointer (some ⟨b14, 0, none⟩)), (6, r8), (7, r10), (10, .bool ((stOut g6.towers g6.tries g7 g9).2.2)), (11, .int .i64 ((stOut g6.towers g6.tries g7 g9).1)), (12, .int .i64 ((stOut g6.towers g6.tries g7 g9).2.1))] (fun R33 h34 eh34 => ?_) (fun M32 => ?_)
    ·
      have E35 := E30.trans eh34
      have z36 := eh34.size
      refine v_seq ?_
      refine v_ops ?_
      have f37 := ((f26.ext eh29).ext eh34)
      refine s_load (.agg #[.int .i64 g6.towers, .int .i64 g6.tries]) (fun _ q => f37.loadA rfl q) ?_
      refine s_pure r8 (fun _ q => q) ?_
      refine s_pure r10 (fun _ q => q) ?_
      have f38 := ((f27.ext eh29).ext eh34)
      have f39 := ((f28.ext eh29).ext eh34)
      refine s_call [.agg #[.int .i64 g6.towers, .int .i64 g6.tries], r8, r10] rfl (w_implPassLine g6 r8 g7 r10 g9 _ f38.toSl f39.toSl) ?_
      rintro _ h41 ⟨r40, rfl, s_r40, fr_r40, eh41⟩
      have E42 := E35.trans eh41
      have z43 := eh41.size
      have lt_r40 := s_r40.lt
      refine s_pure (.tuple #[r40, .bool ((plOut g6.towers g6.tries g7 g9).2.1), .bool ((plOut g6.towers g6.tries g7 g9).2.2)]) (fun _ q => q) ?_
      refine s_pure r40 (fun _ q => q) ?_
      refine s_pure (.bool ((plOut g6.towers g6.tries g7 g9).2.1)) (fun _ q => q) ?_
      refine s_pure (.bool ((plOut g6.towers g6.tries g7 g9).2.2)) (fun _ q => q) ?_
      refine s_pure r40 (fun _ q => q) ?_
      refine s_pure (.bool ((plOut g6.towers g6.tries g7 g9).2.1)) (fun _ q => q) ?_
      refine s_pure (.bool ((plOut g6.towers g6.tries g7 g9).2.2)) (fun _ q => q) ?_
      refine s_nil ?_
      refine p_seqN ?_
      refine v_seq ?_
      refine v_ops ?_
      have f44 := (f37.ext eh41)
      refine s_load (.agg #[.int .i64 g6.towers, .int .i64 g6.tries]) (fun _ q => f44.loadA rfl q) ?_
      refine s_pure r8 (fun _ q => q) ?_
      refine s_pure r10 (fun _ q => q) ?_
      have f45 := (f38.ext eh41)
      have f46 := (f39.ext eh41)
      refine s_call [.agg #[.int .i64 g6.towers, .int .i64 g6.tries], r8, r10] rfl (w_specPassLine g6 r8 g7 r10 g9 _ f45.toSl f46.toSl) ?_
      rintro _ h48 ⟨r47, rfl, s_r47, fr_r47, eh48⟩
      have E49 := E42.trans eh48
      have z50 := eh48.size
      have lt_r47 := s_r47.lt
      refine s_pure (.tuple #[r47, .bool ((plOut g6.towers g6.tries g7 g9).2.1), .bool ((plOut g6.towers g6.tries g7 g9).2.2)]) (fun _ q => q) ?_
      refine s_pure r47 (fun _ q => q) ?_
      refine s_pure (.bool ((plOut g6.towers g6.tries g7 g9).2.1)) (fun _ q => q) ?_
      refine s_pure (.bool ((plOut g6.towers g6.tries g7 g9).2.2)) (fun _ q => q) ?_
      refine s_pure r47 (fun _ q => q) ?_
      refine s_pure (.bool ((plOut g6.towers g6.tries g7 g9).2.1)) (fun _ q => q) ?_
      refine s_pure (.bool ((plOut g6.towers g6.tries g7 g9).2.2)) (fun _ q => q) ?_
      refine s_nil ?_
      refine p_seqN ?_
      refine v_seqM1 [(1, v_more), (5, .pointer (some ⟨b14, 0, none⟩)), (6, r8), (7, r10), (10, .bool ((stOut g6.towers g6.tries g7 g9).2.2)), (11, .int .i64 ((stOut g6.towers g6.tries g7 g9).1)), (12, .int .i64 ((stOut g6.towers g6.tries g7 g9).2.1))] (fun R52 h53 eh53 => ?_) (fun M51 => ?_)
      ·
        have E54 := E49.trans eh53
        have z55 := eh53.size
        refine v_seqM1 [(1, v_more)] (fun R57 h58 eh58 => ?_) (fun M56 => ?_)
        ·
          have E59 := E54.trans eh58
          have z60 := eh58.size
          refine v_seq ?_
          refine v_ops ?_
          refine s_pure v_more (fun _ q => q) ?_
          have f61 := (((((((((((s_more.ext eh1).ext eh11).ext eh15).mod mh18 (fun b hb hc => by simp at hc; have := lt_more b hb; omega)).ext eh23).ext eh29).ext eh34).ext eh41).ext eh48).ext eh53).ext eh58)
          refine s_call [v_more] rfl (spec_DrawLeastLineTries_ok v_more more _ f61 (by first | omega | assumption | (simp; done) | (simp; omega)) (by first | omega | assumption | (simp; done) | (simp; omega))) ?_
          rintro _ h67 ⟨g62, g63, g65, r64, r66, rfl, s_r64, fr_r64, s_r66, fr_r66, qh67, eh67⟩
          have E68 := E59.trans eh67
          have z69 := eh67.size
          have lt_r64 := s_r64.lt
          have lt_r66 := s_r66.lt
          refine s_pure (.tuple #[.agg #[.int .i64 g62.towers, .int .i64 g62.tries], r64, r66]) (fun _ q => q) ?_
          refine s_pure (.agg #[.int .i64 g62.towers, .int .i64 g62.tries]) (fun _ q => q) ?_
          refine s_pure r64 (fun _ q => q) ?_
          refine s_pure r66 (fun _ q => q) ?_
          refine s_new (fun h71 b70 hbb70 hzb70 eh71 bxb70 => ?_)
          have E72 := E68.trans eh71
          have z73 := eh71.size
          have lbb70 := bxb70.lt
          refine s_stBx (.agg #[.int .i64 g62.towers, .int .i64 g62.tries]) [.int .i64 g62.towers, .int .i64 g62.tries] [.int .i64 g62.towers, .int .i64 g62.tries] bxb70 rfl rfl rfl rfl (by simp) (all_cons rfl (all_cons rfl all_nil)) rfl (fun h74 mh74 sh74 bxx75 => ?_)
          have E76 := E72.mod mh74 (fun b hb => by simp at hb; omega)
          refine s_pure r64 (fun _ q => q) ?_
          refine s_pure r66 (fun _ q => q) ?_
          refine s_nil ?_
          refine p_seqN ?_
          refine v_seq ?_
          refine v_ops ?_
          refine s_load (.agg #[.int .i64 g62.towers, .int .i64 g62.tries]) (fun _ q => bxx75.loadA rfl q) ?_
          refine s_pure r64 (fun _ q => q) ?_
          refine s_pure r66 (fun _ q => q) ?_
          have f77 := ((s_r64.ext eh71).mod mh74 (fun b hb hc => by simp at hc; have := lt_r64 b hb; omega))
          have f78 := ((s_r66.ext eh71).mod mh74 (fun b hb hc => by simp at hc; have := lt_r66 b hb; omega))
          refine s_call [.agg #[.int .i64 g62.towers, .int .i64 g62.tries], r64, r66] rfl (w_implLeastLineTries g62 r64 g63 r66 g65 _ f77.toSl f78.toSl) ?_
          rintro _ h79 ⟨rfl, eh79⟩
          have E80 := E76.trans eh79
          have z81 := eh79.size
          refine s_pure (.tuple #[.int .i64 ((ltOut g62.towers g62.tries g63 g65).1), .bool ((ltOut g62.towers g62.tries g63 g65).2)]) (fun _ q => q) ?_
          refine s_pure (.int .i64 ((ltOut g62.towers g62.tries g63 g65).1)) (fun _ q => q) ?_
          refine s_pure (.bool ((ltOut g62.towers g62.tries g63 g65).2)) (fun _ q => q) ?_
          refine s_pure (.int .i64 ((ltOut g62.towers g62.tries g63 g65).1)) (fun _ q => q) ?_
          refine s_pure (.bool ((ltOut g62.towers g62.tries g63 g65).2)) (fun _ q => q) ?_
          refine s_nil ?_
          refine p_seqN ?_
          refine v_seq ?_
          refine v_ops ?_
          have f82 := (bxx75.ext eh79)
          refine s_load (.agg #[.int .i64 g62.towers, .int .i64 g62.tries]) (fun _ q => f82.loadA rfl q) ?_
          refine s_pure r64 (fun _ q => q) ?_
          refine s_pure r66 (fun _ q => q) ?_
          have f83 := (f77.ext eh79)
          have f84 := (f78.ext eh79)
          refine s_call [.agg #[.int .i64 g62.towers, .int .i64 g62.tries], r64, r66] rfl (w_specLeastLineTries g62 r64 g63 r66 g65 _ f83.toSl f84.toSl) ?_
          rintro _ h85 ⟨rfl, eh85⟩
          have E86 := E80.trans eh85
          have z87 := eh85.size
          refine s_pure (.tuple #[.int .i64 ((ltOut g62.towers g62.tries g63 g65).1), .bool ((ltOut g62.towers g62.tries g63 g65).2)]) (fun _ q => q) ?_
          refine s_pure (.int .i64 ((ltOut g62.towers g62.tries g63 g65).1)) (fun _ q => q) ?_
          refine s_pure (.bool ((ltOut g62.towers g62.tries g63 g65).2)) (fun _ q => q) ?_
          refine s_pure (.int .i64 ((ltOut g62.towers g62.tries g63 g65).1)) (fun _ q => q) ?_
          refine s_pure (.bool ((ltOut g62.towers g62.tries g63 g65).2)) (fun _ q => q) ?_
          refine s_nil ?_
          refine p_seqN ?_
          refine v_seqM1 [(1, v_more), (28, .pointer (some ⟨b70, 0, none⟩)), (29, r64), (30, r66), (32, .bool ((ltOut g62.towers g62.tries g63 g65).2)), (33, .int .i64 ((ltOut g62.towers g62.tries g63 g65).1))] (fun R89 h90 eh90 => ?_) (fun M88 => ?_)
          ·
            have E91 := E86.trans eh90
            have z92 := eh90.size
            refine v_seq ?_
            refine v_seq ?_
            refine v_ops ?_
            refine s_pure (.bool ((ltOut g62.towers g62.tries g63 g65).2)) (fun _ q => q) ?_
            refine s_nil ?_
            refine p_seqN ?_
            refine v_cond rfl (fun c93 => ?_) (fun c93 => ?_)
            ·
              obtain ⟨⟨hk1, hk2⟩, hkk⟩ := lt_facts c93
              refine v_seq ?_
              refine v_ops ?_
              refine s_pure (.int .i64 ((ltOut g62.towers g62.tries g63 g65).1)) (fun _ q => q) ?_
              refine s_pure (.pointer (some ⟨b70, 1, none⟩)) (fun _ q => q) ?_
              have f94 := ((f82.ext eh85).ext eh90)
              refine s_stBx (.int .i64 ((ltOut g62.towers g62.tries g63 g65).1)) [.int .i64 ((ltOut g62.towers g62.tries g63 g65).1)] [.int .i64 g62.towers, .int .i64 ((ltOut g62.towers g62.tries g63 g65).1)] f94 rfl rfl rfl rfl (by simp) (all_cons rfl all_nil) rfl (fun h95 mh95 sh95 bxx96 => ?_)
              have E97 := E91.mod mh95 (fun b hb => by simp at hb; omega)
              refine s_nil ?_
              refine p_seqN ?_
              refine v_block ?_
              have nk99 : b70 ∉ blks r64 := (fun hc => by have := lt_r64 _ hc; omega)
              have nk100 : b70 ∉ blks r66 := (fun hc => by have := lt_r66 _ hc; omega)
              have f101 := (((f83.ext eh85).ext eh90).mod mh95 (fun b hb hc => by simp at hc; have := lt_r64 b hb; omega))
              have f102 := (((f84.ext eh85).ext eh90).mod mh95 (fun b hb hc => by simp at hc; have := lt_r66 b hb; omega))
              refine v_loop1 (α := Int) (fun k => [(1, v_more), (28, .pointer (some ⟨b70, 0, none⟩)), (29, r64), (30, r66)]) (fun k hh => Ext h hh ∧ Bx hh b70 [.int .i64 g62.towers, .int .i64 k] 25 ∧ SlO hh r64 g63 ∧ SlO hh r66 g65 ∧ (ltOut g62.towers g62.tries g63 g65).1 ≤ k ∧ k ≤ 6) (fun k => (6 - k).toNat) ((ltOut g62.towers g62.tries g63 g65).1) ⟨rfl, rfl, rfl, rfl⟩ ⟨E97, bxx96, f101, f102, (by exact ⟨by omega, by omega⟩)⟩ ?_
              rintro k R103 h98 ⟨Eh, bxb70, s_r64, s_r66, ⟨hka, hkb⟩⟩
              have zEh := Eh.size
              have f105 := s_code.ext Eh
              have f106 := s_more.ext Eh
              have ltk_r64 := s_r64.lt
              have ltk_r66 := s_r66.lt
              have lbb70 := bxb70.lt
              refine v_seq ?_
              refine v_seq ?_
              refine v_ops ?_
              refine s_pure (.pointer (some ⟨b70, 1, none⟩)) (fun _ q => q) ?_
              refine s_load (.int .i64 k) (fun _ q => bxb70.load rfl q) ?_
              refine s_pure (.bool (decide (k ≤ 5))) (fun _ q => q) ?_
              refine s_nil ?_
              refine p_seqN ?_
              refine v_cond rfl (fun c107 => ?_) (fun c107 => ?_)
              ·
                have hk := hkk k (by omega) (by omega)
                have hkA := hk.1
                have hkB := hk.2
                refine v_skip ?_
                refine p_seqN ?_
                refine v_seq ?_
                refine v_block ?_
                refine v_seq ?_
                refine v_ops ?_
                refine s_load (.agg #[.int .i64 g62.towers, .int .i64 k]) (fun _ q => bxb70.loadA rfl q) ?_
                refine s_pure r64 (fun _ q => q) ?_
                refine s_pure r66 (fun _ q => q) ?_
                refine s_call [.agg #[.int .i64 g62.towers, .int .i64 k], r64, r66] rfl (w_implPassLine (⟨g62.towers, k⟩ : LineD) r64 g63 r66 g65 _ s_r64.toSl s_r66.toSl) ?_
                rintro _ h109 ⟨r108, rfl, s_r108, fr_r108, eh109⟩
                have E110 := Eh.trans eh109
                have z111 := eh109.size
                have lt_r108 := s_r108.lt
                refine s_pure (.tuple #[r108, .bool ((plOut (⟨g62.towers, k⟩ : LineD).towers (⟨g62.towers, k⟩ : LineD).tries g63 g65).2.1), .bool ((plOut (⟨g62.towers, k⟩ : LineD).towers (⟨g62.towers, k⟩ : LineD).tries g63 g65).2.2)]) (fun _ q => q) ?_
                refine s_pure r108 (fun _ q => q) ?_
                refine s_pure (.bool ((plOut (⟨g62.towers, k⟩ : LineD).towers (⟨g62.towers, k⟩ : LineD).tries g63 g65).2.1)) (fun _ q => q) ?_
                refine s_pure (.bool ((plOut (⟨g62.towers, k⟩ : LineD).towers (⟨g62.towers, k⟩ : LineD).tries g63 g65).2.2)) (fun _ q => q) ?_
                refine s_pure r108 (fun _ q => q) ?_
                refine s_pure (.bool ((plOut (⟨g62.towers, k⟩ : LineD).towers (⟨g62.towers, k⟩ : LineD).tries g63 g65).2.1)) (fun _ q => q) ?_
                refine s_pure (.bool ((plOut (⟨g62.towers, k⟩ : LineD).towers (⟨g62.towers, k⟩ : LineD).tries g63 g65).2.2)) (fun _ q => q) ?_
                refine s_nil ?_
                refine p_seqN ?_
                refine v_seq ?_
                refine v_ops ?_
                refine s_pure (.bool ((plOut (⟨g62.towers, k⟩ : LineD).towers (⟨g62.towers, k⟩ : LineD).tries g63 g65).2.2)) (fun _ q => q) ?_
                refine s_pure (.bool (!(plOut (⟨g62.towers, k⟩ : LineD).towers (⟨g62.towers, k⟩ : LineD).tries g63 g65).2.2)) (fun _ q => q) ?_
                refine s_pure (.bool (!(plOut (⟨g62.towers, k⟩ : LineD).towers (⟨g62.towers, k⟩ : LineD).tries g63 g65).2.2)) (fun _ q => q) ?_
                refine s_splitT rfl (fun c112 => ?_) (fun c112 => ?_)
                ·
                  refine s_pass rfl ?_
                  refine s_pass rfl ?_
                  refine s_pure (.bool true) (fun _ q => q) ?_
                  refine s_nil ?_
                  refine p_seqN ?_
                  refine v_condY rfl rfl ?_
                  refine v_seq ?_
                  refine v_ops ?_
                  refine s_pure (.bool false) (fun _ q => q) ?_
                  refine s_nil ?_
                  refine p_seqN ?_
                  refine v_ret ?_
                  refine p_blkR ?_
                  refine p_seqR ?_
                  refine p_lpR ?_
                  refine p_blkR ?_
                  refine p_seqR ?_
                  refine p_ret [.bool false] (.bool false) (fun _ q => q) rfl ?_
                  have ho : true = false := by first | rfl | (exfalso; first | omega | (simp_all; done))
                  exact ⟨by first | (rw [ho]; done) | rfl, E110⟩
                ·
                  have c112 := Classical.not_not.1 c112
                  refine s_run rfl ?_
                  refine s_pure (.bool ((plOut (⟨g62.towers, k⟩ : LineD).towers (⟨g62.towers, k⟩ : LineD).tries g63 g65).2.1)) (fun _ q => q) ?_
                  refine s_run rfl ?_
                  refine s_pure (.bool (!(plOut (⟨g62.towers, k⟩ : LineD).towers (⟨g62.towers, k⟩ : LineD).tries g63 g65).2.1)) (fun _ q => q) ?_
                  refine s_pure (.bool (!(plOut (⟨g62.towers, k⟩ : LineD).towers (⟨g62.towers, k⟩ : LineD).tries g63 g65).2.1)) (fun _ q => q) ?_
                  refine s_nil ?_
                  refine p_seqN ?_
                  refine v_cond rfl (fun c113 => ?_) (fun c113 => ?_)
                  ·
                    refine v_seq ?_
                    refine v_ops ?_
                    refine s_pure (.bool false) (fun _ q => q) ?_
                    refine s_nil ?_
                    refine p_seqN ?_
                    refine v_ret ?_
                    refine p_blkR ?_
                    refine p_seqR ?_
                    refine p_lpR ?_
                    refine p_blkR ?_
                    refine p_seqR ?_
                    refine p_ret [.bool false] (.bool false) (fun _ q => q) rfl ?_
                    have ho : true = false := by first | rfl | (exfalso; first | omega | (simp_all; done))
                    exact ⟨by first | (rw [ho]; done) | rfl, E110⟩
                  ·
                    have c113 := Classical.not_not.1 c113
                    refine v_skip ?_
                    refine p_blkN ?_
                    refine p_seqN ?_
                    refine v_ops ?_
                    refine s_pure (.pointer (some ⟨b70, 1, none⟩)) (fun _ q => q) ?_
                    have f114 := (bxb70.ext eh109)
                    refine s_load (.int .i64 k) (fun _ q => f114.load rfl q) ?_
                    refine s_pure (.int .i64 (k + 1)) (fun _ q => ArithVC.mk (by omega) q) ?_
                    refine s_pure (.pointer (some ⟨b70, 1, none⟩)) (fun _ q => q) ?_
                    refine s_stBx (.int .i64 (k + 1)) [.int .i64 (k + 1)] [.int .i64 g62.towers, .int .i64 (k + 1)] f114 rfl rfl rfl rfl (by simp) (all_cons rfl all_nil) rfl (fun h115 mh115 sh115 bxx116 => ?_)
                    have E117 := E110.mod mh115 (fun b hb => by simp at hb; omega)
                    refine s_nil ?_
                    have f118 := ((s_r64.ext eh109).mod mh115 (fun b hb hc => nk99 (by simp at hc; rw [← hc]; exact hb)))
                    have f119 := ((s_r66.ext eh109).mod mh115 (fun b hb hc => nk100 (by simp at hc; rw [← hc]; exact hb)))
                    exact p_lpN ⟨(k + 1), ⟨rfl, rfl, rfl, rfl⟩, ⟨E117, bxx116, f118, f119, (by exact ⟨by omega, by omega⟩)⟩, by omega⟩
              ·
                refine v_exit ?_
                refine p_seqX ?_
                refine p_lpX ?_
                refine p_blkX ?_
                refine p_seqN ?_
                refine v_seq ?_
                refine v_ops ?_
                refine s_pure v_more (fun _ q => q) ?_
                refine s_call [v_more] rfl (spec_DrawWithPattern_ok v_more more _ f106 (by first | omega | assumption | (simp; done) | (simp; omega)) (by first | omega | assumption | (simp; done) | (simp; omega))) ?_
                rintro _ h124 ⟨g120, g122, g123, r121, rfl, s_r121, fr_r121, qh124, eh124⟩
                have E125 := Eh.trans eh124
                have z126 := eh124.size
                have lt_r121 := s_r121.lt
                refine s_pure (.tuple #[r121, .int .i64 g122, .int .i64 g123]) (fun _ q => q) ?_
                refine s_pure r121 (fun _ q => q) ?_
                refine s_pure (.int .i64 g122) (fun _ q => q) ?_
                refine s_pure (.int .i64 g123) (fun _ q => q) ?_
                refine s_pure r121 (fun _ q => q) ?_
                refine s_pure (.int .i64 g122) (fun _ q => q) ?_
                refine s_pure (.int .i64 g123) (fun _ q => q) ?_
                refine s_nil ?_
                refine p_seqN ?_
                refine v_seq ?_
                refine v_ops ?_
                refine s_pure r121 (fun _ q => q) ?_
                refine s_pure (.int .i64 g122) (fun _ q => q) ?_
                refine s_pure (.int .i64 g123) (fun _ q => q) ?_
                refine s_call [r121, .int .i64 g122, .int .i64 g123] rfl (w_implWithPattern r121 g120 g122 g123 _ s_r121.toSl) ?_
                rintro _ h128 ⟨r127, rfl, s_r127, fr_r127, eh128⟩
                have E129 := E125.trans eh128
                have z130 := eh128.size
                have lt_r127 := s_r127.lt
                refine s_pure (.tuple #[r127, .bool ((patOut g120 g122 g123).2)]) (fun _ q => q) ?_
                refine s_pure r127 (fun _ q => q) ?_
                refine s_pure (.bool ((patOut g120 g122 g123).2)) (fun _ q => q) ?_
                refine s_pure r127 (fun _ q => q) ?_
                refine s_pure (.bool ((patOut g120 g122 g123).2)) (fun _ q => q) ?_
                refine s_nil ?_
                refine p_seqN ?_
                refine v_seq ?_
                refine v_ops ?_
                refine s_pure r121 (fun _ q => q) ?_
                refine s_pure (.int .i64 g122) (fun _ q => q) ?_
                refine s_pure (.int .i64 g123) (fun _ q => q) ?_
                have f131 := (s_r121.ext eh128)
                refine s_call [r121, .int .i64 g122, .int .i64 g123] rfl (w_specWithPattern r121 g120 g122 g123 _ f131.toSl) ?_
                rintro _ h133 ⟨r132, rfl, s_r132, fr_r132, eh133⟩
                have E134 := E129.trans eh133
                have z135 := eh133.size
                have lt_r132 := s_r132.lt
                refine s_pure (.tuple #[r132, .bool ((patOut g120 g122 g123).2)]) (fun _ q => q) ?_
                refine s_pure r132 (fun _ q => q) ?_
                refine s_pure (.bool ((patOut g120 g122 g123).2)) (fun _ q => q) ?_
                refine s_pure r132 (fun _ q => q) ?_
                refine s_pure (.bool ((patOut g120 g122 g123).2)) (fun _ q => q) ?_
                refine s_nil ?_
                refine p_seqN ?_
                refine v_seq ?_
                refine v_ops ?_
                refine s_pure v_more (fun _ q => q) ?_
                have f136 := (((f106.ext eh124).ext eh128).ext eh133)
                refine s_call [v_more] rfl (spec_DrawLineTable_ok v_more more _ f136 (by first | omega | assumption | (simp; done) | (simp; omega)) (by first | omega | assumption | (simp; done) | (simp; omega))) ?_
                rintro _ h142 ⟨g137, g138, g140, r139, r141, rfl, s_r139, fr_r139, s_r141, qh142, eh142⟩
                have E143 := E134.trans eh142
                have z144 := eh142.size
                have lt_r139 := s_r139.lt
                have lt_r141 := s_r141.lt
                have fr_r141 := s_r141.fr
                refine s_pure (.tuple #[.agg #[.int .i64 g137.towers, .int .i64 g137.tries], r139, r141]) (fun _ q => q) ?_
                refine s_pure (.agg #[.int .i64 g137.towers, .int .i64 g137.tries]) (fun _ q => q) ?_
                refine s_pure r139 (fun _ q => q) ?_
                refine s_pure r141 (fun _ q => q) ?_
                refine s_new (fun h146 b145 hbb145 hzb145 eh146 bxb145 => ?_)
                have E147 := E143.trans eh146
                have z148 := eh146.size
                have lbb145 := bxb145.lt
                refine s_stBx (.agg #[.int .i64 g137.towers, .int .i64 g137.tries]) [.int .i64 g137.towers, .int .i64 g137.tries] [.int .i64 g137.towers, .int .i64 g137.tries] bxb145 rfl rfl rfl rfl (by simp) (all_cons rfl (all_cons rfl all_nil)) rfl (fun h149 mh149 sh149 bxx150 => ?_)
                have E151 := E147.mod mh149 (fun b hb => by simp at hb; omega)
                refine s_pure r139 (fun _ q => q) ?_
                refine s_pure r141 (fun _ q => q) ?_
                refine s_nil ?_
                refine p_seqN ?_
                refine v_seq ?_
                refine v_ops ?_
                refine s_load (.agg #[.int .i64 g137.towers, .int .i64 g137.tries]) (fun _ q => bxx150.loadA rfl q) ?_
                refine s_pure r139 (fun _ q => q) ?_
                refine s_pure r141 (fun _ q => q) ?_
                have f152 := ((s_r139.ext eh146).mod mh149 (fun b hb hc => by simp at hc; have := lt_r139 b hb; omega))
                have f153 := ((s_r141.ext eh146).mod mh149 (fun b hb hc => by simp at hc; have := lt_r141 b hb; omega))
                refine s_call [.agg #[.int .i64 g137.towers, .int .i64 g137.tries], r139, r141] rfl (impl_LineTable_ok g137 r139 g138 r141 g140 (g140.map RowI.sig) _ f152.toSl f153.row.toSl f153.insL rfl) ?_
                rintro _ h155 ⟨r154, rfl, s_r154, fr_r154, eh155⟩
                have E156 := E151.trans eh155
                have z157 := eh155.size
                have lt_r154 := s_r154.lt
                refine s_pure (.tuple #[r154, .bool ((tabOut g137.towers g137.tries g138 (g140.map RowI.sig)).2)]) (fun _ q => q) ?_
                refine s_pure r154 (fun _ q => q) ?_
                refine s_pure (.bool ((tabOut g137.towers g137.tries g138 (g140.map RowI.sig)).2)) (fun _ q => q) ?_
                refine s_pure r154 (fun _ q => q) ?_
                refine s_pure (.bool ((tabOut g137.towers g137.tries g138 (g140.map RowI.sig)).2)) (fun _ q => q) ?_
                refine s_nil ?_
                refine p_seqN ?_
                refine v_seq ?_
                refine v_ops ?_
                have f158 := (bxx150.ext eh155)
                refine s_load (.agg #[.int .i64 g137.towers, .int .i64 g137.tries]) (fun _ q => f158.loadA rfl q) ?_
                refine s_pure r139 (fun _ q => q) ?_
                refine s_pure r141 (fun _ q => q) ?_
                have f159 := (f152.ext eh155)
                have f160 := (f153.ext eh155)
                refine s_call [.agg #[.int .i64 g137.towers, .int .i64 g137.tries], r139, r141] rfl (spec_LineTable_ok g137 r139 g138 r141 g140 (g140.map RowI.sig) _ f159.toSl f160.row.toSl f160.insL rfl) ?_
                rintro _ h162 ⟨r161, rfl, s_r161, fr_r161, eh162⟩
                have E163 := E156.trans eh162
                have z164 := eh162.size
                have lt_r161 := s_r161.lt
                refine s_pure (.tuple #[r161, .bool ((tabOut g137.towers g137.tries g138 (g140.map RowI.sig)).2)]) (fun _ q => q) ?_
                refine s_pure r161 (fun _ q => q) ?_
                refine s_pure (.bool ((tabOut g137.towers g137.tries g138 (g140.map RowI.sig)).2)) (fun _ q => q) ?_
                refine s_pure r161 (fun _ q => q) ?_
                refine s_pure (.bool ((tabOut g137.towers g137.tries g138 (g140.map RowI.sig)).2)) (fun _ q => q) ?_
                refine s_nil ?_
                refine p_seqN ?_
                refine v_seqM1 [(39, .int .i64 g122), (40, .int .i64 g123), (42, .bool ((patOut g120 g122 g123).2)), (45, .pointer (some ⟨b145, 0, none⟩)), (46, r139)] (fun R166 h167 eh167 => ?_) (fun M165 => ?_)
                ·
                  have E168 := E163.trans eh167
                  have z169 := eh167.size
                  refine v_seqM1 [] (fun R171 h172 eh172 => ?_) (fun M170 => ?_)
                  ·
                    have E173 := E168.trans eh172
                    have z174 := eh172.size
                    refine v_seq ?_
                    refine v_ops ?_
                    refine s_pure (.bool true) (fun _ q => q) ?_
                    refine s_nil ?_
                    refine p_seqN ?_
                    refine v_ret ?_
                    refine p_ret [.bool true] (.bool true) (fun _ q => q) rfl ?_
                    have ho : true = true := by first | rfl | (exfalso; first | omega | (simp_all; done))
                    exact ⟨by first | (rw [ho]; done) | rfl, E173⟩
                  ·
                    refine v_seq ?_
                    refine v_seq ?_
                    refine v_ops ?_
                    refine s_pure (.bool ((patOut g120 g122 g123).2)) (fun _ q => q) ?_
                    refine s_pure (.bool ((patOut g120 g122 g123).2)) (fun _ q => q) ?_
                    refine s_splitT rfl (fun c175 => ?_) (fun c175 => ?_)
                    ·
                      refine s_run rfl ?_
                      have f176 := ((f158.ext eh162).ext eh167)
                      refine s_load (.agg #[.int .i64 g137.towers, .int .i64 g137.tries]) (fun _ q => f176.loadA rfl q) ?_
                      refine s_run rfl ?_
                      refine s_call [.agg #[.int .i64 g137.towers, .int .i64 g137.tries]] rfl (w_implIsLine g137 _ ) ?_
                      rintro _ h177 ⟨rfl, eh177⟩
                      have E178 := E168.trans eh177
                      have z179 := eh177.size
                      refine s_pure (.bool (decide (LineOk g137.towers g137.tries))) (fun _ q => q) ?_
                      refine s_pure (.bool (decide (LineOk g137.towers g137.tries))) (fun _ q => q) ?_
                      refine s_splitT rfl (fun c180 => ?_) (fun c180 => ?_)
                      ·
                        refine s_run rfl ?_
                        refine s_pure (.pointer (some ⟨b145, 1, none⟩)) (fun _ q => q) ?_
                        refine s_run rfl ?_
                        have f181 := (f176.ext eh177)
                        refine s_load (.int .i64 g137.tries) (fun _ q => f181.load rfl q) ?_
                        refine s_run rfl ?_
                        refine s_pure (.bool (decide (g137.tries > 1))) (fun _ q => q) ?_
                        refine s_pure (.bool (decide (g137.tries > 1))) (fun _ q => q) ?_
                        refine s_pure (.bool (decide (g137.tries > 1))) (fun _ q => q) ?_
                        refine s_splitT rfl (fun c182 => ?_) (fun c182 => ?_)
                        ·
                          refine s_run rfl ?_
                          refine s_pure r139 (fun _ q => q) ?_
                          refine s_run rfl ?_
                          refine s_pure (.int .i64 (g138.length : Int)) (fun _ q => f159.lenVC q) ?_
                          refine s_run rfl ?_
                          refine s_pure (.bool (decide ((g138.length : Int) ≤ 20))) (fun _ q => q) ?_
                          refine s_pure (.bool (decide ((g138.length : Int) ≤ 20))) (fun _ q => q) ?_
                          refine s_nil ?_
                          refine p_seqN ?_
                          refine v_cond rfl (fun c183 => ?_) (fun c183 => ?_)
                          ·
                            have hq1 : (patOut [] g122 g123).2 = true := pat_nil (by assumption)
                            have hq2 := ws_one (t := g137.towers) (r := g137.tries) (sg := g138) hq1 (by omega)
                            refine v_seq ?_
                            refine v_ops ?_
                            refine s_pure (.int .i64 g122) (fun _ q => q) ?_
                            refine s_pure (.int .i64 g123) (fun _ q => q) ?_
                            refine s_call [.slice none 0 0, .int .i64 g122, .int .i64 g123] rfl (w_implWithPattern (.slice none 0 0) [] g122 g123 _ (SlX.nil (α := Int) false _)) ?_
                            rintro _ h185 ⟨r184, rfl, s_r184, fr_r184, eh185⟩
                            have E186 := E178.trans eh185
                            have z187 := eh185.size
                            have lt_r184 := s_r184.lt
                            refine s_pure (.tuple #[r184, .bool ((patOut [] g122 g123).2)]) (fun _ q => q) ?_
                            refine s_pure r184 (fun _ q => q) ?_
                            refine s_pure (.bool ((patOut [] g122 g123).2)) (fun _ q => q) ?_
                            refine s_pure r184 (fun _ q => q) ?_
                            refine s_pure (.bool ((patOut [] g122 g123).2)) (fun _ q => q) ?_
                            refine s_nil ?_
                            refine p_seqN ?_
                            refine v_seq ?_
                            refine v_ops ?_
                            refine s_pure (.int .i64 g122) (fun _ q => q) ?_
                            refine s_pure (.int .i64 g123) (fun _ q => q) ?_
                            refine s_call [.slice none 0 0, .int .i64 g122, .int .i64 g123] rfl (w_specWithPattern (.slice none 0 0) [] g122 g123 _ (SlX.nil (α := Int) false _)) ?_
                            rintro _ h189 ⟨r188, rfl, s_r188, fr_r188, eh189⟩
                            have E190 := E186.trans eh189
                            have z191 := eh189.size
                            have lt_r188 := s_r188.lt
                            refine s_pure (.tuple #[r188, .bool ((patOut [] g122 g123).2)]) (fun _ q => q) ?_
                            refine s_pure r188 (fun _ q => q) ?_
                            refine s_pure (.bool ((patOut [] g122 g123).2)) (fun _ q => q) ?_
                            refine s_pure r188 (fun _ q => q) ?_
                            refine s_pure (.bool ((patOut [] g122 g123).2)) (fun _ q => q) ?_
                            refine s_nil ?_
                            refine p_seqN ?_
                            refine v_seq ?_
                            refine v_ops ?_
                            have f192 := ((f181.ext eh185).ext eh189)
                            refine s_load (.agg #[.int .i64 g137.towers, .int .i64 g137.tries]) (fun _ q => f192.loadA rfl q) ?_
                            refine s_pure r139 (fun _ q => q) ?_
                            refine s_pure r184 (fun _ q => q) ?_
                            have f193 := (((((f159.ext eh162).ext eh167).ext eh177).ext eh185).ext eh189)
                            have f194 := (s_r184.ext eh189)
                            refine s_call [.agg #[.int .i64 g137.towers, .int .i64 g137.tries], r139, r184] rfl (impl_WrongSignals_ok g137 r139 g138 r184 ((patOut [] g122 g123).1) _ f193.toSl f194.toSl) ?_
                            rintro _ h196 ⟨r195, rfl, s_r195, fr_r195, eh196⟩
                            have E197 := E190.trans eh196
                            have z198 := eh196.size
                            have lt_r195 := s_r195.lt
                            refine s_pure (.tuple #[r195, .bool ((wsOut g137.towers g137.tries g138 ((patOut [] g122 g123).1)).2)]) (fun _ q => q) ?_
                            refine s_pure r195 (fun _ q => q) ?_
                            refine s_pure (.bool ((wsOut g137.towers g137.tries g138 ((patOut [] g122 g123).1)).2)) (fun _ q => q) ?_
                            refine s_pure r195 (fun _ q => q) ?_
                            refine s_pure (.bool ((wsOut g137.towers g137.tries g138 ((patOut [] g122 g123).1)).2)) (fun _ q => q) ?_
                            refine s_nil ?_
                            refine p_seqN ?_
                            refine v_seq ?_
                            refine v_ops ?_
                            have f199 := (f192.ext eh196)
                            refine s_load (.agg #[.int .i64 g137.towers, .int .i64 g137.tries]) (fun _ q => f199.loadA rfl q) ?_
                            refine s_pure r139 (fun _ q => q) ?_
                            refine s_pure r188 (fun _ q => q) ?_
                            have f200 := (f193.ext eh196)
                            have f201 := (s_r188.ext eh196)
                            refine s_call [.agg #[.int .i64 g137.towers, .int .i64 g137.tries], r139, r188] rfl (spec_WrongSignals_ok g137 r139 g138 r188 ((patOut [] g122 g123).1) _ f200.toSl f201.toSl) ?_
                            rintro _ h203 ⟨r202, rfl, s_r202, fr_r202, eh203⟩
                            have E204 := E197.trans eh203
                            have z205 := eh203.size
                            have lt_r202 := s_r202.lt
                            refine s_pure (.tuple #[r202, .bool ((wsOut g137.towers g137.tries g138 ((patOut [] g122 g123).1)).2)]) (fun _ q => q) ?_
                            refine s_pure r202 (fun _ q => q) ?_
                            refine s_pure (.bool ((wsOut g137.towers g137.tries g138 ((patOut [] g122 g123).1)).2)) (fun _ q => q) ?_
                            refine s_pure r202 (fun _ q => q) ?_
                            refine s_pure (.bool ((wsOut g137.towers g137.tries g138 ((patOut [] g122 g123).1)).2)) (fun _ q => q) ?_
                            refine s_nil ?_
                            refine p_seqN ?_
                            refine v_seq ?_
                            refine v_ops ?_
                            refine s_pure (.bool ((patOut [] g122 g123).2)) (fun _ q => q) ?_
                            refine s_pure (.bool (!(patOut [] g122 g123).2)) (fun _ q => q) ?_
                            refine s_pure (.bool (!(patOut [] g122 g123).2)) (fun _ q => q) ?_
                            refine s_splitN rfl (by first | assumption | omega | (simp [hq1]; done) | (simp [hq2]; done) | (simp; done) | (simp; omega) | simp_all) ?_
                            refine s_run rfl ?_
                            refine s_pure (.bool ((patOut [] g122 g123).2)) (fun _ q => q) ?_
                            refine s_run rfl ?_
                            refine s_pure (.bool (!(patOut [] g122 g123).2)) (fun _ q => q) ?_
                            refine s_pure (.bool (!(patOut [] g122 g123).2)) (fun _ q => q) ?_
                            refine s_pure (.bool (!(patOut [] g122 g123).2)) (fun _ q => q) ?_
                            refine s_splitN rfl (by first | assumption | omega | (simp [hq1]; done) | (simp [hq2]; done) | (simp; done) | (simp; omega) | simp_all) ?_
                            refine s_run rfl ?_
                            refine s_pure r184 (fun _ q => q) ?_
                            refine s_run rfl ?_
                            refine s_pure r188 (fun _ q => q) ?_
                            refine s_run rfl ?_
                            have f207 := ((f194.ext eh196).ext eh203)
                            have f208 := (f201.ext eh203)
                            refine s_call [r184, r188] rfl (laws_sameInts_ok r184 ((patOut [] g122 g123).1) r188 ((patOut [] g122 g123).1) _ f207.toSl f208.toSl) ?_
                            rintro vh206 h206 ⟨hvh206, eh206⟩
                            obtain rfl : vh206 = .bool true := hvh206.trans (by rw [decide_eq_true rfl])
                            have E209 := E204.trans eh206
                            have z210 := eh206.size
                            refine s_run rfl ?_
                            refine s_pure (.bool false) (fun _ q => q) ?_
                            refine s_pure (.bool false) (fun _ q => q) ?_
                            refine s_pure (.bool false) (fun _ q => q) ?_
                            refine s_splitN rfl (by simp) ?_
                            refine s_run rfl ?_
                            refine s_pure (.bool ((wsOut g137.towers g137.tries g138 ((patOut [] g122 g123).1)).2)) (fun _ q => q) ?_
                            refine s_run rfl ?_
                            refine s_pure (.bool ((wsOut g137.towers g137.tries g138 ((patOut [] g122 g123).1)).2)) (fun _ q => q) ?_
                            refine s_run rfl ?_
                            refine s_pure (.bool ((wsOut g137.towers g137.tries g138 ((patOut [] g122 g123).1)).2 != (wsOut g137.towers g137.tries g138 ((patOut [] g122 g123).1)).2)) (fun _ q => q) ?_
                            refine s_pure (.bool ((wsOut g137.towers g137.tries g138 ((patOut [] g122 g123).1)).2 != (wsOut g137.towers g137.tries g138 ((patOut [] g122 g123).1)).2)) (fun _ q => q) ?_
                            refine s_pure (.bool ((wsOut g137.towers g137.tries g138 ((patOut [] g122 g123).1)).2 != (wsOut g137.towers g137.tries g138 ((patOut [] g122 g123).1)).2)) (fun _ q => q) ?_
                            refine s_splitN rfl (by first | assumption | omega | (simp [hq1]; done) | (simp [hq2]; done) | (simp; done) | (simp; omega) | simp_all) ?_
                            refine s_run rfl ?_
                            refine s_pure r195 (fun _ q => q) ?_
                            refine s_run rfl ?_
                            refine s_pure r202 (fun _ q => q) ?_
                            refine s_run rfl ?_
                            have f212 := ((s_r195.ext eh203).ext eh206)
                            have f213 := (s_r202.ext eh206)
                            refine s_call [r195, r202] rfl (laws_sameInts_ok r195 ((wsOut g137.towers g137.tries g138 ((patOut [] g122 g123).1)).1) r202 ((wsOut g137.towers g137.tries g138 ((patOut [] g122 g123).1)).1) _ f212.toSl f213.toSl) ?_
                            rintro vh211 h211 ⟨hvh211, eh211⟩
                            obtain rfl : vh211 = .bool true := hvh211.trans (by rw [decide_eq_true rfl])
                            have E214 := E209.trans eh211
                            have z215 := eh211.size
                            refine s_run rfl ?_
                            refine s_pure (.bool false) (fun _ q => q) ?_
                            refine s_pure (.bool false) (fun _ q => q) ?_
                            refine s_pure (.bool false) (fun _ q => q) ?_
                            refine s_splitN rfl (by simp) ?_
                            refine s_run rfl ?_
                            refine s_pure r202 (fun _ q => q) ?_
                            refine s_run rfl ?_
                            refine s_pure (.int .i64 (((wsOut g137.towers g137.tries g138 ((patOut [] g122 g123).1)).1).length : Int)) (fun _ q => f213.lenVC q) ?_
                            refine s_run rfl ?_
                            refine s_pure (.bool (decide ((((wsOut g137.towers g137.tries g138 ((patOut [] g122 g123).1)).1).length : Int) > 0))) (fun _ q => q) ?_
                            refine s_pure (.bool (decide ((((wsOut g137.towers g137.tries g138 ((patOut [] g122 g123).1)).1).length : Int) > 0))) (fun _ q => q) ?_
                            refine s_nil ?_
                            refine p_seqN ?_
                            refine v_cond rfl (fun c216 => ?_) (fun c216 => ?_)
                            ·
                              refine v_seq ?_
                              refine v_ops ?_
                              refine s_pure (.bool false) (fun _ q => q) ?_
                              refine s_nil ?_
                              refine p_seqN ?_
                              refine v_ret ?_
                              refine p_seqR ?_
                              refine p_ret [.bool false] (.bool false) (fun _ q => q) rfl ?_
                              have ho : true = false := by first | rfl | (exfalso; first | omega | (simp_all; done))
                              exact ⟨by first | (rw [ho]; done) | rfl, E214⟩
                            ·
                              refine v_skip ?_
                              refine p_seqN ?_
                              exact M170 _ _ trivial ((((((((Ext.refl _).trans eh177).trans eh185).trans eh189).trans eh196).trans eh203).trans eh206).trans eh211)
                          ·
                            refine v_skip ?_
                            refine p_seqN ?_
                            exact M170 _ _ trivial ((Ext.refl _).trans eh177)
                        ·
                          refine s_pass rfl ?_
                          refine s_pass rfl ?_
                          refine s_pass rfl ?_
                          refine s_pure (.bool false) (fun _ q => q) ?_
                          refine s_nil ?_
                          refine p_seqN ?_
                          refine v_condN rfl (by simp) ?_
                          refine v_skip ?_
                          refine p_seqN ?_
                          exact M170 _ _ trivial ((Ext.refl _).trans eh177)
                      ·
                        refine s_pass rfl ?_
                        refine s_pass rfl ?_
                        refine s_pass rfl ?_
                        refine s_pure (.bool false) (fun _ q => q) ?_
                        refine s_pure (.bool false) (fun _ q => q) ?_
                        refine s_splitN rfl (by simp) ?_
                        refine s_pass rfl ?_
                        refine s_pass rfl ?_
                        refine s_pass rfl ?_
                        refine s_pure (.bool false) (fun _ q => q) ?_
                        refine s_nil ?_
                        refine p_seqN ?_
                        refine v_condN rfl (by simp) ?_
                        refine v_skip ?_
                        refine p_seqN ?_
                        exact M170 _ _ trivial ((Ext.refl _).trans eh177)
                    ·
                      refine s_pass rfl ?_
                      refine s_pass rfl ?_
                      refine s_pure (.bool false) (fun _ q => q) ?_
                      refine s_pure (.bool false) (fun _ q => q) ?_
                      refine s_splitN rfl (by simp) ?_
                      refine s_pass rfl ?_
                      refine s_pass rfl ?_
                      refine s_pass rfl ?_
                      refine s_pure (.bool false) (fun _ q => q) ?_
                      refine s_pure (.bool false) (fun _ q => q) ?_
                      refine s_splitN rfl (by simp) ?_
                      refine s_pass rfl ?_
                      refine s_pass rfl ?_
                      refine s_pass rfl ?_
                      refine s_pure (.bool false) (fun _ q => q) ?_
                      refine s_nil ?_
                      refine p_seqN ?_
                      refine v_condN rfl (by simp) ?_
                      refine v_skip ?_
                      refine p_seqN ?_
                      exact M170 _ _ trivial (Ext.refl _)
                ·
                  refine v_seq ?_
                  refine v_seq ?_
                  refine v_ops ?_
                  refine s_pure (.bool ((patOut g120 g122 g123).2)) (fun _ q => q) ?_
                  refine s_pure (.bool ((patOut g120 g122 g123).2)) (fun _ q => q) ?_
                  refine s_pure (.bool ((patOut g120 g122 g123).2 != (patOut g120 g122 g123).2)) (fun _ q => q) ?_
                  refine s_pure (.bool ((patOut g120 g122 g123).2 != (patOut g120 g122 g123).2)) (fun _ q => q) ?_
                  refine s_splitN rfl (by first | assumption | omega | (simp; done) | (simp; omega) | simp_all) ?_
                  refine s_run rfl ?_
                  refine s_pure r127 (fun _ q => q) ?_
                  refine s_run rfl ?_
                  refine s_pure r132 (fun _ q => q) ?_
                  refine s_run rfl ?_
                  have f218 := ((((((s_r127.ext eh133).ext eh142).ext eh146).mod mh149 (fun b hb hc => by simp at hc; have := lt_r127 b hb; omega)).ext eh155).ext eh162)
                  have f219 := (((((s_r132.ext eh142).ext eh146).mod mh149 (fun b hb hc => by simp at hc; have := lt_r132 b hb; omega)).ext eh155).ext eh162)
                  refine s_call [r127, r132] rfl (laws_sameInts_ok r127 ((patOut g120 g122 g123).1) r132 ((patOut g120 g122 g123).1) _ f218.toSl f219.toSl) ?_
                  rintro vh217 h217 ⟨hvh217, eh217⟩
                  obtain rfl : vh217 = .bool true := hvh217.trans (by rw [decide_eq_true rfl])
                  have E220 := E163.trans eh217
                  have z221 := eh217.size
                  refine s_run rfl ?_
                  refine s_pure (.bool false) (fun _ q => q) ?_
                  refine s_pure (.bool false) (fun _ q => q) ?_
                  refine s_pure (.bool false) (fun _ q => q) ?_
                  refine s_splitN rfl (by simp) ?_
                  refine s_run rfl ?_
                  refine s_pure (.bool ((tabOut g137.towers g137.tries g138 (g140.map RowI.sig)).2)) (fun _ q => q) ?_
                  refine s_run rfl ?_
                  refine s_pure (.bool ((tabOut g137.towers g137.tries g138 (g140.map RowI.sig)).2)) (fun _ q => q) ?_
                  refine s_run rfl ?_
                  refine s_pure (.bool ((tabOut g137.towers g137.tries g138 (g140.map RowI.sig)).2 != (tabOut g137.towers g137.tries g138 (g140.map RowI.sig)).2)) (fun _ q => q) ?_
                  refine s_pure (.bool ((tabOut g137.towers g137.tries g138 (g140.map RowI.sig)).2 != (tabOut g137.towers g137.tries g138 (g140.map RowI.sig)).2)) (fun _ q => q) ?_
                  refine s_pure (.bool ((tabOut g137.towers g137.tries g138 (g140.map RowI.sig)).2 != (tabOut g137.towers g137.tries g138 (g140.map RowI.sig)).2)) (fun _ q => q) ?_
                  refine s_splitN rfl (by first | assumption | omega | (simp; done) | (simp; omega) | simp_all) ?_
                  refine s_run rfl ?_
                  refine s_pure r154 (fun _ q => q) ?_
                  refine s_run rfl ?_
                  refine s_pure r161 (fun _ q => q) ?_
                  refine s_run rfl ?_
                  have f223 := ((s_r154.ext eh162).ext eh217)
                  have f224 := (s_r161.ext eh217)
                  refine s_call [r154, r161] rfl (laws_sameInts_ok r154 ((tabOut g137.towers g137.tries g138 (g140.map RowI.sig)).1) r161 ((tabOut g137.towers g137.tries g138 (g140.map RowI.sig)).1) _ f223.toSl f224.toSl) ?_
                  rintro vh222 h222 ⟨hvh222, eh222⟩
                  obtain rfl : vh222 = .bool true := hvh222.trans (by rw [decide_eq_true rfl])
                  have E225 := E220.trans eh222
                  have z226 := eh222.size
                  refine s_run rfl ?_
                  refine s_pure (.bool false) (fun _ q => q) ?_
                  refine s_pure (.bool false) (fun _ q => q) ?_
                  refine s_pure (.bool false) (fun _ q => q) ?_
                  refine s_splitN rfl (by simp) ?_
                  refine s_run rfl ?_
                  refine s_pure (.bool ((tabOut g137.towers g137.tries g138 (g140.map RowI.sig)).2)) (fun _ q => q) ?_
                  refine s_run rfl ?_
                  refine s_pure (.bool ((tabOut g137.towers g137.tries g138 (g140.map RowI.sig)).2)) (fun _ q => q) ?_
                  refine s_splitT rfl (fun c227 => ?_) (fun c227 => ?_)
                  ·
                    have hT := tab_facts c227
                    rw [List.length_map] at hT
                    refine s_run rfl ?_
                    refine s_pure r161 (fun _ q => q) ?_
                    refine s_run rfl ?_
                    have f228 := (f224.ext eh222)
                    refine s_call [r161] rfl (laws_pSum_ok r161 ((tabOut g137.towers g137.tries g138 (g140.map RowI.sig)).1) _ f228.toSl (tab_val (by simp; omega)) (Nat.le_trans (tabOut_len _ _ _ _) (by decide))) ?_
                    rintro _ h229 ⟨rfl, eh229⟩
                    have E230 := E225.trans eh229
                    have z231 := eh229.size
                    refine s_run rfl ?_
                    refine s_pure r141 (fun _ q => q) ?_
                    refine s_run rfl ?_
                    refine s_pure (.int .i64 (g140.length : Int)) (fun _ q => f160.row.lenVC q) ?_
                    refine s_run rfl ?_
                    refine s_pure (.bool (((tabOut g137.towers g137.tries g138 (g140.map RowI.sig)).1).sum != (g140.length : Int))) (fun _ q => q) ?_
                    refine s_run rfl ?_
                    refine s_pure (.bool (((tabOut g137.towers g137.tries g138 (g140.map RowI.sig)).1).sum != (g140.length : Int))) (fun _ q => q) ?_
                    refine s_pure (.bool (((tabOut g137.towers g137.tries g138 (g140.map RowI.sig)).1).sum != (g140.length : Int))) (fun _ q => q) ?_
                    refine s_nil ?_
                    refine p_seqN ?_
                    refine v_cond rfl (fun c232 => ?_) (fun c232 => ?_)
                    ·
                      refine v_seq ?_
                      refine v_ops ?_
                      refine s_pure (.bool false) (fun _ q => q) ?_
                      refine s_nil ?_
                      refine p_seqN ?_
                      refine v_ret ?_
                      refine p_seqR ?_
                      refine p_ret [.bool false] (.bool false) (fun _ q => q) rfl ?_
                      have ho : true = false := by first | rfl | (exfalso; first | omega | (simp_all; done))
                      exact ⟨by first | (rw [ho]; done) | rfl, E230⟩
                    ·
                      have c232 := Classical.not_not.1 c232
                      refine v_skip ?_
                      refine p_seqN ?_
                      exact M165 _ _ ⟨rfl, rfl, rfl, rfl, rfl⟩ ((((Ext.refl _).trans eh217).trans eh222).trans eh229)
                  ·
                    refine s_pass rfl ?_
                    refine s_pass rfl ?_
                    refine s_pass rfl ?_
                    refine s_pass rfl ?_
                    refine s_pass rfl ?_
                    refine s_run rfl ?_
                    refine s_pure (.bool false) (fun _ q => q) ?_
                    refine s_pure (.bool false) (fun _ q => q) ?_
                    refine s_nil ?_
                    refine p_seqN ?_
                    refine v_condN rfl (by simp) ?_
                    refine v_skip ?_
                    refine p_seqN ?_
                    exact M165 _ _ ⟨rfl, rfl, rfl, rfl, rfl⟩ (((Ext.refl _).trans eh217).trans eh222)
            ·
              refine v_skip ?_
              refine p_seqN ?_
              refine v_seq ?_
              refine v_ops ?_
              refine s_pure v_more (fun _ q => q) ?_
              have f233 := ((((((f61.ext eh67).ext eh71).mod mh74 (fun b hb hc => by simp at hc; have := lt_more b hb; omega)).ext eh79).ext eh85).ext eh90)
              refine s_call [v_more] rfl (spec_DrawWithPattern_ok v_more more _ f233 (by first | omega | assumption | (simp; done) | (simp; omega)) (by first | omega | assumption | (simp; done) | (simp; omega))) ?_
              rintro _ h238 ⟨g234, g236, g237, r235, rfl, s_r235, fr_r235, qh238, eh238⟩
              have E239 := E91.trans eh238
              have z240 := eh238.size
              have lt_r235 := s_r235.lt
              refine s_pure (.tuple #[r235, .int .i64 g236, .int .i64 g237]) (fun _ q => q) ?_
              refine s_pure r235 (fun _ q => q) ?_
              refine s_pure (.int .i64 g236) (fun _ q => q) ?_
              refine s_pure (.int .i64 g237) (fun _ q => q) ?_
              refine s_pure r235 (fun _ q => q) ?_
              refine s_pure (.int .i64 g236) (fun _ q => q) ?_
              refine s_pure (.int .i64 g237) (fun _ q => q) ?_
              refine s_nil ?_
              refine p_seqN ?_
              refine v_seq ?_
              refine v_ops ?_
              refine s_pure r235 (fun _ q => q) ?_
              refine s_pure (.int .i64 g236) (fun _ q => q) ?_
              refine s_pure (.int .i64 g237) (fun _ q => q) ?_
              refine s_call [r235, .int .i64 g236, .int .i64 g237] rfl (w_implWithPattern r235 g234 g236 g237 _ s_r235.toSl) ?_
              rintro _ h242 ⟨r241, rfl, s_r241, fr_r241, eh242⟩
              have E243 := E239.trans eh242
              have z244 := eh242.size
              have lt_r241 := s_r241.lt
              refine s_pure (.tuple #[r241, .bool ((patOut g234 g236 g237).2)]) (fun _ q => q) ?_
              refine s_pure r241 (fun _ q => q) ?_
              refine s_pure (.bool ((patOut g234 g236 g237).2)) (fun _ q => q) ?_
              refine s_pure r241 (fun _ q => q) ?_
              refine s_pure (.bool ((patOut g234 g236 g237).2)) (fun _ q => q) ?_
              refine s_nil ?_
              refine p_seqN ?_
              refine v_seq ?_
              refine v_ops ?_
              refine s_pure r235 (fun _ q => q) ?_
              refine s_pure (.int .i64 g236) (fun _ q => q) ?_
              refine s_pure (.int .i64 g237) (fun _ q => q) ?_
              have f245 := (s_r235.ext eh242)
              refine s_call [r235, .int .i64 g236, .int .i64 g237] rfl (w_specWithPattern r235 g234 g236 g237 _ f245.toSl) ?_
              rintro _ h247 ⟨r246, rfl, s_r246, fr_r246, eh247⟩
              have E248 := E243.trans eh247
              have z249 := eh247.size
              have lt_r246 := s_r246.lt
              refine s_pure (.tuple #[r246, .bool ((patOut g234 g236 g237).2)]) (fun _ q => q) ?_
              refine s_pure r246 (fun _ q => q) ?_
              refine s_pure (.bool ((patOut g234 g236 g237).2)) (fun _ q => q) ?_
              refine s_pure r246 (fun _ q => q) ?_
              refine s_pure (.bool ((patOut g234 g236 g237).2)) (fun _ q => q) ?_
              refine s_nil ?_
              refine p_seqN ?_
              refine v_seq ?_
              refine v_ops ?_
              refine s_pure v_more (fun _ q => q) ?_
              have f250 := (((f233.ext eh238).ext eh242).ext eh247)
              refine s_call [v_more] rfl (spec_DrawLineTable_ok v_more more _ f250 (by first | omega | assumption | (simp; done) | (simp; omega)) (by first | omega | assumption | (simp; done) | (simp; omega))) ?_
              rintro _ h256 ⟨g251, g252, g254, r253, r255, rfl, s_r253, fr_r253, s_r255, qh256, eh256⟩
              have E257 := E248.trans eh256
              have z258 := eh256.size
              have lt_r253 := s_r253.lt
              have lt_r255 := s_r255.lt
              have fr_r255 := s_r255.fr
              refine s_pure (.tuple #[.agg #[.int .i64 g251.towers, .int .i64 g251.tries], r253, r255]) (fun _ q => q) ?_
              refine s_pure (.agg #[.int .i64 g251.towers, .int .i64 g251.tries]) (fun _ q => q) ?_
              refine s_pure r253 (fun _ q => q) ?_
              refine s_pure r255 (fun _ q => q) ?_
              refine s_new (fun h260 b259 hbb259 hzb259 eh260 bxb259 => ?_)
              have E261 := E257.trans eh260
              have z262 := eh260.size
              have lbb259 := bxb259.lt
              refine s_stBx (.agg #[.int .i64 g251.towers, .int .i64 g251.tries]) [.int .i64 g251.towers, .int .i64 g251.tries] [.int .i64 g251.towers, .int .i64 g251.tries] bxb259 rfl rfl rfl rfl (by simp) (all_cons rfl (all_cons rfl all_nil)) rfl (fun h263 mh263 sh263 bxx264 => ?_)
              have E265 := E261.mod mh263 (fun b hb => by simp at hb; omega)
              refine s_pure r253 (fun _ q => q) ?_
              refine s_pure r255 (fun _ q => q) ?_
              refine s_nil ?_
              refine p_seqN ?_
              refine v_seq ?_
              refine v_ops ?_
              refine s_load (.agg #[.int .i64 g251.towers, .int .i64 g251.tries]) (fun _ q => bxx264.loadA rfl q) ?_
              refine s_pure r253 (fun _ q => q) ?_
              refine s_pure r255 (fun _ q => q) ?_
              have f266 := ((s_r253.ext eh260).mod mh263 (fun b hb hc => by simp at hc; have := lt_r253 b hb; omega))
              have f267 := ((s_r255.ext eh260).mod mh263 (fun b hb hc => by simp at hc; have := lt_r255 b hb; omega))
              refine s_call [.agg #[.int .i64 g251.towers, .int .i64 g251.tries], r253, r255] rfl (impl_LineTable_ok g251 r253 g252 r255 g254 (g254.map RowI.sig) _ f266.toSl f267.row.toSl f267.insL rfl) ?_
              rintro _ h269 ⟨r268, rfl, s_r268, fr_r268, eh269⟩
              have E270 := E265.trans eh269
              have z271 := eh269.size
              have lt_r268 := s_r268.lt
              refine s_pure (.tuple #[r268, .bool ((tabOut g251.towers g251.tries g252 (g254.map RowI.sig)).2)]) (fun _ q => q) ?_
              refine s_pure r268 (fun _ q => q) ?_
              refine s_pure (.bool ((tabOut g251.towers g251.tries g252 (g254.map RowI.sig)).2)) (fun _ q => q) ?_
              refine s_pure r268 (fun _ q => q) ?_
              refine s_pure (.bool ((tabOut g251.towers g251.tries g252 (g254.map RowI.sig)).2)) (fun _ q => q) ?_
              refine s_nil ?_
              refine p_seqN ?_
              refine v_seq ?_
              refine v_ops ?_
              have f272 := (bxx264.ext eh269)
              refine s_load (.agg #[.int .i64 g251.towers, .int .i64 g251.tries]) (fun _ q => f272.loadA rfl q) ?_
              refine s_pure r253 (fun _ q => q) ?_
              refine s_pure r255 (fun _ q => q) ?_
              have f273 := (f266.ext eh269)
              have f274 := (f267.ext eh269)
              refine s_call [.agg #[.int .i64 g251.towers, .int .i64 g251.tries], r253, r255] rfl (spec_LineTable_ok g251 r253 g252 r255 g254 (g254.map RowI.sig) _ f273.toSl f274.row.toSl f274.insL rfl) ?_
              rintro _ h276 ⟨r275, rfl, s_r275, fr_r275, eh276⟩
              have E277 := E270.trans eh276
              have z278 := eh276.size
              have lt_r275 := s_r275.lt
              refine s_pure (.tuple #[r275, .bool ((tabOut g251.towers g251.tries g252 (g254.map RowI.sig)).2)]) (fun _ q => q) ?_
              refine s_pure r275 (fun _ q => q) ?_
              refine s_pure (.bool ((tabOut g251.towers g251.tries g252 (g254.map RowI.sig)).2)) (fun _ q => q) ?_
              refine s_pure r275 (fun _ q => q) ?_
              refine s_pure (.bool ((tabOut g251.towers g251.tries g252 (g254.map RowI.sig)).2)) (fun _ q => q) ?_
              refine s_nil ?_
              refine p_seqN ?_
              refine v_seqM1 [(39, .int .i64 g236), (40, .int .i64 g237), (42, .bool ((patOut g234 g236 g237).2)), (45, .pointer (some ⟨b259, 0, none⟩)), (46, r253)] (fun R280 h281 eh281 => ?_) (fun M279 => ?_)
              ·
                have E282 := E277.trans eh281
                have z283 := eh281.size
                refine v_seqM1 [] (fun R285 h286 eh286 => ?_) (fun M284 => ?_)
                ·
                  have E287 := E282.trans eh286
                  have z288 := eh286.size
                  refine v_seq ?_
                  refine v_ops ?_
                  refine s_pure (.bool true) (fun _ q => q) ?_
                  refine s_nil ?_
                  refine p_seqN ?_
                  refine v_ret ?_
                  refine p_ret [.bool true] (.bool true) (fun _ q => q) rfl ?_
                  have ho : true = true := by first | rfl | (exfalso; first | omega | (simp_all; done))
                  exact ⟨by first | (rw [ho]; done) | rfl, E287⟩
                ·
                  refine v_seq ?_
                  refine v_seq ?_
                  refine v_ops ?_
                  refine s_pure (.bool ((patOut g234 g236 g237).2)) (fun _ q => q) ?_
                  refine s_pure (.bool ((patOut g234 g236 g237).2)) (fun _ q => q) ?_
                  refine s_splitT rfl (fun c289 => ?_) (fun c289 => ?_)
                  ·
                    refine s_run rfl ?_
                    have f290 := ((f272.ext eh276).ext eh281)
                    refine s_load (.agg #[.int .i64 g251.towers, .int .i64 g251.tries]) (fun _ q => f290.loadA rfl q) ?_
                    refine s_run rfl ?_
                    refine s_call [.agg #[.int .i64 g251.towers, .int .i64 g251.tries]] rfl (w_implIsLine g251 _ ) ?_
                    rintro _ h291 ⟨rfl, eh291⟩
                    have E292 := E282.trans eh291
                    have z293 := eh291.size
                    refine s_pure (.bool (decide (LineOk g251.towers g251.tries))) (fun _ q => q) ?_
                    refine s_pure (.bool (decide (LineOk g251.towers g251.tries))) (fun _ q => q) ?_
                    refine s_splitT rfl (fun c294 => ?_) (fun c294 => ?_)
                    ·
                      refine s_run rfl ?_
                      refine s_pure (.pointer (some ⟨b259, 1, none⟩)) (fun _ q => q) ?_
                      refine s_run rfl ?_
                      have f295 := (f290.ext eh291)
                      refine s_load (.int .i64 g251.tries) (fun _ q => f295.load rfl q) ?_
                      refine s_run rfl ?_
                      refine s_pure (.bool (decide (g251.tries > 1))) (fun _ q => q) ?_
                      refine s_pure (.bool (decide (g251.tries > 1))) (fun _ q => q) ?_
                      refine s_pure (.bool (decide (g251.tries > 1))) (fun _ q => q) ?_
                      refine s_splitT rfl (fun c296 => ?_) (fun c296 => ?_)
                      ·
                        refine s_run rfl ?_
                        refine s_pure r253 (fun _ q => q) ?_
                        refine s_run rfl ?_
                        refine s_pure (.int .i64 (g252.length : Int)) (fun _ q => f273.lenVC q) ?_
                        refine s_run rfl ?_
                        refine s_pure (.bool (decide ((g252.length : Int) ≤ 20))) (fun _ q => q) ?_
                        refine s_pure (.bool (decide ((g252.length : Int) ≤ 20))) (fun _ q => q) ?_
                        refine s_nil ?_
                        refine p_seqN ?_
                        refine v_cond rfl (fun c297 => ?_) (fun c297 => ?_)
                        ·
                          have hq1 : (patOut [] g236 g237).2 = true := pat_nil (by assumption)
                          have hq2 := ws_one (t := g251.towers) (r := g251.tries) (sg := g252) hq1 (by omega)
                          refine v_seq ?_
                          refine v_ops ?_
                          refine s_pure (.int .i64 g236) (fun _ q => q) ?_
                          refine s_pure (.int .i64 g237) (fun _ q => q) ?_
                          refine s_call [.slice none 0 0, .int .i64 g236, .int .i64 g237] rfl (w_implWithPattern (.slice none 0 0) [] g236 g237 _ (SlX.nil (α := Int) false _)) ?_
                          rintro _ h299 ⟨r298, rfl, s_r298, fr_r298, eh299⟩
                          have E300 := E292.trans eh299
                          have z301 := eh299.size
                          have lt_r298 := s_r298.lt
                          refine s_pure (.tuple #[r298, .bool ((patOut [] g236 g237).2)]) (fun _ q => q) ?_
                          refine s_pure r298 (fun _ q => q) ?_
                          refine s_pure (.bool ((patOut [] g236 g237).2)) (fun _ q => q) ?_
                          refine s_pure r298 (fun _ q => q) ?_
                          refine s_pure (.bool ((patOut [] g236 g237).2)) (fun _ q => q) ?_
                          refine s_nil ?_
                          refine p_seqN ?_
                          refine v_seq ?_
                          refine v_ops ?_
                          refine s_pure (.int .i64 g236) (fun _ q => q) ?_
                          refine s_pure (.int .i64 g237) (fun _ q => q) ?_
                          refine s_call [.slice none 0 0, .int .i64 g236, .int .i64 g237] rfl (w_specWithPattern (.slice none 0 0) [] g236 g237 _ (SlX.nil (α := Int) false _)) ?_
                          rintro _ h303 ⟨r302, rfl, s_r302, fr_r302, eh303⟩
                          have E304 := E300.trans eh303
                          have z305 := eh303.size
                          have lt_r302 := s_r302.lt
                          refine s_pure (.tuple #[r302, .bool ((patOut [] g236 g237).2)]) (fun _ q => q) ?_
                          refine s_pure r302 (fun _ q => q) ?_
                          refine s_pure (.bool ((patOut [] g236 g237).2)) (fun _ q => q) ?_
                          refine s_pure r302 (fun _ q => q) ?_
                          refine s_pure (.bool ((patOut [] g236 g237).2)) (fun _ q => q) ?_
                          refine s_nil ?_
                          refine p_seqN ?_
                          refine v_seq ?_
                          refine v_ops ?_
                          have f306 := ((f295.ext eh299).ext eh303)
                          refine s_load (.agg #[.int .i64 g251.towers, .int .i64 g251.tries]) (fun _ q => f306.loadA rfl q) ?_
                          refine s_pure r253 (fun _ q => q) ?_
                          refine s_pure r298 (fun _ q => q) ?_
                          have f307 := (((((f273.ext eh276).ext eh281).ext eh291).ext eh299).ext eh303)
                          have f308 := (s_r298.ext eh303)
                          refine s_call [.agg #[.int .i64 g251.towers, .int .i64 g251.tries], r253, r298] rfl (impl_WrongSignals_ok g251 r253 g252 r298 ((patOut [] g236 g237).1) _ f307.toSl f308.toSl) ?_
                          rintro _ h310 ⟨r309, rfl, s_r309, fr_r309, eh310⟩
                          have E311 := E304.trans eh310
                          have z312 := eh310.size
                          have lt_r309 := s_r309.lt
                          refine s_pure (.tuple #[r309, .bool ((wsOut g251.towers g251.tries g252 ((patOut [] g236 g237).1)).2)]) (fun _ q => q) ?_
                          refine s_pure r309 (fun _ q => q) ?_
                          refine s_pure (.bool ((wsOut g251.towers g251.tries g252 ((patOut [] g236 g237).1)).2)) (fun _ q => q) ?_
                          refine s_pure r309 (fun _ q => q) ?_
                          refine s_pure (.bool ((wsOut g251.towers g251.tries g252 ((patOut [] g236 g237).1)).2)) (fun _ q => q) ?_
                          refine s_nil ?_
                          refine p_seqN ?_
                          refine v_seq ?_
                          refine v_ops ?_
                          have f313 := (f306.ext eh310)
                          refine s_load (.agg #[.int .i64 g251.towers, .int .i64 g251.tries]) (fun _ q => f313.loadA rfl q) ?_
                          refine s_pure r253 (fun _ q => q) ?_
                          refine s_pure r302 (fun _ q => q) ?_
                          have f314 := (f307.ext eh310)
                          have f315 := (s_r302.ext eh310)
                          refine s_call [.agg #[.int .i64 g251.towers, .int .i64 g251.tries], r253, r302] rfl (spec_WrongSignals_ok g251 r253 g252 r302 ((patOut [] g236 g237).1) _ f314.toSl f315.toSl) ?_
                          rintro _ h317 ⟨r316, rfl, s_r316, fr_r316, eh317⟩
                          have E318 := E311.trans eh317
                          have z319 := eh317.size
                          have lt_r316 := s_r316.lt
                          refine s_pure (.tuple #[r316, .bool ((wsOut g251.towers g251.tries g252 ((patOut [] g236 g237).1)).2)]) (fun _ q => q) ?_
                          refine s_pure r316 (fun _ q => q) ?_
                          refine s_pure (.bool ((wsOut g251.towers g251.tries g252 ((patOut [] g236 g237).1)).2)) (fun _ q => q) ?_
                          refine s_pure r316 (fun _ q => q) ?_
                          refine s_pure (.bool ((wsOut g251.towers g251.tries g252 ((patOut [] g236 g237).1)).2)) (fun _ q => q) ?_
                          refine s_nil ?_
                          refine p_seqN ?_
                          refine v_seq ?_
                          refine v_ops ?_
                          refine s_pure (.bool ((patOut [] g236 g237).2)) (fun _ q => q) ?_
                          refine s_pure (.bool (!(patOut [] g236 g237).2)) (fun _ q => q) ?_
                          refine s_pure (.bool (!(patOut [] g236 g237).2)) (fun _ q => q) ?_
                          refine s_splitN rfl (by first | assumption | omega | (simp [hq1]; done) | (simp [hq2]; done) | (simp; done) | (simp; omega) | simp_all) ?_
                          refine s_run rfl ?_
                          refine s_pure (.bool ((patOut [] g236 g237).2)) (fun _ q => q) ?_
                          refine s_run rfl ?_
                          refine s_pure (.bool (!(patOut [] g236 g237).2)) (fun _ q => q) ?_
                          refine s_pure (.bool (!(patOut [] g236 g237).2)) (fun _ q => q) ?_
                          refine s_pure (.bool (!(patOut [] g236 g237).2)) (fun _ q => q) ?_
                          refine s_splitN rfl (by first | assumption | omega | (simp [hq1]; done) | (simp [hq2]; done) | (simp; done) | (simp; omega) | simp_all) ?_
                          refine s_run rfl ?_
                          refine s_pure r298 (fun _ q => q) ?_
                          refine s_run rfl ?_
                          refine s_pure r302 (fun _ q => q) ?_
                          refine s_run rfl ?_
                          have f321 := ((f308.ext eh310).ext eh317)
                          have f322 := (f315.ext eh317)
                          refine s_call [r298, r302] rfl (laws_sameInts_ok r298 ((patOut [] g236 g237).1) r302 ((patOut [] g236 g237).1) _ f321.toSl f322.toSl) ?_
                          rintro vh320 h320 ⟨hvh320, eh320⟩
                          obtain rfl : vh320 = .bool true := hvh320.trans (by rw [decide_eq_true rfl])
                          have E323 := E318.trans eh320
                          have z324 := eh320.size
                          refine s_run rfl ?_
                          refine s_pure (.bool false) (fun _ q => q) ?_
                          refine s_pure (.bool false) (fun _ q => q) ?_
                          refine s_pure (.bool false) (fun _ q => q) ?_
                          refine s_splitN rfl (by simp) ?_
                          refine s_run rfl ?_
                          refine s_pure (.bool ((wsOut g251.towers g251.tries g252 ((patOut [] g236 g237).1)).2)) (fun _ q => q) ?_
                          refine s_run rfl ?_
                          refine s_pure (.bool ((wsOut g251.towers g251.tries g252 ((patOut [] g236 g237).1)).2)) (fun _ q => q) ?_
                          refine s_run rfl ?_
                          refine s_pure (.bool ((wsOut g251.towers g251.tries g252 ((patOut [] g236 g237).1)).2 != (wsOut g251.towers g251.tries g252 ((patOut [] g236 g237).1)).2)) (fun _ q => q) ?_
                          refine s_pure (.bool ((wsOut g251.towers g251.tries g252 ((patOut [] g236 g237).1)).2 != (wsOut g251.towers g251.tries g252 ((patOut [] g236 g237).1)).2)) (fun _ q => q) ?_
                          refine s_pure (.bool ((wsOut g251.towers g251.tries g252 ((patOut [] g236 g237).1)).2 != (wsOut g251.towers g251.tries g252 ((patOut [] g236 g237).1)).2)) (fun _ q => q) ?_
                          refine s_splitN rfl (by first | assumption | omega | (simp [hq1]; done) | (simp [hq2]; done) | (simp; done) | (simp; omega) | simp_all) ?_
                          refine s_run rfl ?_
                          refine s_pure r309 (fun _ q => q) ?_
                          refine s_run rfl ?_
                          refine s_pure r316 (fun _ q => q) ?_
                          refine s_run rfl ?_
                          have f326 := ((s_r309.ext eh317).ext eh320)
                          have f327 := (s_r316.ext eh320)
                          refine s_call [r309, r316] rfl (laws_sameInts_ok r309 ((wsOut g251.towers g251.tries g252 ((patOut [] g236 g237).1)).1) r316 ((wsOut g251.towers g251.tries g252 ((patOut [] g236 g237).1)).1) _ f326.toSl f327.toSl) ?_
                          rintro vh325 h325 ⟨hvh325, eh325⟩
                          obtain rfl : vh325 = .bool true := hvh325.trans (by rw [decide_eq_true rfl])
                          have E328 := E323.trans eh325
                          have z329 := eh325.size
                          refine s_run rfl ?_
                          refine s_pure (.bool false) (fun _ q => q) ?_
                          refine s_pure (.bool false) (fun _ q => q) ?_
                          refine s_pure (.bool false) (fun _ q => q) ?_
                          refine s_splitN rfl (by simp) ?_
                          refine s_run rfl ?_
                          refine s_pure r316 (fun _ q => q) ?_
                          refine s_run rfl ?_
                          refine s_pure (.int .i64 (((wsOut g251.towers g251.tries g252 ((patOut [] g236 g237).1)).1).length : Int)) (fun _ q => f327.lenVC q) ?_
                          refine s_run rfl ?_
                          refine s_pure (.bool (decide ((((wsOut g251.towers g251.tries g252 ((patOut [] g236 g237).1)).1).length : Int) > 0))) (fun _ q => q) ?_
                          refine s_pure (.bool (decide ((((wsOut g251.towers g251.tries g252 ((patOut [] g236 g237).1)).1).length : Int) > 0))) (fun _ q => q) ?_
                          refine s_nil ?_
                          refine p_seqN ?_
                          refine v_cond rfl (fun c330 => ?_) (fun c330 => ?_)
                          ·
                            refine v_seq ?_
                            refine v_ops ?_
                            refine s_pure (.bool false) (fun _ q => q) ?_
                            refine s_nil ?_
                            refine p_seqN ?_
                            refine v_ret ?_
                            refine p_seqR ?_
                            refine p_ret [.bool false] (.bool false) (fun _ q => q) rfl ?_
                            have ho : true = false := by first | rfl | (exfalso; first | omega | (simp_all; done))
                            exact ⟨by first | (rw [ho]; done) | rfl, E328⟩
                          ·
                            refine v_skip ?_
                            refine p_seqN ?_
                            exact M284 _ _ trivial ((((((((Ext.refl _).trans eh291).trans eh299).trans eh303).trans eh310).trans eh317).trans eh320).trans eh325)
                        ·
                          refine v_skip ?_
                          refine p_seqN ?_
                          exact M284 _ _ trivial ((Ext.refl _).trans eh291)
                      ·
                        refine s_pass rfl ?_
                        refine s_pass rfl ?_
                        refine s_pass rfl ?_
                        refine s_pure (.bool false) (fun _ q => q) ?_
                        refine s_nil ?_
                        refine p_seqN ?_
                        refine v_condN rfl (by simp) ?_
                        refine v_skip ?_
                        refine p_seqN ?_
                        exact M284 _ _ trivial ((Ext.refl _).trans eh291)
                    ·
                      refine s_pass rfl ?_
                      refine s_pass rfl ?_
                      refine s_pass rfl ?_
                      refine s_pure (.bool false) (fun _ q => q) ?_
                      refine s_pure (.bool false) (fun _ q => q) ?_
                      refine s_splitN rfl (by simp) ?_
                      refine s_pass rfl ?_
                      refine s_pass rfl ?_
                      refine s_pass rfl ?_
                      refine s_pure (.bool false) (fun _ q => q) ?_
                      refine s_nil ?_
                      refine p_seqN ?_
                      refine v_condN rfl (by simp) ?_
                      refine v_skip ?_
                      refine p_seqN ?_
                      exact M284 _ _ trivial ((Ext.refl _).trans eh291)
                  ·
                    refine s_pass rfl ?_
                    refine s_pass rfl ?_
                    refine s_pure (.bool false) (fun _ q => q) ?_
                    refine s_pure (.bool false) (fun _ q => q) ?_
                    refine s_splitN rfl (by simp) ?_
                    refine s_pass rfl ?_
                    refine s_pass rfl ?_
                    refine s_pass rfl ?_
                    refine s_pure (.bool false) (fun _ q => q) ?_
                    refine s_pure (.bool false) (fun _ q => q) ?_
                    refine s_splitN rfl (by simp) ?_
                    refine s_pass rfl ?_
                    refine s_pass rfl ?_
                    refine s_pass rfl ?_
                    refine s_pure (.bool false) (fun _ q => q) ?_
                    refine s_nil ?_
                    refine p_seqN ?_
                    refine v_condN rfl (by simp) ?_
                    refine v_skip ?_
                    refine p_seqN ?_
                    exact M284 _ _ trivial (Ext.refl _)
              ·
                refine v_seq ?_
                refine v_seq ?_
                refine v_ops ?_
                refine s_pure (.bool ((patOut g234 g236 g237).2)) (fun _ q => q) ?_
                refine s_pure (.bool ((patOut g234 g236 g237).2)) (fun _ q => q) ?_
                refine s_pure (.bool ((patOut g234 g236 g237).2 != (patOut g234 g236 g237).2)) (fun _ q => q) ?_
                refine s_pure (.bool ((patOut g234 g236 g237).2 != (patOut g234 g236 g237).2)) (fun _ q => q) ?_
                refine s_splitN rfl (by first | assumption | omega | (simp; done) | (simp; omega) | simp_all) ?_
                refine s_run rfl ?_
                refine s_pure r241 (fun _ q => q) ?_
                refine s_run rfl ?_
                refine s_pure r246 (fun _ q => q) ?_
                refine s_run rfl ?_
                have f332 := ((((((s_r241.ext eh247).ext eh256).ext eh260).mod mh263 (fun b hb hc => by simp at hc; have := lt_r241 b hb; omega)).ext eh269).ext eh276)
                have f333 := (((((s_r246.ext eh256).ext eh260).mod mh263 (fun b hb hc => by simp at hc; have := lt_r246 b hb; omega)).ext eh269).ext eh276)
                refine s_call [r241, r246] rfl (laws_sameInts_ok r241 ((patOut g234 g236 g237).1) r246 ((patOut g234 g236 g237).1) _ f332.toSl f333.toSl) ?_
                rintro vh331 h331 ⟨hvh331, eh331⟩
                obtain rfl : vh331 = .bool true := hvh331.trans (by rw [decide_eq_true rfl])
                have E334 := E277.trans eh331
                have z335 := eh331.size
                refine s_run rfl ?_
                refine s_pure (.bool false) (fun _ q => q) ?_
                refine s_pure (.bool false) (fun _ q => q) ?_
                refine s_pure (.bool false) (fun _ q => q) ?_
                refine s_splitN rfl (by simp) ?_
                refine s_run rfl ?_
                refine s_pure (.bool ((tabOut g251.towers g251.tries g252 (g254.map RowI.sig)).2)) (fun _ q => q) ?_
                refine s_run rfl ?_
                refine s_pure (.bool ((tabOut g251.towers g251.tries g252 (g254.map RowI.sig)).2)) (fun _ q => q) ?_
                refine s_run rfl ?_
                refine s_pure (.bool ((tabOut g251.towers g251.tries g252 (g254.map RowI.sig)).2 != (tabOut g251.towers g251.tries g252 (g254.map RowI.sig)).2)) (fun _ q => q) ?_
                refine s_pure (.bool ((tabOut g251.towers g251.tries g252 (g254.map RowI.sig)).2 != (tabOut g251.towers g251.tries g252 (g254.map RowI.sig)).2)) (fun _ q => q) ?_
                refine s_pure (.bool ((tabOut g251.towers g251.tries g252 (g254.map RowI.sig)).2 != (tabOut g251.towers g251.tries g252 (g254.map RowI.sig)).2)) (fun _ q => q) ?_
                refine s_splitN rfl (by first | assumption | omega | (simp; done) | (simp; omega) | simp_all) ?_
                refine s_run rfl ?_
                refine s_pure r268 (fun _ q => q) ?_
                refine s_run rfl ?_
                refine s_pure r275 (fun _ q => q) ?_
                refine s_run rfl ?_
                have f337 := ((s_r268.ext eh276).ext eh331)
                have f338 := (s_r275.ext eh331)
                refine s_call [r268, r275] rfl (laws_sameInts_ok r268 ((tabOut g251.towers g251.tries g252 (g254.map RowI.sig)).1) r275 ((tabOut g251.towers g251.tries g252 (g254.map RowI.sig)).1) _ f337.toSl f338.toSl) ?_
                rintro vh336 h336 ⟨hvh336, eh336⟩
                obtain rfl : vh336 = .bool true := hvh336.trans (by rw [decide_eq_true rfl])
                have E339 := E334.trans eh336
                have z340 := eh336.size
                refine s_run rfl ?_
                refine s_pure (.bool false) (fun _ q => q) ?_
                refine s_pure (.bool false) (fun _ q => q) ?_
                refine s_pure (.bool false) (fun _ q => q) ?_
                refine s_splitN rfl (by simp) ?_
                refine s_run rfl ?_
                refine s_pure (.bool ((tabOut g251.towers g251.tries g252 (g254.map RowI.sig)).2)) (fun _ q => q) ?_
                refine s_run rfl ?_
                refine s_pure (.bool ((tabOut g251.towers g251.tries g252 (g254.map RowI.sig)).2)) (fun _ q => q) ?_
                refine s_splitT rfl (fun c341 => ?_) (fun c341 => ?_)
                ·
                  have hT := tab_facts c341
                  rw [List.length_map] at hT
                  refine s_run rfl ?_
                  refine s_pure r275 (fun _ q => q) ?_
                  refine s_run rfl ?_
                  have f342 := (f338.ext eh336)
                  refine s_call [r275] rfl (laws_pSum_ok r275 ((tabOut g251.towers g251.tries g252 (g254.map RowI.sig)).1) _ f342.toSl (tab_val (by simp; omega)) (Nat.le_trans (tabOut_len _ _ _ _) (by decide))) ?_
                  rintro _ h343 ⟨rfl, eh343⟩
                  have E344 := E339.trans eh343
                  have z345 := eh343.size
                  refine s_run rfl ?_
                  refine s_pure r255 (fun _ q => q) ?_
                  refine s_run rfl ?_
                  refine s_pure (.int .i64 (g254.length : Int)) (fun _ q => f274.row.lenVC q) ?_
                  refine s_run rfl ?_
                  refine s_pure (.bool (((tabOut g251.towers g251.tries g252 (g254.map RowI.sig)).1).sum != (g254.length : Int))) (fun _ q => q) ?_
                  refine s_run rfl ?_
                  refine s_pure (.bool (((tabOut g251.towers g251.tries g252 (g254.map RowI.sig)).1).sum != (g254.length : Int))) (fun _ q => q) ?_
                  refine s_pure (.bool (((tabOut g251.towers g251.tries g252 (g254.map RowI.sig)).1).sum != (g254.length : Int))) (fun _ q => q) ?_
                  refine s_nil ?_
                  refine p_seqN ?_
                  refine v_cond rfl (fun c346 => ?_) (fun c346 => ?_)
                  ·
                    refine v_seq ?_
                    refine v_ops ?_
                    refine s_pure (.bool false) (fun _ q => q) ?_
                    refine s_nil ?_
                    refine p_seqN ?_
                    refine v_ret ?_
                    refine p_seqR ?_
                    refine p_ret [.bool false] (.bool false) (fun _ q => q) rfl ?_
                    have ho : true = false := by first | rfl | (exfalso; first | omega | (simp_all; done))
                    exact ⟨by first | (rw [ho]; done) | rfl, E344⟩
                  ·
                    have c346 := Classical.not_not.1 c346
                    refine v_skip ?_
                    refine p_seqN ?_
                    exact M279 _ _ ⟨rfl, rfl, rfl, rfl, rfl⟩ ((((Ext.refl _).trans eh331).trans eh336).trans eh343)
                ·
                  refine s_pass rfl ?_
                  refine s_pass rfl ?_
                  refine s_pass rfl ?_
                  refine s_pass rfl ?_
                  refine s_pass rfl ?_
                  refine s_run rfl ?_
                  refine s_pure (.bool false) (fun _ q => q) ?_
                  refine s_pure (.bool false) (fun _ q => q) ?_
                  refine s_nil ?_
                  refine p_seqN ?_
                  refine v_condN rfl (by simp) ?_
                  refine v_skip ?_
                  refine p_seqN ?_
                  exact M279 _ _ ⟨rfl, rfl, rfl, rfl, rfl⟩ (((Ext.refl _).trans eh331).trans eh336)
          ·
            refine v_seq ?_
            refine v_seq ?_
            refine v_ops ?_
            refine s_pure (.bool ((ltOut g62.towers g62.tries g63 g65).2)) (fun _ q => q) ?_
            refine s_pure (.bool ((ltOut g62.towers g62.tries g63 g65).2)) (fun _ q => q) ?_
            refine s_pure (.bool ((ltOut g62.towers g62.tries g63 g65).2 != (ltOut g62.towers g62.tries g63 g65).2)) (fun _ q => q) ?_
            refine s_pure (.bool ((ltOut g62.towers g62.tries g63 g65).2 != (ltOut g62.towers g62.tries g63 g65).2)) (fun _ q => q) ?_
            refine s_splitN rfl (by first | assumption | omega | (simp; done) | (simp; omega) | simp_all) ?_
            refine s_run rfl ?_
            refine s_pure (.int .i64 ((ltOut g62.towers g62.tries g63 g65).1)) (fun _ q => q) ?_
            refine s_run rfl ?_
            refine s_pure (.int .i64 ((ltOut g62.towers g62.tries g63 g65).1)) (fun _ q => q) ?_
            refine s_run rfl ?_
            refine s_pure (.bool ((ltOut g62.towers g62.tries g63 g65).1 != (ltOut g62.towers g62.tries g63 g65).1)) (fun _ q => q) ?_
            refine s_pure (.bool ((ltOut g62.towers g62.tries g63 g65).1 != (ltOut g62.towers g62.tries g63 g65).1)) (fun _ q => q) ?_
            refine s_nil ?_
            refine p_seqN ?_
            refine v_condN rfl (by first | assumption | omega | (simp; done) | (simp; omega) | simp_all) ?_
            refine v_skip ?_
            refine p_seqN ?_
            exact M88 _ _ ⟨rfl, rfl, rfl, rfl, rfl, rfl⟩ (Ext.refl _)
        ·
          refine v_seq ?_
          refine v_seq ?_
          refine v_ops ?_
          refine s_pure (.bool ((stOut g6.towers g6.tries g7 g9).2.2)) (fun _ q => q) ?_
          refine s_nil ?_
          refine p_seqN ?_
          refine v_cond rfl (fun c347 => ?_) (fun c347 => ?_)
          ·
            obtain ⟨hA, ⟨hs1, hs2, hs3⟩, ⟨hi1, hi2⟩, hl1, hl2, ho1, ho2⟩ := st_facts c347
            refine v_seq ?_
            refine v_ops ?_
            have f348 := ((f44.ext eh48).ext eh53)
            refine s_load (.agg #[.int .i64 g6.towers, .int .i64 g6.tries]) (fun _ q => f348.loadA rfl q) ?_
            refine s_pure r8 (fun _ q => q) ?_
            refine s_pure r10 (fun _ q => q) ?_
            refine s_pure (.int .i64 ((stOut g6.towers g6.tries g7 g9).2.1)) (fun _ q => q) ?_
            have f349 := ((f45.ext eh48).ext eh53)
            have f350 := ((f46.ext eh48).ext eh53)
            refine s_call [.agg #[.int .i64 g6.towers, .int .i64 g6.tries], r8, r10, .int .i64 ((stOut g6.towers g6.tries g7 g9).2.1)] rfl (w_implHeldAtTower g6 r8 g7 r10 g9 ((stOut g6.towers g6.tries g7 g9).2.1) _ f349.toSl f350.toSl) ?_
            rintro _ h352 ⟨r351, rfl, s_r351, fr_r351, eh352⟩
            have E353 := E54.trans eh352
            have z354 := eh352.size
            have lt_r351 := s_r351.lt
            refine s_pure (.tuple #[r351, .bool ((haOut g6.towers g6.tries g7 g9 ((stOut g6.towers g6.tries g7 g9).2.1)).2)]) (fun _ q => q) ?_
            refine s_pure r351 (fun _ q => q) ?_
            refine s_pure (.bool ((haOut g6.towers g6.tries g7 g9 ((stOut g6.towers g6.tries g7 g9).2.1)).2)) (fun _ q => q) ?_
            refine s_pure r351 (fun _ q => q) ?_
            refine s_pure (.bool ((haOut g6.towers g6.tries g7 g9 ((stOut g6.towers g6.tries g7 g9).2.1)).2)) (fun _ q => q) ?_
            refine s_nil ?_
            refine p_seqN ?_
            refine v_seq ?_
            refine v_ops ?_
            have f355 := (f348.ext eh352)
            refine s_load (.agg #[.int .i64 g6.towers, .int .i64 g6.tries]) (fun _ q => f355.loadA rfl q) ?_
            refine s_pure r8 (fun _ q => q) ?_
            refine s_pure r10 (fun _ q => q) ?_
            refine s_pure (.int .i64 ((stOut g6.towers g6.tries g7 g9).2.1)) (fun _ q => q) ?_
            refine s_pure (.int .i64 ((stOut g6.towers g6.tries g7 g9).2.1 + 1)) (fun _ q => ArithVC.mk (by omega) q) ?_
            have f356 := (f349.ext eh352)
            have f357 := (f350.ext eh352)
            refine s_call [.agg #[.int .i64 g6.towers, .int .i64 g6.tries], r8, r10, .int .i64 ((stOut g6.towers g6.tries g7 g9).2.1 + 1)] rfl (w_implHeldAtTower g6 r8 g7 r10 g9 ((stOut g6.towers g6.tries g7 g9).2.1 + 1) _ f356.toSl f357.toSl) ?_
            rintro _ h359 ⟨r358, rfl, s_r358, fr_r358, eh359⟩
            have E360 := E353.trans eh359
            have z361 := eh359.size
            have lt_r358 := s_r358.lt
            refine s_pure (.tuple #[r358, .bool ((haOut g6.towers g6.tries g7 g9 ((stOut g6.towers g6.tries g7 g9).2.1 + 1)).2)]) (fun _ q => q) ?_
            refine s_pure r358 (fun _ q => q) ?_
            refine s_pure (.bool ((haOut g6.towers g6.tries g7 g9 ((stOut g6.towers g6.tries g7 g9).2.1 + 1)).2)) (fun _ q => q) ?_
            refine s_pure r358 (fun _ q => q) ?_
            refine s_pure (.bool ((haOut g6.towers g6.tries g7 g9 ((stOut g6.towers g6.tries g7 g9).2.1 + 1)).2)) (fun _ q => q) ?_
            refine s_nil ?_
            refine p_seqN ?_
            refine v_seq ?_
            refine v_ops ?_
            have f362 := (f355.ext eh359)
            refine s_load (.agg #[.int .i64 g6.towers, .int .i64 g6.tries]) (fun _ q => f362.loadA rfl q) ?_
            refine s_pure r8 (fun _ q => q) ?_
            refine s_pure r10 (fun _ q => q) ?_
            refine s_pure (.int .i64 ((stOut g6.towers g6.tries g7 g9).2.1)) (fun _ q => q) ?_
            have f363 := (f356.ext eh359)
            have f364 := (f357.ext eh359)
            refine s_call [.agg #[.int .i64 g6.towers, .int .i64 g6.tries], r8, r10, .int .i64 ((stOut g6.towers g6.tries g7 g9).2.1)] rfl (w_specHeldAtTower g6 r8 g7 r10 g9 ((stOut g6.towers g6.tries g7 g9).2.1) _ f363.toSl f364.toSl) ?_
            rintro _ h366 ⟨r365, rfl, s_r365, fr_r365, eh366⟩
            have E367 := E360.trans eh366
            have z368 := eh366.size
            have lt_r365 := s_r365.lt
            refine s_pure (.tuple #[r365, .bool ((haOut g6.towers g6.tries g7 g9 ((stOut g6.towers g6.tries g7 g9).2.1)).2)]) (fun _ q => q) ?_
            refine s_pure r365 (fun _ q => q) ?_
            refine s_pure (.bool ((haOut g6.towers g6.tries g7 g9 ((stOut g6.towers g6.tries g7 g9).2.1)).2)) (fun _ q => q) ?_
            refine s_pure r365 (fun _ q => q) ?_
            refine s_pure (.bool ((haOut g6.towers g6.tries g7 g9 ((stOut g6.towers g6.tries g7 g9).2.1)).2)) (fun _ q => q) ?_
            refine s_nil ?_
            refine p_seqN ?_
            refine v_seq ?_
            refine v_ops ?_
            have f369 := (f362.ext eh366)
            refine s_load (.agg #[.int .i64 g6.towers, .int .i64 g6.tries]) (fun _ q => f369.loadA rfl q) ?_
            refine s_pure r8 (fun _ q => q) ?_
            refine s_pure r10 (fun _ q => q) ?_
            refine s_pure (.int .i64 ((stOut g6.towers g6.tries g7 g9).2.1)) (fun _ q => q) ?_
            refine s_pure (.int .i64 ((stOut g6.towers g6.tries g7 g9).2.1 + 1)) (fun _ q => ArithVC.mk (by omega) q) ?_
            have f370 := (f363.ext eh366)
            have f371 := (f364.ext eh366)
            refine s_call [.agg #[.int .i64 g6.towers, .int .i64 g6.tries], r8, r10, .int .i64 ((stOut g6.towers g6.tries g7 g9).2.1 + 1)] rfl (w_specHeldAtTower g6 r8 g7 r10 g9 ((stOut g6.towers g6.tries g7 g9).2.1 + 1) _ f370.toSl f371.toSl) ?_
            rintro _ h373 ⟨r372, rfl, s_r372, fr_r372, eh373⟩
            have E374 := E367.trans eh373
            have z375 := eh373.size
            have lt_r372 := s_r372.lt
            refine s_pure (.tuple #[r372, .bool ((haOut g6.towers g6.tries g7 g9 ((stOut g6.towers g6.tries g7 g9).2.1 + 1)).2)]) (fun _ q => q) ?_
            refine s_pure r372 (fun _ q => q) ?_
            refine s_pure (.bool ((haOut g6.towers g6.tries g7 g9 ((stOut g6.towers g6.tries g7 g9).2.1 + 1)).2)) (fun _ q => q) ?_
            refine s_pure r372 (fun _ q => q) ?_
            refine s_pure (.bool ((haOut g6.towers g6.tries g7 g9 ((stOut g6.towers g6.tries g7 g9).2.1 + 1)).2)) (fun _ q => q) ?_
            refine s_nil ?_
            refine p_seqN ?_
            refine v_seq ?_
            refine v_ops ?_
            refine s_pure (.bool ((haOut g6.towers g6.tries g7 g9 ((stOut g6.towers g6.tries g7 g9).2.1)).2)) (fun _ q => q) ?_
            refine s_pure (.bool (!(haOut g6.towers g6.tries g7 g9 ((stOut g6.towers g6.tries g7 g9).2.1)).2)) (fun _ q => q) ?_
            refine s_pure (.bool (!(haOut g6.towers g6.tries g7 g9 ((stOut g6.towers g6.tries g7 g9).2.1)).2)) (fun _ q => q) ?_
            refine s_splitT rfl (fun c376 => ?_) (fun c376 => ?_)
            ·
              refine s_pass rfl ?_
              refine s_pass rfl ?_
              refine s_pure (.bool true) (fun _ q => q) ?_
              refine s_pure (.bool true) (fun _ q => q) ?_
              refine s_splitY rfl rfl ?_
              refine s_pass rfl ?_
              refine s_pass rfl ?_
              refine s_pure (.bool true) (fun _ q => q) ?_
              refine s_pure (.bool true) (fun _ q => q) ?_
              refine s_splitY rfl rfl ?_
              refine s_pass rfl ?_
              refine s_pass rfl ?_
              refine s_pure (.bool true) (fun _ q => q) ?_
              refine s_pure (.bool true) (fun _ q => q) ?_
              refine s_splitY rfl rfl ?_
              refine s_pass rfl ?_
              refine s_pass rfl ?_
              refine s_pass rfl ?_
              refine s_pass rfl ?_
              refine s_pure (.bool true) (fun _ q => q) ?_
              refine s_pure (.bool true) (fun _ q => q) ?_
              refine s_splitY rfl rfl ?_
              refine s_pass rfl ?_
              refine s_pass rfl ?_
              refine s_pass rfl ?_
              refine s_pass rfl ?_
              refine s_pure (.bool true) (fun _ q => q) ?_
              refine s_pure (.bool true) (fun _ q => q) ?_
              refine s_splitY rfl rfl ?_
              refine s_pass rfl ?_
              refine s_pass rfl ?_
              refine s_pass rfl ?_
              refine s_pass rfl ?_
              refine s_pass rfl ?_
              refine s_pure (.bool true) (fun _ q => q) ?_
              refine s_pure (.bool true) (fun _ q => q) ?_
              refine s_splitY rfl rfl ?_
              refine s_pass rfl ?_
              refine s_pass rfl ?_
              refine s_pass rfl ?_
              refine s_pass rfl ?_
              refine s_pure (.bool true) (fun _ q => q) ?_
              refine s_nil ?_
              refine p_seqN ?_
              refine v_condY rfl rfl ?_
              refine v_seq ?_
              refine v_ops ?_
              refine s_pure (.bool false) (fun _ q => q) ?_
              refine s_nil ?_
              refine p_seqN ?_
              refine v_ret ?_
              refine p_seqR ?_
              refine p_ret [.bool false] (.bool false) (fun _ q => q) rfl ?_
              have ho : true = false := by first | rfl | (exfalso; first | omega | (simp_all; done))
              exact ⟨by first | (rw [ho]; done) | rfl, E374⟩
            ·
              have c376 := Classical.not_not.1 c376
              refine s_run rfl ?_
              refine s_pure (.bool ((haOut g6.towers g6.tries g7 g9 ((stOut g6.towers g6.tries g7 g9).2.1 + 1)).2)) (fun _ q => q) ?_
              refine s_run rfl ?_
              refine s_pure (.bool (!(haOut g6.towers g6.tries g7 g9 ((stOut g6.towers g6.tries g7 g9).2.1 + 1)).2)) (fun _ q => q) ?_
              refine s_pure (.bool (!(haOut g6.towers g6.tries g7 g9 ((stOut g6.towers g6.tries g7 g9).2.1 + 1)).2)) (fun _ q => q) ?_
              refine s_pure (.bool (!(haOut g6.towers g6.tries g7 g9 ((stOut g6.towers g6.tries g7 g9).2.1 + 1)).2)) (fun _ q => q) ?_
              refine s_splitN rfl (by first | assumption | omega | (simp [ho1]; done) | (simp [ho2]; done) | (simp [hl1]; done) | (simp [hl2]; done) | (simp; done) | (simp; omega) | simp_all) ?_
              refine s_run rfl ?_
              refine s_pure (.bool ((haOut g6.towers g6.tries g7 g9 ((stOut g6.towers g6.tries g7 g9).2.1)).2)) (fun _ q => q) ?_
              refine s_run rfl ?_
              refine s_pure (.bool (!(haOut g6.towers g6.tries g7 g9 ((stOut g6.towers g6.tries g7 g9).2.1)).2)) (fun _ q => q) ?_
              refine s_pure (.bool (!(haOut g6.towers g6.tries g7 g9 ((stOut g6.towers g6.tries g7 g9).2.1)).2)) (fun _ q => q) ?_
              refine s_pure (.bool (!(haOut g6.towers g6.tries g7 g9 ((stOut g6.towers g6.tries g7 g9).2.1)).2)) (fun _ q => q) ?_
              refine s_splitN rfl (by first | assumption | omega | (simp [ho1]; done) | (simp [ho2]; done) | (simp [hl1]; done) | (simp [hl2]; done) | (simp; done) | (simp; omega) | simp_all) ?_
              refine s_run rfl ?_
              refine s_pure (.bool ((haOut g6.towers g6.tries g7 g9 ((stOut g6.towers g6.tries g7 g9).2.1 + 1)).2)) (fun _ q => q) ?_
              refine s_run rfl ?_
              refine s_pure (.bool (!(haOut g6.towers g6.tries g7 g9 ((stOut g6.towers g6.tries g7 g9).2.1 + 1)).2)) (fun _ q => q) ?_
              refine s_pure (.bool (!(haOut g6.towers g6.tries g7 g9 ((stOut g6.towers g6.tries g7 g9).2.1 + 1)).2)) (fun _ q => q) ?_
              refine s_pure (.bool (!(haOut g6.towers g6.tries g7 g9 ((stOut g6.towers g6.tries g7 g9).2.1 + 1)).2)) (fun _ q => q) ?_
              refine s_splitN rfl (by first | assumption | omega | (simp [ho1]; done) | (simp [ho2]; done) | (simp [hl1]; done) | (simp [hl2]; done) | (simp; done) | (simp; omega) | simp_all) ?_
              refine s_run rfl ?_
              refine s_pure r351 (fun _ q => q) ?_
              refine s_run rfl ?_
              refine s_pure r365 (fun _ q => q) ?_
              refine s_run rfl ?_
              have f378 := (((s_r351.ext eh359).ext eh366).ext eh373)
              have f379 := (s_r365.ext eh373)
              refine s_call [r351, r365] rfl (laws_sameInts_ok r351 ((haOut g6.towers g6.tries g7 g9 ((stOut g6.towers g6.tries g7 g9).2.1)).1) r365 ((haOut g6.towers g6.tries g7 g9 ((stOut g6.towers g6.tries g7 g9).2.1)).1) _ f378.toSl f379.toSl) ?_
              rintro vh377 h377 ⟨hvh377, eh377⟩
              obtain rfl : vh377 = .bool true := hvh377.trans (by rw [decide_eq_true rfl])
              have E380 := E374.trans eh377
              have z381 := eh377.size
              refine s_run rfl ?_
              refine s_pure (.bool false) (fun _ q => q) ?_
              refine s_pure (.bool false) (fun _ q => q) ?_
              refine s_pure (.bool false) (fun _ q => q) ?_
              refine s_splitN rfl (by simp) ?_
              refine s_run rfl ?_
              refine s_pure r358 (fun _ q => q) ?_
              refine s_run rfl ?_
              refine s_pure r372 (fun _ q => q) ?_
              refine s_run rfl ?_
              have f383 := (((s_r358.ext eh366).ext eh373).ext eh377)
              have f384 := (s_r372.ext eh377)
              refine s_call [r358, r372] rfl (laws_sameInts_ok r358 ((haOut g6.towers g6.tries g7 g9 ((stOut g6.towers g6.tries g7 g9).2.1 + 1)).1) r372 ((haOut g6.towers g6.tries g7 g9 ((stOut g6.towers g6.tries g7 g9).2.1 + 1)).1) _ f383.toSl f384.toSl) ?_
              rintro vh382 h382 ⟨hvh382, eh382⟩
              obtain rfl : vh382 = .bool true := hvh382.trans (by rw [decide_eq_true rfl])
              have E385 := E380.trans eh382
              have z386 := eh382.size
              refine s_run rfl ?_
              refine s_pure (.bool false) (fun _ q => q) ?_
              refine s_pure (.bool false) (fun _ q => q) ?_
              refine s_pure (.bool false) (fun _ q => q) ?_
              refine s_splitN rfl (by simp) ?_
              refine s_run rfl ?_
              refine s_pure r365 (fun _ q => q) ?_
              refine s_run rfl ?_
              refine s_pure (.int .i64 (((haOut g6.towers g6.tries g7 g9 ((stOut g6.towers g6.tries g7 g9).2.1)).1).length : Int)) (fun _ q => f379.lenVC q) ?_
              refine s_run rfl ?_
              refine s_pure (.int .i64 ((stOut g6.towers g6.tries g7 g9).1)) (fun _ q => q) ?_
              refine s_run rfl ?_
              refine s_pure (.int .i64 ((stOut g6.towers g6.tries g7 g9).1 + 1)) (fun _ q => ArithVC.mk (by omega) q) ?_
              refine s_run rfl ?_
              refine s_pure (.bool ((((haOut g6.towers g6.tries g7 g9 ((stOut g6.towers g6.tries g7 g9).2.1)).1).length : Int) != ((stOut g6.towers g6.tries g7 g9).1 + 1))) (fun _ q => q) ?_
              refine s_pure (.bool ((((haOut g6.towers g6.tries g7 g9 ((stOut g6.towers g6.tries g7 g9).2.1)).1).length : Int) != ((stOut g6.towers g6.tries g7 g9).1 + 1))) (fun _ q => q) ?_
              refine s_pure (.bool ((((haOut g6.towers g6.tries g7 g9 ((stOut g6.towers g6.tries g7 g9).2.1)).1).length : Int) != ((stOut g6.towers g6.tries g7 g9).1 + 1))) (fun _ q => q) ?_
              refine s_splitT rfl (fun c387 => ?_) (fun c387 => ?_)
              ·
                refine s_pass rfl ?_
                refine s_pass rfl ?_
                refine s_pass rfl ?_
                refine s_pass rfl ?_
                refine s_pure (.bool true) (fun _ q => q) ?_
                refine s_nil ?_
                refine p_seqN ?_
                refine v_condY rfl rfl ?_
                refine v_seq ?_
                refine v_ops ?_
                refine s_pure (.bool false) (fun _ q => q) ?_
                refine s_nil ?_
                refine p_seqN ?_
                refine v_ret ?_
                refine p_seqR ?_
                refine p_ret [.bool false] (.bool false) (fun _ q => q) rfl ?_
                have ho : true = false := by first | rfl | (exfalso; first | omega | (simp_all; done))
                exact ⟨by first | (rw [ho]; done) | rfl, E385⟩
              ·
                have c387 := Classical.not_not.1 c387
                refine s_run rfl ?_
                refine s_pure r372 (fun _ q => q) ?_
                refine s_run rfl ?_
                refine s_pure (.int .i64 (((haOut g6.towers g6.tries g7 g9 ((stOut g6.towers g6.tries g7 g9).2.1 + 1)).1).length : Int)) (fun _ q => f384.lenVC q) ?_
                refine s_run rfl ?_
                refine s_pure (.int .i64 ((stOut g6.towers g6.tries g7 g9).1)) (fun _ q => q) ?_
                refine s_run rfl ?_
                refine s_pure (.bool ((((haOut g6.towers g6.tries g7 g9 ((stOut g6.towers g6.tries g7 g9).2.1 + 1)).1).length : Int) != (stOut g6.towers g6.tries g7 g9).1)) (fun _ q => q) ?_
                refine s_pure (.bool ((((haOut g6.towers g6.tries g7 g9 ((stOut g6.towers g6.tries g7 g9).2.1 + 1)).1).length : Int) != (stOut g6.towers g6.tries g7 g9).1)) (fun _ q => q) ?_
                refine s_nil ?_
                refine p_seqN ?_
                refine v_cond rfl (fun c388 => ?_) (fun c388 => ?_)
                ·
                  refine v_seq ?_
                  refine v_ops ?_
                  refine s_pure (.bool false) (fun _ q => q) ?_
                  refine s_nil ?_
                  refine p_seqN ?_
                  refine v_ret ?_
                  refine p_seqR ?_
                  refine p_ret [.bool false] (.bool false) (fun _ q => q) rfl ?_
                  have ho : true = false := by first | rfl | (exfalso; first | omega | (simp_all; done))
                  exact ⟨by first | (rw [ho]; done) | rfl, E385⟩
                ·
                  have c388 := Classical.not_not.1 c388
                  refine v_skip ?_
                  refine p_seqN ?_
                  exact M56 _ _ rfl (((((((Ext.refl _).trans eh352).trans eh359).trans eh366).trans eh373).trans eh377).trans eh382)
          ·
            refine v_skip ?_
            refine p_seqN ?_
            exact M56 _ _ rfl (Ext.refl _)
      ·
        refine v_seq ?_
        refine v_seq ?_
        refine v_ops ?_
        refine s_pure (.bool ((plOut g6.towers g6.tries g7 g9).2.2)) (fun _ q => q) ?_
        refine s_pure (.bool ((plOut g6.towers g6.tries g7 g9).2.2)) (fun _ q => q) ?_
        refine s_pure (.bool ((plOut g6.towers g6.tries g7 g9).2.2 != (plOut g6.towers g6.tries g7 g9).2.2)) (fun _ q => q) ?_
        refine s_pure (.bool ((plOut g6.towers g6.tries g7 g9).2.2 != (plOut g6.towers g6.tries g7 g9).2.2)) (fun _ q => q) ?_
        refine s_splitN rfl (by first | assumption | omega | (simp; done) | (simp; omega) | simp_all) ?_
        refine s_run rfl ?_
        refine s_pure (.bool ((plOut g6.towers g6.tries g7 g9).2.1)) (fun _ q => q) ?_
        refine s_run rfl ?_
        refine s_pure (.bool ((plOut g6.towers g6.tries g7 g9).2.1)) (fun _ q => q) ?_
        refine s_run rfl ?_
        refine s_pure (.bool ((plOut g6.towers g6.tries g7 g9).2.1 != (plOut g6.towers g6.tries g7 g9).2.1)) (fun _ q => q) ?_
        refine s_pure (.bool ((plOut g6.towers g6.tries g7 g9).2.1 != (plOut g6.towers g6.tries g7 g9).2.1)) (fun _ q => q) ?_
        refine s_pure (.bool ((plOut g6.towers g6.tries g7 g9).2.1 != (plOut g6.towers g6.tries g7 g9).2.1)) (fun _ q => q) ?_
        refine s_splitN rfl (by first | assumption | omega | (simp; done) | (simp; omega) | simp_all) ?_
        refine s_run rfl ?_
        refine s_pure (.bool ((plOut g6.towers g6.tries g7 g9).2.2)) (fun _ q => q) ?_
        refine s_run rfl ?_
        refine s_pure (.bool ((plOut g6.towers g6.tries g7 g9).2.2)) (fun _ q => q) ?_
        refine s_splitT rfl (fun c389 => ?_) (fun c389 => ?_)
        ·
          have hS := st_pl c389
          refine s_run rfl ?_
          refine s_pure (.bool ((plOut g6.towers g6.tries g7 g9).2.1)) (fun _ q => q) ?_
          refine s_run rfl ?_
          refine s_pure (.bool ((stOut g6.towers g6.tries g7 g9).2.2)) (fun _ q => q) ?_
          refine s_run rfl ?_
          refine s_pure (.bool ((plOut g6.towers g6.tries g7 g9).2.1 == (stOut g6.towers g6.tries g7 g9).2.2)) (fun _ q => q) ?_
          refine s_run rfl ?_
          refine s_pure (.bool ((plOut g6.towers g6.tries g7 g9).2.1 == (stOut g6.towers g6.tries g7 g9).2.2)) (fun _ q => q) ?_
          refine s_pure (.bool ((plOut g6.towers g6.tries g7 g9).2.1 == (stOut g6.towers g6.tries g7 g9).2.2)) (fun _ q => q) ?_
          refine s_nil ?_
          refine p_seqN ?_
          refine v_condN rfl (by first | assumption | omega | (simp [hS]; done) | (simp; done) | (simp; omega) | simp_all) ?_
          refine v_skip ?_
          refine p_seqN ?_
          exact M51 _ _ ⟨rfl, rfl, rfl, rfl, rfl, rfl, rfl⟩ (Ext.refl _)
        ·
          refine s_pass rfl ?_
          refine s_pass rfl ?_
          refine s_pass rfl ?_
          refine s_run rfl ?_
          refine s_pure (.bool false) (fun _ q => q) ?_
          refine s_pure (.bool false) (fun _ q => q) ?_
          refine s_nil ?_
          refine p_seqN ?_
          refine v_condN rfl (by simp) ?_
          refine v_skip ?_
          refine p_seqN ?_
          exact M51 _ _ ⟨rfl, rfl, rfl, rfl, rfl, rfl, rfl⟩ (Ext.refl _)
    ·
      refine v_seq ?_
      refine v_seq ?_
      refine v_ops ?_
      refine s_pure (.bool ((stOut g6.towers g6.tries g7 g9).2.2)) (fun _ q => q) ?_
      refine s_pure (.bool ((stOut g6.towers g6.tries g7 g9).2.2)) (fun _ q => q) ?_
      refine s_pure (.bool ((stOut g6.towers g6.tries g7 g9).2.2 != (stOut g6.towers g6.tries g7 g9).2.2)) (fun _ q => q) ?_
      refine s_pure (.bool ((stOut g6.towers g6.tries g7 g9).2.2 != (stOut g6.towers g6.tries g7 g9).2.2)) (fun _ q => q) ?_
      refine s_splitN rfl (by first | assumption | omega | (simp; done) | (simp; omega) | simp_all) ?_
      refine s_run rfl ?_
      refine s_pure (.int .i64 ((stOut g6.towers g6.tries g7 g9).1)) (fun _ q => q) ?_
      refine s_run rfl ?_
      refine s_pure (.int .i64 ((stOut g6.towers g6.tries g7 g9).1)) (fun _ q => q) ?_
      refine s_run rfl ?_
      refine s_pure (.bool ((stOut g6.towers g6.tries g7 g9).1 != (stOut g6.towers g6.tries g7 g9).1)) (fun _ q => q) ?_
      refine s_pure (.bool ((stOut g6.towers g6.tries g7 g9).1 != (stOut g6.towers g6.tries g7 g9).1)) (fun _ q => q) ?_
      refine s_pure (.bool ((stOut g6.towers g6.tries g7 g9).1 != (stOut g6.towers g6.tries g7 g9).1)) (fun _ q => q) ?_
      refine s_splitN rfl (by first | assumption | omega | (simp; done) | (simp; omega) | simp_all) ?_
      refine s_run rfl ?_
      refine s_pure (.int .i64 ((stOut g6.towers g6.tries g7 g9).2.1)) (fun _ q => q) ?_
      refine s_run rfl ?_
      refine s_pure (.int .i64 ((stOut g6.towers g6.tries g7 g9).2.1)) (fun _ q => q) ?_
      refine s_run rfl ?_
      refine s_pure (.bool ((stOut g6.towers g6.tries g7 g9).2.1 != (stOut g6.towers g6.tries g7 g9).2.1)) (fun _ q => q) ?_
      refine s_pure (.bool ((stOut g6.towers g6.tries g7 g9).2.1 != (stOut g6.towers g6.tries g7 g9).2.1)) (fun _ q => q) ?_
      refine s_nil ?_
      refine p_seqN ?_
      refine v_condN rfl (by first | assumption | omega | (simp; done) | (simp; omega) | simp_all) ?_
      refine v_skip ?_
      refine p_seqN ?_
      exact M32 _ _ ⟨rfl, rfl, rfl, rfl, rfl, rfl, rfl⟩ (Ext.refl _)

theorem law_ok (h : Heap) (v0 : Value) (x0 : List By) (s0 : Sl h v0 x0) (w0 : ∀ y ∈ x0, (0 ≤ y.n ∧ y.n ≤ 255)) (v1 : Value) (x1 : List By) (s1 : Sl h v1 x1) (w1 : ∀ y ∈ x1, (0 ≤ y.n ∧ y.n ≤ 255)) : Cn f_laws_FnMisreadings [v0, v1] h fun v h' => v = .bool true ∧ Ext h h' := laws_FnMisreadings_ok v0 x0 v1 x1 h s0 s1 w0 w1
end Go.Proofs.Ytckkablifoblbaa.finFnMisreadings
