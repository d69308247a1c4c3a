/- The law FnMisreadGlances: its text returns true. Condition: none. Printed by a program. -/
import Derived.Test.YtpbjcaadnbeplaaRq2
namespace Go.Proofs.Ytpbjcaadnbeplaa.finFnMisreadGlances
open Go.Vc
set_option linter.all false
set_option maxRecDepth 100000
set_option maxHeartbeats 4000000
set_option maxRecDepth 10000 in
set_option maxHeartbeats 4000000 in
theorem laws_FnMisreadGlances_ok (v_code : Value) (code : List By) (v_more : Value) (more : List By) (h : Heap) (s_code : Sl h v_code code) (s_more : Sl h v_more more) (hb0 : ∀ y ∈ code, 0 ≤ y.n ∧ y.n ≤ 255) (hb1 : ∀ y ∈ more, 0 ≤ y.n ∧ y.n ≤ 255) (hl0 : code.length ≤ 140737488351232) (hl1 : more.length ≤ 140737488351232) : Cn f_laws_FnMisreadGlances [v_code, v_more] h fun v h' => v = .bool true ∧ Ext h h' := by
  have lt_code := s_code.lt
  have l63_code := s_code.len63
  have lt_more := s_more.lt
  have l63_more := s_more.len63
  refine calls_of r_laws_FnMisreadGlances ?_
  refine v_seq ?_
  refine v_ops ?_
  refine s_pure (.bool false) (fun _ q => q) ?_
  refine s_nil ?_
  refine p_seqN ?_
  refine v_seq ?_
  refine v_seq ?_
  refine v_ops ?_
  refine s_pure v_code (fun _ q => q) ?_
  refine s_pure (.int .i64 (code.length : Int)) (fun _ q => s_code.lenVC q) ?_
  refine s_pure v_more (fun _ q => q) ?_
  refine s_pure (.int .i64 (more.length : Int)) (fun _ q => s_more.lenVC q) ?_
  refine s_pure (.int .i64 ((code.length : Int) + (more.length : Int))) (fun _ q => ArithVC.mk (by omega) q) ?_
  refine s_pure (.bool (decide (((code.length : Int) + (more.length : Int)) > 1048576))) (fun _ q => q) ?_
  refine s_nil ?_
  refine p_seqN ?_
  refine v_cond rfl (fun c1 => ?_) (fun c1 => ?_)
  ·
    refine v_seq ?_
    refine v_ops ?_
    refine s_pure (.bool true) (fun _ q => q) ?_
    refine s_nil ?_
    refine p_seqN ?_
    refine v_ret ?_
    refine p_seqR ?_
    refine p_ret [.bool true] (.bool true) (fun _ q => q) rfl ?_
    have ho : true = true := by first | rfl | (exfalso; first | omega | exact (by assumption : _ ≠ _) (oks _).1 | exact (by assumption : _ ≠ _) (oks _).2.1 | exact (by assumption : _ ≠ _) (oks _).2.2 | (have q_ := hw5 _ (by assumption); simp_all; done) | exact absurd hE1 (by assumption) | exact absurd hE2 (by assumption) | exact (by assumption : _ ≠ _) hE3 | exact absurd hE4 (by assumption) | exact (by assumption : _ ≠ _) hE5 | exact (by assumption : ¬ _ = _) (wm_el (hw5 _ (by assumption)).1 (by assumption)).2 | exact (by assumption : ¬ _ = _) (wm_el (hw5 _ (by assumption)).1 (by assumption)).1 | (rw [hE1] at *; simp_all; done) | (rw [hE4] at *; simp_all; done) | exact (by assumption : ¬ (_ ∈ _)) (by rw [hu2]; exact shown_useful (by rw [← hu3]; assumption) hla (by assumption)) | (simp_all; done))
    exact ⟨by first | (rw [ho]; done) | rfl, (Ext.refl h)⟩
  ·
    have hbig : code.length ≤ 1048576 ∧ more.length ≤ 1048576 := by omega
    refine v_skip ?_
    refine p_seqN ?_
    refine v_seq ?_
    refine v_ops ?_
    refine s_pure v_code (fun _ q => q) ?_
    refine s_call [v_code] rfl (spec_DrawUsefulGlances_ok v_code code _ s_code (by first | omega | assumption | (simp; done) | (simp; omega)) (by first | omega | assumption | (simp; done) | (simp; omega))) ?_
    rintro r3 h4 ⟨g2, _, rfl, s_r3, fr_r3, qh4, eh4⟩
    have E5 := (Ext.refl h).trans eh4
    have z6 := eh4.size
    have lt_r3 := s_r3.lt
    refine s_pure r3 (fun _ q => q) ?_
    refine s_nil ?_
    refine p_seqN ?_
    refine v_seq ?_
    refine v_ops ?_
    refine s_pure r3 (fun _ q => q) ?_
    refine s_call [r3] rfl (impl_UsefulGlances_ok r3 g2 _ s_r3.toSl) ?_
    rintro _ h8 ⟨r7, rfl, s_r7, fr_r7, eh8⟩
    have E9 := E5.trans eh8
    have z10 := eh8.size
    have lt_r7 := s_r7.lt
    refine s_pure (.tuple #[r7, .bool ((ugOut g2).2)]) (fun _ q => q) ?_
    refine s_pure r7 (fun _ q => q) ?_
    refine s_pure (.bool ((ugOut g2).2)) (fun _ q => q) ?_
    refine s_pure r7 (fun _ q => q) ?_
    refine s_pure (.bool ((ugOut g2).2)) (fun _ q => q) ?_
    refine s_nil ?_
    refine p_seqN ?_
    refine v_seq ?_
    refine v_ops ?_
    refine s_pure r3 (fun _ q => q) ?_
    have f11 := (s_r3.ext eh8)
    refine s_call [r3] rfl (spec_UsefulGlances_ok r3 g2 _ f11.toSl) ?_
    rintro _ h13 ⟨r12, rfl, s_r12, fr_r12, eh13⟩
    have E14 := E9.trans eh13
    have z15 := eh13.size
    have lt_r12 := s_r12.lt
    refine s_pure (.tuple #[r12, .bool ((ugOut g2).2)]) (fun _ q => q) ?_
    refine s_pure r12 (fun _ q => q) ?_
    refine s_pure (.bool ((ugOut g2).2)) (fun _ q => q) ?_
    refine s_pure r12 (fun _ q => q) ?_
    refine s_pure (.bool ((ugOut g2).2)) (fun _ q => q) ?_
    refine s_nil ?_
    refine p_seqN ?_
    refine v_seq ?_
    refine v_ops ?_
    refine s_pure r3 (fun _ q => q) ?_
    have f16 := (f11.ext eh13)
    refine s_call [r3] rfl (impl_PassedBy_ok r3 g2 _ f16.toSl) ?_
    rintro _ h18 ⟨r17, rfl, s_r17, fr_r17, eh18⟩
    have E19 := E14.trans eh18
    have z20 := eh18.size
    have lt_r17 := s_r17.lt
    refine s_pure (.tuple #[r17, .int .i64 ((pbOut g2).2.1), .bool ((pbOut g2).2.2)]) (fun _ q => q) ?_
    refine s_pure r17 (fun _ q => q) ?_
    refine s_pure (.int .i64 ((pbOut g2).2.1)) (fun _ q => q) ?_
    refine s_pure (.bool ((pbOut g2).2.2)) (fun _ q => q) ?_
    refine s_pure r17 (fun _ q => q) ?_
    refine s_pure (.int .i64 ((pbOut g2).2.1)) (fun _ q => q) ?_
    refine s_pure (.bool ((pbOut g2).2.2)) (fun _ q => q) ?_
    refine s_nil ?_
    refine p_seqN ?_
    refine v_seq ?_
    refine v_ops ?_
    refine s_pure r3 (fun _ q => q) ?_
    have f21 := (f16.ext eh18)
    refine s_call [r3] rfl (spec_PassedBy_ok r3 g2 _ f21.toSl) ?_
    rintro _ h23 ⟨r22, rfl, s_r22, fr_r22, eh23⟩
    have E24 := E19.trans eh23
    have z25 := eh23.size
    have lt_r22 := s_r22.lt
    refine s_pure (.tuple #[r22, .int .i64 ((pbOut g2).2.1), .bool ((pbOut g2).2.2)]) (fun _ q => q) ?_
    refine s_pure r22 (fun _ q => q) ?_
    refine s_pure (.int .i64 ((pbOut g2).2.1)) (fun _ q => q) ?_
    refine s_pure (.bool ((pbOut g2).2.2)) (fun _ q => q) ?_
    refine s_pure r22 (fun _ q => q) ?_
    refine s_pure (.int .i64 ((pbOut g2).2.1)) (fun _ q => q) ?_
    refine s_pure (.bool ((pbOut g2).2.2)) (fun _ q => q) ?_
    refine s_nil ?_
    refine p_seqN ?_
    refine v_seq ?_
    refine v_ops ?_
    refine s_pure r3 (fun _ q => q) ?_
    have f26 := (f21.ext eh23)
    refine s_call [r3] rfl (impl_ShownAfter_ok r3 g2 _ f26.toSl) ?_
    rintro _ h28 ⟨r27, rfl, s_r27, fr_r27, eh28⟩
    have E29 := E24.trans eh28
    have z30 := eh28.size
    have lt_r27 := s_r27.lt
    refine s_pure (.tuple #[r27, .bool ((saOut g2).2)]) (fun _ q => q) ?_
    refine s_pure r27 (fun _ q => q) ?_
    refine s_pure (.bool ((saOut g2).2)) (fun _ q => q) ?_
    refine s_pure r27 (fun _ q => q) ?_
    refine s_pure (.bool ((saOut g2).2)) (fun _ q => q) ?_
    refine s_nil ?_
    refine p_seqN ?_
    refine v_seq ?_
    refine v_ops ?_
    refine s_pure r3 (fun _ q => q) ?_
    have f31 := (f26.ext eh28)
    refine s_call [r3] rfl (spec_ShownAfter_ok r3 g2 _ f31.toSl) ?_
    rintro _ h33 ⟨r32, rfl, s_r32, fr_r32, eh33⟩
    have E34 := E29.trans eh33
    have z35 := eh33.size
    have lt_r32 := s_r32.lt
    refine s_pure (.tuple #[r32, .bool ((saOut g2).2)]) (fun _ q => q) ?_
    refine s_pure r32 (fun _ q => q) ?_
    refine s_pure (.bool ((saOut g2).2)) (fun _ q => q) ?_
    refine s_pure r32 (fun _ q => q) ?_
    refine s_pure (.bool ((saOut g2).2)) (fun _ q => q) ?_
    refine s_nil ?_
    refine p_seqN ?_
    refine v_seq ?_
    refine v_ops ?_
    refine s_pure r3 (fun _ q => q) ?_
    have f36 := (f31.ext eh33)
    refine s_call [r3] rfl (impl_WrongShows_ok r3 g2 _ f36.toSl) ?_
    rintro _ h37 ⟨rfl, eh37⟩
    have E38 := E34.trans eh37
    have z39 := eh37.size
    refine s_pure (.tuple #[.int .i64 ((wsOut g2).1), .bool ((wsOut g2).2)]) (fun _ q => q) ?_
    refine s_pure (.int .i64 ((wsOut g2).1)) (fun _ q => q) ?_
    refine s_pure (.bool ((wsOut g2).2)) (fun _ q => q) ?_
    refine s_pure (.int .i64 ((wsOut g2).1)) (fun _ q => q) ?_
    refine s_pure (.bool ((wsOut g2).2)) (fun _ q => q) ?_
    refine s_nil ?_
    refine p_seqN ?_
    refine v_seq ?_
    refine v_ops ?_
    refine s_pure r3 (fun _ q => q) ?_
    have f40 := (f36.ext eh37)
    refine s_call [r3] rfl (spec_WrongShows_ok r3 g2 _ f40.toSl) ?_
    rintro _ h41 ⟨rfl, eh41⟩
    have E42 := E38.trans eh41
    have z43 := eh41.size
    refine s_pure (.tuple #[.int .i64 ((wsOut g2).1), .bool ((wsOut g2).2)]) (fun _ q => q) ?_
    refine s_pure (.int .i64 ((wsOut g2).1)) (fun _ q => q) ?_
    refine s_pure (.bool ((wsOut g2).2)) (fun _ q => q) ?_
    refine s_pure (.int .i64 ((wsOut g2).1)) (fun _ q => q) ?_
    refine s_pure (.bool ((wsOut g2).2)) (fun _ q => q) ?_
    refine s_nil ?_
    refine p_seqN ?_
    refine v_seq ?_
    refine v_ops ?_
    refine s_pure v_more (fun _ q => q) ?_
    have f44 := (((((((((s_more.ext eh4).ext eh8).ext eh13).ext eh18).ext eh23).ext eh28).ext eh33).ext eh37).ext eh41)
    refine s_call [v_more] rfl (spec_DrawWithMisreading_ok v_more more _ f44 (by first | omega | assumption | (simp; done) | (simp; omega)) (by first | omega | assumption | (simp; done) | (simp; omega))) ?_
    rintro _ h49 ⟨g45, g47, g48, r46, rfl, s_r46, fr_r46, qh49, eh49⟩
    have E50 := E42.trans eh49
    have z51 := eh49.size
    have lt_r46 := s_r46.lt
    refine s_pure (.tuple #[r46, .int .i64 g47, .int .i64 g48]) (fun _ q => q) ?_
    refine s_pure r46 (fun _ q => q) ?_
    refine s_pure (.int .i64 g47) (fun _ q => q) ?_
    refine s_pure (.int .i64 g48) (fun _ q => q) ?_
    refine s_pure r46 (fun _ q => q) ?_
    refine s_pure (.int .i64 g47) (fun _ q => q) ?_
    refine s_pure (.int .i64 g48) (fun _ q => q) ?_
    refine s_nil ?_
    refine p_seqN ?_
    refine v_seq ?_
    refine v_ops ?_
    refine s_pure r46 (fun _ q => q) ?_
    refine s_pure (.int .i64 g47) (fun _ q => q) ?_
    refine s_pure (.int .i64 g48) (fun _ q => q) ?_
    refine s_call [r46, .int .i64 g47, .int .i64 g48] rfl (w_implWithMisreading r46 g45 g47 g48 _ s_r46.toSl) ?_
    rintro _ h53 ⟨r52, rfl, s_r52, fr_r52, eh53⟩
    have E54 := E50.trans eh53
    have z55 := eh53.size
    have lt_r52 := s_r52.lt
    refine s_pure (.tuple #[r52, .bool ((wmOut g45 g47 g48).2)]) (fun _ q => q) ?_
    refine s_pure r52 (fun _ q => q) ?_
    refine s_pure (.bool ((wmOut g45 g47 g48).2)) (fun _ q => q) ?_
    refine s_pure r52 (fun _ q => q) ?_
    refine s_pure (.bool ((wmOut g45 g47 g48).2)) (fun _ q => q) ?_
    refine s_nil ?_
    refine p_seqN ?_
    refine v_seq ?_
    refine v_ops ?_
    refine s_pure r46 (fun _ q => q) ?_
    refine s_pure (.int .i64 g47) (fun _ q => q) ?_
    refine s_pure (.int .i64 g48) (fun _ q => q) ?_
    have f56 := (s_r46.ext eh53)
    refine s_call [r46, .int .i64 g47, .int .i64 g48] rfl (w_specWithMisreading r46 g45 g47 g48 _ f56.toSl) ?_
    rintro _ h58 ⟨r57, rfl, s_r57, fr_r57, eh58⟩
    have E59 := E54.trans eh58
    have z60 := eh58.size
    have lt_r57 := s_r57.lt
    refine s_pure (.tuple #[r57, .bool ((wmOut g45 g47 g48).2)]) (fun _ q => q) ?_
    refine s_pure r57 (fun _ q => q) ?_
    refine s_pure (.bool ((wmOut g45 g47 g48).2)) (fun _ q => q) ?_
    refine s_pure r57 (fun _ q => q) ?_
    refine s_pure (.bool ((wmOut g45 g47 g48).2)) (fun _ q => q) ?_
    refine s_nil ?_
    refine p_seqN ?_
    refine v_seqM1 [(5, r3), (7, .bool ((ugOut g2).2)), (8, r12), (13, r22), (14, .int .i64 ((pbOut g2).2.1)), (18, r32), (22, .int .i64 ((wsOut g2).1)), (24, r46), (25, .int .i64 g47), (26, .int .i64 g48), (27, r52), (28, .bool ((wmOut g45 g47 g48).2)), (29, r57)] (fun R62 h63 eh63 => ?_) (fun M61 => ?_)
    ·
      have E64 := E59.trans eh63
      have z65 := eh63.size
      refine v_seqM1 [(5, r3), (7, .bool ((ugOut g2).2)), (8, r12), (13, r22), (14, .int .i64 ((pbOut g2).2.1)), (18, r32), (22, .int .i64 ((wsOut g2).1))] (fun R67 h68 eh68 => ?_) (fun M66 => ?_)
      ·
        have E69 := E64.trans eh68
        have z70 := eh68.size
        refine v_seq ?_
        refine v_seq ?_
        refine v_ops ?_
        refine s_pure (.bool ((ugOut g2).2)) (fun _ q => q) ?_
        refine s_pure (.bool (!(ugOut g2).2)) (fun _ q => q) ?_
        refine s_nil ?_
        refine p_seqN ?_
        refine v_cond rfl (fun c71 => ?_) (fun c71 => ?_)
        ·
          refine v_seq ?_
          refine v_ops ?_
          refine s_pure (.bool true) (fun _ q => q) ?_
          refine s_nil ?_
          refine p_seqN ?_
          refine v_ret ?_
          refine p_seqR ?_
          refine p_ret [.bool true] (.bool true) (fun _ q => q) rfl ?_
          have ho : true = true := by first | rfl | (exfalso; first | omega | exact (by assumption : _ ≠ _) (oks _).1 | exact (by assumption : _ ≠ _) (oks _).2.1 | exact (by assumption : _ ≠ _) (oks _).2.2 | (have q_ := hw5 _ (by assumption); simp_all; done) | exact absurd hE1 (by assumption) | exact absurd hE2 (by assumption) | exact (by assumption : _ ≠ _) hE3 | exact absurd hE4 (by assumption) | exact (by assumption : _ ≠ _) hE5 | exact (by assumption : ¬ _ = _) (wm_el (hw5 _ (by assumption)).1 (by assumption)).2 | exact (by assumption : ¬ _ = _) (wm_el (hw5 _ (by assumption)).1 (by assumption)).1 | (rw [hE1] at *; simp_all; done) | (rw [hE4] at *; simp_all; done) | exact (by assumption : ¬ (_ ∈ _)) (by rw [hu2]; exact shown_useful (by rw [← hu3]; assumption) hla (by assumption)) | (simp_all; done))
          exact ⟨by first | (rw [ho]; done) | rfl, E69⟩
        ·
          have c71 := Classical.not_not.1 c71
          obtain ⟨hu1, hu2, hu3, hu4, hu5, hu6, hu7, hu8, hu9⟩ := ug_facts c71
          refine v_skip ?_
          refine p_seqN ?_
          refine v_seq ?_
          refine v_ops ?_
          refine s_pure (.slice none 0 0) (fun _ q => q) ?_
          refine s_nil ?_
          refine p_seqN ?_
          refine v_seq ?_
          refine v_seq ?_
          refine v_ops ?_
          refine s_pure r12 (fun _ q => q) ?_
          refine s_pure (.int .i64 (((ugOut g2).1).length : Int)) (fun _ q => s_r12.lenVC q) ?_
          refine s_pure (.int .i64 0) (fun _ q => q) ?_
          refine s_nil ?_
          refine p_seqN ?_
          refine v_block ?_
          have f73 := ((((((f40.ext eh41).ext eh49).ext eh53).ext eh58).ext eh63).ext eh68)
          have f74 := (((((((((((s_r12.ext eh18).ext eh23).ext eh28).ext eh33).ext eh37).ext eh41).ext eh49).ext eh53).ext eh58).ext eh63).ext eh68)
          have f75 := (((((((((s_r22.ext eh28).ext eh33).ext eh37).ext eh41).ext eh49).ext eh53).ext eh58).ext eh63).ext eh68)
          have f76 := (((((((s_r32.ext eh37).ext eh41).ext eh49).ext eh53).ext eh58).ext eh63).ext eh68)
          refine v_loop3 (α := Nat) (β := List GlanceD) (γ := Value) (fun k ll o => [(5, r3), (8, r12), (13, r22), (14, .int .i64 ((pbOut g2).2.1)), (18, r32), (22, .int .i64 ((wsOut g2).1)), (33, o), (230, r12), (231, .int .i64 (((ugOut g2).1).length : Int)), (232, .int .i64 (k : Int))]) (fun k ll o hh => Ext h hh ∧ SlO hh r3 g2 ∧ SlO hh r12 ((ugOut g2).1) ∧ SlO hh r22 ((pbOut g2).1) ∧ SlO hh r32 ((saOut g2).1) ∧ SlO hh o ll ∧ Fr h.size o ∧ (∀ b ∈ blks r3, b ∉ blks o) ∧ (∀ b ∈ blks r12, b ∉ blks o) ∧ (∀ b ∈ blks r22, b ∉ blks o) ∧ (∀ b ∈ blks r32, b ∉ blks o) ∧ k ≤ (ugOut g2).1.length ∧ ll = ((ugOut g2).1.take k).map fun i => g2.getD i.toNat ⟨false, 0⟩) (fun k ll o => (ugOut g2).1.length - k) 0 [] (.slice none 0 0) ⟨rfl, rfl, rfl, rfl, rfl, rfl, rfl, rfl, rfl, rfl⟩ ⟨E69, f73, f74, f75, f76, (sl_eq (SlX.nil (α := GlanceD) true h68) (by simp)), (Fr.nil _), (fun b hb hc => by simp [blks, fpts] at hc), (fun b hb hc => by simp [blks, fpts] at hc), (fun b hb hc => by simp [blks, fpts] at hc), (fun b hb hc => by simp [blks, fpts] at hc), (by simp)⟩ ?_
          rintro k ll o R77 h72 ⟨Eh, s_r3, s_r12, s_r22, s_r32, s_o, fr_o, np_r3_o, np_r12_o, np_r22_o, np_r32_o, ⟨hk, hll⟩⟩
          have zEh := Eh.size
          have f79 := s_code.ext Eh
          have f80 := s_more.ext Eh
          have ltk_r3 := s_r3.lt
          have ltk_r12 := s_r12.lt
          have ltk_r22 := s_r22.lt
          have ltk_r32 := s_r32.lt
          have lt_o := s_o.lt
          have hlq := congrArg List.length hll
          simp only [List.length_map, List.length_take] at hlq
          refine v_seq ?_
          refine v_ops ?_
          refine s_pure (.bool (decide ((k : Int) < (((ugOut g2).1).length : Int)))) (fun _ q => q) ?_
          refine s_nil ?_
          refine p_seqN ?_
          refine v_seq ?_
          refine v_cond rfl (fun c81 => ?_) (fun c81 => ?_)
          ·
            refine v_skip ?_
            refine p_seqN ?_
            refine v_seq ?_
            refine v_block ?_
            refine v_seq ?_
            refine v_ops ?_
            have hk82 : k < ((ugOut g2).1).length := (by first | omega | (simp; omega))
            obtain ⟨x83, hx83⟩ : ∃ x, ((ugOut g2).1)[k]? = some x := ⟨_, List.getElem?_eq_getElem hk82⟩
            refine s_pure (.pointer (some ⟨sblk r12, soff r12 + k * 1, none⟩)) (fun _ q => s_r12.idx (k := k) rfl hk82 q) ?_
            refine s_load (.int .i64 x83) (fun _ q => s_r12.load1 hx83 rfl q) ?_
            refine s_pure (.int .i64 x83) (fun _ q => q) ?_
            refine s_nil ?_
            refine p_seqN ?_
            refine v_ops ?_
            refine s_pure o (fun _ q => q) ?_
            refine s_pure r3 (fun _ q => q) ?_
            refine s_pure (.int .i64 x83) (fun _ q => q) ?_
            have hk84 : (x83).toNat < g2.length := (by have q_ := hu7 x83 (List.mem_of_getElem? hx83); omega)
            obtain ⟨x85, hx85⟩ : ∃ x, g2[(x83).toNat]? = some x := ⟨_, List.getElem?_eq_getElem hk84⟩
            refine s_pure (.pointer (some ⟨sblk r3, soff r3 + ((x83).toNat) * 2, none⟩)) (fun _ q => s_r3.idx (k := (x83).toNat) (by have q_ := hu7 x83 (List.mem_of_getElem? hx83); omega) hk84 q) ?_
            refine s_load (.agg #[.bool x85.next, .int .i64 x85.signal]) (fun _ q => s_r3.loadN hx85 rfl q) ?_
            refine s_row (α := GlanceD) [(⟨x85.next, x85.signal⟩ : GlanceD)] (fun _ q => seg_agg rfl rfl (seg_nil q)) rfl (by simp [maxLen]) (fun r86 h87 eh87 zh87 s_r86 fr_r86 => ?_)
            have E88 := Eh.trans eh87
            have z89 := eh87.size
            have lt_r86 := s_r86.lt
            have f90 := (s_o.ext eh87)
            refine s_app f90 s_r86 rfl rfl rfl (by simp [maxLen]; omega) (by simp; omega) (fun r91 h92 mh92 zh92 s_r91 ab_r91 => ?_)
            have E93 := E88.mod mh92 (fun b hb => by have := fr_o b hb; omega)
            have fr_r91 := fr_o.app ab_r91 (by omega)
            have np94 : ∀ b ∈ blks r3, b ∉ blks r91 := fun b hb hc => (ab_r91 _ hc).elim ((np_r3_o : ∀ b ∈ blks r3, b ∉ blks o) b hb) (fun hc => by have := ltk_r3 b hb; omega)
            have np95 : ∀ b ∈ blks r3, b ∉ blks r91 := fun b hb hc => (ab_r91 _ hc).elim ((np_r3_o : ∀ b ∈ blks r3, b ∉ blks o) b hb) (fun hc => by have := ltk_r3 b hb; omega)
            have np96 : ∀ b ∈ blks r12, b ∉ blks r91 := fun b hb hc => (ab_r91 _ hc).elim ((np_r12_o : ∀ b ∈ blks r12, b ∉ blks o) b hb) (fun hc => by have := ltk_r12 b hb; omega)
            have np97 : ∀ b ∈ blks r12, b ∉ blks r91 := fun b hb hc => (ab_r91 _ hc).elim ((np_r12_o : ∀ b ∈ blks r12, b ∉ blks o) b hb) (fun hc => by have := ltk_r12 b hb; omega)
            have np98 : ∀ b ∈ blks r22, b ∉ blks r91 := fun b hb hc => (ab_r91 _ hc).elim ((np_r22_o : ∀ b ∈ blks r22, b ∉ blks o) b hb) (fun hc => by have := ltk_r22 b hb; omega)
            have np99 : ∀ b ∈ blks r22, b ∉ blks r91 := fun b hb hc => (ab_r91 _ hc).elim ((np_r22_o : ∀ b ∈ blks r22, b ∉ blks o) b hb) (fun hc => by have := ltk_r22 b hb; omega)
            have np100 : ∀ b ∈ blks r32, b ∉ blks r91 := fun b hb hc => (ab_r91 _ hc).elim ((np_r32_o : ∀ b ∈ blks r32, b ∉ blks o) b hb) (fun hc => by have := ltk_r32 b hb; omega)
            have np101 : ∀ b ∈ blks r32, b ∉ blks r91 := fun b hb hc => (ab_r91 _ hc).elim ((np_r32_o : ∀ b ∈ blks r32, b ∉ blks o) b hb) (fun hc => by have := ltk_r32 b hb; omega)
            have np102 : ∀ b ∈ blks r86, b ∉ blks r91 := fun b hb hc => (ab_r91 _ hc).elim (((fun b hb hc => by have := fr_r86 b hb; have := lt_o b hc; omega) : ∀ b ∈ blks r86, b ∉ blks o) b hb) (fun hc => by have := lt_r86 b hb; omega)
            have lt_r91 := s_r91.lt
            refine s_pure r91 (fun _ q => q) ?_
            refine s_nil ?_
            refine p_blkN ?_
            refine p_seqN ?_
            refine v_ops ?_
            refine s_pure (.int .i64 ((k : Int) + 1)) (fun _ q => ArithVC.mk (by omega) q) ?_
            refine s_pure (.int .i64 ((k : Int) + 1)) (fun _ q => q) ?_
            refine s_nil ?_
            have f103 := ((s_r3.ext eh87).mod mh92 np_r3_o)
            have f104 := ((s_r12.ext eh87).mod mh92 np_r12_o)
            have f105 := ((s_r22.ext eh87).mod mh92 np_r22_o)
            have f106 := ((s_r32.ext eh87).mod mh92 np_r32_o)
            exact p_lpN ⟨k + 1, (ll ++ [(⟨x85.next, x85.signal⟩ : GlanceD)]), r91, ⟨rfl, rfl, rfl, rfl, rfl, rfl, rfl, rfl, rfl, rfl⟩, ⟨E93, f103, f104, f105, f106, (sl_eq s_r91 (by simp)), (fr_r91.mono (by omega)), np95, np97, np99, np101, (by exact ⟨by omega, less_step hll (by assumption) (by assumption)⟩)⟩, by omega⟩
          ·
            obtain ⟨hE1, hE2, hE3, hE4, hE5⟩ := hu9 ll (less_end hu2 hll (by omega))
            refine v_exit ?_
            refine p_seqX ?_
            refine p_lpX ?_
            refine p_blkX ?_
            refine p_seqN ?_
            refine v_seq ?_
            refine v_ops ?_
            refine s_pure o (fun _ q => q) ?_
            refine s_call [o] rfl (impl_PassedBy_ok o ll _ s_o.toSl) ?_
            rintro _ h108 ⟨r107, rfl, s_r107, fr_r107, eh108⟩
            have E109 := Eh.trans eh108
            have z110 := eh108.size
            have lt_r107 := s_r107.lt
            refine s_pure (.tuple #[r107, .int .i64 ((pbOut ll).2.1), .bool ((pbOut ll).2.2)]) (fun _ q => q) ?_
            refine s_pure r107 (fun _ q => q) ?_
            refine s_pure (.int .i64 ((pbOut ll).2.1)) (fun _ q => q) ?_
            refine s_pure (.bool ((pbOut ll).2.2)) (fun _ q => q) ?_
            refine s_pure r107 (fun _ q => q) ?_
            refine s_pure (.int .i64 ((pbOut ll).2.1)) (fun _ q => q) ?_
            refine s_pure (.bool ((pbOut ll).2.2)) (fun _ q => q) ?_
            refine s_nil ?_
            refine p_seqN ?_
            refine v_seq ?_
            refine v_ops ?_
            refine s_pure o (fun _ q => q) ?_
            have f111 := (s_o.ext eh108)
            refine s_call [o] rfl (impl_WrongShows_ok o ll _ f111.toSl) ?_
            rintro _ h112 ⟨rfl, eh112⟩
            have E113 := E109.trans eh112
            have z114 := eh112.size
            refine s_pure (.tuple #[.int .i64 ((wsOut ll).1), .bool ((wsOut ll).2)]) (fun _ q => q) ?_
            refine s_pure (.int .i64 ((wsOut ll).1)) (fun _ q => q) ?_
            refine s_pure (.bool ((wsOut ll).2)) (fun _ q => q) ?_
            refine s_pure (.int .i64 ((wsOut ll).1)) (fun _ q => q) ?_
            refine s_pure (.bool ((wsOut ll).2)) (fun _ q => q) ?_
            refine s_nil ?_
            refine p_seqN ?_
            refine v_seqM1 [(8, r12), (18, r32)] (fun R116 h117 eh117 => ?_) (fun M115 => ?_)
            ·
              have E118 := E113.trans eh117
              have z119 := eh117.size
              refine v_seq ?_
              refine v_ops ?_
              refine s_pure (.int .i64 0) (fun _ q => q) ?_
              refine s_nil ?_
              refine p_seqN ?_
              refine v_seq ?_
              refine v_seq ?_
              refine v_ops ?_
              refine s_pure r32 (fun _ q => q) ?_
              refine s_pure (.int .i64 (((saOut g2).1).length : Int)) (fun _ q => s_r32.lenVC q) ?_
              refine s_pure (.int .i64 0) (fun _ q => q) ?_
              refine s_nil ?_
              refine p_seqN ?_
              refine v_block ?_
              have f121 := (((s_r12.ext eh108).ext eh112).ext eh117)
              have f122 := (((s_r32.ext eh108).ext eh112).ext eh117)
              refine v_loop2 (α := Nat) (β := Int) (fun k last => [(8, r12), (41, .int .i64 last), (290, r32), (291, .int .i64 (((saOut g2).1).length : Int)), (292, .int .i64 (k : Int))]) (fun k last hh => Ext h hh ∧ SlO hh r12 ((ugOut g2).1) ∧ SlO hh r32 ((saOut g2).1) ∧ k ≤ (saOut g2).1.length ∧ last = (run rz (g2.take k)).shown) (fun k last => (saOut g2).1.length - k) 0 0 ⟨rfl, rfl, rfl, rfl, rfl⟩ ⟨E118, f121, f122, (by exact ⟨by omega, rfl⟩)⟩ ?_
              rintro k last R123 h120 ⟨Eh, s_r12, s_r32, ⟨hk, hla⟩⟩
              have zEh := Eh.size
              have f125 := s_code.ext Eh
              have f126 := s_more.ext Eh
              have ltk_r12 := s_r12.lt
              have ltk_r32 := s_r32.lt
              refine v_seq ?_
              refine v_ops ?_
              refine s_pure (.bool (decide ((k : Int) < (((saOut g2).1).length : Int)))) (fun _ q => q) ?_
              refine s_nil ?_
              refine p_seqN ?_
              refine v_seq ?_
              refine v_cond rfl (fun c127 => ?_) (fun c127 => ?_)
              ·
                refine v_skip ?_
                refine p_seqN ?_
                refine v_seq ?_
                refine v_block ?_
                refine v_seq ?_
                refine v_ops ?_
                refine s_pure (.int .i64 (k : Int)) (fun _ q => q) ?_
                have hk128 : k < ((saOut g2).1).length := (by first | omega | (simp; omega))
                obtain ⟨x129, hx129⟩ : ∃ x, ((saOut g2).1)[k]? = some x := ⟨_, List.getElem?_eq_getElem hk128⟩
                refine s_pure (.pointer (some ⟨sblk r32, soff r32 + k * 1, none⟩)) (fun _ q => s_r32.idx (k := k) rfl hk128 q) ?_
                refine s_load (.int .i64 x129) (fun _ q => s_r32.load1 hx129 rfl q) ?_
                refine s_pure (.int .i64 (k : Int)) (fun _ q => q) ?_
                refine s_pure (.int .i64 x129) (fun _ q => q) ?_
                refine s_nil ?_
                refine p_seqN ?_
                refine v_seqM1 [(8, r12), (43, .int .i64 x129), (290, r32), (291, .int .i64 (((saOut g2).1).length : Int)), (292, .int .i64 (k : Int))] (fun R131 h132 eh132 => ?_) (fun M130 => ?_)
                ·
                  have E133 := Eh.trans eh132
                  have z134 := eh132.size
                  refine v_ops ?_
                  refine s_pure (.int .i64 x129) (fun _ q => q) ?_
                  refine s_pure (.int .i64 x129) (fun _ q => q) ?_
                  refine s_nil ?_
                  refine p_blkN ?_
                  refine p_seqN ?_
                  refine v_ops ?_
                  refine s_pure (.int .i64 ((k : Int) + 1)) (fun _ q => ArithVC.mk (by omega) q) ?_
                  refine s_pure (.int .i64 ((k : Int) + 1)) (fun _ q => q) ?_
                  refine s_nil ?_
                  have f135 := (s_r12.ext eh132)
                  have f136 := (s_r32.ext eh132)
                  exact p_lpN ⟨k + 1, x129, ⟨rfl, rfl, rfl, rfl, rfl⟩, ⟨E133, f135, f136, (by exact ⟨by omega, (shown_get (by rw [← hu3]; assumption)).1⟩)⟩, by omega⟩
                ·
                  refine v_seq ?_
                  refine v_seq ?_
                  refine v_ops ?_
                  refine s_pure (.int .i64 x129) (fun _ q => q) ?_
                  refine s_pure (.int .i64 last) (fun _ q => q) ?_
                  refine s_pure (.bool (x129 != last)) (fun _ q => q) ?_
                  refine s_pure (.bool (x129 != last)) (fun _ q => q) ?_
                  refine s_splitT rfl (fun c137 => ?_) (fun c137 => ?_)
                  ·
                    refine s_run rfl ?_
                    refine s_pure r12 (fun _ q => q) ?_
                    refine s_run rfl ?_
                    refine s_pure (.int .i64 (k : Int)) (fun _ q => q) ?_
                    refine s_run rfl ?_
                    refine s_call [r12, .int .i64 (k : Int)] rfl (laws_qHas_ok r12 ((ugOut g2).1) (k : Int) _ s_r12.toSl) ?_
                    rintro _ h138 ⟨rfl, eh138⟩
                    have E139 := Eh.trans eh138
                    have z140 := eh138.size
                    refine s_run rfl ?_
                    refine s_pure (.bool (!(decide ((k : Int) ∈ ((ugOut g2).1))))) (fun _ q => q) ?_
                    refine s_pure (.bool (!(decide ((k : Int) ∈ ((ugOut g2).1))))) (fun _ q => q) ?_
                    refine s_nil ?_
                    refine p_seqN ?_
                    refine v_cond rfl (fun c141 => ?_) (fun c141 => ?_)
                    ·
                      refine v_seq ?_
                      refine v_ops ?_
                      refine s_pure (.bool false) (fun _ q => q) ?_
                      refine s_nil ?_
                      refine p_seqN ?_
                      refine v_ret ?_
                      refine p_seqR ?_
                      refine p_blkR ?_
                      refine p_seqR ?_
                      refine p_lpR ?_
                      refine p_blkR ?_
                      refine p_seqR ?_
                      refine p_ret [.bool false] (.bool false) (fun _ q => q) rfl ?_
                      have ho : true = false := by first | rfl | (exfalso; first | omega | exact (by assumption : _ ≠ _) (oks _).1 | exact (by assumption : _ ≠ _) (oks _).2.1 | exact (by assumption : _ ≠ _) (oks _).2.2 | (have q_ := hw5 _ (by assumption); simp_all; done) | exact absurd hE1 (by assumption) | exact absurd hE2 (by assumption) | exact (by assumption : _ ≠ _) hE3 | exact absurd hE4 (by assumption) | exact (by assumption : _ ≠ _) hE5 | exact (by assumption : ¬ _ = _) (wm_el (hw5 _ (by assumption)).1 (by assumption)).2 | exact (by assumption : ¬ _ = _) (wm_el (hw5 _ (by assumption)).1 (by assumption)).1 | (rw [hE1] at *; simp_all; done) | (rw [hE4] at *; simp_all; done) | exact (by assumption : ¬ (_ ∈ _)) (by rw [hu2]; exact shown_useful (by rw [← hu3]; assumption) hla (by assumption)) | (simp_all; done))
                      exact ⟨by first | (rw [ho]; done) | rfl, E139⟩
                    ·
                      have c141 := Classical.not_not.1 c141
                      refine v_skip ?_
                      refine p_seqN ?_
                      exact M130 _ _ ⟨rfl, rfl, rfl, rfl, rfl⟩ ((Ext.refl _).trans eh138)
                  ·
                    have c137 := Classical.not_not.1 c137
                    refine s_pass rfl ?_
                    refine s_pass rfl ?_
                    refine s_pass rfl ?_
                    refine s_pass rfl ?_
                    refine s_pure (.bool false) (fun _ q => q) ?_
                    refine s_nil ?_
                    refine p_seqN ?_
                    refine v_condN rfl (by simp) ?_
                    refine v_skip ?_
                    refine p_seqN ?_
                    exact M130 _ _ ⟨rfl, rfl, rfl, rfl, rfl⟩ (Ext.refl _)
              ·
                refine v_exit ?_
                refine p_seqX ?_
                refine p_lpX ?_
                refine p_blkX ?_
                refine p_seqN ?_
                refine v_seq ?_
                refine v_ops ?_
                refine s_pure (.bool true) (fun _ q => q) ?_
                refine s_nil ?_
                refine p_seqN ?_
                refine v_ret ?_
                refine p_ret [.bool true] (.bool true) (fun _ q => q) rfl ?_
                have ho : true = true := by first | rfl | (exfalso; first | omega | exact (by assumption : _ ≠ _) (oks _).1 | exact (by assumption : _ ≠ _) (oks _).2.1 | exact (by assumption : _ ≠ _) (oks _).2.2 | (have q_ := hw5 _ (by assumption); simp_all; done) | exact absurd hE1 (by assumption) | exact absurd hE2 (by assumption) | exact (by assumption : _ ≠ _) hE3 | exact absurd hE4 (by assumption) | exact (by assumption : _ ≠ _) hE5 | exact (by assumption : ¬ _ = _) (wm_el (hw5 _ (by assumption)).1 (by assumption)).2 | exact (by assumption : ¬ _ = _) (wm_el (hw5 _ (by assumption)).1 (by assumption)).1 | (rw [hE1] at *; simp_all; done) | (rw [hE4] at *; simp_all; done) | exact (by assumption : ¬ (_ ∈ _)) (by rw [hu2]; exact shown_useful (by rw [← hu3]; assumption) hla (by assumption)) | (simp_all; done))
                exact ⟨by first | (rw [ho]; done) | rfl, Eh⟩
            ·
              refine v_seq ?_
              refine v_seq ?_
              refine v_ops ?_
              refine s_pure (.bool ((pbOut ll).2.2)) (fun _ q => q) ?_
              refine s_pure (.bool (!(pbOut ll).2.2)) (fun _ q => q) ?_
              refine s_pure (.bool (!(pbOut ll).2.2)) (fun _ q => q) ?_
              refine s_splitT rfl (fun c142 => ?_) (fun c142 => ?_)
              ·
                refine s_pass rfl ?_
                refine s_pass rfl ?_
                refine s_pass rfl ?_
                refine s_pass rfl ?_
                refine s_pure (.bool true) (fun _ q => q) ?_
                refine s_pure (.bool true) (fun _ q => q) ?_
                refine s_splitY rfl rfl ?_
                refine s_pass rfl ?_
                refine s_pass rfl ?_
                refine s_pass rfl ?_
                refine s_pure (.bool true) (fun _ q => q) ?_
                refine s_pure (.bool true) (fun _ q => q) ?_
                refine s_splitY rfl rfl ?_
                refine s_pass rfl ?_
                refine s_pass rfl ?_
                refine s_pure (.bool true) (fun _ q => q) ?_
                refine s_pure (.bool true) (fun _ q => q) ?_
                refine s_splitY rfl rfl ?_
                refine s_pass rfl ?_
                refine s_pass rfl ?_
                refine s_pass rfl ?_
                refine s_pure (.bool true) (fun _ q => q) ?_
                refine s_pure (.bool true) (fun _ q => q) ?_
                refine s_splitY rfl rfl ?_
                refine s_pass rfl ?_
                refine s_pass rfl ?_
                refine s_pass rfl ?_
                refine s_pass rfl ?_
                refine s_pass rfl ?_
                refine s_pure (.bool true) (fun _ q => q) ?_
                refine s_pure (.bool true) (fun _ q => q) ?_
                refine s_splitY rfl rfl ?_
                refine s_pass rfl ?_
                refine s_pass rfl ?_
                refine s_pass rfl ?_
                refine s_pass rfl ?_
                refine s_pure (.bool true) (fun _ q => q) ?_
                refine s_nil ?_
                refine p_seqN ?_
                refine v_condY rfl rfl ?_
                refine v_seq ?_
                refine v_ops ?_
                refine s_pure (.bool false) (fun _ q => q) ?_
                refine s_nil ?_
                refine p_seqN ?_
                refine v_ret ?_
                refine p_seqR ?_
                refine p_ret [.bool false] (.bool false) (fun _ q => q) rfl ?_
                have ho : true = false := by first | rfl | (exfalso; first | omega | exact (by assumption : _ ≠ _) (oks _).1 | exact (by assumption : _ ≠ _) (oks _).2.1 | exact (by assumption : _ ≠ _) (oks _).2.2 | (have q_ := hw5 _ (by assumption); simp_all; done) | exact absurd hE1 (by assumption) | exact absurd hE2 (by assumption) | exact (by assumption : _ ≠ _) hE3 | exact absurd hE4 (by assumption) | exact (by assumption : _ ≠ _) hE5 | exact (by assumption : ¬ _ = _) (wm_el (hw5 _ (by assumption)).1 (by assumption)).2 | exact (by assumption : ¬ _ = _) (wm_el (hw5 _ (by assumption)).1 (by assumption)).1 | (rw [hE1] at *; simp_all; done) | (rw [hE4] at *; simp_all; done) | exact (by assumption : ¬ (_ ∈ _)) (by rw [hu2]; exact shown_useful (by rw [← hu3]; assumption) hla (by assumption)) | (simp_all; done))
                exact ⟨by first | (rw [ho]; done) | rfl, E113⟩
              ·
                have c142 := Classical.not_not.1 c142
                refine s_run rfl ?_
                refine s_pure r107 (fun _ q => q) ?_
                refine s_run rfl ?_
                refine s_pure r22 (fun _ q => q) ?_
                refine s_run rfl ?_
                have f144 := (s_r107.ext eh112)
                have f145 := ((s_r22.ext eh108).ext eh112)
                refine s_call [r107, r22] rfl (laws_qInts_ok r107 ((pbOut ll).1) r22 ((pbOut g2).1) _ f144.toSl f145.toSl) ?_
                rintro _ h143 ⟨rfl, eh143⟩
                have E146 := E113.trans eh143
                have z147 := eh143.size
                refine s_run rfl ?_
                refine s_pure (.bool (!(decide (((pbOut ll).1) = ((pbOut g2).1))))) (fun _ q => q) ?_
                refine s_pure (.bool (!(decide (((pbOut ll).1) = ((pbOut g2).1))))) (fun _ q => q) ?_
                refine s_pure (.bool (!(decide (((pbOut ll).1) = ((pbOut g2).1))))) (fun _ q => q) ?_
                refine s_splitT rfl (fun c148 => ?_) (fun c148 => ?_)
                ·
                  refine s_pass rfl ?_
                  refine s_pass rfl ?_
                  refine s_pass rfl ?_
                  refine s_pure (.bool true) (fun _ q => q) ?_
                  refine s_pure (.bool true) (fun _ q => q) ?_
                  refine s_splitY rfl rfl ?_
                  refine s_pass rfl ?_
                  refine s_pass rfl ?_
                  refine s_pure (.bool true) (fun _ q => q) ?_
                  refine s_pure (.bool true) (fun _ q => q) ?_
                  refine s_splitY rfl rfl ?_
                  refine s_pass rfl ?_
                  refine s_pass rfl ?_
                  refine s_pass rfl ?_
                  refine s_pure (.bool true) (fun _ q => q) ?_
                  refine s_pure (.bool true) (fun _ q => q) ?_
                  refine s_splitY rfl rfl ?_
                  refine s_pass rfl ?_
                  refine s_pass rfl ?_
                  refine s_pass rfl ?_
                  refine s_pass rfl ?_
                  refine s_pass rfl ?_
                  refine s_pure (.bool true) (fun _ q => q) ?_
                  refine s_pure (.bool true) (fun _ q => q) ?_
                  refine s_splitY rfl rfl ?_
                  refine s_pass rfl ?_
                  refine s_pass rfl ?_
                  refine s_pass rfl ?_
                  refine s_pass rfl ?_
                  refine s_pure (.bool true) (fun _ q => q) ?_
                  refine s_nil ?_
                  refine p_seqN ?_
                  refine v_condY rfl rfl ?_
                  refine v_seq ?_
                  refine v_ops ?_
                  refine s_pure (.bool false) (fun _ q => q) ?_
                  refine s_nil ?_
                  refine p_seqN ?_
                  refine v_ret ?_
                  refine p_seqR ?_
                  refine p_ret [.bool false] (.bool false) (fun _ q => q) rfl ?_
                  have ho : true = false := by first | rfl | (exfalso; first | omega | exact (by assumption : _ ≠ _) (oks _).1 | exact (by assumption : _ ≠ _) (oks _).2.1 | exact (by assumption : _ ≠ _) (oks _).2.2 | (have q_ := hw5 _ (by assumption); simp_all; done) | exact absurd hE1 (by assumption) | exact absurd hE2 (by assumption) | exact (by assumption : _ ≠ _) hE3 | exact absurd hE4 (by assumption) | exact (by assumption : _ ≠ _) hE5 | exact (by assumption : ¬ _ = _) (wm_el (hw5 _ (by assumption)).1 (by assumption)).2 | exact (by assumption : ¬ _ = _) (wm_el (hw5 _ (by assumption)).1 (by assumption)).1 | (rw [hE1] at *; simp_all; done) | (rw [hE4] at *; simp_all; done) | exact (by assumption : ¬ (_ ∈ _)) (by rw [hu2]; exact shown_useful (by rw [← hu3]; assumption) hla (by assumption)) | (simp_all; done))
                  exact ⟨by first | (rw [ho]; done) | rfl, E146⟩
                ·
                  have c148 := Classical.not_not.1 c148
                  refine s_run rfl ?_
                  refine s_pure (.int .i64 ((pbOut ll).2.1)) (fun _ q => q) ?_
                  refine s_run rfl ?_
                  refine s_pure (.int .i64 ((pbOut g2).2.1)) (fun _ q => q) ?_
                  refine s_run rfl ?_
                  refine s_pure (.bool ((pbOut ll).2.1 != (pbOut g2).2.1)) (fun _ q => q) ?_
                  refine s_pure (.bool ((pbOut ll).2.1 != (pbOut g2).2.1)) (fun _ q => q) ?_
                  refine s_pure (.bool ((pbOut ll).2.1 != (pbOut g2).2.1)) (fun _ q => q) ?_
                  refine s_splitT rfl (fun c149 => ?_) (fun c149 => ?_)
                  ·
                    refine s_pass rfl ?_
                    refine s_pass rfl ?_
                    refine s_pure (.bool true) (fun _ q => q) ?_
                    refine s_pure (.bool true) (fun _ q => q) ?_
                    refine s_splitY rfl rfl ?_
                    refine s_pass rfl ?_
                    refine s_pass rfl ?_
                    refine s_pass rfl ?_
                    refine s_pure (.bool true) (fun _ q => q) ?_
                    refine s_pure (.bool true) (fun _ q => q) ?_
                    refine s_splitY rfl rfl ?_
                    refine s_pass rfl ?_
                    refine s_pass rfl ?_
                    refine s_pass rfl ?_
                    refine s_pass rfl ?_
                    refine s_pass rfl ?_
                    refine s_pure (.bool true) (fun _ q => q) ?_
                    refine s_pure (.bool true) (fun _ q => q) ?_
                    refine s_splitY rfl rfl ?_
                    refine s_pass rfl ?_
                    refine s_pass rfl ?_
                    refine s_pass rfl ?_
                    refine s_pass rfl ?_
                    refine s_pure (.bool true) (fun _ q => q) ?_
                    refine s_nil ?_
                    refine p_seqN ?_
                    refine v_condY rfl rfl ?_
                    refine v_seq ?_
                    refine v_ops ?_
                    refine s_pure (.bool false) (fun _ q => q) ?_
                    refine s_nil ?_
                    refine p_seqN ?_
                    refine v_ret ?_
                    refine p_seqR ?_
                    refine p_ret [.bool false] (.bool false) (fun _ q => q) rfl ?_
                    have ho : true = false := by first | rfl | (exfalso; first | omega | exact (by assumption : _ ≠ _) (oks _).1 | exact (by assumption : _ ≠ _) (oks _).2.1 | exact (by assumption : _ ≠ _) (oks _).2.2 | (have q_ := hw5 _ (by assumption); simp_all; done) | exact absurd hE1 (by assumption) | exact absurd hE2 (by assumption) | exact (by assumption : _ ≠ _) hE3 | exact absurd hE4 (by assumption) | exact (by assumption : _ ≠ _) hE5 | exact (by assumption : ¬ _ = _) (wm_el (hw5 _ (by assumption)).1 (by assumption)).2 | exact (by assumption : ¬ _ = _) (wm_el (hw5 _ (by assumption)).1 (by assumption)).1 | (rw [hE1] at *; simp_all; done) | (rw [hE4] at *; simp_all; done) | exact (by assumption : ¬ (_ ∈ _)) (by rw [hu2]; exact shown_useful (by rw [← hu3]; assumption) hla (by assumption)) | (simp_all; done))
                    exact ⟨by first | (rw [ho]; done) | rfl, E146⟩
                  ·
                    have c149 := Classical.not_not.1 c149
                    refine s_run rfl ?_
                    refine s_pure (.bool ((wsOut ll).2)) (fun _ q => q) ?_
                    refine s_run rfl ?_
                    refine s_pure (.bool (!(wsOut ll).2)) (fun _ q => q) ?_
                    refine s_pure (.bool (!(wsOut ll).2)) (fun _ q => q) ?_
                    refine s_pure (.bool (!(wsOut ll).2)) (fun _ q => q) ?_
                    refine s_splitT rfl (fun c150 => ?_) (fun c150 => ?_)
                    ·
                      refine s_pass rfl ?_
                      refine s_pass rfl ?_
                      refine s_pass rfl ?_
                      refine s_pure (.bool true) (fun _ q => q) ?_
                      refine s_pure (.bool true) (fun _ q => q) ?_
                      refine s_splitY rfl rfl ?_
                      refine s_pass rfl ?_
                      refine s_pass rfl ?_
                      refine s_pass rfl ?_
                      refine s_pass rfl ?_
                      refine s_pass rfl ?_
                      refine s_pure (.bool true) (fun _ q => q) ?_
                      refine s_pure (.bool true) (fun _ q => q) ?_
                      refine s_splitY rfl rfl ?_
                      refine s_pass rfl ?_
                      refine s_pass rfl ?_
                      refine s_pass rfl ?_
                      refine s_pass rfl ?_
                      refine s_pure (.bool true) (fun _ q => q) ?_
                      refine s_nil ?_
                      refine p_seqN ?_
                      refine v_condY rfl rfl ?_
                      refine v_seq ?_
                      refine v_ops ?_
                      refine s_pure (.bool false) (fun _ q => q) ?_
                      refine s_nil ?_
                      refine p_seqN ?_
                      refine v_ret ?_
                      refine p_seqR ?_
                      refine p_ret [.bool false] (.bool false) (fun _ q => q) rfl ?_
                      have ho : true = false := by first | rfl | (exfalso; first | omega | exact (by assumption : _ ≠ _) (oks _).1 | exact (by assumption : _ ≠ _) (oks _).2.1 | exact (by assumption : _ ≠ _) (oks _).2.2 | (have q_ := hw5 _ (by assumption); simp_all; done) | exact absurd hE1 (by assumption) | exact absurd hE2 (by assumption) | exact (by assumption : _ ≠ _) hE3 | exact absurd hE4 (by assumption) | exact (by assumption : _ ≠ _) hE5 | exact (by assumption : ¬ _ = _) (wm_el (hw5 _ (by assumption)).1 (by assumption)).2 | exact (by assumption : ¬ _ = _) (wm_el (hw5 _ (by assumption)).1 (by assumption)).1 | (rw [hE1] at *; simp_all; done) | (rw [hE4] at *; simp_all; done) | exact (by assumption : ¬ (_ ∈ _)) (by rw [hu2]; exact shown_useful (by rw [← hu3]; assumption) hla (by assumption)) | (simp_all; done))
                      exact ⟨by first | (rw [ho]; done) | rfl, E146⟩
                    ·
                      have c150 := Classical.not_not.1 c150
                      refine s_run rfl ?_
                      refine s_pure (.int .i64 ((wsOut ll).1)) (fun _ q => q) ?_
                      refine s_run rfl ?_
                      refine s_pure (.int .i64 ((wsOut g2).1)) (fun _ q => q) ?_
                      refine s_run rfl ?_
                      refine s_pure (.bool ((wsOut ll).1 != (wsOut g2).1)) (fun _ q => q) ?_
                      refine s_pure (.bool ((wsOut ll).1 != (wsOut g2).1)) (fun _ q => q) ?_
                      refine s_pure (.bool ((wsOut ll).1 != (wsOut g2).1)) (fun _ q => q) ?_
                      refine s_splitT rfl (fun c151 => ?_) (fun c151 => ?_)
                      ·
                        refine s_pass rfl ?_
                        refine s_pass rfl ?_
                        refine s_pass rfl ?_
                        refine s_pass rfl ?_
                        refine s_pass rfl ?_
                        refine s_pure (.bool true) (fun _ q => q) ?_
                        refine s_pure (.bool true) (fun _ q => q) ?_
                        refine s_splitY rfl rfl ?_
                        refine s_pass rfl ?_
                        refine s_pass rfl ?_
                        refine s_pass rfl ?_
                        refine s_pass rfl ?_
                        refine s_pure (.bool true) (fun _ q => q) ?_
                        refine s_nil ?_
                        refine p_seqN ?_
                        refine v_condY rfl rfl ?_
                        refine v_seq ?_
                        refine v_ops ?_
                        refine s_pure (.bool false) (fun _ q => q) ?_
                        refine s_nil ?_
                        refine p_seqN ?_
                        refine v_ret ?_
                        refine p_seqR ?_
                        refine p_ret [.bool false] (.bool false) (fun _ q => q) rfl ?_
                        have ho : true = false := by first | rfl | (exfalso; first | omega | exact (by assumption : _ ≠ _) (oks _).1 | exact (by assumption : _ ≠ _) (oks _).2.1 | exact (by assumption : _ ≠ _) (oks _).2.2 | (have q_ := hw5 _ (by assumption); simp_all; done) | exact absurd hE1 (by assumption) | exact absurd hE2 (by assumption) | exact (by assumption : _ ≠ _) hE3 | exact absurd hE4 (by assumption) | exact (by assumption : _ ≠ _) hE5 | exact (by assumption : ¬ _ = _) (wm_el (hw5 _ (by assumption)).1 (by assumption)).2 | exact (by assumption : ¬ _ = _) (wm_el (hw5 _ (by assumption)).1 (by assumption)).1 | (rw [hE1] at *; simp_all; done) | (rw [hE4] at *; simp_all; done) | exact (by assumption : ¬ (_ ∈ _)) (by rw [hu2]; exact shown_useful (by rw [← hu3]; assumption) hla (by assumption)) | (simp_all; done))
                        exact ⟨by first | (rw [ho]; done) | rfl, E146⟩
                      ·
                        have c151 := Classical.not_not.1 c151
                        refine s_run rfl ?_
                        refine s_pure r32 (fun _ q => q) ?_
                        refine s_run rfl ?_
                        refine s_pure (.int .i64 (((saOut g2).1).length : Int)) (fun _ q => s_r32.lenVC q) ?_
                        refine s_run rfl ?_
                        refine s_pure r3 (fun _ q => q) ?_
                        refine s_run rfl ?_
                        refine s_pure (.int .i64 (g2.length : Int)) (fun _ q => s_r3.lenVC q) ?_
                        refine s_run rfl ?_
                        refine s_pure (.bool ((((saOut g2).1).length : Int) != (g2.length : Int))) (fun _ q => q) ?_
                        refine s_pure (.bool ((((saOut g2).1).length : Int) != (g2.length : Int))) (fun _ q => q) ?_
                        refine s_pure (.bool ((((saOut g2).1).length : Int) != (g2.length : Int))) (fun _ q => q) ?_
                        refine s_splitT rfl (fun c152 => ?_) (fun c152 => ?_)
                        ·
                          refine s_pass rfl ?_
                          refine s_pass rfl ?_
                          refine s_pass rfl ?_
                          refine s_pass rfl ?_
                          refine s_pure (.bool true) (fun _ q => q) ?_
                          refine s_nil ?_
                          refine p_seqN ?_
                          refine v_condY rfl rfl ?_
                          refine v_seq ?_
                          refine v_ops ?_
                          refine s_pure (.bool false) (fun _ q => q) ?_
                          refine s_nil ?_
                          refine p_seqN ?_
                          refine v_ret ?_
                          refine p_seqR ?_
                          refine p_ret [.bool false] (.bool false) (fun _ q => q) rfl ?_
                          have ho : true = false := by first | rfl | (exfalso; first | omega | exact (by assumption : _ ≠ _) (oks _).1 | exact (by assumption : _ ≠ _) (oks _).2.1 | exact (by assumption : _ ≠ _) (oks _).2.2 | (have q_ := hw5 _ (by assumption); simp_all; done) | exact absurd hE1 (by assumption) | exact absurd hE2 (by assumption) | exact (by assumption : _ ≠ _) hE3 | exact absurd hE4 (by assumption) | exact (by assumption : _ ≠ _) hE5 | exact (by assumption : ¬ _ = _) (wm_el (hw5 _ (by assumption)).1 (by assumption)).2 | exact (by assumption : ¬ _ = _) (wm_el (hw5 _ (by assumption)).1 (by assumption)).1 | (rw [hE1] at *; simp_all; done) | (rw [hE4] at *; simp_all; done) | exact (by assumption : ¬ (_ ∈ _)) (by rw [hu2]; exact shown_useful (by rw [← hu3]; assumption) hla (by assumption)) | (simp_all; done))
                          exact ⟨by first | (rw [ho]; done) | rfl, E146⟩
                        ·
                          have c152 := Classical.not_not.1 c152
                          refine s_run rfl ?_
                          refine s_pure (.int .i64 ((wsOut g2).1)) (fun _ q => q) ?_
                          refine s_run rfl ?_
                          refine s_pure r12 (fun _ q => q) ?_
                          refine s_run rfl ?_
                          refine s_pure (.int .i64 (((ugOut g2).1).length : Int)) (fun _ q => s_r12.lenVC q) ?_
                          refine s_run rfl ?_
                          refine s_pure (.bool (decide ((wsOut g2).1 > (((ugOut g2).1).length : Int)))) (fun _ q => q) ?_
                          refine s_pure (.bool (decide ((wsOut g2).1 > (((ugOut g2).1).length : Int)))) (fun _ q => q) ?_
                          refine s_nil ?_
                          refine p_seqN ?_
                          refine v_cond rfl (fun c153 => ?_) (fun c153 => ?_)
                          ·
                            refine v_seq ?_
                            refine v_ops ?_
                            refine s_pure (.bool false) (fun _ q => q) ?_
                            refine s_nil ?_
                            refine p_seqN ?_
                            refine v_ret ?_
                            refine p_seqR ?_
                            refine p_ret [.bool false] (.bool false) (fun _ q => q) rfl ?_
                            have ho : true = false := by first | rfl | (exfalso; first | omega | exact (by assumption : _ ≠ _) (oks _).1 | exact (by assumption : _ ≠ _) (oks _).2.1 | exact (by assumption : _ ≠ _) (oks _).2.2 | (have q_ := hw5 _ (by assumption); simp_all; done) | exact absurd hE1 (by assumption) | exact absurd hE2 (by assumption) | exact (by assumption : _ ≠ _) hE3 | exact absurd hE4 (by assumption) | exact (by assumption : _ ≠ _) hE5 | exact (by assumption : ¬ _ = _) (wm_el (hw5 _ (by assumption)).1 (by assumption)).2 | exact (by assumption : ¬ _ = _) (wm_el (hw5 _ (by assumption)).1 (by assumption)).1 | (rw [hE1] at *; simp_all; done) | (rw [hE4] at *; simp_all; done) | exact (by assumption : ¬ (_ ∈ _)) (by rw [hu2]; exact shown_useful (by rw [← hu3]; assumption) hla (by assumption)) | (simp_all; done))
                            exact ⟨by first | (rw [ho]; done) | rfl, E146⟩
                          ·
                            refine v_skip ?_
                            refine p_seqN ?_
                            exact M115 _ _ ⟨rfl, rfl⟩ ((Ext.refl _).trans eh143)
      ·
        refine v_seq ?_
        refine v_seq ?_
        refine v_ops ?_
        refine s_pure (.bool ((wmOut g45 g47 g48).2)) (fun _ q => q) ?_
        refine s_nil ?_
        refine p_seqN ?_
        refine v_cond rfl (fun c154 => ?_) (fun c154 => ?_)
        ·
          obtain ⟨⟨hw1, hw2, hw3⟩, hw4, hw5⟩ := wm_facts c154
          refine v_seq ?_
          refine v_ops ?_
          refine s_pure r52 (fun _ q => q) ?_
          refine s_pure (.int .i64 g47) (fun _ q => q) ?_
          refine s_pure r46 (fun _ q => q) ?_
          refine s_pure (.int .i64 g47) (fun _ q => q) ?_
          have f155 := ((f56.ext eh58).ext eh63)
          have hk156 : (g47).toNat < g45.length := (by first | omega | (simp; omega))
          obtain ⟨x157, hx157⟩ : ∃ x, g45[(g47).toNat]? = some x := ⟨_, List.getElem?_eq_getElem hk156⟩
          refine s_pure (.pointer (some ⟨sblk r46, soff r46 + ((g47).toNat) * 2, none⟩)) (fun _ q => f155.idx (k := (g47).toNat) (by omega) hk156 q) ?_
          refine s_pure (.pointer (some ⟨sblk r46, soff r46 + ((g47).toNat) * 2 + 1, none⟩)) (fun _ q => q) ?_
          refine s_load (.int .i64 x157.signal) (fun _ q => f155.load hx157 (j := 1) rfl rfl q) ?_
          have f158 := ((s_r52.ext eh58).ext eh63)
          refine s_call [r52, .int .i64 g47, .int .i64 x157.signal] rfl (w_implWithMisreading r52 ((wmOut g45 g47 g48).1) g47 x157.signal _ f158.toSl) ?_
          rintro _ h160 ⟨r159, rfl, s_r159, fr_r159, eh160⟩
          have E161 := E64.trans eh160
          have z162 := eh160.size
          have lt_r159 := s_r159.lt
          refine s_pure (.tuple #[r159, .bool ((wmOut ((wmOut g45 g47 g48).1) g47 x157.signal).2)]) (fun _ q => q) ?_
          refine s_pure r159 (fun _ q => q) ?_
          refine s_pure (.bool ((wmOut ((wmOut g45 g47 g48).1) g47 x157.signal).2)) (fun _ q => q) ?_
          refine s_pure r159 (fun _ q => q) ?_
          refine s_pure (.bool ((wmOut ((wmOut g45 g47 g48).1) g47 x157.signal).2)) (fun _ q => q) ?_
          refine s_nil ?_
          refine p_seqN ?_
          refine v_seq ?_
          have f163 := ((s_r57.ext eh63).ext eh160)
          refine v_draw (DrawVC.hold (blks r57) ?_)
          refine d_pureT (.bool ((wmOut ((wmOut g45 g47 g48).1) g47 x157.signal).2)) (fun _ q => q) ?_
          refine d_pureT (.bool (!(wmOut ((wmOut g45 g47 g48).1) g47 x157.signal).2)) (fun _ q => q) ?_
          refine d_pureT (.bool (!(wmOut ((wmOut g45 g47 g48).1) g47 x157.signal).2)) (fun _ q => q) ?_
          refine d_splitT rfl (fun c164 => ?_) (fun c164 => ?_)
          ·
            refine d_passT rfl ?_
            refine d_passT rfl ?_
            refine d_passO rfl ?_
            refine d_passT rfl ?_
            refine d_pureT (.bool true) (fun _ q => q) ?_
            refine d_pureT (.bool true) (fun _ q => q) ?_
            refine d_splitY rfl rfl ?_
            refine d_passT rfl ?_
            refine d_passT rfl ?_
            refine d_passT rfl ?_
            refine d_passT rfl ?_
            refine d_passT rfl ?_
            refine d_passO rfl ?_
            refine d_passT rfl ?_
            refine d_pureT (.bool true) (fun _ q => q) ?_
            refine d_pureT (.bool true) (fun _ q => q) ?_
            refine d_splitY rfl rfl ?_
            refine d_passT rfl ?_
            refine d_passT rfl ?_
            refine d_passT rfl ?_
            refine d_passT rfl ?_
            refine d_passT rfl ?_
            refine d_passT rfl ?_
            refine d_passT rfl ?_
            refine d_passT rfl ?_
            refine d_passT rfl ?_
            refine d_passO rfl ?_
            refine d_passT rfl ?_
            refine d_pureT (.bool true) (fun _ q => q) ?_
            refine d_done ?_
            refine p_seqN ?_
            refine v_condY rfl rfl ?_
            refine v_seq ?_
            refine v_ops ?_
            refine s_pure (.bool false) (fun _ q => q) ?_
            refine s_nil ?_
            refine p_seqN ?_
            refine v_ret ?_
            refine p_seqR ?_
            refine p_ret [.bool false] (.bool false) (fun _ q => q) rfl ?_
            have ho : true = false := by first | rfl | (exfalso; first | omega | exact (by assumption : _ ≠ _) (oks _).1 | exact (by assumption : _ ≠ _) (oks _).2.1 | exact (by assumption : _ ≠ _) (oks _).2.2 | (have q_ := hw5 _ (by assumption); simp_all; done) | exact absurd hE1 (by assumption) | exact absurd hE2 (by assumption) | exact (by assumption : _ ≠ _) hE3 | exact absurd hE4 (by assumption) | exact (by assumption : _ ≠ _) hE5 | exact (by assumption : ¬ _ = _) (wm_el (hw5 _ (by assumption)).1 (by assumption)).2 | exact (by assumption : ¬ _ = _) (wm_el (hw5 _ (by assumption)).1 (by assumption)).1 | (rw [hE1] at *; simp_all; done) | (rw [hE4] at *; simp_all; done) | exact (by assumption : ¬ (_ ∈ _)) (by rw [hu2]; exact shown_useful (by rw [← hu3]; assumption) hla (by assumption)) | (simp_all; done))
            exact ⟨by first | (rw [ho]; done) | rfl, E161⟩
          ·
            have c164 := Classical.not_not.1 c164
            refine d_runT rfl ?_
            refine d_pureT r159 (fun _ q => q) ?_
            refine d_runT rfl ?_
            refine d_pureT r46 (fun _ q => q) ?_
            refine d_runO rfl ?_
            refine d_eff ?_
            have f166 := (f155.ext eh160)
            refine s_call [r159, r46] rfl (laws_qGlances_ok r159 ((wmOut ((wmOut g45 g47 g48).1) g47 x157.signal).1) r46 g45 _ s_r159.toSl f166.toSl) ?_
            rintro _ h165 ⟨rfl, eh165⟩
            have E167 := E161.trans eh165
            have z168 := eh165.size
            have G169 := eh165
            refine s_nil ⟨fun _ x hx => G169.blk x (by have := lt_r57 x hx; omega), ?_⟩
            refine d_runT rfl ?_
            refine d_pureT (.bool (!(decide (((wmOut ((wmOut g45 g47 g48).1) g47 x157.signal).1) = g45)))) (fun _ q => q) ?_
            refine d_pureT (.bool (!(decide (((wmOut ((wmOut g45 g47 g48).1) g47 x157.signal).1) = g45)))) (fun _ q => q) ?_
            refine d_pureT (.bool (!(decide (((wmOut ((wmOut g45 g47 g48).1) g47 x157.signal).1) = g45)))) (fun _ q => q) ?_
            refine d_splitT rfl (fun c170 => ?_) (fun c170 => ?_)
            ·
              refine d_passT rfl ?_
              refine d_passT rfl ?_
              refine d_passT rfl ?_
              refine d_passT rfl ?_
              refine d_passT rfl ?_
              refine d_passO rfl ?_
              refine d_passT rfl ?_
              refine d_pureT (.bool true) (fun _ q => q) ?_
              refine d_pureT (.bool true) (fun _ q => q) ?_
              refine d_splitY rfl rfl ?_
              refine d_passT rfl ?_
              refine d_passT rfl ?_
              refine d_passT rfl ?_
              refine d_passT rfl ?_
              refine d_passT rfl ?_
              refine d_passT rfl ?_
              refine d_passT rfl ?_
              refine d_passT rfl ?_
              refine d_passT rfl ?_
              refine d_passO rfl ?_
              refine d_passT rfl ?_
              refine d_pureT (.bool true) (fun _ q => q) ?_
              refine d_done ?_
              refine p_seqN ?_
              refine v_condY rfl rfl ?_
              refine v_seq ?_
              refine v_ops ?_
              refine s_pure (.bool false) (fun _ q => q) ?_
              refine s_nil ?_
              refine p_seqN ?_
              refine v_ret ?_
              refine p_seqR ?_
              refine p_ret [.bool false] (.bool false) (fun _ q => q) rfl ?_
              have ho : true = false := by first | rfl | (exfalso; first | omega | exact (by assumption : _ ≠ _) (oks _).1 | exact (by assumption : _ ≠ _) (oks _).2.1 | exact (by assumption : _ ≠ _) (oks _).2.2 | (have q_ := hw5 _ (by assumption); simp_all; done) | exact absurd hE1 (by assumption) | exact absurd hE2 (by assumption) | exact (by assumption : _ ≠ _) hE3 | exact absurd hE4 (by assumption) | exact (by assumption : _ ≠ _) hE5 | exact (by assumption : ¬ _ = _) (wm_el (hw5 _ (by assumption)).1 (by assumption)).2 | exact (by assumption : ¬ _ = _) (wm_el (hw5 _ (by assumption)).1 (by assumption)).1 | (rw [hE1] at *; simp_all; done) | (rw [hE4] at *; simp_all; done) | exact (by assumption : ¬ (_ ∈ _)) (by rw [hu2]; exact shown_useful (by rw [← hu3]; assumption) hla (by assumption)) | (simp_all; done))
              exact ⟨by first | (rw [ho]; done) | rfl, E167⟩
            ·
              have c170 := Classical.not_not.1 c170
              refine d_runT rfl ?_
              refine d_pureT r57 (fun _ q => q) ?_
              refine d_runT rfl ?_
              refine d_pureT (.int .i64 g47) (fun _ q => q) ?_
              refine d_runT rfl ?_
              have f171 := (f163.ext eh165)
              have hk172 : (g47).toNat < ((wmOut g45 g47 g48).1).length := (by first | omega | (simp; omega))
              obtain ⟨x173, hx173⟩ : ∃ x, ((wmOut g45 g47 g48).1)[(g47).toNat]? = some x := ⟨_, List.getElem?_eq_getElem hk172⟩
              refine d_pureT (.pointer (some ⟨sblk r57, soff r57 + ((g47).toNat) * 2, none⟩)) (fun _ q => f171.idx (k := (g47).toNat) (by omega) hk172 q) ?_
              refine d_runT rfl ?_
              refine d_pureT (.pointer (some ⟨sblk r57, soff r57 + ((g47).toNat) * 2 + 1, none⟩)) (fun _ q => q) ?_
              refine d_runT rfl ?_
              refine d_pureT (.int .i64 g48) (fun _ q => q) ?_
              refine d_runO rfl ?_
              refine d_loadO (.int .i64 x173.signal) (fun _ q => f171.load hx173 (j := 1) rfl rfl q) ?_
              refine d_runT rfl ?_
              refine d_pureT (.bool (x173.signal != g48)) (fun _ q => q) ?_
              refine d_pureT (.bool (x173.signal != g48)) (fun _ q => q) ?_
              refine d_pureT (.bool (x173.signal != g48)) (fun _ q => q) ?_
              refine d_splitT rfl (fun c174 => ?_) (fun c174 => ?_)
              ·
                refine d_passT rfl ?_
                refine d_passT rfl ?_
                refine d_passT rfl ?_
                refine d_passT rfl ?_
                refine d_passT rfl ?_
                refine d_passT rfl ?_
                refine d_passT rfl ?_
                refine d_passT rfl ?_
                refine d_passT rfl ?_
                refine d_passO rfl ?_
                refine d_passT rfl ?_
                refine d_pureT (.bool true) (fun _ q => q) ?_
                refine d_done ?_
                refine p_seqN ?_
                refine v_condY rfl rfl ?_
                refine v_seq ?_
                refine v_ops ?_
                refine s_pure (.bool false) (fun _ q => q) ?_
                refine s_nil ?_
                refine p_seqN ?_
                refine v_ret ?_
                refine p_seqR ?_
                refine p_ret [.bool false] (.bool false) (fun _ q => q) rfl ?_
                have ho : true = false := by first | rfl | (exfalso; first | omega | exact (by assumption : _ ≠ _) (oks _).1 | exact (by assumption : _ ≠ _) (oks _).2.1 | exact (by assumption : _ ≠ _) (oks _).2.2 | (have q_ := hw5 _ (by assumption); simp_all; done) | exact absurd hE1 (by assumption) | exact absurd hE2 (by assumption) | exact (by assumption : _ ≠ _) hE3 | exact absurd hE4 (by assumption) | exact (by assumption : _ ≠ _) hE5 | exact (by assumption : ¬ _ = _) (wm_el (hw5 _ (by assumption)).1 (by assumption)).2 | exact (by assumption : ¬ _ = _) (wm_el (hw5 _ (by assumption)).1 (by assumption)).1 | (rw [hE1] at *; simp_all; done) | (rw [hE4] at *; simp_all; done) | exact (by assumption : ¬ (_ ∈ _)) (by rw [hu2]; exact shown_useful (by rw [← hu3]; assumption) hla (by assumption)) | (simp_all; done))
                exact ⟨by first | (rw [ho]; done) | rfl, E167⟩
              ·
                have c174 := Classical.not_not.1 c174
                refine d_runT rfl ?_
                refine d_pureT r57 (fun _ q => q) ?_
                refine d_runT rfl ?_
                refine d_pureT (.int .i64 g47) (fun _ q => q) ?_
                refine d_runT rfl ?_
                refine d_pureT (.pointer (some ⟨sblk r57, soff r57 + ((g47).toNat) * 2, none⟩)) (fun _ q => f171.idx (k := (g47).toNat) (by omega) hk172 q) ?_
                refine d_runT rfl ?_
                refine d_pureT (.pointer (some ⟨sblk r57, soff r57 + ((g47).toNat) * 2, none⟩)) (fun _ q => q) ?_
                refine d_runT rfl ?_
                refine d_pureT r46 (fun _ q => q) ?_
                refine d_runT rfl ?_
                refine d_pureT (.int .i64 g47) (fun _ q => q) ?_
                refine d_runT rfl ?_
                have f175 := (f166.ext eh165)
                refine d_pureT (.pointer (some ⟨sblk r46, soff r46 + ((g47).toNat) * 2, none⟩)) (fun _ q => f175.idx (k := (g47).toNat) (by omega) hk156 q) ?_
                refine d_runT rfl ?_
                refine d_pureT (.pointer (some ⟨sblk r46, soff r46 + ((g47).toNat) * 2, none⟩)) (fun _ q => q) ?_
                refine d_runT rfl ?_
                refine d_loadT (.bool x173.next) (fun _ q => f163.take (fun b hb => by simp [hb]) hx173 (j := 0) rfl rfl q) ?_
                refine d_runO rfl ?_
                refine d_loadO (.bool x157.next) (fun _ q => f175.load hx157 (j := 0) rfl rfl q) ?_
                refine d_runT rfl ?_
                refine d_pureT (.bool (x173.next != x157.next)) (fun _ q => q) ?_
                refine d_pureT (.bool (x173.next != x157.next)) (fun _ q => q) ?_
                refine d_done ?_
                refine p_seqN ?_
                refine v_cond rfl (fun c176 => ?_) (fun c176 => ?_)
                ·
                  refine v_seq ?_
                  refine v_ops ?_
                  refine s_pure (.bool false) (fun _ q => q) ?_
                  refine s_nil ?_
                  refine p_seqN ?_
                  refine v_ret ?_
                  refine p_seqR ?_
                  refine p_ret [.bool false] (.bool false) (fun _ q => q) rfl ?_
                  have ho : true = false := by first | rfl | (exfalso; first | omega | exact (by assumption : _ ≠ _) (oks _).1 | exact (by assumption : _ ≠ _) (oks _).2.1 | exact (by assumption : _ ≠ _) (oks _).2.2 | (have q_ := hw5 _ (by assumption); simp_all; done) | exact absurd hE1 (by assumption) | exact absurd hE2 (by assumption) | exact (by assumption : _ ≠ _) hE3 | exact absurd hE4 (by assumption) | exact (by assumption : _ ≠ _) hE5 | exact (by assumption : ¬ _ = _) (wm_el (hw5 _ (by assumption)).1 (by assumption)).2 | exact (by assumption : ¬ _ = _) (wm_el (hw5 _ (by assumption)).1 (by assumption)).1 | (rw [hE1] at *; simp_all; done) | (rw [hE4] at *; simp_all; done) | exact (by assumption : ¬ (_ ∈ _)) (by rw [hu2]; exact shown_useful (by rw [← hu3]; assumption) hla (by assumption)) | (simp_all; done))
                  exact ⟨by first | (rw [ho]; done) | rfl, E167⟩
                ·
                  have c176 := Classical.not_not.1 c176
                  refine v_skip ?_
                  refine p_seqN ?_
                  exact M66 _ _ ⟨rfl, rfl, rfl, rfl, rfl, rfl, rfl⟩ (((Ext.refl _).trans eh160).trans eh165)
        ·
          refine v_skip ?_
          refine p_seqN ?_
          exact M66 _ _ ⟨rfl, rfl, rfl, rfl, rfl, rfl, rfl⟩ (Ext.refl _)
    ·
      refine v_seq ?_
      refine v_seq ?_
      refine v_ops ?_
      refine s_pure (.bool ((ugOut g2).2)) (fun _ q => q) ?_
      refine s_pure (.bool ((ugOut g2).2)) (fun _ q => q) ?_
      refine s_pure (.bool ((ugOut g2).2 != (ugOut g2).2)) (fun _ q => q) ?_
      refine s_pure (.bool ((ugOut g2).2 != (ugOut g2).2)) (fun _ q => q) ?_
      refine s_splitN rfl (by first | assumption | omega | (simp; done) | (simp; omega) | simp_all) ?_
      refine s_run rfl ?_
      refine s_pure r7 (fun _ q => q) ?_
      refine s_run rfl ?_
      refine s_pure r12 (fun _ q => q) ?_
      refine s_run rfl ?_
      have f178 := ((((((((((s_r7.ext eh13).ext eh18).ext eh23).ext eh28).ext eh33).ext eh37).ext eh41).ext eh49).ext eh53).ext eh58)
      have f179 := (((((((((s_r12.ext eh18).ext eh23).ext eh28).ext eh33).ext eh37).ext eh41).ext eh49).ext eh53).ext eh58)
      refine s_call [r7, r12] rfl (laws_qInts_ok r7 ((ugOut g2).1) r12 ((ugOut g2).1) _ f178.toSl f179.toSl) ?_
      rintro vh177 h177 ⟨hvh177, eh177⟩
      obtain rfl : vh177 = .bool true := hvh177.trans (by rw [decide_eq_true rfl])
      have E180 := E59.trans eh177
      have z181 := eh177.size
      refine s_run rfl ?_
      refine s_pure (.bool false) (fun _ q => q) ?_
      refine s_pure (.bool false) (fun _ q => q) ?_
      refine s_pure (.bool false) (fun _ q => q) ?_
      refine s_splitN rfl (by simp) ?_
      refine s_run rfl ?_
      refine s_pure (.bool ((pbOut g2).2.2)) (fun _ q => q) ?_
      refine s_run rfl ?_
      refine s_pure (.bool ((pbOut g2).2.2)) (fun _ q => q) ?_
      refine s_run rfl ?_
      refine s_pure (.bool ((pbOut g2).2.2 != (pbOut g2).2.2)) (fun _ q => q) ?_
      refine s_pure (.bool ((pbOut g2).2.2 != (pbOut g2).2.2)) (fun _ q => q) ?_
      refine s_pure (.bool ((pbOut g2).2.2 != (pbOut g2).2.2)) (fun _ q => q) ?_
      refine s_splitN rfl (by first | assumption | omega | (simp; done) | (simp; omega) | simp_all) ?_
      refine s_run rfl ?_
      refine s_pure r17 (fun _ q => q) ?_
      refine s_run rfl ?_
      refine s_pure r22 (fun _ q => q) ?_
      refine s_run rfl ?_
      have f183 := (((((((((s_r17.ext eh23).ext eh28).ext eh33).ext eh37).ext eh41).ext eh49).ext eh53).ext eh58).ext eh177)
      have f184 := ((((((((s_r22.ext eh28).ext eh33).ext eh37).ext eh41).ext eh49).ext eh53).ext eh58).ext eh177)
      refine s_call [r17, r22] rfl (laws_qInts_ok r17 ((pbOut g2).1) r22 ((pbOut g2).1) _ f183.toSl f184.toSl) ?_
      rintro vh182 h182 ⟨hvh182, eh182⟩
      obtain rfl : vh182 = .bool true := hvh182.trans (by rw [decide_eq_true rfl])
      have E185 := E180.trans eh182
      have z186 := eh182.size
      refine s_run rfl ?_
      refine s_pure (.bool false) (fun _ q => q) ?_
      refine s_pure (.bool false) (fun _ q => q) ?_
      refine s_pure (.bool false) (fun _ q => q) ?_
      refine s_splitN rfl (by simp) ?_
      refine s_run rfl ?_
      refine s_pure (.int .i64 ((pbOut g2).2.1)) (fun _ q => q) ?_
      refine s_run rfl ?_
      refine s_pure (.int .i64 ((pbOut g2).2.1)) (fun _ q => q) ?_
      refine s_run rfl ?_
      refine s_pure (.bool ((pbOut g2).2.1 != (pbOut g2).2.1)) (fun _ q => q) ?_
      refine s_pure (.bool ((pbOut g2).2.1 != (pbOut g2).2.1)) (fun _ q => q) ?_
      refine s_pure (.bool ((pbOut g2).2.1 != (pbOut g2).2.1)) (fun _ q => q) ?_
      refine s_splitN rfl (by first | assumption | omega | (simp; done) | (simp; omega) | simp_all) ?_
      refine s_run rfl ?_
      refine s_pure (.bool ((saOut g2).2)) (fun _ q => q) ?_
      refine s_run rfl ?_
      refine s_pure (.bool ((saOut g2).2)) (fun _ q => q) ?_
      refine s_run rfl ?_
      refine s_pure (.bool ((saOut g2).2 != (saOut g2).2)) (fun _ q => q) ?_
      refine s_pure (.bool ((saOut g2).2 != (saOut g2).2)) (fun _ q => q) ?_
      refine s_pure (.bool ((saOut g2).2 != (saOut g2).2)) (fun _ q => q) ?_
      refine s_splitN rfl (by first | assumption | omega | (simp; done) | (simp; omega) | simp_all) ?_
      refine s_run rfl ?_
      refine s_pure r27 (fun _ q => q) ?_
      refine s_run rfl ?_
      refine s_pure r32 (fun _ q => q) ?_
      refine s_run rfl ?_
      have f188 := ((((((((s_r27.ext eh33).ext eh37).ext eh41).ext eh49).ext eh53).ext eh58).ext eh177).ext eh182)
      have f189 := (((((((s_r32.ext eh37).ext eh41).ext eh49).ext eh53).ext eh58).ext eh177).ext eh182)
      refine s_call [r27, r32] rfl (laws_qInts_ok r27 ((saOut g2).1) r32 ((saOut g2).1) _ f188.toSl f189.toSl) ?_
      rintro vh187 h187 ⟨hvh187, eh187⟩
      obtain rfl : vh187 = .bool true := hvh187.trans (by rw [decide_eq_true rfl])
      have E190 := E185.trans eh187
      have z191 := eh187.size
      refine s_run rfl ?_
      refine s_pure (.bool false) (fun _ q => q) ?_
      refine s_pure (.bool false) (fun _ q => q) ?_
      refine s_pure (.bool false) (fun _ q => q) ?_
      refine s_splitN rfl (by simp) ?_
      refine s_run rfl ?_
      refine s_pure (.bool ((wsOut g2).2)) (fun _ q => q) ?_
      refine s_run rfl ?_
      refine s_pure (.bool ((wsOut g2).2)) (fun _ q => q) ?_
      refine s_run rfl ?_
      refine s_pure (.bool ((wsOut g2).2 != (wsOut g2).2)) (fun _ q => q) ?_
      refine s_pure (.bool ((wsOut g2).2 != (wsOut g2).2)) (fun _ q => q) ?_
      refine s_pure (.bool ((wsOut g2).2 != (wsOut g2).2)) (fun _ q => q) ?_
      refine s_splitN rfl (by first | assumption | omega | (simp; done) | (simp; omega) | simp_all) ?_
      refine s_run rfl ?_
      refine s_pure (.int .i64 ((wsOut g2).1)) (fun _ q => q) ?_
      refine s_run rfl ?_
      refine s_pure (.int .i64 ((wsOut g2).1)) (fun _ q => q) ?_
      refine s_run rfl ?_
      refine s_pure (.bool ((wsOut g2).1 != (wsOut g2).1)) (fun _ q => q) ?_
      refine s_pure (.bool ((wsOut g2).1 != (wsOut g2).1)) (fun _ q => q) ?_
      refine s_pure (.bool ((wsOut g2).1 != (wsOut g2).1)) (fun _ q => q) ?_
      refine s_splitN rfl (by first | assumption | omega | (simp; done) | (simp; omega) | simp_all) ?_
      refine s_run rfl ?_
      refine s_pure (.bool ((wmOut g45 g47 g48).2)) (fun _ q => q) ?_
      refine s_run rfl ?_
      refine s_pure (.bool ((wmOut g45 g47 g48).2)) (fun _ q => q) ?_
      refine s_run rfl ?_
      refine s_pure (.bool ((wmOut g45 g47 g48).2 != (wmOut g45 g47 g48).2)) (fun _ q => q) ?_
      refine s_pure (.bool ((wmOut g45 g47 g48).2 != (wmOut g45 g47 g48).2)) (fun _ q => q) ?_
      refine s_pure (.bool ((wmOut g45 g47 g48).2 != (wmOut g45 g47 g48).2)) (fun _ q => q) ?_
      refine s_splitN rfl (by first | assumption | omega | (simp; done) | (simp; omega) | simp_all) ?_
      refine s_run rfl ?_
      refine s_pure r52 (fun _ q => q) ?_
      refine s_run rfl ?_
      refine s_pure r57 (fun _ q => q) ?_
      refine s_run rfl ?_
      have f193 := ((((s_r52.ext eh58).ext eh177).ext eh182).ext eh187)
      have f194 := (((s_r57.ext eh177).ext eh182).ext eh187)
      refine s_call [r52, r57] rfl (laws_qGlances_ok r52 ((wmOut g45 g47 g48).1) r57 ((wmOut g45 g47 g48).1) _ f193.toSl f194.toSl) ?_
      rintro vh192 h192 ⟨hvh192, eh192⟩
      obtain rfl : vh192 = .bool true := hvh192.trans (by rw [decide_eq_true rfl])
      have E195 := E190.trans eh192
      have z196 := eh192.size
      refine s_run rfl ?_
      refine s_pure (.bool false) (fun _ q => q) ?_
      refine s_pure (.bool false) (fun _ q => q) ?_
      refine s_pure (.bool false) (fun _ q => q) ?_
      refine s_splitN rfl (by simp) ?_
      refine s_run rfl ?_
      refine s_pure (.bool ((pbOut g2).2.2)) (fun _ q => q) ?_
      refine s_run rfl ?_
      refine s_pure (.bool ((ugOut g2).2)) (fun _ q => q) ?_
      refine s_run rfl ?_
      refine s_pure (.bool ((pbOut g2).2.2 != (ugOut g2).2)) (fun _ q => q) ?_
      refine s_pure (.bool ((pbOut g2).2.2 != (ugOut g2).2)) (fun _ q => q) ?_
      refine s_pure (.bool ((pbOut g2).2.2 != (ugOut g2).2)) (fun _ q => q) ?_
      refine s_splitT rfl (fun c197 => ?_) (fun c197 => ?_)
      ·
        refine s_pass rfl ?_
        refine s_pass rfl ?_
        refine s_pass rfl ?_
        refine s_pure (.bool true) (fun _ q => q) ?_
        refine s_pure (.bool true) (fun _ q => q) ?_
        refine s_splitY rfl rfl ?_
        refine s_pass rfl ?_
        refine s_pass rfl ?_
        refine s_pass rfl ?_
        refine s_pure (.bool true) (fun _ q => q) ?_
        refine s_nil ?_
        refine p_seqN ?_
        refine v_condY rfl rfl ?_
        refine v_seq ?_
        refine v_ops ?_
        refine s_pure (.bool false) (fun _ q => q) ?_
        refine s_nil ?_
        refine p_seqN ?_
        refine v_ret ?_
        refine p_seqR ?_
        refine p_ret [.bool false] (.bool false) (fun _ q => q) rfl ?_
        have ho : true = false := by first | rfl | (exfalso; first | omega | exact (by assumption : _ ≠ _) (oks _).1 | exact (by assumption : _ ≠ _) (oks _).2.1 | exact (by assumption : _ ≠ _) (oks _).2.2 | (have q_ := hw5 _ (by assumption); simp_all; done) | exact absurd hE1 (by assumption) | exact absurd hE2 (by assumption) | exact (by assumption : _ ≠ _) hE3 | exact absurd hE4 (by assumption) | exact (by assumption : _ ≠ _) hE5 | exact (by assumption : ¬ _ = _) (wm_el (hw5 _ (by assumption)).1 (by assumption)).2 | exact (by assumption : ¬ _ = _) (wm_el (hw5 _ (by assumption)).1 (by assumption)).1 | (rw [hE1] at *; simp_all; done) | (rw [hE4] at *; simp_all; done) | exact (by assumption : ¬ (_ ∈ _)) (by rw [hu2]; exact shown_useful (by rw [← hu3]; assumption) hla (by assumption)) | (simp_all; done))
        exact ⟨by first | (rw [ho]; done) | rfl, E195⟩
      ·
        have c197 := Classical.not_not.1 c197
        refine s_run rfl ?_
        refine s_pure (.bool ((saOut g2).2)) (fun _ q => q) ?_
        refine s_run rfl ?_
        refine s_pure (.bool ((ugOut g2).2)) (fun _ q => q) ?_
        refine s_run rfl ?_
        refine s_pure (.bool ((saOut g2).2 != (ugOut g2).2)) (fun _ q => q) ?_
        refine s_pure (.bool ((saOut g2).2 != (ugOut g2).2)) (fun _ q => q) ?_
        refine s_pure (.bool ((saOut g2).2 != (ugOut g2).2)) (fun _ q => q) ?_
        refine s_splitT rfl (fun c198 => ?_) (fun c198 => ?_)
        ·
          refine s_pass rfl ?_
          refine s_pass rfl ?_
          refine s_pass rfl ?_
          refine s_pure (.bool true) (fun _ q => q) ?_
          refine s_nil ?_
          refine p_seqN ?_
          refine v_condY rfl rfl ?_
          refine v_seq ?_
          refine v_ops ?_
          refine s_pure (.bool false) (fun _ q => q) ?_
          refine s_nil ?_
          refine p_seqN ?_
          refine v_ret ?_
          refine p_seqR ?_
          refine p_ret [.bool false] (.bool false) (fun _ q => q) rfl ?_
          have ho : true = false := by first | rfl | (exfalso; first | omega | exact (by assumption : _ ≠ _) (oks _).1 | exact (by assumption : _ ≠ _) (oks _).2.1 | exact (by assumption : _ ≠ _) (oks _).2.2 | (have q_ := hw5 _ (by assumption); simp_all; done) | exact absurd hE1 (by assumption) | exact absurd hE2 (by assumption) | exact (by assumption : _ ≠ _) hE3 | exact absurd hE4 (by assumption) | exact (by assumption : _ ≠ _) hE5 | exact (by assumption : ¬ _ = _) (wm_el (hw5 _ (by assumption)).1 (by assumption)).2 | exact (by assumption : ¬ _ = _) (wm_el (hw5 _ (by assumption)).1 (by assumption)).1 | (rw [hE1] at *; simp_all; done) | (rw [hE4] at *; simp_all; done) | exact (by assumption : ¬ (_ ∈ _)) (by rw [hu2]; exact shown_useful (by rw [← hu3]; assumption) hla (by assumption)) | (simp_all; done))
          exact ⟨by first | (rw [ho]; done) | rfl, E195⟩
        ·
          have c198 := Classical.not_not.1 c198
          refine s_run rfl ?_
          refine s_pure (.bool ((wsOut g2).2)) (fun _ q => q) ?_
          refine s_run rfl ?_
          refine s_pure (.bool ((ugOut g2).2)) (fun _ q => q) ?_
          refine s_run rfl ?_
          refine s_pure (.bool ((wsOut g2).2 != (ugOut g2).2)) (fun _ q => q) ?_
          refine s_pure (.bool ((wsOut g2).2 != (ugOut g2).2)) (fun _ q => q) ?_
          refine s_nil ?_
          refine p_seqN ?_
          refine v_cond rfl (fun c199 => ?_) (fun c199 => ?_)
          ·
            refine v_seq ?_
            refine v_ops ?_
            refine s_pure (.bool false) (fun _ q => q) ?_
            refine s_nil ?_
            refine p_seqN ?_
            refine v_ret ?_
            refine p_seqR ?_
            refine p_ret [.bool false] (.bool false) (fun _ q => q) rfl ?_
            have ho : true = false := by first | rfl | (exfalso; first | omega | exact (by assumption : _ ≠ _) (oks _).1 | exact (by assumption : _ ≠ _) (oks _).2.1 | exact (by assumption : _ ≠ _) (oks _).2.2 | (have q_ := hw5 _ (by assumption); simp_all; done) | exact absurd hE1 (by assumption) | exact absurd hE2 (by assumption) | exact (by assumption : _ ≠ _) hE3 | exact absurd hE4 (by assumption) | exact (by assumption : _ ≠ _) hE5 | exact (by assumption : ¬ _ = _) (wm_el (hw5 _ (by assumption)).1 (by assumption)).2 | exact (by assumption : ¬ _ = _) (wm_el (hw5 _ (by assumption)).1 (by assumption)).1 | (rw [hE1] at *; simp_all; done) | (rw [hE4] at *; simp_all; done) | exact (by assumption : ¬ (_ ∈ _)) (by rw [hu2]; exact shown_useful (by rw [← hu3]; assumption) hla (by assumption)) | (simp_all; done))
            exact ⟨by first | (rw [ho]; done) | rfl, E195⟩
          ·
            have c199 := Classical.not_not.1 c199
            refine v_skip ?_
            refine p_seqN ?_
            exact M61 _ _ ⟨rfl, rfl, rfl, rfl, rfl, rfl, rfl, rfl, rfl, rfl, rfl, rfl, rfl⟩ (((((Ext.refl _).trans eh177).trans eh182).trans eh187).trans eh192)

theorem law_ok (h : Heap) (v0 : Value) (x0 : List By) (s0 : Sl h v0 x0) (w0 : ∀ y ∈ x0, (0 ≤ y.n ∧ y.n ≤ 255)) (lx0 : x0.length ≤ 140737488351232) (v1 : Value) (x1 : List By) (s1 : Sl h v1 x1) (w1 : ∀ y ∈ x1, (0 ≤ y.n ∧ y.n ≤ 255)) (lx1 : x1.length ≤ 140737488351232) : Cn f_laws_FnMisreadGlances [v0, v1] h fun v h' => v = .bool true ∧ Ext h h' := laws_FnMisreadGlances_ok v0 x0 v1 x1 h s0 s1 w0 w1 lx0 lx1
end Go.Proofs.Ytpbjcaadnbeplaa.finFnMisreadGlances
