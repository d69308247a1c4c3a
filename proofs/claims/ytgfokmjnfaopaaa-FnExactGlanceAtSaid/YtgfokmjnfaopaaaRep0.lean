/- The laws' helper toRepeater. Condition: none. Printed in part by a program. -/
import Derived.Test.YtgfokmjnfaopaaaStep2
import Derived.Test.YtgfokmjnfaopaaaSzI
import Derived.Test.YtgfokmjnfaopaaaRp1
namespace Go.Proofs.Ytgfokmjnfaopaaa
open Go.Vc
theorem toRepeater_ok (a0 : Int) (a1 : Int) (a2 : Int) (a3 : Int) (v_a4 : Value) (a4 : List Int) (h : Heap) (s_a4 : Sl h v_a4 a4) (hb4 : a4.length ≤ 1048576) : Cn f_laws_toRepeater [.agg #[.int .i64 a0, .int .i64 a1, .int .i64 a2, .int .i64 a3, v_a4]] h fun v h' => ∃ r, v = .agg #[.int .i64 a0, .int .i64 a1, .int .i64 a2, .int .i64 a3, r] ∧ SlO h' r a4 ∧ Ext h h' ∧ Fr h.size r := by
  have lt_a4 := s_a4.lt
  have l63_a4 := s_a4.len63
  refine calls_of r_laws_toRepeater ?_
  refine v_seq ?_
  refine v_ops ?_
  refine s_box [.int .i64 a0, .int .i64 a1, .int .i64 a2, .int .i64 a3, v_a4] rfl (fun h2 b1 hbb1 hzb1 eh2 bxb1 => ?_)
  have E3 := (Ext.refl h).trans eh2
  have z4 := eh2.size
  have lbb1 := bxb1.lt
  refine s_new (fun h6 b5 hbb5 hzb5 eh6 bxb5 => ?_)
  have E7 := E3.trans eh6
  have z8 := eh6.size
  have lbb5 := bxb5.lt
  refine s_nil ?_
  refine p_seqN ?_
  refine v_seq ?_
  refine v_ops ?_
  refine s_new (fun h10 b9 hbb9 hzb9 eh10 bxb9 => ?_)
  have E11 := E7.trans eh10
  have z12 := eh10.size
  have lbb9 := bxb9.lt
  refine s_nil ?_
  refine p_seqN ?_
  refine v_seq ?_
  refine v_ops ?_
  refine s_pure (.pointer (some ⟨b1, 0, none⟩)) (fun _ q => q) ?_
  have f13 := ((bxb1.ext eh6).ext eh10)
  refine s_load (.int .i64 a0) (fun _ q => f13.load rfl q) ?_
  refine s_pure (.pointer (some ⟨b9, 0, none⟩)) (fun _ q => q) ?_
  refine s_stBx (.int .i64 a0) [.int .i64 a0] [.int .i64 a0, .int .i64 0, .int .i64 0, .int .i64 0, .slice none 0 0] bxb9 rfl rfl rfl rfl (by simp) (all_cons rfl all_nil) rfl (fun h14 mh14 sh14 bxx15 => ?_)
  have E16 := E11.mod mh14 (fun b hb => by simp at hb; omega)
  refine s_nil ?_
  refine p_seqN ?_
  refine v_seq ?_
  refine v_ops ?_
  refine s_pure (.pointer (some ⟨b1, 1, none⟩)) (fun _ q => q) ?_
  have f17 := (f13.mod mh14 (by simp; omega))
  refine s_load (.int .i64 a1) (fun _ q => f17.load rfl q) ?_
  refine s_pure (.pointer (some ⟨b9, 1, none⟩)) (fun _ q => q) ?_
  refine s_stBx (.int .i64 a1) [.int .i64 a1] [.int .i64 a0, .int .i64 a1, .int .i64 0, .int .i64 0, .slice none 0 0] bxx15 rfl rfl rfl rfl (by simp) (all_cons rfl all_nil) rfl (fun h18 mh18 sh18 bxx19 => ?_)
  have E20 := E16.mod mh18 (fun b hb => by simp at hb; omega)
  refine s_nil ?_
  refine p_seqN ?_
  refine v_seq ?_
  refine v_ops ?_
  refine s_pure (.pointer (some ⟨b1, 2, none⟩)) (fun _ q => q) ?_
  have f21 := (f17.mod mh18 (by simp; omega))
  refine s_load (.int .i64 a2) (fun _ q => f21.load rfl q) ?_
  refine s_pure (.pointer (some ⟨b9, 2, none⟩)) (fun _ q => q) ?_
  refine s_stBx (.int .i64 a2) [.int .i64 a2] [.int .i64 a0, .int .i64 a1, .int .i64 a2, .int .i64 0, .slice none 0 0] bxx19 rfl rfl rfl rfl (by simp) (all_cons rfl all_nil) rfl (fun h22 mh22 sh22 bxx23 => ?_)
  have E24 := E20.mod mh22 (fun b hb => by simp at hb; omega)
  refine s_nil ?_
  refine p_seqN ?_
  refine v_seq ?_
  refine v_ops ?_
  refine s_pure (.pointer (some ⟨b1, 3, none⟩)) (fun _ q => q) ?_
  have f25 := (f21.mod mh22 (by simp; omega))
  refine s_load (.int .i64 a3) (fun _ q => f25.load rfl q) ?_
  refine s_pure (.pointer (some ⟨b9, 3, none⟩)) (fun _ q => q) ?_
  refine s_stBx (.int .i64 a3) [.int .i64 a3] [.int .i64 a0, .int .i64 a1, .int .i64 a2, .int .i64 a3, .slice none 0 0] bxx23 rfl rfl rfl rfl (by simp) (all_cons rfl all_nil) rfl (fun h26 mh26 sh26 bxx27 => ?_)
  have E28 := E24.mod mh26 (fun b hb => by simp at hb; omega)
  refine s_nil ?_
  refine p_seqN ?_
  refine v_seq ?_
  refine v_ops ?_
  refine s_pure (.pointer (some ⟨b1, 4, none⟩)) (fun _ q => q) ?_
  have f29 := (f25.mod mh26 (by simp; omega))
  refine s_load v_a4 (fun _ q => f29.load rfl q) ?_
  have f32 := (((((((s_a4.ext eh2).ext eh6).ext eh10).mod mh14 (fun b hb hc => by simp at hc; have := lt_a4 b hb; omega)).mod mh18 (fun b hb hc => by simp at hc; have := lt_a4 b hb; omega)).mod mh22 (fun b hb hc => by simp at hc; have := lt_a4 b hb; omega)).mod mh26 (fun b hb hc => by simp at hc; have := lt_a4 b hb; omega))
  refine s_call [v_a4] rfl (toIntS_ok _ _ _ f32 hb4) ?_
  rintro r30 h31 ⟨s_r30, eh31, fr_r30⟩
  have E33 := E28.trans eh31
  have z34 := eh31.size
  have lt_r30 := s_r30.lt
  refine s_pure (.pointer (some ⟨b9, 4, none⟩)) (fun _ q => q) ?_
  have f35 := (bxx27.ext eh31)
  refine s_stBx r30 [r30] [.int .i64 a0, .int .i64 a1, .int .i64 a2, .int .i64 a3, r30] f35 rfl rfl s_r30.cellsv rfl (by simp) (all_cons s_r30.one1 all_nil) rfl (fun h36 mh36 sh36 bxx37 => ?_)
  have E38 := E33.mod mh36 (fun b hb => by simp at hb; omega)
  refine s_nil ?_
  refine p_seqN ?_
  refine v_seq ?_
  refine v_ops ?_
  refine s_load (.agg #[.int .i64 a0, .int .i64 a1, .int .i64 a2, .int .i64 a3, r30]) (fun _ q => bxx37.loadA rfl q) ?_
  have f39 := (s_r30.mod mh36 (fun b hb hc => by simp at hc; have := fr_r30 b hb; omega))
  have f40 := (((((((bxb5.ext eh10).mod mh14 (by simp; omega)).mod mh18 (by simp; omega)).mod mh22 (by simp; omega)).mod mh26 (by simp; omega)).ext eh31).mod mh36 (by simp; omega))
  refine s_stBx (.agg #[.int .i64 a0, .int .i64 a1, .int .i64 a2, .int .i64 a3, r30]) [.int .i64 a0, .int .i64 a1, .int .i64 a2, .int .i64 a3, r30] [.int .i64 a0, .int .i64 a1, .int .i64 a2, .int .i64 a3, r30] f40 rfl rfl rfl rfl (by simp) (all_cons rfl (all_cons rfl (all_cons rfl (all_cons rfl (all_cons f39.one1 all_nil))))) rfl (fun h41 mh41 sh41 bxx42 => ?_)
  have E43 := E38.mod mh41 (fun b hb => by simp at hb; omega)
  refine s_nil ?_
  refine p_seqN ?_
  refine v_ret ?_
  refine p_ret [.agg #[.int .i64 a0, .int .i64 a1, .int .i64 a2, .int .i64 a3, r30]] (.agg #[.int .i64 a0, .int .i64 a1, .int .i64 a2, .int .i64 a3, r30]) (fun _ q => (bxx42.loadA rfl q)) rfl ?_
  have f44 := (f39.mod mh41 (fun b hb hc => by simp at hc; have := fr_r30 b hb; omega))
  exact ⟨_, rfl, f44, E43, fr_r30.mono (by omega)⟩

end Go.Proofs.Ytgfokmjnfaopaaa
