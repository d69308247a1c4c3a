/- The laws' helper toPacket. Condition: none. Printed in part by a program. -/
import Derived.Test.YtbikhpphdhffaabDoorStep2
import Derived.Test.YtbikhpphdhffaabDoorSzI
import Derived.Test.YtbikhpphdhffaabDoorCom2
import Derived.Test.YtbikhpphdhffaabDoorLaws2
import Derived.Test.YtbikhpphdhffaabDoorFind
namespace Go.Proofs.YtbikhpphdhffaabDoor
open Go.Vc
set_option linter.all false
theorem toPacket_ok (a0 : Int) (a1 : Int) (a2 : Int) (v_a3 : Value) (a3 : List Int) (h : Heap) (s_a3 : Sl h v_a3 a3) (hb3 : a3.length ≤ 1048576) : Cn f_laws_toPacket [.agg #[.int .i64 a0, .int .i64 a1, .int .i64 a2, v_a3]] h fun v h' => ∃ r, v = .agg #[.int .i64 a0, .int .i64 a1, .int .i64 a2, r] ∧ SlO h' r a3 ∧ Ext h h' ∧ Fr h.size r := by
  have lt_a3 := s_a3.lt
  have l63_a3 := s_a3.len63
  refine calls_of r_laws_toPacket ?_
  refine v_seq ?_
  refine v_ops ?_
  refine s_box [.int .i64 a0, .int .i64 a1, .int .i64 a2, v_a3] rfl (fun h2 b1 hbb1 hzb1 eh2 bxb1 => ?_)
  have E3 := (Ext.refl h).trans eh2
  have z4 := eh2.size
  have lbb1 := bxb1.lt
  refine s_new (fun h6 b5 hbb5 hzb5 eh6 bxb5 => ?_)
  have E7 := E3.trans eh6
  have z8 := eh6.size
  have lbb5 := bxb5.lt
  refine s_nil ?_
  refine p_seqN ?_
  refine v_seq ?_
  refine v_ops ?_
  refine s_new (fun h10 b9 hbb9 hzb9 eh10 bxb9 => ?_)
  have E11 := E7.trans eh10
  have z12 := eh10.size
  have lbb9 := bxb9.lt
  refine s_nil ?_
  refine p_seqN ?_
  refine v_seq ?_
  refine v_ops ?_
  refine s_pure (.pointer (some ⟨b1, 0, none⟩)) (fun _ q => q) ?_
  have f13 := ((bxb1.ext eh6).ext eh10)
  refine s_load (.int .i64 a0) (fun _ q => f13.load rfl q) ?_
  refine s_pure (.pointer (some ⟨b9, 0, none⟩)) (fun _ q => q) ?_
  refine s_stBx (.int .i64 a0) [.int .i64 a0] [.int .i64 a0, .int .i64 0, .int .i64 0, .slice none 0 0] bxb9 rfl rfl rfl rfl (by simp) (all_cons rfl all_nil) rfl (fun h14 mh14 sh14 bxx15 => ?_)
  have E16 := E11.mod mh14 (fun b hb => by simp at hb; omega)
  refine s_nil ?_
  refine p_seqN ?_
  refine v_seq ?_
  refine v_ops ?_
  refine s_pure (.pointer (some ⟨b1, 1, none⟩)) (fun _ q => q) ?_
  have f17 := (f13.mod mh14 (by simp; omega))
  refine s_load (.int .i64 a1) (fun _ q => f17.load rfl q) ?_
  refine s_pure (.pointer (some ⟨b9, 1, none⟩)) (fun _ q => q) ?_
  refine s_stBx (.int .i64 a1) [.int .i64 a1] [.int .i64 a0, .int .i64 a1, .int .i64 0, .slice none 0 0] bxx15 rfl rfl rfl rfl (by simp) (all_cons rfl all_nil) rfl (fun h18 mh18 sh18 bxx19 => ?_)
  have E20 := E16.mod mh18 (fun b hb => by simp at hb; omega)
  refine s_nil ?_
  refine p_seqN ?_
  refine v_seq ?_
  refine v_ops ?_
  refine s_pure (.pointer (some ⟨b1, 2, none⟩)) (fun _ q => q) ?_
  have f21 := (f17.mod mh18 (by simp; omega))
  refine s_load (.int .i64 a2) (fun _ q => f21.load rfl q) ?_
  refine s_pure (.pointer (some ⟨b9, 2, none⟩)) (fun _ q => q) ?_
  refine s_stBx (.int .i64 a2) [.int .i64 a2] [.int .i64 a0, .int .i64 a1, .int .i64 a2, .slice none 0 0] bxx19 rfl rfl rfl rfl (by simp) (all_cons rfl all_nil) rfl (fun h22 mh22 sh22 bxx23 => ?_)
  have E24 := E20.mod mh22 (fun b hb => by simp at hb; omega)
  refine s_nil ?_
  refine p_seqN ?_
  refine v_seq ?_
  refine v_ops ?_
  refine s_pure (.pointer (some ⟨b1, 3, none⟩)) (fun _ q => q) ?_
  have f25 := (f21.mod mh22 (by simp; omega))
  refine s_load v_a3 (fun _ q => f25.load rfl q) ?_
  have f28 := ((((((s_a3.ext eh2).ext eh6).ext eh10).mod mh14 (fun b hb hc => by simp at hc; have := lt_a3 b hb; omega)).mod mh18 (fun b hb hc => by simp at hc; have := lt_a3 b hb; omega)).mod mh22 (fun b hb hc => by simp at hc; have := lt_a3 b hb; omega))
  refine s_call [v_a3] rfl (toIntS_ok _ _ _ f28 hb3) ?_
  rintro r26 h27 ⟨s_r26, eh27, fr_r26⟩
  have E29 := E24.trans eh27
  have z30 := eh27.size
  have lt_r26 := s_r26.lt
  refine s_pure (.pointer (some ⟨b9, 3, none⟩)) (fun _ q => q) ?_
  have f31 := (bxx23.ext eh27)
  refine s_stBx r26 [r26] [.int .i64 a0, .int .i64 a1, .int .i64 a2, r26] f31 rfl rfl s_r26.cellsv rfl (by simp) (all_cons s_r26.one1 all_nil) rfl (fun h32 mh32 sh32 bxx33 => ?_)
  have E34 := E29.mod mh32 (fun b hb => by simp at hb; omega)
  refine s_nil ?_
  refine p_seqN ?_
  refine v_seq ?_
  refine v_ops ?_
  refine s_load (.agg #[.int .i64 a0, .int .i64 a1, .int .i64 a2, r26]) (fun _ q => bxx33.loadA rfl q) ?_
  have f35 := ((((((bxb5.ext eh10).mod mh14 (by simp; omega)).mod mh18 (by simp; omega)).mod mh22 (by simp; omega)).ext eh27).mod mh32 (by simp; omega))
  refine s_stBx (.agg #[.int .i64 a0, .int .i64 a1, .int .i64 a2, r26]) [.int .i64 a0, .int .i64 a1, .int .i64 a2, r26] [.int .i64 a0, .int .i64 a1, .int .i64 a2, r26] f35 rfl rfl rfl rfl (by simp) (all_cons rfl (all_cons rfl (all_cons rfl (all_cons s_r26.one1 all_nil)))) rfl (fun h36 mh36 sh36 bxx37 => ?_)
  have E38 := E34.mod mh36 (fun b hb => by simp at hb; omega)
  refine s_nil ?_
  refine p_seqN ?_
  refine v_ret ?_
  refine p_ret [.agg #[.int .i64 a0, .int .i64 a1, .int .i64 a2, r26]] (.agg #[.int .i64 a0, .int .i64 a1, .int .i64 a2, r26]) (fun _ q => (bxx37.loadA rfl q)) rfl ?_
  have f39 := ((s_r26.mod mh32 (fun b hb hc => by simp at hc; have := fr_r26 b hb; omega)).mod mh36 (fun b hb hc => by simp at hc; have := fr_r26 b hb; omega))
  exact ⟨_, rfl, f39, E38, fr_r26.mono (by omega)⟩

end Go.Proofs.YtbikhpphdhffaabDoor

