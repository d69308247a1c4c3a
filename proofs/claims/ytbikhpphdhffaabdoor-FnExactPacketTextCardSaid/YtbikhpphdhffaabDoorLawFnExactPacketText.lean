/- The law FnExactPacketText: its text returns true. Condition: none. Printed by a program. -/
import Derived.Test.YtbikhpphdhffaabDoorDr1
import Derived.Test.YtbikhpphdhffaabDoorTypes
namespace Go.Proofs.YtbikhpphdhffaabDoor.finFnExactPacketText
open Go.Vc
set_option linter.all false
set_option maxRecDepth 100000 in
set_option maxHeartbeats 2000000 in
theorem law_ok (h : Heap) (x0 : PacketD) (w0 : PacketD.good h x0) (ht : TabH Tryd.prog h) : Cn f_laws_FnExactPacketText [x0.val] h fun v h' => v = .bool true ∧ Ext h h' := by
  obtain ⟨y0_message, y0_part, y0_parts, y0_signals⟩ := x0
  obtain ⟨b_y0_message, b_y0_part, b_y0_parts, ⟨x0_signals, s_v0_signals, _⟩⟩ := w0
  change I64 y0_message at b_y0_message
  unfold I64 at b_y0_message
  change I64 y0_part at b_y0_part
  unfold I64 at b_y0_part
  change I64 y0_parts at b_y0_parts
  unfold I64 at b_y0_parts
  change Sl h y0_signals.v x0_signals at s_v0_signals
  have lt_v0_signals := s_v0_signals.lt
  refine calls_of r_laws_FnExactPacketText ?_
  refine v_seq ?_
  refine v_ops ?_
  refine s_box [.int .i64 y0_message, .int .i64 y0_part, .int .i64 y0_parts, y0_signals.v] rfl (fun h2 b1 hbb1 hzb1 eh2 bxb1 => ?_)
  have E3 := (Ext.refl h).trans eh2
  have z4 := eh2.size
  have lbb1 := bxb1.lt
  refine s_pure (.bool false) (fun _ q => q) ?_
  refine s_nil ?_
  refine p_seqN ?_
  refine v_seq ?_
  refine v_ops ?_
  refine s_pure (.int .i64 1048576) (fun _ q => q) ?_
  refine s_nil ?_
  refine p_seqN ?_
  refine v_seq ?_
  refine v_ops ?_
  refine s_load (.agg #[.int .i64 y0_message, .int .i64 y0_part, .int .i64 y0_parts, y0_signals.v]) (fun _ q => bxb1.loadA rfl q) ?_
  refine s_pure (.int .i64 1048576) (fun _ q => q) ?_
  have f5 := (s_v0_signals.ext eh2)
  refine s_call [.agg #[.int .i64 y0_message, .int .i64 y0_part, .int .i64 y0_parts, y0_signals.v], .int .i64 1048576] rfl (szPacket_ok y0_message y0_part y0_parts y0_signals.v x0_signals 1048576 _ f5 (by omega) (by omega)) ?_
  rintro _ h6 ⟨n7, rfl, eh6, hmn7, hkn7⟩
  have E8 := E3.trans eh6
  have z9 := eh6.size
  refine s_pure (.int .i64 n7) (fun _ q => q) ?_
  refine s_nil ?_
  refine p_seqN ?_
  refine v_seq ?_
  refine v_seq ?_
  refine v_ops ?_
  refine s_pure (.int .i64 n7) (fun _ q => q) ?_
  refine s_pure (.bool (decide (n7 < 0))) (fun _ q => q) ?_
  refine s_nil ?_
  refine p_seqN ?_
  refine v_cond rfl (fun c10 => ?_) (fun c10 => ?_)
  ·
    refine v_seq ?_
    refine v_ops ?_
    refine s_pure (.bool true) (fun _ q => q) ?_
    refine s_nil ?_
    refine p_seqN ?_
    refine v_ret ?_
    refine p_seqR ?_
    refine p_ret [.bool true] (.bool true) (fun _ q => q) rfl ?_
    exact ⟨rfl, E8⟩
  obtain ⟨hmn7, hkn7⟩ := And.intro (hmn7 (by omega)) hkn7
  have bd11 : x0_signals.length ≤ 1048576 := by omega
  refine v_skip ?_
  refine p_seqN ?_
  refine v_seq ?_
  refine v_ops ?_
  have f12 := (bxb1.ext eh6)
  refine s_load (.agg #[.int .i64 y0_message, .int .i64 y0_part, .int .i64 y0_parts, y0_signals.v]) (fun _ q => f12.loadA rfl q) ?_
  have f13 := (f5.ext eh6)
  refine s_call [.agg #[.int .i64 y0_message, .int .i64 y0_part, .int .i64 y0_parts, y0_signals.v]] rfl (toPacket_ok y0_message y0_part y0_parts y0_signals.v x0_signals _ f13 bd11) ?_
  rintro _ h14 ⟨r15, rfl, s_r15, eh14, fr_r15⟩
  have E16 := E8.trans eh14
  have z17 := eh14.size
  have lt_r15 := s_r15.lt
  refine s_call [.agg #[.int .i64 y0_message, .int .i64 y0_part, .int .i64 y0_parts, r15]] rfl (spec_PacketText_ok (⟨y0_message, y0_part, y0_parts, x0_signals⟩ : PkP) r15 _ s_r15.toSl) ?_
  rintro _ h18 ⟨rfl, eh18⟩
  have E19 := E16.trans eh18
  have z20 := eh18.size
  refine s_pure (.tuple #[.string ((ptOut (⟨y0_message, y0_part, y0_parts, x0_signals⟩ : PkP)).1), .bool ((ptOut (⟨y0_message, y0_part, y0_parts, x0_signals⟩ : PkP)).2)]) (fun _ q => q) ?_
  refine s_pure (.string ((ptOut (⟨y0_message, y0_part, y0_parts, x0_signals⟩ : PkP)).1)) (fun _ q => q) ?_
  refine s_pure (.bool ((ptOut (⟨y0_message, y0_part, y0_parts, x0_signals⟩ : PkP)).2)) (fun _ q => q) ?_
  refine s_pure (.string ((ptOut (⟨y0_message, y0_part, y0_parts, x0_signals⟩ : PkP)).1)) (fun _ q => q) ?_
  refine s_pure (.bool ((ptOut (⟨y0_message, y0_part, y0_parts, x0_signals⟩ : PkP)).2)) (fun _ q => q) ?_
  refine s_nil ?_
  refine p_seqN ?_
  refine v_seq ?_
  refine v_ops ?_
  have f21 := ((f12.ext eh14).ext eh18)
  refine s_load (.agg #[.int .i64 y0_message, .int .i64 y0_part, .int .i64 y0_parts, y0_signals.v]) (fun _ q => f21.loadA rfl q) ?_
  have f22 := ((f13.ext eh14).ext eh18)
  refine s_call [.agg #[.int .i64 y0_message, .int .i64 y0_part, .int .i64 y0_parts, y0_signals.v]] rfl (toPacket_ok y0_message y0_part y0_parts y0_signals.v x0_signals _ f22 bd11) ?_
  rintro _ h23 ⟨r24, rfl, s_r24, eh23, fr_r24⟩
  have E25 := E19.trans eh23
  have z26 := eh23.size
  have lt_r24 := s_r24.lt
  refine s_new (fun h28 b27 hbb27 hzb27 eh28 bxb27 => ?_)
  have E29 := E25.trans eh28
  have z30 := eh28.size
  have lbb27 := bxb27.lt
  refine s_stBx (.agg #[.int .i64 y0_message, .int .i64 y0_part, .int .i64 y0_parts, r24]) [.int .i64 y0_message, .int .i64 y0_part, .int .i64 y0_parts, r24] [.int .i64 y0_message, .int .i64 y0_part, .int .i64 y0_parts, r24] bxb27 rfl rfl rfl rfl (by simp) (all_cons rfl (all_cons rfl (all_cons rfl (all_cons s_r24.one1 all_nil)))) rfl (fun h31 mh31 sh31 bxx32 => ?_)
  have E33 := E29.mod mh31 (fun b hb => by simp at hb; omega)
  refine s_nil ?_
  refine p_seqN ?_
  refine v_seq ?_
  refine v_ops ?_
  refine s_load (.agg #[.int .i64 y0_message, .int .i64 y0_part, .int .i64 y0_parts, r24]) (fun _ q => bxx32.loadA rfl q) ?_
  have f34 := ((s_r24.ext eh28).mod mh31 (fun b hb hc => by simp at hc; have := lt_r24 b hb; omega))
  refine s_call [.agg #[.int .i64 y0_message, .int .i64 y0_part, .int .i64 y0_parts, r24]] rfl (impl_PacketText_ok (⟨y0_message, y0_part, y0_parts, x0_signals⟩ : PkP) r24 _ f34.toSl (ht.ext E33)) ?_
  rintro _ h35 ⟨rfl, eh35⟩
  have E36 := E33.trans eh35
  have z37 := eh35.size
  refine s_pure (.tuple #[.string ((ptOut (⟨y0_message, y0_part, y0_parts, x0_signals⟩ : PkP)).1), .bool ((ptOut (⟨y0_message, y0_part, y0_parts, x0_signals⟩ : PkP)).2)]) (fun _ q => q) ?_
  refine s_pure (.string ((ptOut (⟨y0_message, y0_part, y0_parts, x0_signals⟩ : PkP)).1)) (fun _ q => q) ?_
  refine s_pure (.bool ((ptOut (⟨y0_message, y0_part, y0_parts, x0_signals⟩ : PkP)).2)) (fun _ q => q) ?_
  refine s_pure (.string ((ptOut (⟨y0_message, y0_part, y0_parts, x0_signals⟩ : PkP)).1)) (fun _ q => q) ?_
  refine s_pure (.bool ((ptOut (⟨y0_message, y0_part, y0_parts, x0_signals⟩ : PkP)).2)) (fun _ q => q) ?_
  refine s_nil ?_
  refine p_seqN ?_
  refine v_seq ?_
  refine v_seq ?_
  refine v_ops ?_
  refine s_pure (.string ((ptOut (⟨y0_message, y0_part, y0_parts, x0_signals⟩ : PkP)).1)) (fun _ q => q) ?_
  refine s_pure (.string ((ptOut (⟨y0_message, y0_part, y0_parts, x0_signals⟩ : PkP)).1)) (fun _ q => q) ?_
  refine s_pure (.bool (!((ptOut (⟨y0_message, y0_part, y0_parts, x0_signals⟩ : PkP)).1.toList == (ptOut (⟨y0_message, y0_part, y0_parts, x0_signals⟩ : PkP)).1.toList))) (fun _ q => q) ?_
  refine s_pure (.bool (!((ptOut (⟨y0_message, y0_part, y0_parts, x0_signals⟩ : PkP)).1.toList == (ptOut (⟨y0_message, y0_part, y0_parts, x0_signals⟩ : PkP)).1.toList))) (fun _ q => q) ?_
  refine s_splitN rfl (by first | assumption | omega | (simp; done) | (simp; omega) | simp_all) ?_
  refine s_run rfl ?_
  refine s_pure (.bool ((ptOut (⟨y0_message, y0_part, y0_parts, x0_signals⟩ : PkP)).2)) (fun _ q => q) ?_
  refine s_run rfl ?_
  refine s_pure (.bool ((ptOut (⟨y0_message, y0_part, y0_parts, x0_signals⟩ : PkP)).2)) (fun _ q => q) ?_
  refine s_run rfl ?_
  refine s_pure (.bool ((ptOut (⟨y0_message, y0_part, y0_parts, x0_signals⟩ : PkP)).2 != (ptOut (⟨y0_message, y0_part, y0_parts, x0_signals⟩ : PkP)).2)) (fun _ q => q) ?_
  refine s_pure (.bool ((ptOut (⟨y0_message, y0_part, y0_parts, x0_signals⟩ : PkP)).2 != (ptOut (⟨y0_message, y0_part, y0_parts, x0_signals⟩ : PkP)).2)) (fun _ q => q) ?_
  refine s_nil ?_
  refine p_seqN ?_
  refine v_condN rfl (by first | assumption | omega | (simp; done) | (simp; omega) | simp_all) ?_
  refine v_skip ?_
  refine p_seqN ?_
  refine v_seq ?_
  refine v_seq ?_
  have f38 := (bxx32.ext eh35)
  refine v_draw (DrawVC.hold ([b27]) ?_)
  have f39 := ((((f21.ext eh23).ext eh28).mod mh31 (by simp; omega)).ext eh35)
  refine d_loadO (.agg #[.int .i64 y0_message, .int .i64 y0_part, .int .i64 y0_parts, y0_signals.v]) (fun _ q => f39.loadA rfl q) ?_
  refine d_loadT (.agg #[.int .i64 y0_message, .int .i64 y0_part, .int .i64 y0_parts, r24]) (fun _ q => f38.takeA (by simp) rfl q) ?_
  refine d_eff ?_
  have f40 := ((((f22.ext eh23).ext eh28).mod mh31 (fun b hb hc => by simp at hc; have := lt_v0_signals b hb; omega)).ext eh35)
  refine s_call [.agg #[.int .i64 y0_message, .int .i64 y0_part, .int .i64 y0_parts, y0_signals.v]] rfl (toPacket_ok y0_message y0_part y0_parts y0_signals.v x0_signals _ f40 bd11) ?_
  rintro _ h41 ⟨r42, rfl, s_r42, eh41, fr_r42⟩
  have E43 := E36.trans eh41
  have z44 := eh41.size
  have G45 := eh41
  have lt_r42 := s_r42.lt
  refine s_nil ⟨fun _ x hx => G45.blk x (by simp at hx; omega), ?_⟩
  refine d_eff ?_
  have f46 := ((f34.ext eh35).ext eh41)
  refine s_call [.agg #[.int .i64 y0_message, .int .i64 y0_part, .int .i64 y0_parts, r24], .agg #[.int .i64 y0_message, .int .i64 y0_part, .int .i64 y0_parts, r42]] rfl (eqPacket_ok y0_message y0_part y0_parts r24 x0_signals y0_message y0_part y0_parts r42 x0_signals _ f46.toSl s_r42.toSl) ?_
  rintro _ h47 ⟨rfl, eh47⟩
  have E48 := E43.trans eh47
  have z49 := eh47.size
  have G50 := G45.trans eh47
  refine s_nil ⟨fun hl => (by cases hl), ?_⟩
  refine d_pureT (.bool (!(decide (y0_message = y0_message ∧ y0_part = y0_part ∧ y0_parts = y0_parts ∧ x0_signals = x0_signals)))) (fun _ q => q) ?_
  refine d_done ?_
  refine p_seqN ?_
  refine v_condN rfl (by first | assumption | omega | (simp; done) | (simp; omega) | simp_all) ?_
  refine v_skip ?_
  refine p_seqN ?_
  refine v_seq ?_
  refine v_ops ?_
  refine s_pure (.bool true) (fun _ q => q) ?_
  refine s_nil ?_
  refine p_seqN ?_
  refine v_ret ?_
  refine p_ret [.bool true] (.bool true) (fun _ q => q) rfl ?_
  exact ⟨rfl, E48⟩
end Go.Proofs.YtbikhpphdhffaabDoor.finFnExactPacketText
