/- The law FnExactArePackets: its text returns true. Condition: none. Printed by a program. -/
import Derived.Test.YtjmcijcdncgaiaaPk3
namespace Go.Proofs.Ytjmcijcdncgaiaa.finFnExactArePackets
open Go.Vc
set_option linter.all false
set_option maxRecDepth 100000 in
set_option maxHeartbeats 2000000 in
theorem law_ok (h : Heap) (v0 : Value) (x0 : List PacketD) (s_x0 : Sl h v0 x0) (g0 : ∀ y ∈ x0, PacketD.good h y) : Cn f_laws_FnExactArePackets [v0] h fun v h' => v = .bool true ∧ Ext h h' := by
  obtain ⟨q0, s_v0, in_v0⟩ := pk_open s_x0 g0
  have lt_v0 := s_v0.lt
  have inlt_v0 := fun p hp => (in_v0 p hp).lt
  refine calls_of r_laws_FnExactArePackets ?_
  refine v_seq ?_
  refine v_ops ?_
  refine s_pure (.bool false) (fun _ q => q) ?_
  refine s_nil ?_
  refine p_seqN ?_
  refine v_seq ?_
  refine v_ops ?_
  refine s_pure (.int .i64 1048576) (fun _ q => q) ?_
  refine s_nil ?_
  refine p_seqN ?_
  refine v_seq ?_
  refine v_ops ?_
  refine s_pure v0 (fun _ q => q) ?_
  refine s_pure (.int .i64 1048576) (fun _ q => q) ?_
  refine s_call [v0, .int .i64 1048576] rfl (szPacketS_ok v0 q0 1048576 _ s_v0 in_v0 (by omega) (by omega)) ?_
  rintro _ h1 ⟨n2, rfl, eh1, hmn2, hkn2⟩
  have E3 := (Ext.refl h).trans eh1
  have z4 := eh1.size
  refine s_pure (.int .i64 n2) (fun _ q => q) ?_
  refine s_nil ?_
  refine p_seqN ?_
  refine v_seq ?_
  refine v_seq ?_
  refine v_ops ?_
  refine s_pure (.int .i64 n2) (fun _ q => q) ?_
  refine s_pure (.bool (decide (n2 < 0))) (fun _ q => q) ?_
  refine s_nil ?_
  refine p_seqN ?_
  refine v_cond rfl (fun c5 => ?_) (fun c5 => ?_)
  ·
    refine v_seq ?_
    refine v_ops ?_
    refine s_pure (.bool true) (fun _ q => q) ?_
    refine s_nil ?_
    refine p_seqN ?_
    refine v_ret ?_
    refine p_seqR ?_
    refine p_ret [.bool true] (.bool true) (fun _ q => q) rfl ?_
    exact ⟨rfl, E3⟩
  obtain ⟨hmn2, hkn2⟩ := And.intro (hmn2 (by omega)) hkn2
  have bd6 : sigs q0 ≤ 1048576 := by omega
  have bd62 : q0.length ≤ 1048576 := by omega
  have bd63 := szD_eq q0
  refine v_skip ?_
  refine p_seqN ?_
  refine v_seq ?_
  refine v_ops ?_
  refine s_pure v0 (fun _ q => q) ?_
  have f7 := (s_v0.ext eh1)
  have in8 := fun p hp => (in_v0 p hp).ext eh1
  refine s_call [v0] rfl (toPacketS_ok v0 q0 _ f7 in8 bd6 bd62) ?_
  rintro r10 h9 ⟨_, qr10, rfl, s_r10, dq_r10, eh9⟩
  have E11 := E3.trans eh9
  have z12 := eh9.size
  have lt_r10 := s_r10.lt
  have fr_r10 := s_r10.fr
  refine s_call [r10] rfl (spec_ArePackets_ok r10 qr10 (q0.map Pk.p) _ s_r10.row.toSl s_r10.insL dq_r10) ?_
  rintro _ h13 ⟨rfl, eh13⟩
  have E14 := E11.trans eh13
  have z15 := eh13.size
  refine s_pure (.bool (decide (PksOk (q0.map Pk.p)))) (fun _ q => q) ?_
  refine s_nil ?_
  refine p_seqN ?_
  refine v_seq ?_
  refine v_ops ?_
  refine s_pure v0 (fun _ q => q) ?_
  have f16 := ((f7.ext eh9).ext eh13)
  have in17 := fun p hp => (in8 p hp).ext eh9
  have in18 := fun p hp => (in17 p hp).ext eh13
  refine s_call [v0] rfl (toPacketS_ok v0 q0 _ f16 in18 bd6 bd62) ?_
  rintro r20 h19 ⟨_, qr20, rfl, s_r20, dq_r20, eh19⟩
  have E21 := E14.trans eh19
  have z22 := eh19.size
  have lt_r20 := s_r20.lt
  have fr_r20 := s_r20.fr
  refine s_pure r20 (fun _ q => q) ?_
  refine s_nil ?_
  refine p_seqN ?_
  refine v_seq ?_
  refine v_ops ?_
  refine s_pure r20 (fun _ q => q) ?_
  refine s_call [r20] rfl (impl_ArePackets_ok r20 qr20 (q0.map Pk.p) _ s_r20.row.toSl s_r20.insL dq_r20) ?_
  rintro _ h23 ⟨rfl, eh23⟩
  have E24 := E21.trans eh23
  have z25 := eh23.size
  refine s_pure (.bool (decide (PksOk (q0.map Pk.p)))) (fun _ q => q) ?_
  refine s_nil ?_
  refine p_seqN ?_
  refine v_seq ?_
  refine v_seq ?_
  refine v_ops ?_
  refine s_pure (.bool (decide (PksOk (q0.map Pk.p)))) (fun _ q => q) ?_
  refine s_pure (.bool (decide (PksOk (q0.map Pk.p)))) (fun _ q => q) ?_
  refine s_pure (.bool (decide (PksOk (q0.map Pk.p)) != decide (PksOk (q0.map Pk.p)))) (fun _ q => q) ?_
  refine s_nil ?_
  refine p_seqN ?_
  refine v_condN rfl (by first | assumption | omega | (simp; done) | (simp; omega) | simp_all) ?_
  refine v_skip ?_
  refine p_seqN ?_
  refine v_seq ?_
  refine v_seq ?_
  refine v_ops ?_
  refine s_pure r20 (fun _ q => q) ?_
  refine s_pure v0 (fun _ q => q) ?_
  have f26 := ((f16.ext eh19).ext eh23)
  have in27 := fun p hp => (in18 p hp).ext eh19
  have in28 := fun p hp => (in27 p hp).ext eh23
  refine s_call [v0] rfl (toPacketS_ok v0 q0 _ f26 in28 bd6 bd62) ?_
  rintro r30 h29 ⟨_, qr30, rfl, s_r30, dq_r30, eh29⟩
  have E31 := E24.trans eh29
  have z32 := eh29.size
  have lt_r30 := s_r30.lt
  have fr_r30 := s_r30.fr
  have f33 := ((s_r20.ext eh23).ext eh29)
  have hqh34 : qr20.map Pk.p = qr30.map Pk.p := (dq_r20 : qr20.map Pk.p = q0.map Pk.p).trans (dq_r30 : qr30.map Pk.p = q0.map Pk.p).symm
  refine s_call [r20, r30] rfl (eqPacketS_ok r20 qr20 r30 qr30 _ f33.row.toSl f33.insL s_r30.row.toSl s_r30.insL) ?_
  rintro vh34 h34 ⟨hvh34, eh34⟩
  obtain rfl : vh34 = .bool true := hvh34.trans (by rw [decide_eq_true hqh34])
  have E35 := E31.trans eh34
  have z36 := eh34.size
  refine s_pure (.bool false) (fun _ q => q) ?_
  refine s_nil ?_
  refine p_seqN ?_
  refine v_condN rfl (by simp) ?_
  refine v_skip ?_
  refine p_seqN ?_
  refine v_seq ?_
  refine v_ops ?_
  refine s_pure (.bool true) (fun _ q => q) ?_
  refine s_nil ?_
  refine p_seqN ?_
  refine v_ret ?_
  refine p_ret [.bool true] (.bool true) (fun _ q => q) rfl ?_
  exact ⟨rfl, E35⟩
end Go.Proofs.Ytjmcijcdncgaiaa.finFnExactArePackets
