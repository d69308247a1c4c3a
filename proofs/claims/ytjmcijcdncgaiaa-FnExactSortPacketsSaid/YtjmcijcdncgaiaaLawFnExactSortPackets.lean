/- The law FnExactSortPackets: its text returns true. Condition: none. Printed by a program. -/
import Derived.Test.YtjmcijcdncgaiaaPk14
namespace Go.Proofs.Ytjmcijcdncgaiaa.finFnExactSortPackets
open Go.Vc
set_option linter.all false
set_option maxRecDepth 100000 in
set_option maxHeartbeats 2000000 in
theorem law_ok (h : Heap) (v0 : Value) (x0 : List PacketD) (s_x0 : Sl h v0 x0) (g0 : ∀ y ∈ x0, PacketD.good h y) : Cn f_laws_FnExactSortPackets [v0] h fun v h' => v = .bool true ∧ Ext h h' := by
  obtain ⟨q0, s_v0, in_v0⟩ := pk_open s_x0 g0
  have lt_v0 := s_v0.lt
  have inlt_v0 := fun p hp => (in_v0 p hp).lt
  have lens := so_sz (q0.map Pk.p)
  refine calls_of r_laws_FnExactSortPackets ?_
  refine v_seq ?_
  refine v_ops ?_
  refine s_pure (.bool false) (fun _ q => q) ?_
  refine s_nil ?_
  refine p_seqN ?_
  refine v_seq ?_
  refine v_ops ?_
  refine s_pure (.int .i64 1048576) (fun _ q => q) ?_
  refine s_nil ?_
  refine p_seqN ?_
  refine v_seq ?_
  refine v_ops ?_
  refine s_pure v0 (fun _ q => q) ?_
  refine s_pure (.int .i64 1048576) (fun _ q => q) ?_
  refine s_call [v0, .int .i64 1048576] rfl (szPacketS_ok v0 q0 1048576 _ s_v0 in_v0 (by omega) (by omega)) ?_
  rintro _ h1 ⟨n2, rfl, eh1, hmn2, hkn2⟩
  have E3 := (Ext.refl h).trans eh1
  have z4 := eh1.size
  refine s_pure (.int .i64 n2) (fun _ q => q) ?_
  refine s_nil ?_
  refine p_seqN ?_
  refine v_seq ?_
  refine v_seq ?_
  refine v_ops ?_
  refine s_pure (.int .i64 n2) (fun _ q => q) ?_
  refine s_pure (.bool (decide (n2 < 0))) (fun _ q => q) ?_
  refine s_nil ?_
  refine p_seqN ?_
  refine v_cond rfl (fun c5 => ?_) (fun c5 => ?_)
  ·
    refine v_seq ?_
    refine v_ops ?_
    refine s_pure (.bool true) (fun _ q => q) ?_
    refine s_nil ?_
    refine p_seqN ?_
    refine v_ret ?_
    refine p_seqR ?_
    refine p_ret [.bool true] (.bool true) (fun _ q => q) rfl ?_
    exact ⟨rfl, E3⟩
  obtain ⟨hmn2, hkn2⟩ := And.intro (hmn2 (by omega)) hkn2
  have bd6 : sigs q0 ≤ 1048576 := by omega
  have bd62 : q0.length ≤ 1048576 := by omega
  have bd63 := szD_eq q0
  refine v_skip ?_
  refine p_seqN ?_
  refine v_seq ?_
  refine v_ops ?_
  refine s_pure v0 (fun _ q => q) ?_
  have f7 := (s_v0.ext eh1)
  have in8 := fun p hp => (in_v0 p hp).ext eh1
  refine s_call [v0] rfl (toPacketS_ok v0 q0 _ f7 in8 bd6 bd62) ?_
  rintro r10 h9 ⟨_, qr10, rfl, s_r10, dq_r10, eh9⟩
  have E11 := E3.trans eh9
  have z12 := eh9.size
  have lt_r10 := s_r10.lt
  have fr_r10 := s_r10.fr
  refine s_call [r10] rfl (spec_SortPackets_ok r10 qr10 (q0.map Pk.p) _ s_r10.row.toSl s_r10.insL dq_r10) ?_
  rintro _ h14 ⟨r13, qr13, rfl, s_r13, dq_r13, eh14⟩
  have E15 := E11.trans eh14
  have z16 := eh14.size
  have lt_r13 := s_r13.lt
  have fr_r13 := s_r13.fr
  refine s_pure (.tuple #[r13, .bool ((srtOut (q0.map Pk.p)).2)]) (fun _ q => q) ?_
  refine s_pure r13 (fun _ q => q) ?_
  refine s_pure (.bool ((srtOut (q0.map Pk.p)).2)) (fun _ q => q) ?_
  refine s_pure r13 (fun _ q => q) ?_
  refine s_pure (.bool ((srtOut (q0.map Pk.p)).2)) (fun _ q => q) ?_
  refine s_nil ?_
  refine p_seqN ?_
  refine v_seq ?_
  refine v_ops ?_
  refine s_pure v0 (fun _ q => q) ?_
  have f17 := ((f7.ext eh9).ext eh14)
  have in18 := fun p hp => (in8 p hp).ext eh9
  have in19 := fun p hp => (in18 p hp).ext eh14
  refine s_call [v0] rfl (toPacketS_ok v0 q0 _ f17 in19 bd6 bd62) ?_
  rintro r21 h20 ⟨_, qr21, rfl, s_r21, dq_r21, eh20⟩
  have E22 := E15.trans eh20
  have z23 := eh20.size
  have lt_r21 := s_r21.lt
  have fr_r21 := s_r21.fr
  refine s_pure r21 (fun _ q => q) ?_
  refine s_nil ?_
  refine p_seqN ?_
  refine v_seq ?_
  refine v_ops ?_
  refine s_pure r21 (fun _ q => q) ?_
  refine s_call [r21] rfl (impl_SortPackets_ok r21 qr21 (q0.map Pk.p) _ s_r21.row.toSl s_r21.insL dq_r21) ?_
  rintro _ h25 ⟨r24, qr24, rfl, s_r24, dq_r24, eh25⟩
  have E26 := E22.trans eh25
  have z27 := eh25.size
  have lt_r24 := s_r24.lt
  have fr_r24 := s_r24.fr
  refine s_pure (.tuple #[r24, .bool ((srtOut (q0.map Pk.p)).2)]) (fun _ q => q) ?_
  refine s_pure r24 (fun _ q => q) ?_
  refine s_pure (.bool ((srtOut (q0.map Pk.p)).2)) (fun _ q => q) ?_
  refine s_pure r24 (fun _ q => q) ?_
  refine s_pure (.bool ((srtOut (q0.map Pk.p)).2)) (fun _ q => q) ?_
  refine s_nil ?_
  refine p_seqN ?_
  refine v_seq ?_
  refine v_seq ?_
  refine v_ops ?_
  refine s_pure r24 (fun _ q => q) ?_
  refine s_pure r13 (fun _ q => q) ?_
  have f28 := ((s_r13.ext eh20).ext eh25)
  have hqh29 : qr24.map Pk.p = qr13.map Pk.p := (dq_r24 : qr24.map Pk.p = (srtOut (q0.map Pk.p)).1).trans (dq_r13 : qr13.map Pk.p = (srtOut (q0.map Pk.p)).1).symm
  refine s_call [r24, r13] rfl (eqPacketS_ok r24 qr24 r13 qr13 _ s_r24.row.toSl s_r24.insL f28.row.toSl f28.insL) ?_
  rintro vh29 h29 ⟨hvh29, eh29⟩
  obtain rfl : vh29 = .bool true := hvh29.trans (by rw [decide_eq_true hqh29])
  have E30 := E26.trans eh29
  have z31 := eh29.size
  refine s_pure (.bool false) (fun _ q => q) ?_
  refine s_pure (.bool false) (fun _ q => q) ?_
  refine s_splitN rfl (by simp) ?_
  refine s_run rfl ?_
  refine s_pure (.bool ((srtOut (q0.map Pk.p)).2)) (fun _ q => q) ?_
  refine s_run rfl ?_
  refine s_pure (.bool ((srtOut (q0.map Pk.p)).2)) (fun _ q => q) ?_
  refine s_run rfl ?_
  refine s_pure (.bool ((srtOut (q0.map Pk.p)).2 != (srtOut (q0.map Pk.p)).2)) (fun _ q => q) ?_
  refine s_pure (.bool ((srtOut (q0.map Pk.p)).2 != (srtOut (q0.map Pk.p)).2)) (fun _ q => q) ?_
  refine s_nil ?_
  refine p_seqN ?_
  refine v_condN rfl (by first | assumption | omega | (simp; done) | (simp; omega) | simp_all) ?_
  refine v_skip ?_
  refine p_seqN ?_
  refine v_seq ?_
  refine v_seq ?_
  refine v_ops ?_
  refine s_pure r21 (fun _ q => q) ?_
  refine s_pure v0 (fun _ q => q) ?_
  have f32 := (((f17.ext eh20).ext eh25).ext eh29)
  have in33 := fun p hp => (in19 p hp).ext eh20
  have in34 := fun p hp => (in33 p hp).ext eh25
  have in35 := fun p hp => (in34 p hp).ext eh29
  refine s_call [v0] rfl (toPacketS_ok v0 q0 _ f32 in35 bd6 bd62) ?_
  rintro r37 h36 ⟨_, qr37, rfl, s_r37, dq_r37, eh36⟩
  have E38 := E30.trans eh36
  have z39 := eh36.size
  have lt_r37 := s_r37.lt
  have fr_r37 := s_r37.fr
  have f40 := (((s_r21.ext eh25).ext eh29).ext eh36)
  have hqh41 : qr21.map Pk.p = qr37.map Pk.p := (dq_r21 : qr21.map Pk.p = q0.map Pk.p).trans (dq_r37 : qr37.map Pk.p = q0.map Pk.p).symm
  refine s_call [r21, r37] rfl (eqPacketS_ok r21 qr21 r37 qr37 _ f40.row.toSl f40.insL s_r37.row.toSl s_r37.insL) ?_
  rintro vh41 h41 ⟨hvh41, eh41⟩
  obtain rfl : vh41 = .bool true := hvh41.trans (by rw [decide_eq_true hqh41])
  have E42 := E38.trans eh41
  have z43 := eh41.size
  refine s_pure (.bool false) (fun _ q => q) ?_
  refine s_nil ?_
  refine p_seqN ?_
  refine v_condN rfl (by simp) ?_
  refine v_skip ?_
  refine p_seqN ?_
  refine v_seq ?_
  refine v_ops ?_
  refine s_pure (.int .i64 1) (fun _ q => q) ?_
  refine s_nil ?_
  refine p_seqN ?_
  refine v_seq ?_
  refine v_ops ?_
  refine s_pure r21 (fun _ q => q) ?_
  refine s_pure (.int .i64 1) (fun _ q => q) ?_
  have f45 := (f40.ext eh41)
  have hzh44 := szP_eq qr21
  rw [dq_r21] at hzh44
  refine s_call [r21, .int .i64 1] rfl (markPacketS_ok r21 qr21 _ (1) _ f45 (by omega) (by omega) (by omega)) ?_
  rintro _ h44 ⟨rfl, mk46, mh44, zh44⟩
  have E47 := E42.mod mh44 (fun b hb => by have := fr_r21 b hb; omega)
  have lt_r21m48 := mk46.lt
  have fr_r21m48 := mk46.fr
  refine s_pure (.int .i64 (1 + (szP qr21 : Int))) (fun _ q => q) ?_
  refine s_nil ?_
  refine p_seqN ?_
  refine v_seq ?_
  refine v_seq ?_
  refine v_ops ?_
  refine s_pure (.int .i64 (1 + (szP qr21 : Int))) (fun _ q => q) ?_
  refine s_pure (.bool (decide ((1 + (szP qr21 : Int)) < 0))) (fun _ q => q) ?_
  refine s_pure (.bool (decide ((1 + (szP qr21 : Int)) < 0))) (fun _ q => q) ?_
  refine s_splitN rfl (by first | assumption | omega | (simp; done) | (simp; omega) | simp_all) ?_
  refine s_run rfl ?_
  refine s_pure r24 (fun _ q => q) ?_
  refine s_run rfl ?_
  refine s_pure r13 (fun _ q => q) ?_
  refine s_run rfl ?_
  have f49 := ((((s_r24.ext eh29).ext eh36).ext eh41).mod mh44 (fun b hb hc => by have := fr_r24 b hb; have := lt_r21 b hc; omega))
  have f50 := ((((f28.ext eh29).ext eh36).ext eh41).mod mh44 (fun b hb hc => by have := lt_r13 b hb; have := fr_r21 b hc; omega))
  have hqh51 : qr24.map Pk.p = qr13.map Pk.p := (dq_r24 : qr24.map Pk.p = (srtOut (q0.map Pk.p)).1).trans (dq_r13 : qr13.map Pk.p = (srtOut (q0.map Pk.p)).1).symm
  refine s_call [r24, r13] rfl (eqPacketS_ok r24 qr24 r13 qr13 _ f49.row.toSl f49.insL f50.row.toSl f50.insL) ?_
  rintro vh51 h51 ⟨hvh51, eh51⟩
  obtain rfl : vh51 = .bool true := hvh51.trans (by rw [decide_eq_true hqh51])
  have E52 := E47.trans eh51
  have z53 := eh51.size
  refine s_run rfl ?_
  refine s_pure (.bool false) (fun _ q => q) ?_
  refine s_pure (.bool false) (fun _ q => q) ?_
  refine s_pure (.bool false) (fun _ q => q) ?_
  refine s_splitN rfl (by simp) ?_
  refine s_run rfl ?_
  refine s_pure (.bool ((srtOut (q0.map Pk.p)).2)) (fun _ q => q) ?_
  refine s_run rfl ?_
  refine s_pure (.bool ((srtOut (q0.map Pk.p)).2)) (fun _ q => q) ?_
  refine s_run rfl ?_
  refine s_pure (.bool ((srtOut (q0.map Pk.p)).2 != (srtOut (q0.map Pk.p)).2)) (fun _ q => q) ?_
  refine s_pure (.bool ((srtOut (q0.map Pk.p)).2 != (srtOut (q0.map Pk.p)).2)) (fun _ q => q) ?_
  refine s_nil ?_
  refine p_seqN ?_
  refine v_condN rfl (by first | assumption | omega | (simp; done) | (simp; omega) | simp_all) ?_
  refine v_skip ?_
  refine p_seqN ?_
  refine v_seq ?_
  refine v_ops ?_
  refine s_pure (.int .i64 1) (fun _ q => q) ?_
  refine s_nil ?_
  refine p_seqN ?_
  refine v_seq ?_
  refine v_ops ?_
  refine s_pure r24 (fun _ q => q) ?_
  refine s_pure (.int .i64 1) (fun _ q => q) ?_
  have f55 := (f49.ext eh51)
  have hzh54 := szP_eq qr24
  rw [dq_r24] at hzh54
  refine s_call [r24, .int .i64 1] rfl (markPacketS_ok r24 qr24 _ (1) _ f55 (by omega) (by omega) (by omega)) ?_
  rintro _ h54 ⟨rfl, mk56, mh54, zh54⟩
  have E57 := E52.mod mh54 (fun b hb => by have := fr_r24 b hb; omega)
  have lt_r24m58 := mk56.lt
  have fr_r24m58 := mk56.fr
  refine s_pure (.int .i64 (1 + (szP qr24 : Int))) (fun _ q => q) ?_
  refine s_nil ?_
  refine p_seqN ?_
  refine v_seq ?_
  refine v_ops ?_
  refine s_pure (.int .i64 1) (fun _ q => q) ?_
  refine s_nil ?_
  refine p_seqN ?_
  refine v_seq ?_
  refine v_ops ?_
  refine s_pure r24 (fun _ q => q) ?_
  refine s_pure (.int .i64 1) (fun _ q => q) ?_
  refine s_call [r24, .int .i64 1] rfl (heldPacketS_ok r24 (mkP (1) qr24) (1) _ mk56.row.toSl mk56.insL qr24 (1) rfl (by omega) (by omega) (by omega) (by omega)) ?_
  rintro _ h59 ⟨rfl, eh59⟩
  have E60 := E57.trans eh59
  have z61 := eh59.size
  refine s_pure (.int .i64 (1 + (szP qr24 : Int))) (fun _ q => q) ?_
  refine s_nil ?_
  refine p_seqN ?_
  refine v_seq ?_
  refine v_seq ?_
  refine v_ops ?_
  refine s_pure (.int .i64 (1 + (szP qr24 : Int))) (fun _ q => q) ?_
  refine s_pure (.bool (decide ((1 + (szP qr24 : Int)) < 0))) (fun _ q => q) ?_
  refine s_nil ?_
  refine p_seqN ?_
  refine v_condN rfl (by first | assumption | omega | (simp; done) | (simp; omega) | simp_all) ?_
  refine v_skip ?_
  refine p_seqN ?_
  refine v_seq ?_
  refine v_seq ?_
  refine v_ops ?_
  refine s_pure (.int .i64 (1 + (szP qr24 : Int))) (fun _ q => q) ?_
  refine s_pure (.int .i64 (1 + (szP qr24 : Int))) (fun _ q => q) ?_
  refine s_pure (.bool ((1 + (szP qr24 : Int)) != (1 + (szP qr24 : Int)))) (fun _ q => q) ?_
  refine s_nil ?_
  refine p_seqN ?_
  refine v_condN rfl (by first | assumption | omega | (simp; done) | (simp; omega) | simp_all) ?_
  refine v_skip ?_
  refine p_seqN ?_
  refine v_seq ?_
  refine v_ops ?_
  refine s_pure v0 (fun _ q => q) ?_
  have f62 := ((((((f32.ext eh36).ext eh41).mod mh44 (fun b hb hc => by have := lt_v0 b hb; have := fr_r21 b hc; omega)).ext eh51).mod mh54 (fun b hb hc => by have := lt_v0 b hb; have := fr_r24 b hc; omega)).ext eh59)
  have in63 := fun p hp => (in35 p hp).ext eh36
  have in64 := fun p hp => (in63 p hp).ext eh41
  have in65 := fun p hp => (in64 p hp).mod mh44 (fun b hb hc => by have := inlt_v0 p hp b hb; have := fr_r21 b hc; omega)
  have in66 := fun p hp => (in65 p hp).ext eh51
  have in67 := fun p hp => (in66 p hp).mod mh54 (fun b hb hc => by have := inlt_v0 p hp b hb; have := fr_r24 b hc; omega)
  have in68 := fun p hp => (in67 p hp).ext eh59
  refine s_call [v0] rfl (toPacketS_ok v0 q0 _ f62 in68 bd6 bd62) ?_
  rintro r70 h69 ⟨_, qr70, rfl, s_r70, dq_r70, eh69⟩
  have E71 := E60.trans eh69
  have z72 := eh69.size
  have lt_r70 := s_r70.lt
  have fr_r70 := s_r70.fr
  refine s_call [r70] rfl (impl_SortPackets_ok r70 qr70 (q0.map Pk.p) _ s_r70.row.toSl s_r70.insL dq_r70) ?_
  rintro _ h74 ⟨r73, qr73, rfl, s_r73, dq_r73, eh74⟩
  have E75 := E71.trans eh74
  have z76 := eh74.size
  have lt_r73 := s_r73.lt
  have fr_r73 := s_r73.fr
  refine s_pure (.tuple #[r73, .bool ((srtOut (q0.map Pk.p)).2)]) (fun _ q => q) ?_
  refine s_pure r73 (fun _ q => q) ?_
  refine s_pure (.bool ((srtOut (q0.map Pk.p)).2)) (fun _ q => q) ?_
  refine s_pure r73 (fun _ q => q) ?_
  refine s_pure (.bool ((srtOut (q0.map Pk.p)).2)) (fun _ q => q) ?_
  refine s_nil ?_
  refine p_seqN ?_
  refine v_seq ?_
  refine v_seq ?_
  refine v_ops ?_
  refine s_pure r73 (fun _ q => q) ?_
  refine s_pure r13 (fun _ q => q) ?_
  have f77 := (((((f50.ext eh51).mod mh54 (fun b hb hc => by have := lt_r13 b hb; have := fr_r24 b hc; omega)).ext eh59).ext eh69).ext eh74)
  have hqh78 : qr73.map Pk.p = qr13.map Pk.p := (dq_r73 : qr73.map Pk.p = (srtOut (q0.map Pk.p)).1).trans (dq_r13 : qr13.map Pk.p = (srtOut (q0.map Pk.p)).1).symm
  refine s_call [r73, r13] rfl (eqPacketS_ok r73 qr73 r13 qr13 _ s_r73.row.toSl s_r73.insL f77.row.toSl f77.insL) ?_
  rintro vh78 h78 ⟨hvh78, eh78⟩
  obtain rfl : vh78 = .bool true := hvh78.trans (by rw [decide_eq_true hqh78])
  have E79 := E75.trans eh78
  have z80 := eh78.size
  refine s_pure (.bool false) (fun _ q => q) ?_
  refine s_pure (.bool false) (fun _ q => q) ?_
  refine s_splitN rfl (by simp) ?_
  refine s_run rfl ?_
  refine s_pure (.bool ((srtOut (q0.map Pk.p)).2)) (fun _ q => q) ?_
  refine s_run rfl ?_
  refine s_pure (.bool ((srtOut (q0.map Pk.p)).2)) (fun _ q => q) ?_
  refine s_run rfl ?_
  refine s_pure (.bool ((srtOut (q0.map Pk.p)).2 != (srtOut (q0.map Pk.p)).2)) (fun _ q => q) ?_
  refine s_pure (.bool ((srtOut (q0.map Pk.p)).2 != (srtOut (q0.map Pk.p)).2)) (fun _ q => q) ?_
  refine s_nil ?_
  refine p_seqN ?_
  refine v_condN rfl (by first | assumption | omega | (simp; done) | (simp; omega) | simp_all) ?_
  refine v_skip ?_
  refine p_seqN ?_
  refine v_seq ?_
  refine v_ops ?_
  refine s_pure (.int .i64 1) (fun _ q => q) ?_
  refine s_nil ?_
  refine p_seqN ?_
  refine v_seq ?_
  refine v_ops ?_
  refine s_pure r24 (fun _ q => q) ?_
  refine s_pure (.int .i64 1) (fun _ q => q) ?_
  have f81 := ((((mk56.ext eh59).ext eh69).ext eh74).ext eh78)
  refine s_call [r24, .int .i64 1] rfl (heldPacketS_ok r24 (mkP (1) qr24) (1) _ f81.row.toSl f81.insL qr24 (1) rfl (by omega) (by omega) (by omega) (by omega)) ?_
  rintro _ h82 ⟨rfl, eh82⟩
  have E83 := E79.trans eh82
  have z84 := eh82.size
  refine s_pure (.int .i64 (1 + (szP qr24 : Int))) (fun _ q => q) ?_
  refine s_nil ?_
  refine p_seqN ?_
  refine v_seq ?_
  refine v_seq ?_
  refine v_ops ?_
  refine s_pure (.int .i64 (1 + (szP qr24 : Int))) (fun _ q => q) ?_
  refine s_pure (.bool (decide ((1 + (szP qr24 : Int)) < 0))) (fun _ q => q) ?_
  refine s_nil ?_
  refine p_seqN ?_
  refine v_condN rfl (by first | assumption | omega | (simp; done) | (simp; omega) | simp_all) ?_
  refine v_skip ?_
  refine p_seqN ?_
  refine v_seq ?_
  refine v_seq ?_
  refine v_ops ?_
  refine s_pure (.int .i64 (1 + (szP qr24 : Int))) (fun _ q => q) ?_
  refine s_pure (.int .i64 (1 + (szP qr24 : Int))) (fun _ q => q) ?_
  refine s_pure (.bool ((1 + (szP qr24 : Int)) != (1 + (szP qr24 : Int)))) (fun _ q => q) ?_
  refine s_nil ?_
  refine p_seqN ?_
  refine v_condN rfl (by first | assumption | omega | (simp; done) | (simp; omega) | simp_all) ?_
  refine v_skip ?_
  refine p_seqN ?_
  refine v_seq ?_
  refine v_ops ?_
  refine s_pure (.bool true) (fun _ q => q) ?_
  refine s_nil ?_
  refine p_seqN ?_
  refine v_ret ?_
  refine p_ret [.bool true] (.bool true) (fun _ q => q) rfl ?_
  exact ⟨rfl, E83⟩
end Go.Proofs.Ytjmcijcdncgaiaa.finFnExactSortPackets
