/- The law FnExactSplitMessage: its text returns true. Condition: none. Printed by a program. -/
import Derived.Test.YtjmcijcdncgaiaaPk4
namespace Go.Proofs.Ytjmcijcdncgaiaa.finFnExactSplitMessage
open Go.Vc
set_option linter.all false
set_option maxRecDepth 100000 in
set_option maxHeartbeats 2000000 in
theorem law_ok (h : Heap) (x0 : Int) (b_x0 : I64 x0) (v1 : Value) (x1 : List Int) (s_v1 : Sl h v1 x1) (_ : ∀ y ∈ x1, I64 y) (x2 : Int) (b_x2 : I64 x2) : Cn f_laws_FnExactSplitMessage [.int .i64 x0, v1, .int .i64 x2] h fun v h' => v = .bool true ∧ Ext h h' := by
  unfold I64 at b_x0
  have lt_v1 := s_v1.lt
  unfold I64 at b_x2
  have lens := sm_len x0 x1 x2
  refine calls_of r_laws_FnExactSplitMessage ?_
  refine v_seq ?_
  refine v_ops ?_
  refine s_pure (.bool false) (fun _ q => q) ?_
  refine s_nil ?_
  refine p_seqN ?_
  refine v_seq ?_
  refine v_seq ?_
  refine v_ops ?_
  refine s_pure v1 (fun _ q => q) ?_
  refine s_pure (.int .i64 (x1.length : Int)) (fun _ q => s_v1.lenVC q) ?_
  refine s_pure (.bool (decide ((x1.length : Int) > 1048576))) (fun _ q => q) ?_
  refine s_nil ?_
  refine p_seqN ?_
  refine v_cond rfl (fun c1 => ?_) (fun c1 => ?_)
  ·
    refine v_seq ?_
    refine v_ops ?_
    refine s_pure (.bool true) (fun _ q => q) ?_
    refine s_nil ?_
    refine p_seqN ?_
    refine v_ret ?_
    refine p_seqR ?_
    refine p_ret [.bool true] (.bool true) (fun _ q => q) rfl ?_
    exact ⟨rfl, (Ext.refl h)⟩
  have bd2 : x1.length ≤ 1048576 := by omega
  refine v_skip ?_
  refine p_seqN ?_
  refine v_seq ?_
  refine v_ops ?_
  refine s_pure (.int .i64 x0) (fun _ q => q) ?_
  refine s_pure v1 (fun _ q => q) ?_
  refine s_call [v1] rfl (toIntS_ok v1 x1 _ s_v1 bd2) ?_
  rintro r4 h3 ⟨s_r4, eh3, fr_r4⟩
  have E5 := (Ext.refl h).trans eh3
  have z6 := eh3.size
  have lt_r4 := s_r4.lt
  refine s_pure (.int .i64 x2) (fun _ q => q) ?_
  refine s_call [.int .i64 x0, r4, .int .i64 x2] rfl (spec_SplitMessage_ok x0 r4 x1 x2 _ s_r4.toSl (by first | omega | assumption | (simp; omega))) ?_
  rintro _ h8 ⟨r7, qr7, rfl, s_r7, dq_r7, eh8⟩
  have E9 := E5.trans eh8
  have z10 := eh8.size
  have lt_r7 := s_r7.lt
  have fr_r7 := s_r7.fr
  refine s_pure (.tuple #[r7, .bool ((smOut x0 x1 x2).2)]) (fun _ q => q) ?_
  refine s_pure r7 (fun _ q => q) ?_
  refine s_pure (.bool ((smOut x0 x1 x2).2)) (fun _ q => q) ?_
  refine s_pure r7 (fun _ q => q) ?_
  refine s_pure (.bool ((smOut x0 x1 x2).2)) (fun _ q => q) ?_
  refine s_nil ?_
  refine p_seqN ?_
  refine v_seq ?_
  refine v_ops ?_
  refine s_pure v1 (fun _ q => q) ?_
  have f11 := ((s_v1.ext eh3).ext eh8)
  refine s_call [v1] rfl (toIntS_ok v1 x1 _ f11 bd2) ?_
  rintro r13 h12 ⟨s_r13, eh12, fr_r13⟩
  have E14 := E9.trans eh12
  have z15 := eh12.size
  have lt_r13 := s_r13.lt
  refine s_pure r13 (fun _ q => q) ?_
  refine s_nil ?_
  refine p_seqN ?_
  refine v_seq ?_
  refine v_ops ?_
  refine s_pure (.int .i64 x0) (fun _ q => q) ?_
  refine s_pure r13 (fun _ q => q) ?_
  refine s_pure (.int .i64 x2) (fun _ q => q) ?_
  refine s_call [.int .i64 x0, r13, .int .i64 x2] rfl (impl_SplitMessage_ok x0 r13 x1 x2 _ s_r13.toSl (by first | omega | assumption | (simp; omega))) ?_
  rintro _ h17 ⟨r16, qr16, rfl, s_r16, dq_r16, eh17⟩
  have E18 := E14.trans eh17
  have z19 := eh17.size
  have lt_r16 := s_r16.lt
  have fr_r16 := s_r16.fr
  refine s_pure (.tuple #[r16, .bool ((smOut x0 x1 x2).2)]) (fun _ q => q) ?_
  refine s_pure r16 (fun _ q => q) ?_
  refine s_pure (.bool ((smOut x0 x1 x2).2)) (fun _ q => q) ?_
  refine s_pure r16 (fun _ q => q) ?_
  refine s_pure (.bool ((smOut x0 x1 x2).2)) (fun _ q => q) ?_
  refine s_nil ?_
  refine p_seqN ?_
  refine v_seq ?_
  refine v_seq ?_
  refine v_ops ?_
  refine s_pure r16 (fun _ q => q) ?_
  refine s_pure r7 (fun _ q => q) ?_
  have f20 := ((s_r7.ext eh12).ext eh17)
  have hqh21 : qr16.map Pk.p = qr7.map Pk.p := (dq_r16 : qr16.map Pk.p = (smOut x0 x1 x2).1).trans (dq_r7 : qr7.map Pk.p = (smOut x0 x1 x2).1).symm
  refine s_call [r16, r7] rfl (eqPacketS_ok r16 qr16 r7 qr7 _ s_r16.row.toSl s_r16.insL f20.row.toSl f20.insL) ?_
  rintro vh21 h21 ⟨hvh21, eh21⟩
  obtain rfl : vh21 = .bool true := hvh21.trans (by rw [decide_eq_true hqh21])
  have E22 := E18.trans eh21
  have z23 := eh21.size
  refine s_pure (.bool false) (fun _ q => q) ?_
  refine s_pure (.bool false) (fun _ q => q) ?_
  refine s_splitN rfl (by simp) ?_
  refine s_run rfl ?_
  refine s_pure (.bool ((smOut x0 x1 x2).2)) (fun _ q => q) ?_
  refine s_run rfl ?_
  refine s_pure (.bool ((smOut x0 x1 x2).2)) (fun _ q => q) ?_
  refine s_run rfl ?_
  refine s_pure (.bool ((smOut x0 x1 x2).2 != (smOut x0 x1 x2).2)) (fun _ q => q) ?_
  refine s_pure (.bool ((smOut x0 x1 x2).2 != (smOut x0 x1 x2).2)) (fun _ q => q) ?_
  refine s_nil ?_
  refine p_seqN ?_
  refine v_condN rfl (by first | assumption | omega | (simp; done) | (simp; omega) | simp_all) ?_
  refine v_skip ?_
  refine p_seqN ?_
  refine v_seq ?_
  refine v_seq ?_
  refine v_ops ?_
  refine s_pure r13 (fun _ q => q) ?_
  refine s_pure v1 (fun _ q => q) ?_
  have f24 := (((f11.ext eh12).ext eh17).ext eh21)
  refine s_call [v1] rfl (toIntS_ok v1 x1 _ f24 bd2) ?_
  rintro r26 h25 ⟨s_r26, eh25, fr_r26⟩
  have E27 := E22.trans eh25
  have z28 := eh25.size
  have lt_r26 := s_r26.lt
  have f29 := (((s_r13.ext eh17).ext eh21).ext eh25)
  refine s_call [r13, r26] rfl (eqIntS_ok r13 r26 x1 x1 _ f29.toSl s_r26.toSl) ?_
  rintro _ h30 ⟨rfl, hqh30⟩
  have eh30 := Ext.ofEq hqh30
  clear hqh30
  have E31 := E27.trans eh30
  have z32 := eh30.size
  refine s_pure (.bool (!(decide (x1 = x1)))) (fun _ q => q) ?_
  refine s_nil ?_
  refine p_seqN ?_
  refine v_condN rfl (by first | assumption | omega | (simp; done) | (simp; omega) | simp_all) ?_
  refine v_skip ?_
  refine p_seqN ?_
  refine v_seq ?_
  refine v_ops ?_
  refine s_pure (.int .i64 1) (fun _ q => q) ?_
  refine s_nil ?_
  refine p_seqN ?_
  refine v_seq ?_
  refine v_ops ?_
  refine s_pure r13 (fun _ q => q) ?_
  refine s_pure (.int .i64 1) (fun _ q => q) ?_
  have f33 := (f29.ext eh30)
  refine s_call [r13, .int .i64 1] rfl (markIntS_ok r13 x1 (1) _ f33 (by omega) (by omega) (by omega)) ?_
  rintro _ h34 ⟨rfl, mk35, mh34, zh34⟩
  have E36 := E31.mod mh34 (fun b hb => by have := fr_r13 b hb; omega)
  refine s_pure (.int .i64 (1 + (x1.length : Int))) (fun _ q => q) ?_
  refine s_nil ?_
  refine p_seqN ?_
  refine v_seq ?_
  refine v_seq ?_
  refine v_ops ?_
  refine s_pure (.int .i64 (1 + (x1.length : Int))) (fun _ q => q) ?_
  refine s_pure (.bool (decide ((1 + (x1.length : Int)) < 0))) (fun _ q => q) ?_
  refine s_pure (.bool (decide ((1 + (x1.length : Int)) < 0))) (fun _ q => q) ?_
  refine s_splitN rfl (by first | assumption | omega | (simp; done) | (simp; omega) | simp_all) ?_
  refine s_run rfl ?_
  refine s_pure r16 (fun _ q => q) ?_
  refine s_run rfl ?_
  refine s_pure r7 (fun _ q => q) ?_
  refine s_run rfl ?_
  have f37 := ((((s_r16.ext eh21).ext eh25).ext eh30).mod mh34 (fun b hb hc => by have := fr_r16 b hb; have := lt_r13 b hc; omega))
  have f38 := ((((f20.ext eh21).ext eh25).ext eh30).mod mh34 (fun b hb hc => by have := lt_r7 b hb; have := fr_r13 b hc; omega))
  have hqh39 : qr16.map Pk.p = qr7.map Pk.p := (dq_r16 : qr16.map Pk.p = (smOut x0 x1 x2).1).trans (dq_r7 : qr7.map Pk.p = (smOut x0 x1 x2).1).symm
  refine s_call [r16, r7] rfl (eqPacketS_ok r16 qr16 r7 qr7 _ f37.row.toSl f37.insL f38.row.toSl f38.insL) ?_
  rintro vh39 h39 ⟨hvh39, eh39⟩
  obtain rfl : vh39 = .bool true := hvh39.trans (by rw [decide_eq_true hqh39])
  have E40 := E36.trans eh39
  have z41 := eh39.size
  refine s_run rfl ?_
  refine s_pure (.bool false) (fun _ q => q) ?_
  refine s_pure (.bool false) (fun _ q => q) ?_
  refine s_pure (.bool false) (fun _ q => q) ?_
  refine s_splitN rfl (by simp) ?_
  refine s_run rfl ?_
  refine s_pure (.bool ((smOut x0 x1 x2).2)) (fun _ q => q) ?_
  refine s_run rfl ?_
  refine s_pure (.bool ((smOut x0 x1 x2).2)) (fun _ q => q) ?_
  refine s_run rfl ?_
  refine s_pure (.bool ((smOut x0 x1 x2).2 != (smOut x0 x1 x2).2)) (fun _ q => q) ?_
  refine s_pure (.bool ((smOut x0 x1 x2).2 != (smOut x0 x1 x2).2)) (fun _ q => q) ?_
  refine s_nil ?_
  refine p_seqN ?_
  refine v_condN rfl (by first | assumption | omega | (simp; done) | (simp; omega) | simp_all) ?_
  refine v_skip ?_
  refine p_seqN ?_
  refine v_seq ?_
  refine v_ops ?_
  refine s_pure (.int .i64 1) (fun _ q => q) ?_
  refine s_nil ?_
  refine p_seqN ?_
  refine v_seq ?_
  refine v_ops ?_
  refine s_pure r16 (fun _ q => q) ?_
  refine s_pure (.int .i64 1) (fun _ q => q) ?_
  have f43 := (f37.ext eh39)
  have hzh42 := szP_eq qr16
  rw [dq_r16] at hzh42
  refine s_call [r16, .int .i64 1] rfl (markPacketS_ok r16 qr16 _ (1) _ f43 (by omega) (by omega) (by omega)) ?_
  rintro _ h42 ⟨rfl, mk44, mh42, zh42⟩
  have E45 := E40.mod mh42 (fun b hb => by have := fr_r16 b hb; omega)
  have lt_r16m46 := mk44.lt
  have fr_r16m46 := mk44.fr
  refine s_pure (.int .i64 (1 + (szP qr16 : Int))) (fun _ q => q) ?_
  refine s_nil ?_
  refine p_seqN ?_
  refine v_seq ?_
  refine v_ops ?_
  refine s_pure (.int .i64 1) (fun _ q => q) ?_
  refine s_nil ?_
  refine p_seqN ?_
  refine v_seq ?_
  refine v_ops ?_
  refine s_pure r16 (fun _ q => q) ?_
  refine s_pure (.int .i64 1) (fun _ q => q) ?_
  refine s_call [r16, .int .i64 1] rfl (heldPacketS_ok r16 (mkP (1) qr16) (1) _ mk44.row.toSl mk44.insL qr16 (1) rfl (by omega) (by omega) (by omega) (by omega)) ?_
  rintro _ h47 ⟨rfl, eh47⟩
  have E48 := E45.trans eh47
  have z49 := eh47.size
  refine s_pure (.int .i64 (1 + (szP qr16 : Int))) (fun _ q => q) ?_
  refine s_nil ?_
  refine p_seqN ?_
  refine v_seq ?_
  refine v_seq ?_
  refine v_ops ?_
  refine s_pure (.int .i64 (1 + (szP qr16 : Int))) (fun _ q => q) ?_
  refine s_pure (.bool (decide ((1 + (szP qr16 : Int)) < 0))) (fun _ q => q) ?_
  refine s_nil ?_
  refine p_seqN ?_
  refine v_condN rfl (by first | assumption | omega | (simp; done) | (simp; omega) | simp_all) ?_
  refine v_skip ?_
  refine p_seqN ?_
  refine v_seq ?_
  refine v_seq ?_
  refine v_ops ?_
  refine s_pure (.int .i64 (1 + (szP qr16 : Int))) (fun _ q => q) ?_
  refine s_pure (.int .i64 (1 + (szP qr16 : Int))) (fun _ q => q) ?_
  refine s_pure (.bool ((1 + (szP qr16 : Int)) != (1 + (szP qr16 : Int)))) (fun _ q => q) ?_
  refine s_nil ?_
  refine p_seqN ?_
  refine v_condN rfl (by first | assumption | omega | (simp; done) | (simp; omega) | simp_all) ?_
  refine v_skip ?_
  refine p_seqN ?_
  refine v_seq ?_
  refine v_ops ?_
  refine s_pure (.int .i64 x0) (fun _ q => q) ?_
  refine s_pure v1 (fun _ q => q) ?_
  have f50 := ((((((f24.ext eh25).ext eh30).mod mh34 (fun b hb hc => by have := lt_v1 b hb; have := fr_r13 b hc; omega)).ext eh39).mod mh42 (fun b hb hc => by have := lt_v1 b hb; have := fr_r16 b hc; omega)).ext eh47)
  refine s_call [v1] rfl (toIntS_ok v1 x1 _ f50 bd2) ?_
  rintro r52 h51 ⟨s_r52, eh51, fr_r52⟩
  have E53 := E48.trans eh51
  have z54 := eh51.size
  have lt_r52 := s_r52.lt
  refine s_pure (.int .i64 x2) (fun _ q => q) ?_
  refine s_call [.int .i64 x0, r52, .int .i64 x2] rfl (impl_SplitMessage_ok x0 r52 x1 x2 _ s_r52.toSl (by first | omega | assumption | (simp; omega))) ?_
  rintro _ h56 ⟨r55, qr55, rfl, s_r55, dq_r55, eh56⟩
  have E57 := E53.trans eh56
  have z58 := eh56.size
  have lt_r55 := s_r55.lt
  have fr_r55 := s_r55.fr
  refine s_pure (.tuple #[r55, .bool ((smOut x0 x1 x2).2)]) (fun _ q => q) ?_
  refine s_pure r55 (fun _ q => q) ?_
  refine s_pure (.bool ((smOut x0 x1 x2).2)) (fun _ q => q) ?_
  refine s_pure r55 (fun _ q => q) ?_
  refine s_pure (.bool ((smOut x0 x1 x2).2)) (fun _ q => q) ?_
  refine s_nil ?_
  refine p_seqN ?_
  refine v_seq ?_
  refine v_seq ?_
  refine v_ops ?_
  refine s_pure r55 (fun _ q => q) ?_
  refine s_pure r7 (fun _ q => q) ?_
  have f59 := (((((f38.ext eh39).mod mh42 (fun b hb hc => by have := lt_r7 b hb; have := fr_r16 b hc; omega)).ext eh47).ext eh51).ext eh56)
  have hqh60 : qr55.map Pk.p = qr7.map Pk.p := (dq_r55 : qr55.map Pk.p = (smOut x0 x1 x2).1).trans (dq_r7 : qr7.map Pk.p = (smOut x0 x1 x2).1).symm
  refine s_call [r55, r7] rfl (eqPacketS_ok r55 qr55 r7 qr7 _ s_r55.row.toSl s_r55.insL f59.row.toSl f59.insL) ?_
  rintro vh60 h60 ⟨hvh60, eh60⟩
  obtain rfl : vh60 = .bool true := hvh60.trans (by rw [decide_eq_true hqh60])
  have E61 := E57.trans eh60
  have z62 := eh60.size
  refine s_pure (.bool false) (fun _ q => q) ?_
  refine s_pure (.bool false) (fun _ q => q) ?_
  refine s_splitN rfl (by simp) ?_
  refine s_run rfl ?_
  refine s_pure (.bool ((smOut x0 x1 x2).2)) (fun _ q => q) ?_
  refine s_run rfl ?_
  refine s_pure (.bool ((smOut x0 x1 x2).2)) (fun _ q => q) ?_
  refine s_run rfl ?_
  refine s_pure (.bool ((smOut x0 x1 x2).2 != (smOut x0 x1 x2).2)) (fun _ q => q) ?_
  refine s_pure (.bool ((smOut x0 x1 x2).2 != (smOut x0 x1 x2).2)) (fun _ q => q) ?_
  refine s_nil ?_
  refine p_seqN ?_
  refine v_condN rfl (by first | assumption | omega | (simp; done) | (simp; omega) | simp_all) ?_
  refine v_skip ?_
  refine p_seqN ?_
  refine v_seq ?_
  refine v_ops ?_
  refine s_pure (.int .i64 1) (fun _ q => q) ?_
  refine s_nil ?_
  refine p_seqN ?_
  refine v_seq ?_
  refine v_ops ?_
  refine s_pure r16 (fun _ q => q) ?_
  refine s_pure (.int .i64 1) (fun _ q => q) ?_
  have f63 := ((((mk44.ext eh47).ext eh51).ext eh56).ext eh60)
  refine s_call [r16, .int .i64 1] rfl (heldPacketS_ok r16 (mkP (1) qr16) (1) _ f63.row.toSl f63.insL qr16 (1) rfl (by omega) (by omega) (by omega) (by omega)) ?_
  rintro _ h64 ⟨rfl, eh64⟩
  have E65 := E61.trans eh64
  have z66 := eh64.size
  refine s_pure (.int .i64 (1 + (szP qr16 : Int))) (fun _ q => q) ?_
  refine s_nil ?_
  refine p_seqN ?_
  refine v_seq ?_
  refine v_seq ?_
  refine v_ops ?_
  refine s_pure (.int .i64 (1 + (szP qr16 : Int))) (fun _ q => q) ?_
  refine s_pure (.bool (decide ((1 + (szP qr16 : Int)) < 0))) (fun _ q => q) ?_
  refine s_nil ?_
  refine p_seqN ?_
  refine v_condN rfl (by first | assumption | omega | (simp; done) | (simp; omega) | simp_all) ?_
  refine v_skip ?_
  refine p_seqN ?_
  refine v_seq ?_
  refine v_seq ?_
  refine v_ops ?_
  refine s_pure (.int .i64 (1 + (szP qr16 : Int))) (fun _ q => q) ?_
  refine s_pure (.int .i64 (1 + (szP qr16 : Int))) (fun _ q => q) ?_
  refine s_pure (.bool ((1 + (szP qr16 : Int)) != (1 + (szP qr16 : Int)))) (fun _ q => q) ?_
  refine s_nil ?_
  refine p_seqN ?_
  refine v_condN rfl (by first | assumption | omega | (simp; done) | (simp; omega) | simp_all) ?_
  refine v_skip ?_
  refine p_seqN ?_
  refine v_seq ?_
  refine v_ops ?_
  refine s_pure (.bool true) (fun _ q => q) ?_
  refine s_nil ?_
  refine p_seqN ?_
  refine v_ret ?_
  refine p_ret [.bool true] (.bool true) (fun _ q => q) rfl ?_
  exact ⟨rfl, E65⟩
end Go.Proofs.Ytjmcijcdncgaiaa.finFnExactSplitMessage
