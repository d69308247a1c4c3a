/- The law FnExactRoundsNeeded: its text returns true. Condition: none. Printed by a program. -/
import Derived.Test.YtibhbphikijecaaAk4
namespace Go.Proofs.Ytibhbphikijecaa.finFnExactRoundsNeeded
open Go.Vc
set_option linter.all false
set_option maxRecDepth 100000 in
set_option maxHeartbeats 2000000 in
theorem law_ok (h : Heap) (x0 : Int) (b_x0 : I64 x0) (x1 : Int) (b_x1 : I64 x1) (v2 : Value) (x2 : List Int) (s_v2 : Sl h v2 x2) (_ : ∀ y ∈ x2, I64 y) : Cn f_laws_FnExactRoundsNeeded [.int .i64 x0, .int .i64 x1, v2] h fun v h' => v = .bool true ∧ Ext h h' := by
  unfold I64 at b_x0
  unfold I64 at b_x1
  have lt_v2 := s_v2.lt
  refine calls_of r_laws_FnExactRoundsNeeded ?_
  refine v_seq ?_
  refine v_ops ?_
  refine s_pure (.bool false) (fun _ q => q) ?_
  refine s_nil ?_
  refine p_seqN ?_
  refine v_seq ?_
  refine v_seq ?_
  refine v_ops ?_
  refine s_pure v2 (fun _ q => q) ?_
  refine s_pure (.int .i64 (x2.length : Int)) (fun _ q => s_v2.lenVC q) ?_
  refine s_pure (.bool (decide ((x2.length : Int) > 1048576))) (fun _ q => q) ?_
  refine s_nil ?_
  refine p_seqN ?_
  refine v_cond rfl (fun c1 => ?_) (fun c1 => ?_)
  ·
    refine v_seq ?_
    refine v_ops ?_
    refine s_pure (.bool true) (fun _ q => q) ?_
    refine s_nil ?_
    refine p_seqN ?_
    refine v_ret ?_
    refine p_seqR ?_
    refine p_ret [.bool true] (.bool true) (fun _ q => q) rfl ?_
    exact ⟨rfl, (Ext.refl h)⟩
  have bd2 : x2.length ≤ 1048576 := by omega
  refine v_skip ?_
  refine p_seqN ?_
  refine v_seq ?_
  refine v_ops ?_
  refine s_pure (.int .i64 x0) (fun _ q => q) ?_
  refine s_pure (.int .i64 x1) (fun _ q => q) ?_
  refine s_pure v2 (fun _ q => q) ?_
  refine s_call [v2] rfl (toIntS_ok v2 x2 _ s_v2 bd2) ?_
  rintro r4 h3 ⟨s_r4, eh3, fr_r4⟩
  have E5 := (Ext.refl h).trans eh3
  have z6 := eh3.size
  have lt_r4 := s_r4.lt
  refine s_call [.int .i64 x0, .int .i64 x1, r4] rfl (spec_RoundsNeeded_ok x0 x1 r4 x2 _ s_r4.toSl) ?_
  rintro _ h7 ⟨rfl, eh7⟩
  have E8 := E5.trans eh7
  have z9 := eh7.size
  refine s_pure (.tuple #[.int .i64 ((akOut AckS.rounds x0 x1 x2).1), .bool ((akOut AckS.rounds x0 x1 x2).2)]) (fun _ q => q) ?_
  refine s_pure (.int .i64 ((akOut AckS.rounds x0 x1 x2).1)) (fun _ q => q) ?_
  refine s_pure (.bool ((akOut AckS.rounds x0 x1 x2).2)) (fun _ q => q) ?_
  refine s_pure (.int .i64 ((akOut AckS.rounds x0 x1 x2).1)) (fun _ q => q) ?_
  refine s_pure (.bool ((akOut AckS.rounds x0 x1 x2).2)) (fun _ q => q) ?_
  refine s_nil ?_
  refine p_seqN ?_
  refine v_seq ?_
  refine v_ops ?_
  refine s_pure v2 (fun _ q => q) ?_
  have f10 := ((s_v2.ext eh3).ext eh7)
  refine s_call [v2] rfl (toIntS_ok v2 x2 _ f10 bd2) ?_
  rintro r12 h11 ⟨s_r12, eh11, fr_r12⟩
  have E13 := E8.trans eh11
  have z14 := eh11.size
  have lt_r12 := s_r12.lt
  refine s_pure r12 (fun _ q => q) ?_
  refine s_nil ?_
  refine p_seqN ?_
  refine v_seq ?_
  refine v_ops ?_
  refine s_pure (.int .i64 x0) (fun _ q => q) ?_
  refine s_pure (.int .i64 x1) (fun _ q => q) ?_
  refine s_pure r12 (fun _ q => q) ?_
  refine s_call [.int .i64 x0, .int .i64 x1, r12] rfl (impl_RoundsNeeded_ok x0 x1 r12 x2 _ s_r12.toSl) ?_
  rintro _ h15 ⟨rfl, eh15⟩
  have E16 := E13.trans eh15
  have z17 := eh15.size
  refine s_pure (.tuple #[.int .i64 ((akOut AckS.rounds x0 x1 x2).1), .bool ((akOut AckS.rounds x0 x1 x2).2)]) (fun _ q => q) ?_
  refine s_pure (.int .i64 ((akOut AckS.rounds x0 x1 x2).1)) (fun _ q => q) ?_
  refine s_pure (.bool ((akOut AckS.rounds x0 x1 x2).2)) (fun _ q => q) ?_
  refine s_pure (.int .i64 ((akOut AckS.rounds x0 x1 x2).1)) (fun _ q => q) ?_
  refine s_pure (.bool ((akOut AckS.rounds x0 x1 x2).2)) (fun _ q => q) ?_
  refine s_nil ?_
  refine p_seqN ?_
  refine v_seq ?_
  refine v_seq ?_
  refine v_ops ?_
  refine s_pure (.int .i64 ((akOut AckS.rounds x0 x1 x2).1)) (fun _ q => q) ?_
  refine s_pure (.int .i64 ((akOut AckS.rounds x0 x1 x2).1)) (fun _ q => q) ?_
  refine s_pure (.bool ((akOut AckS.rounds x0 x1 x2).1 != (akOut AckS.rounds x0 x1 x2).1)) (fun _ q => q) ?_
  refine s_pure (.bool ((akOut AckS.rounds x0 x1 x2).1 != (akOut AckS.rounds x0 x1 x2).1)) (fun _ q => q) ?_
  refine s_splitN rfl (by first | assumption | omega | (simp; done) | (simp; omega) | simp_all) ?_
  refine s_run rfl ?_
  refine s_pure (.bool ((akOut AckS.rounds x0 x1 x2).2)) (fun _ q => q) ?_
  refine s_run rfl ?_
  refine s_pure (.bool ((akOut AckS.rounds x0 x1 x2).2)) (fun _ q => q) ?_
  refine s_run rfl ?_
  refine s_pure (.bool ((akOut AckS.rounds x0 x1 x2).2 != (akOut AckS.rounds x0 x1 x2).2)) (fun _ q => q) ?_
  refine s_pure (.bool ((akOut AckS.rounds x0 x1 x2).2 != (akOut AckS.rounds x0 x1 x2).2)) (fun _ q => q) ?_
  refine s_nil ?_
  refine p_seqN ?_
  refine v_condN rfl (by first | assumption | omega | (simp; done) | (simp; omega) | simp_all) ?_
  refine v_skip ?_
  refine p_seqN ?_
  refine v_seq ?_
  refine v_seq ?_
  refine v_ops ?_
  refine s_pure r12 (fun _ q => q) ?_
  refine s_pure v2 (fun _ q => q) ?_
  have f18 := ((f10.ext eh11).ext eh15)
  refine s_call [v2] rfl (toIntS_ok v2 x2 _ f18 bd2) ?_
  rintro r20 h19 ⟨s_r20, eh19, fr_r20⟩
  have E21 := E16.trans eh19
  have z22 := eh19.size
  have lt_r20 := s_r20.lt
  have f23 := ((s_r12.ext eh15).ext eh19)
  refine s_call [r12, r20] rfl (eqIntS_ok r12 r20 x2 x2 _ f23.toSl s_r20.toSl) ?_
  rintro _ h24 ⟨rfl, hqh24⟩
  have eh24 := Ext.ofEq hqh24
  clear hqh24
  have E25 := E21.trans eh24
  have z26 := eh24.size
  refine s_pure (.bool (!(decide (x2 = x2)))) (fun _ q => q) ?_
  refine s_nil ?_
  refine p_seqN ?_
  refine v_condN rfl (by first | assumption | omega | (simp; done) | (simp; omega) | simp_all) ?_
  refine v_skip ?_
  refine p_seqN ?_
  refine v_seq ?_
  refine v_ops ?_
  refine s_pure (.bool true) (fun _ q => q) ?_
  refine s_nil ?_
  refine p_seqN ?_
  refine v_ret ?_
  refine p_ret [.bool true] (.bool true) (fun _ q => q) rfl ?_
  exact ⟨rfl, E25⟩
end Go.Proofs.Ytibhbphikijecaa.finFnExactRoundsNeeded
