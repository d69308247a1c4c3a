/- The law FnExactParsePacket: its text returns true. Condition: none. Printed by a program. -/
import Derived.Test.YtbikhpphdhffaaaDoorDt2
import Derived.Test.YtbikhpphdhffaaaDoorDt4
import Derived.Test.YtbikhpphdhffaaaDoorTypes
namespace Go.Proofs.YtbikhpphdhffaaaDoor.finFnExactParsePacket
open Go.Vc
set_option linter.all false
set_option maxRecDepth 100000 in
set_option maxHeartbeats 2000000 in
theorem law_ok (h : Heap) (x0 : ByteArray) (w0 : x0.size ≤ maxLen) (g : Gl h) : Cn f_laws_FnExactParsePacket [.string x0] h fun v h' => v = .bool true ∧ Ext h h' := by
  have hsg := pp_len x0.data.toList
  refine calls_of r_laws_FnExactParsePacket ?_
  refine v_seq ?_
  refine v_ops ?_
  refine s_pure (.bool false) (fun _ q => q) ?_
  refine s_nil ?_
  refine p_seqN ?_
  refine v_seq ?_
  refine v_seq ?_
  refine v_ops ?_
  refine s_pure (.string x0) (fun _ q => q) ?_
  refine s_pure (.int .i64 (x0.size : Int)) (fun _ q => q) ?_
  refine s_pure (.bool (decide ((x0.size : Int) > 1048576))) (fun _ q => q) ?_
  refine s_nil ?_
  refine p_seqN ?_
  refine v_cond rfl (fun c2 => ?_) (fun c2 => ?_)
  ·
    refine v_seq ?_
    refine v_ops ?_
    refine s_pure (.bool true) (fun _ q => q) ?_
    refine s_nil ?_
    refine p_seqN ?_
    refine v_ret ?_
    refine p_seqR ?_
    refine p_ret [.bool true] (.bool true) (fun _ q => q) rfl ?_
    exact ⟨rfl, (Ext.refl h)⟩
  ·
    refine v_skip ?_
    refine p_seqN ?_
    refine v_seq ?_
    refine v_ops ?_
    refine s_pure (.string x0) (fun _ q => q) ?_
    refine s_call [.string x0] rfl (spec_ParsePacket_ok x0 _ (by first | omega | exact w0) (by omega)) ?_
    rintro _ h4 ⟨r3, rfl, s_r3, fr_r3, eh4⟩
    have E5 := (Ext.refl h).trans eh4
    have z6 := eh4.size
    have lt_r3 := s_r3.lt
    refine s_pure (.tuple #[.agg #[.int .i64 (((ppOut x0.data.toList).1).message), .int .i64 (((ppOut x0.data.toList).1).part), .int .i64 (((ppOut x0.data.toList).1).parts), r3], .bool ((ppOut x0.data.toList).2)]) (fun _ q => q) ?_
    refine s_pure (.agg #[.int .i64 (((ppOut x0.data.toList).1).message), .int .i64 (((ppOut x0.data.toList).1).part), .int .i64 (((ppOut x0.data.toList).1).parts), r3]) (fun _ q => q) ?_
    refine s_pure (.bool ((ppOut x0.data.toList).2)) (fun _ q => q) ?_
    refine s_new (fun h8 b7 hbb7 hzb7 eh8 bxb7 => ?_)
    have E9 := E5.trans eh8
    have z10 := eh8.size
    have lbb7 := bxb7.lt
    refine s_stBx (.agg #[.int .i64 (((ppOut x0.data.toList).1).message), .int .i64 (((ppOut x0.data.toList).1).part), .int .i64 (((ppOut x0.data.toList).1).parts), r3]) [.int .i64 (((ppOut x0.data.toList).1).message), .int .i64 (((ppOut x0.data.toList).1).part), .int .i64 (((ppOut x0.data.toList).1).parts), r3] [.int .i64 (((ppOut x0.data.toList).1).message), .int .i64 (((ppOut x0.data.toList).1).part), .int .i64 (((ppOut x0.data.toList).1).parts), r3] bxb7 rfl rfl rfl rfl (by simp) (all_cons rfl (all_cons rfl (all_cons rfl (all_cons s_r3.one1 all_nil)))) rfl (fun h11 mh11 sh11 bxx12 => ?_)
    have E13 := E9.mod mh11 (fun b hb => by simp at hb; omega)
    refine s_pure (.bool ((ppOut x0.data.toList).2)) (fun _ q => q) ?_
    refine s_nil ?_
    refine p_seqN ?_
    refine v_seq ?_
    refine v_ops ?_
    refine s_pure (.string x0) (fun _ q => q) ?_
    refine s_call [.string x0] rfl (impl_ParsePacket_ok x0 _ (by first | omega | exact w0) (g.ext E13) (by omega)) ?_
    rintro _ h15 ⟨r14, rfl, s_r14, fr_r14, eh15⟩
    have E16 := E13.trans eh15
    have z17 := eh15.size
    have lt_r14 := s_r14.lt
    refine s_pure (.tuple #[.agg #[.int .i64 (((ppOut x0.data.toList).1).message), .int .i64 (((ppOut x0.data.toList).1).part), .int .i64 (((ppOut x0.data.toList).1).parts), r14], .bool ((ppOut x0.data.toList).2)]) (fun _ q => q) ?_
    refine s_pure (.agg #[.int .i64 (((ppOut x0.data.toList).1).message), .int .i64 (((ppOut x0.data.toList).1).part), .int .i64 (((ppOut x0.data.toList).1).parts), r14]) (fun _ q => q) ?_
    refine s_pure (.bool ((ppOut x0.data.toList).2)) (fun _ q => q) ?_
    refine s_new (fun h19 b18 hbb18 hzb18 eh19 bxb18 => ?_)
    have E20 := E16.trans eh19
    have z21 := eh19.size
    have lbb18 := bxb18.lt
    refine s_stBx (.agg #[.int .i64 (((ppOut x0.data.toList).1).message), .int .i64 (((ppOut x0.data.toList).1).part), .int .i64 (((ppOut x0.data.toList).1).parts), r14]) [.int .i64 (((ppOut x0.data.toList).1).message), .int .i64 (((ppOut x0.data.toList).1).part), .int .i64 (((ppOut x0.data.toList).1).parts), r14] [.int .i64 (((ppOut x0.data.toList).1).message), .int .i64 (((ppOut x0.data.toList).1).part), .int .i64 (((ppOut x0.data.toList).1).parts), r14] bxb18 rfl rfl rfl rfl (by simp) (all_cons rfl (all_cons rfl (all_cons rfl (all_cons s_r14.one1 all_nil)))) rfl (fun h22 mh22 sh22 bxx23 => ?_)
    have E24 := E20.mod mh22 (fun b hb => by simp at hb; omega)
    refine s_pure (.bool ((ppOut x0.data.toList).2)) (fun _ q => q) ?_
    refine s_nil ?_
    refine p_seqN ?_
    refine v_seq ?_
    refine v_seq ?_
    refine v_ops ?_
    refine s_load (.agg #[.int .i64 (((ppOut x0.data.toList).1).message), .int .i64 (((ppOut x0.data.toList).1).part), .int .i64 (((ppOut x0.data.toList).1).parts), r14]) (fun _ q => bxx23.loadA rfl q) ?_
    have f25 := (((bxx12.ext eh15).ext eh19).mod mh22 (by simp; omega))
    refine s_load (.agg #[.int .i64 (((ppOut x0.data.toList).1).message), .int .i64 (((ppOut x0.data.toList).1).part), .int .i64 (((ppOut x0.data.toList).1).parts), r3]) (fun _ q => f25.loadA rfl q) ?_
    have f26 := ((s_r14.ext eh19).mod mh22 (fun b hb hc => by simp at hc; have := lt_r14 b hb; omega))
    have f27 := (((((s_r3.ext eh8).mod mh11 (fun b hb hc => by simp at hc; have := lt_r3 b hb; omega)).ext eh15).ext eh19).mod mh22 (fun b hb hc => by simp at hc; have := lt_r3 b hb; omega))
    refine s_call [.agg #[.int .i64 (((ppOut x0.data.toList).1).message), .int .i64 (((ppOut x0.data.toList).1).part), .int .i64 (((ppOut x0.data.toList).1).parts), r14], .agg #[.int .i64 (((ppOut x0.data.toList).1).message), .int .i64 (((ppOut x0.data.toList).1).part), .int .i64 (((ppOut x0.data.toList).1).parts), r3]] rfl (eqPacket_ok (((ppOut x0.data.toList).1).message) (((ppOut x0.data.toList).1).part) (((ppOut x0.data.toList).1).parts) r14 (((ppOut x0.data.toList).1).signals) (((ppOut x0.data.toList).1).message) (((ppOut x0.data.toList).1).part) (((ppOut x0.data.toList).1).parts) r3 (((ppOut x0.data.toList).1).signals) _ f26.toSl f27.toSl) ?_
    rintro _ h28 ⟨rfl, eh28⟩
    have E29 := E24.trans eh28
    have z30 := eh28.size
    refine s_pure (.bool (!(decide (((ppOut x0.data.toList).1).message = ((ppOut x0.data.toList).1).message ∧ ((ppOut x0.data.toList).1).part = ((ppOut x0.data.toList).1).part ∧ ((ppOut x0.data.toList).1).parts = ((ppOut x0.data.toList).1).parts ∧ ((ppOut x0.data.toList).1).signals = ((ppOut x0.data.toList).1).signals)))) (fun _ q => q) ?_
    refine s_pure (.bool (!(decide (((ppOut x0.data.toList).1).message = ((ppOut x0.data.toList).1).message ∧ ((ppOut x0.data.toList).1).part = ((ppOut x0.data.toList).1).part ∧ ((ppOut x0.data.toList).1).parts = ((ppOut x0.data.toList).1).parts ∧ ((ppOut x0.data.toList).1).signals = ((ppOut x0.data.toList).1).signals)))) (fun _ q => q) ?_
    refine s_splitN rfl (by first | assumption | omega | (simp; done) | (simp; omega) | simp_all) ?_
    refine s_run rfl ?_
    refine s_pure (.bool ((ppOut x0.data.toList).2)) (fun _ q => q) ?_
    refine s_run rfl ?_
    refine s_pure (.bool ((ppOut x0.data.toList).2)) (fun _ q => q) ?_
    refine s_run rfl ?_
    refine s_pure (.bool ((ppOut x0.data.toList).2 != (ppOut x0.data.toList).2)) (fun _ q => q) ?_
    refine s_pure (.bool ((ppOut x0.data.toList).2 != (ppOut x0.data.toList).2)) (fun _ q => q) ?_
    refine s_nil ?_
    refine p_seqN ?_
    refine v_condN rfl (by first | assumption | omega | (simp; done) | (simp; omega) | simp_all) ?_
    refine v_skip ?_
    refine p_seqN ?_
    refine v_seq ?_
    refine v_ops ?_
    refine s_pure (.int .i64 1) (fun _ q => q) ?_
    refine s_nil ?_
    refine p_seqN ?_
    refine v_seq ?_
    refine v_ops ?_
    have f31 := (bxx23.ext eh28)
    refine s_load (.agg #[.int .i64 (((ppOut x0.data.toList).1).message), .int .i64 (((ppOut x0.data.toList).1).part), .int .i64 (((ppOut x0.data.toList).1).parts), r14]) (fun _ q => f31.loadA rfl q) ?_
    refine s_pure (.int .i64 1) (fun _ q => q) ?_
    refine s_inl r_laws_markPacket [.agg #[.int .i64 (((ppOut x0.data.toList).1).message), .int .i64 (((ppOut x0.data.toList).1).part), .int .i64 (((ppOut x0.data.toList).1).parts), r14], .int .i64 1] rfl ?_ rfl
    refine v_seq ?_
    refine v_ops ?_
    refine s_box [.int .i64 (((ppOut x0.data.toList).1).message), .int .i64 (((ppOut x0.data.toList).1).part), .int .i64 (((ppOut x0.data.toList).1).parts), r14] rfl (fun h33 b32 hbb32 hzb32 eh33 bxb32 => ?_)
    have E34 := E29.trans eh33
    have z35 := eh33.size
    have lbb32 := bxb32.lt
    refine s_pure (.int .i64 0) (fun _ q => q) ?_
    refine s_nil ?_
    refine p_seqN ?_
    refine v_seq ?_
    refine v_ops ?_
    refine s_pure (.pointer (some ⟨b32, 3, none⟩)) (fun _ q => q) ?_
    refine s_load r14 (fun _ q => bxb32.load rfl q) ?_
    refine s_pure (.int .i64 1) (fun _ q => q) ?_
    have f36 := ((f26.ext eh28).ext eh33)
    refine s_call [r14, .int .i64 1] rfl (markIntS_ok r14 (((ppOut x0.data.toList).1).signals) (1) _ f36 (by omega) (by omega) (by omega)) ?_
    rintro _ h37 ⟨rfl, mk38, mh37, zh37⟩
    have E39 := E34.mod mh37 (fun b hb => by have := fr_r14 b hb; omega)
    refine s_pure (.int .i64 (1 + (((ppOut x0.data.toList).1).signals.length : Int))) (fun _ q => q) ?_
    refine s_nil ?_
    refine p_seqN ?_
    refine v_seq ?_
    refine v_ops ?_
    refine s_pure (.int .i64 (1 + (((ppOut x0.data.toList).1).signals.length : Int))) (fun _ q => q) ?_
    refine s_pure (.int .i64 (1 + (((ppOut x0.data.toList).1).signals.length : Int))) (fun _ q => q) ?_
    refine s_nil ?_
    refine p_seqN ?_
    refine v_ret ?_
    refine p_ret [.int .i64 (1 + (((ppOut x0.data.toList).1).signals.length : Int))] (.int .i64 (1 + (((ppOut x0.data.toList).1).signals.length : Int))) (fun _ q => q) rfl ?_
    refine s_pure (.int .i64 (1 + (((ppOut x0.data.toList).1).signals.length : Int))) (fun _ q => q) ?_
    refine s_nil ?_
    refine p_seqN ?_
    refine v_seq ?_
    refine v_ops ?_
    refine s_pure (.int .i64 1) (fun _ q => q) ?_
    refine s_nil ?_
    refine p_seqN ?_
    refine v_seq ?_
    refine v_ops ?_
    have f40 := ((f31.ext eh33).mod mh37 (fun hc => by have := lt_r14 _ hc; omega))
    refine s_load (.agg #[.int .i64 (((ppOut x0.data.toList).1).message), .int .i64 (((ppOut x0.data.toList).1).part), .int .i64 (((ppOut x0.data.toList).1).parts), r14]) (fun _ q => f40.loadA rfl q) ?_
    refine s_pure (.int .i64 1) (fun _ q => q) ?_
    refine s_inl r_laws_heldPacket [.agg #[.int .i64 (((ppOut x0.data.toList).1).message), .int .i64 (((ppOut x0.data.toList).1).part), .int .i64 (((ppOut x0.data.toList).1).parts), r14], .int .i64 1] rfl ?_ rfl
    refine v_seq ?_
    refine v_ops ?_
    refine s_box [.int .i64 (((ppOut x0.data.toList).1).message), .int .i64 (((ppOut x0.data.toList).1).part), .int .i64 (((ppOut x0.data.toList).1).parts), r14] rfl (fun h42 b41 hbb41 hzb41 eh42 bxb41 => ?_)
    have E43 := E39.trans eh42
    have z44 := eh42.size
    have lbb41 := bxb41.lt
    refine s_pure (.int .i64 0) (fun _ q => q) ?_
    refine s_nil ?_
    refine p_seqN ?_
    refine v_seq ?_
    refine v_ops ?_
    refine s_pure (.pointer (some ⟨b41, 3, none⟩)) (fun _ q => q) ?_
    refine s_load r14 (fun _ q => bxb41.load rfl q) ?_
    refine s_pure (.int .i64 1) (fun _ q => q) ?_
    have f45 := (mk38.ext eh42)
    refine s_call [r14, .int .i64 1] rfl (heldIntS_ok _ _ (1) _ f45.toSl (by omega) (by omega) (by omega)) ?_
    rintro _ h46 ⟨rfl, hqh46⟩
    have eh46 := Ext.ofEq hqh46
    clear hqh46
    have E47 := E43.trans eh46
    have z48 := eh46.size
    refine s_pure (.int .i64 (1 + (((ppOut x0.data.toList).1).signals.length : Int))) (fun _ q => q) ?_
    refine s_nil ?_
    refine p_seqN ?_
    refine v_seq ?_
    refine v_seq ?_
    refine v_ops ?_
    refine s_pure (.int .i64 (1 + (((ppOut x0.data.toList).1).signals.length : Int))) (fun _ q => q) ?_
    refine s_pure (.bool (decide ((1 + (((ppOut x0.data.toList).1).signals.length : Int)) < 0))) (fun _ q => q) ?_
    refine s_nil ?_
    refine p_seqN ?_
    refine v_condN rfl (by first | assumption | omega | (simp; done) | (simp; omega) | simp_all) ?_
    refine v_skip ?_
    refine p_seqN ?_
    refine v_seq ?_
    refine v_ops ?_
    refine s_pure (.int .i64 (1 + (((ppOut x0.data.toList).1).signals.length : Int))) (fun _ q => q) ?_
    refine s_pure (.int .i64 (1 + (((ppOut x0.data.toList).1).signals.length : Int))) (fun _ q => q) ?_
    refine s_nil ?_
    refine p_seqN ?_
    refine v_ret ?_
    refine p_ret [.int .i64 (1 + (((ppOut x0.data.toList).1).signals.length : Int))] (.int .i64 (1 + (((ppOut x0.data.toList).1).signals.length : Int))) (fun _ q => q) rfl ?_
    refine s_pure (.int .i64 (1 + (((ppOut x0.data.toList).1).signals.length : Int))) (fun _ q => q) ?_
    refine s_nil ?_
    refine p_seqN ?_
    refine v_seq ?_
    refine v_seq ?_
    refine v_ops ?_
    refine s_pure (.int .i64 (1 + (((ppOut x0.data.toList).1).signals.length : Int))) (fun _ q => q) ?_
    refine s_pure (.bool (decide ((1 + (((ppOut x0.data.toList).1).signals.length : Int)) < 0))) (fun _ q => q) ?_
    refine s_nil ?_
    refine p_seqN ?_
    refine v_condN rfl (by first | assumption | omega | (simp; done) | (simp; omega) | simp_all) ?_
    refine v_skip ?_
    refine p_seqN ?_
    refine v_seq ?_
    refine v_seq ?_
    refine v_ops ?_
    refine s_pure (.int .i64 (1 + (((ppOut x0.data.toList).1).signals.length : Int))) (fun _ q => q) ?_
    refine s_pure (.int .i64 (1 + (((ppOut x0.data.toList).1).signals.length : Int))) (fun _ q => q) ?_
    refine s_pure (.bool ((1 + (((ppOut x0.data.toList).1).signals.length : Int)) != (1 + (((ppOut x0.data.toList).1).signals.length : Int)))) (fun _ q => q) ?_
    refine s_nil ?_
    refine p_seqN ?_
    refine v_condN rfl (by first | assumption | omega | (simp; done) | (simp; omega) | simp_all) ?_
    refine v_skip ?_
    refine p_seqN ?_
    refine v_seq ?_
    refine v_ops ?_
    refine s_pure (.string x0) (fun _ q => q) ?_
    refine s_call [.string x0] rfl (impl_ParsePacket_ok x0 _ (by first | omega | exact w0) (g.ext E47) (by omega)) ?_
    rintro _ h50 ⟨r49, rfl, s_r49, fr_r49, eh50⟩
    have E51 := E47.trans eh50
    have z52 := eh50.size
    have lt_r49 := s_r49.lt
    refine s_pure (.tuple #[.agg #[.int .i64 (((ppOut x0.data.toList).1).message), .int .i64 (((ppOut x0.data.toList).1).part), .int .i64 (((ppOut x0.data.toList).1).parts), r49], .bool ((ppOut x0.data.toList).2)]) (fun _ q => q) ?_
    refine s_pure (.agg #[.int .i64 (((ppOut x0.data.toList).1).message), .int .i64 (((ppOut x0.data.toList).1).part), .int .i64 (((ppOut x0.data.toList).1).parts), r49]) (fun _ q => q) ?_
    refine s_pure (.bool ((ppOut x0.data.toList).2)) (fun _ q => q) ?_
    refine s_new (fun h54 b53 hbb53 hzb53 eh54 bxb53 => ?_)
    have E55 := E51.trans eh54
    have z56 := eh54.size
    have lbb53 := bxb53.lt
    refine s_stBx (.agg #[.int .i64 (((ppOut x0.data.toList).1).message), .int .i64 (((ppOut x0.data.toList).1).part), .int .i64 (((ppOut x0.data.toList).1).parts), r49]) [.int .i64 (((ppOut x0.data.toList).1).message), .int .i64 (((ppOut x0.data.toList).1).part), .int .i64 (((ppOut x0.data.toList).1).parts), r49] [.int .i64 (((ppOut x0.data.toList).1).message), .int .i64 (((ppOut x0.data.toList).1).part), .int .i64 (((ppOut x0.data.toList).1).parts), r49] bxb53 rfl rfl rfl rfl (by simp) (all_cons rfl (all_cons rfl (all_cons rfl (all_cons s_r49.one1 all_nil)))) rfl (fun h57 mh57 sh57 bxx58 => ?_)
    have E59 := E55.mod mh57 (fun b hb => by simp at hb; omega)
    refine s_pure (.bool ((ppOut x0.data.toList).2)) (fun _ q => q) ?_
    refine s_nil ?_
    refine p_seqN ?_
    refine v_seq ?_
    refine v_seq ?_
    refine v_ops ?_
    refine s_load (.agg #[.int .i64 (((ppOut x0.data.toList).1).message), .int .i64 (((ppOut x0.data.toList).1).part), .int .i64 (((ppOut x0.data.toList).1).parts), r49]) (fun _ q => bxx58.loadA rfl q) ?_
    have f60 := ((((((((f25.ext eh28).ext eh33).mod mh37 (fun hc => by have := fr_r14 _ hc; omega)).ext eh42).ext eh46).ext eh50).ext eh54).mod mh57 (by simp; omega))
    refine s_load (.agg #[.int .i64 (((ppOut x0.data.toList).1).message), .int .i64 (((ppOut x0.data.toList).1).part), .int .i64 (((ppOut x0.data.toList).1).parts), r3]) (fun _ q => f60.loadA rfl q) ?_
    have f61 := ((s_r49.ext eh54).mod mh57 (fun b hb hc => by simp at hc; have := lt_r49 b hb; omega))
    have f62 := ((((((((f27.ext eh28).ext eh33).mod mh37 (fun b hb hc => by have := lt_r3 b hb; have := fr_r14 b hc; omega)).ext eh42).ext eh46).ext eh50).ext eh54).mod mh57 (fun b hb hc => by simp at hc; have := lt_r3 b hb; omega))
    refine s_call [.agg #[.int .i64 (((ppOut x0.data.toList).1).message), .int .i64 (((ppOut x0.data.toList).1).part), .int .i64 (((ppOut x0.data.toList).1).parts), r49], .agg #[.int .i64 (((ppOut x0.data.toList).1).message), .int .i64 (((ppOut x0.data.toList).1).part), .int .i64 (((ppOut x0.data.toList).1).parts), r3]] rfl (eqPacket_ok (((ppOut x0.data.toList).1).message) (((ppOut x0.data.toList).1).part) (((ppOut x0.data.toList).1).parts) r49 (((ppOut x0.data.toList).1).signals) (((ppOut x0.data.toList).1).message) (((ppOut x0.data.toList).1).part) (((ppOut x0.data.toList).1).parts) r3 (((ppOut x0.data.toList).1).signals) _ f61.toSl f62.toSl) ?_
    rintro _ h63 ⟨rfl, eh63⟩
    have E64 := E59.trans eh63
    have z65 := eh63.size
    refine s_pure (.bool (!(decide (((ppOut x0.data.toList).1).message = ((ppOut x0.data.toList).1).message ∧ ((ppOut x0.data.toList).1).part = ((ppOut x0.data.toList).1).part ∧ ((ppOut x0.data.toList).1).parts = ((ppOut x0.data.toList).1).parts ∧ ((ppOut x0.data.toList).1).signals = ((ppOut x0.data.toList).1).signals)))) (fun _ q => q) ?_
    refine s_pure (.bool (!(decide (((ppOut x0.data.toList).1).message = ((ppOut x0.data.toList).1).message ∧ ((ppOut x0.data.toList).1).part = ((ppOut x0.data.toList).1).part ∧ ((ppOut x0.data.toList).1).parts = ((ppOut x0.data.toList).1).parts ∧ ((ppOut x0.data.toList).1).signals = ((ppOut x0.data.toList).1).signals)))) (fun _ q => q) ?_
    refine s_splitN rfl (by first | assumption | omega | (simp; done) | (simp; omega) | simp_all) ?_
    refine s_run rfl ?_
    refine s_pure (.bool ((ppOut x0.data.toList).2)) (fun _ q => q) ?_
    refine s_run rfl ?_
    refine s_pure (.bool ((ppOut x0.data.toList).2)) (fun _ q => q) ?_
    refine s_run rfl ?_
    refine s_pure (.bool ((ppOut x0.data.toList).2 != (ppOut x0.data.toList).2)) (fun _ q => q) ?_
    refine s_pure (.bool ((ppOut x0.data.toList).2 != (ppOut x0.data.toList).2)) (fun _ q => q) ?_
    refine s_nil ?_
    refine p_seqN ?_
    refine v_condN rfl (by first | assumption | omega | (simp; done) | (simp; omega) | simp_all) ?_
    refine v_skip ?_
    refine p_seqN ?_
    refine v_seq ?_
    refine v_ops ?_
    refine s_pure (.int .i64 1) (fun _ q => q) ?_
    refine s_nil ?_
    refine p_seqN ?_
    refine v_seq ?_
    refine v_ops ?_
    have f66 := ((((((f40.ext eh42).ext eh46).ext eh50).ext eh54).mod mh57 (by simp; omega)).ext eh63)
    refine s_load (.agg #[.int .i64 (((ppOut x0.data.toList).1).message), .int .i64 (((ppOut x0.data.toList).1).part), .int .i64 (((ppOut x0.data.toList).1).parts), r14]) (fun _ q => f66.loadA rfl q) ?_
    refine s_pure (.int .i64 1) (fun _ q => q) ?_
    refine s_inl r_laws_heldPacket [.agg #[.int .i64 (((ppOut x0.data.toList).1).message), .int .i64 (((ppOut x0.data.toList).1).part), .int .i64 (((ppOut x0.data.toList).1).parts), r14], .int .i64 1] rfl ?_ rfl
    refine v_seq ?_
    refine v_ops ?_
    refine s_box [.int .i64 (((ppOut x0.data.toList).1).message), .int .i64 (((ppOut x0.data.toList).1).part), .int .i64 (((ppOut x0.data.toList).1).parts), r14] rfl (fun h68 b67 hbb67 hzb67 eh68 bxb67 => ?_)
    have E69 := E64.trans eh68
    have z70 := eh68.size
    have lbb67 := bxb67.lt
    refine s_pure (.int .i64 0) (fun _ q => q) ?_
    refine s_nil ?_
    refine p_seqN ?_
    refine v_seq ?_
    refine v_ops ?_
    refine s_pure (.pointer (some ⟨b67, 3, none⟩)) (fun _ q => q) ?_
    refine s_load r14 (fun _ q => bxb67.load rfl q) ?_
    refine s_pure (.int .i64 1) (fun _ q => q) ?_
    have f71 := ((((((f45.ext eh46).ext eh50).ext eh54).mod mh57 (fun b hb hc => by simp at hc; have := lt_r14 b hb; omega)).ext eh63).ext eh68)
    refine s_call [r14, .int .i64 1] rfl (heldIntS_ok _ _ (1) _ f71.toSl (by omega) (by omega) (by omega)) ?_
    rintro _ h72 ⟨rfl, hqh72⟩
    have eh72 := Ext.ofEq hqh72
    clear hqh72
    have E73 := E69.trans eh72
    have z74 := eh72.size
    refine s_pure (.int .i64 (1 + (((ppOut x0.data.toList).1).signals.length : Int))) (fun _ q => q) ?_
    refine s_nil ?_
    refine p_seqN ?_
    refine v_seq ?_
    refine v_seq ?_
    refine v_ops ?_
    refine s_pure (.int .i64 (1 + (((ppOut x0.data.toList).1).signals.length : Int))) (fun _ q => q) ?_
    refine s_pure (.bool (decide ((1 + (((ppOut x0.data.toList).1).signals.length : Int)) < 0))) (fun _ q => q) ?_
    refine s_nil ?_
    refine p_seqN ?_
    refine v_condN rfl (by first | assumption | omega | (simp; done) | (simp; omega) | simp_all) ?_
    refine v_skip ?_
    refine p_seqN ?_
    refine v_seq ?_
    refine v_ops ?_
    refine s_pure (.int .i64 (1 + (((ppOut x0.data.toList).1).signals.length : Int))) (fun _ q => q) ?_
    refine s_pure (.int .i64 (1 + (((ppOut x0.data.toList).1).signals.length : Int))) (fun _ q => q) ?_
    refine s_nil ?_
    refine p_seqN ?_
    refine v_ret ?_
    refine p_ret [.int .i64 (1 + (((ppOut x0.data.toList).1).signals.length : Int))] (.int .i64 (1 + (((ppOut x0.data.toList).1).signals.length : Int))) (fun _ q => q) rfl ?_
    refine s_pure (.int .i64 (1 + (((ppOut x0.data.toList).1).signals.length : Int))) (fun _ q => q) ?_
    refine s_nil ?_
    refine p_seqN ?_
    refine v_seq ?_
    refine v_seq ?_
    refine v_ops ?_
    refine s_pure (.int .i64 (1 + (((ppOut x0.data.toList).1).signals.length : Int))) (fun _ q => q) ?_
    refine s_pure (.bool (decide ((1 + (((ppOut x0.data.toList).1).signals.length : Int)) < 0))) (fun _ q => q) ?_
    refine s_nil ?_
    refine p_seqN ?_
    refine v_condN rfl (by first | assumption | omega | (simp; done) | (simp; omega) | simp_all) ?_
    refine v_skip ?_
    refine p_seqN ?_
    refine v_seq ?_
    refine v_seq ?_
    refine v_ops ?_
    refine s_pure (.int .i64 (1 + (((ppOut x0.data.toList).1).signals.length : Int))) (fun _ q => q) ?_
    refine s_pure (.int .i64 (1 + (((ppOut x0.data.toList).1).signals.length : Int))) (fun _ q => q) ?_
    refine s_pure (.bool ((1 + (((ppOut x0.data.toList).1).signals.length : Int)) != (1 + (((ppOut x0.data.toList).1).signals.length : Int)))) (fun _ q => q) ?_
    refine s_nil ?_
    refine p_seqN ?_
    refine v_condN rfl (by first | assumption | omega | (simp; done) | (simp; omega) | simp_all) ?_
    refine v_skip ?_
    refine p_seqN ?_
    refine v_seq ?_
    refine v_ops ?_
    refine s_pure (.bool true) (fun _ q => q) ?_
    refine s_nil ?_
    refine p_seqN ?_
    refine v_ret ?_
    refine p_ret [.bool true] (.bool true) (fun _ q => q) rfl ?_
    exact ⟨rfl, E73⟩
end Go.Proofs.YtbikhpphdhffaaaDoor.finFnExactParsePacket
