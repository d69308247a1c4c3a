/- The law FnExactLineTable: its text returns true. Condition: none. Printed by a program. -/
import Derived.Test.YtckkablifoblbaaRw4
import Derived.Test.YtckkablifoblbaaTypes
namespace Go.Proofs.Ytckkablifoblbaa.finFnExactLineTable
open Go.Vc
set_option linter.all false
set_option maxRecDepth 100000 in
set_option maxHeartbeats 2000000 in
theorem law_ok (h : Heap) (x0 : LineD) (w0 : LineD.good h x0) (v1 : Value) (x1 : List Int) (s_v1 : Sl h v1 x1) (_ : ∀ y ∈ x1, I64 y) (v2 : Value) (x2 : List SV) (s_x2 : Sl h v2 x2) (g2 : ∀ y ∈ x2, (∃ xs : List Int, Sl h y.v xs ∧ ∀ y ∈ xs, I64 y)) : Cn f_laws_FnExactLineTable [x0.val, v1, v2] h fun v h' => v = .bool true ∧ Ext h h' := by
  obtain ⟨y0_towers, y0_tries⟩ := x0
  obtain ⟨b_y0_towers, b_y0_tries⟩ := w0
  change I64 y0_towers at b_y0_towers
  unfold I64 at b_y0_towers
  change I64 y0_tries at b_y0_tries
  unfold I64 at b_y0_tries
  have lt_v1 := s_v1.lt
  obtain ⟨q2, s_v2, in_v2⟩ := rowi_open s_x2 g2
  have lt_v2 := s_v2.lt
  have inlt_v2 := fun p hp => (in_v2 p hp).lt
  have lens := tabOut_len (⟨y0_towers, y0_tries⟩ : LineD).towers (⟨y0_towers, y0_tries⟩ : LineD).tries x1 (q2.map RowI.sig)
  refine calls_of r_laws_FnExactLineTable ?_
  refine v_seq ?_
  refine v_ops ?_
  refine s_box [.int .i64 y0_towers, .int .i64 y0_tries] rfl (fun h2 b1 hbb1 hzb1 eh2 bxb1 => ?_)
  have E3 := (Ext.refl h).trans eh2
  have z4 := eh2.size
  have lbb1 := bxb1.lt
  refine s_pure (.bool false) (fun _ q => q) ?_
  refine s_nil ?_
  refine p_seqN ?_
  refine v_seq ?_
  refine v_seq ?_
  refine v_ops ?_
  refine s_pure v1 (fun _ q => q) ?_
  refine s_pure (.int .i64 (x1.length : Int)) (fun _ q => s_v1.lenVC q) ?_
  refine s_pure (.bool (decide ((x1.length : Int) > 1048576))) (fun _ q => q) ?_
  refine s_nil ?_
  refine p_seqN ?_
  refine v_cond rfl (fun c5 => ?_) (fun c5 => ?_)
  ·
    refine v_seq ?_
    refine v_ops ?_
    refine s_pure (.bool true) (fun _ q => q) ?_
    refine s_nil ?_
    refine p_seqN ?_
    refine v_ret ?_
    refine p_seqR ?_
    refine p_ret [.bool true] (.bool true) (fun _ q => q) rfl ?_
    exact ⟨rfl, E3⟩
  have bd6 : x1.length ≤ 1048576 := by omega
  refine v_skip ?_
  refine p_seqN ?_
  refine v_seq ?_
  refine v_ops ?_
  refine s_pure (.int .i64 1048576) (fun _ q => q) ?_
  refine s_nil ?_
  refine p_seqN ?_
  refine v_seq ?_
  refine v_ops ?_
  refine s_pure v2 (fun _ q => q) ?_
  refine s_pure (.int .i64 1048576) (fun _ q => q) ?_
  have f7 := (s_v2.ext eh2)
  have in8 := fun p hp => (in_v2 p hp).ext eh2
  refine s_call [v2, .int .i64 1048576] rfl (szIntSS_ok v2 q2 1048576 _ f7 in8 (by omega) (by omega)) ?_
  rintro _ h9 ⟨n10, rfl, eh9, hmn10, hkn10⟩
  have E11 := E3.trans eh9
  have z12 := eh9.size
  refine s_pure (.int .i64 n10) (fun _ q => q) ?_
  refine s_nil ?_
  refine p_seqN ?_
  refine v_seq ?_
  refine v_seq ?_
  refine v_ops ?_
  refine s_pure (.int .i64 n10) (fun _ q => q) ?_
  refine s_pure (.bool (decide (n10 < 0))) (fun _ q => q) ?_
  refine s_nil ?_
  refine p_seqN ?_
  refine v_cond rfl (fun c13 => ?_) (fun c13 => ?_)
  ·
    refine v_seq ?_
    refine v_ops ?_
    refine s_pure (.bool true) (fun _ q => q) ?_
    refine s_nil ?_
    refine p_seqN ?_
    refine v_ret ?_
    refine p_seqR ?_
    refine p_ret [.bool true] (.bool true) (fun _ q => q) rfl ?_
    exact ⟨rfl, E11⟩
  obtain ⟨hmn10, hkn10⟩ := And.intro (hmn10 (by omega)) hkn10
  have bd14 : szR q2 ≤ 1048576 := by omega
  have bd142 : q2.length ≤ 1048576 := by omega
  have bd143 := szR_eq q2
  refine v_skip ?_
  refine p_seqN ?_
  refine v_seq ?_
  refine v_ops ?_
  have f15 := (bxb1.ext eh9)
  refine s_load (.agg #[.int .i64 y0_towers, .int .i64 y0_tries]) (fun _ q => f15.loadA rfl q) ?_
  refine s_call [.agg #[.int .i64 y0_towers, .int .i64 y0_tries]] rfl (toLine_ok y0_towers y0_tries _ ) ?_
  rintro _ h16 ⟨rfl, eh16⟩
  have E17 := E11.trans eh16
  have z18 := eh16.size
  refine s_pure v1 (fun _ q => q) ?_
  have f19 := (((s_v1.ext eh2).ext eh9).ext eh16)
  refine s_call [v1] rfl (toIntS_ok v1 x1 _ f19 bd6) ?_
  rintro r21 h20 ⟨s_r21, eh20, fr_r21⟩
  have E22 := E17.trans eh20
  have z23 := eh20.size
  have lt_r21 := s_r21.lt
  refine s_pure v2 (fun _ q => q) ?_
  have f24 := (((f7.ext eh9).ext eh16).ext eh20)
  have in25 := fun p hp => (in8 p hp).ext eh9
  have in26 := fun p hp => (in25 p hp).ext eh16
  have in27 := fun p hp => (in26 p hp).ext eh20
  refine s_call [v2] rfl (toIntSS_ok v2 q2 _ f24 in27 bd14 bd142) ?_
  rintro r29 h28 ⟨_, qr29, rfl, s_r29, dq_r29, eh28⟩
  have E30 := E22.trans eh28
  have z31 := eh28.size
  have lt_r29 := s_r29.lt
  have fr_r29 := s_r29.fr
  have f32 := (s_r21.ext eh28)
  refine s_call [.agg #[.int .i64 y0_towers, .int .i64 y0_tries], r21, r29] rfl (spec_LineTable_ok (⟨y0_towers, y0_tries⟩ : LineD) r21 x1 r29 qr29 (q2.map RowI.sig) _ f32.toSl s_r29.row.toSl s_r29.insL dq_r29) ?_
  rintro _ h34 ⟨r33, rfl, s_r33, fr_r33, eh34⟩
  have E35 := E30.trans eh34
  have z36 := eh34.size
  have lt_r33 := s_r33.lt
  refine s_pure (.tuple #[r33, .bool ((tabOut (⟨y0_towers, y0_tries⟩ : LineD).towers (⟨y0_towers, y0_tries⟩ : LineD).tries x1 (q2.map RowI.sig)).2)]) (fun _ q => q) ?_
  refine s_pure r33 (fun _ q => q) ?_
  refine s_pure (.bool ((tabOut (⟨y0_towers, y0_tries⟩ : LineD).towers (⟨y0_towers, y0_tries⟩ : LineD).tries x1 (q2.map RowI.sig)).2)) (fun _ q => q) ?_
  refine s_pure r33 (fun _ q => q) ?_
  refine s_pure (.bool ((tabOut (⟨y0_towers, y0_tries⟩ : LineD).towers (⟨y0_towers, y0_tries⟩ : LineD).tries x1 (q2.map RowI.sig)).2)) (fun _ q => q) ?_
  refine s_nil ?_
  refine p_seqN ?_
  refine v_seq ?_
  refine v_ops ?_
  refine s_pure v1 (fun _ q => q) ?_
  have f37 := (((f19.ext eh20).ext eh28).ext eh34)
  refine s_call [v1] rfl (toIntS_ok v1 x1 _ f37 bd6) ?_
  rintro r39 h38 ⟨s_r39, eh38, fr_r39⟩
  have E40 := E35.trans eh38
  have z41 := eh38.size
  have lt_r39 := s_r39.lt
  refine s_pure r39 (fun _ q => q) ?_
  refine s_nil ?_
  refine p_seqN ?_
  refine v_seq ?_
  refine v_ops ?_
  refine s_pure v2 (fun _ q => q) ?_
  have f42 := (((f24.ext eh28).ext eh34).ext eh38)
  have in43 := fun p hp => (in27 p hp).ext eh28
  have in44 := fun p hp => (in43 p hp).ext eh34
  have in45 := fun p hp => (in44 p hp).ext eh38
  refine s_call [v2] rfl (toIntSS_ok v2 q2 _ f42 in45 bd14 bd142) ?_
  rintro r47 h46 ⟨_, qr47, rfl, s_r47, dq_r47, eh46⟩
  have E48 := E40.trans eh46
  have z49 := eh46.size
  have lt_r47 := s_r47.lt
  have fr_r47 := s_r47.fr
  refine s_pure r47 (fun _ q => q) ?_
  refine s_nil ?_
  refine p_seqN ?_
  refine v_seq ?_
  refine v_ops ?_
  have f50 := ((((((f15.ext eh16).ext eh20).ext eh28).ext eh34).ext eh38).ext eh46)
  refine s_load (.agg #[.int .i64 y0_towers, .int .i64 y0_tries]) (fun _ q => f50.loadA rfl q) ?_
  refine s_call [.agg #[.int .i64 y0_towers, .int .i64 y0_tries]] rfl (toLine_ok y0_towers y0_tries _ ) ?_
  rintro _ h51 ⟨rfl, eh51⟩
  have E52 := E48.trans eh51
  have z53 := eh51.size
  refine s_pure r39 (fun _ q => q) ?_
  refine s_pure r47 (fun _ q => q) ?_
  have f54 := ((s_r39.ext eh46).ext eh51)
  have f55 := (s_r47.ext eh51)
  refine s_call [.agg #[.int .i64 y0_towers, .int .i64 y0_tries], r39, r47] rfl (impl_LineTable_ok (⟨y0_towers, y0_tries⟩ : LineD) r39 x1 r47 qr47 (q2.map RowI.sig) _ f54.toSl f55.row.toSl f55.insL dq_r47) ?_
  rintro _ h57 ⟨r56, rfl, s_r56, fr_r56, eh57⟩
  have E58 := E52.trans eh57
  have z59 := eh57.size
  have lt_r56 := s_r56.lt
  refine s_pure (.tuple #[r56, .bool ((tabOut (⟨y0_towers, y0_tries⟩ : LineD).towers (⟨y0_towers, y0_tries⟩ : LineD).tries x1 (q2.map RowI.sig)).2)]) (fun _ q => q) ?_
  refine s_pure r56 (fun _ q => q) ?_
  refine s_pure (.bool ((tabOut (⟨y0_towers, y0_tries⟩ : LineD).towers (⟨y0_towers, y0_tries⟩ : LineD).tries x1 (q2.map RowI.sig)).2)) (fun _ q => q) ?_
  refine s_pure r56 (fun _ q => q) ?_
  refine s_pure (.bool ((tabOut (⟨y0_towers, y0_tries⟩ : LineD).towers (⟨y0_towers, y0_tries⟩ : LineD).tries x1 (q2.map RowI.sig)).2)) (fun _ q => q) ?_
  refine s_nil ?_
  refine p_seqN ?_
  refine v_seq ?_
  refine v_seq ?_
  refine v_ops ?_
  refine s_pure r56 (fun _ q => q) ?_
  refine s_pure r33 (fun _ q => q) ?_
  have f60 := ((((s_r33.ext eh38).ext eh46).ext eh51).ext eh57)
  refine s_call [r56, r33] rfl (eqIntS_ok r56 r33 ((tabOut (⟨y0_towers, y0_tries⟩ : LineD).towers (⟨y0_towers, y0_tries⟩ : LineD).tries x1 (q2.map RowI.sig)).1) ((tabOut (⟨y0_towers, y0_tries⟩ : LineD).towers (⟨y0_towers, y0_tries⟩ : LineD).tries x1 (q2.map RowI.sig)).1) _ s_r56.toSl f60.toSl) ?_
  rintro _ h61 ⟨rfl, hqh61⟩
  have eh61 := Ext.ofEq hqh61
  clear hqh61
  have E62 := E58.trans eh61
  have z63 := eh61.size
  refine s_pure (.bool (!(decide ((tabOut (⟨y0_towers, y0_tries⟩ : LineD).towers (⟨y0_towers, y0_tries⟩ : LineD).tries x1 (q2.map RowI.sig)).1 = (tabOut (⟨y0_towers, y0_tries⟩ : LineD).towers (⟨y0_towers, y0_tries⟩ : LineD).tries x1 (q2.map RowI.sig)).1)))) (fun _ q => q) ?_
  refine s_pure (.bool (!(decide ((tabOut (⟨y0_towers, y0_tries⟩ : LineD).towers (⟨y0_towers, y0_tries⟩ : LineD).tries x1 (q2.map RowI.sig)).1 = (tabOut (⟨y0_towers, y0_tries⟩ : LineD).towers (⟨y0_towers, y0_tries⟩ : LineD).tries x1 (q2.map RowI.sig)).1)))) (fun _ q => q) ?_
  refine s_splitN rfl (by first | assumption | omega | (simp; done) | (simp; omega) | simp_all) ?_
  refine s_run rfl ?_
  refine s_pure (.bool ((tabOut (⟨y0_towers, y0_tries⟩ : LineD).towers (⟨y0_towers, y0_tries⟩ : LineD).tries x1 (q2.map RowI.sig)).2)) (fun _ q => q) ?_
  refine s_run rfl ?_
  refine s_pure (.bool ((tabOut (⟨y0_towers, y0_tries⟩ : LineD).towers (⟨y0_towers, y0_tries⟩ : LineD).tries x1 (q2.map RowI.sig)).2)) (fun _ q => q) ?_
  refine s_run rfl ?_
  refine s_pure (.bool ((tabOut (⟨y0_towers, y0_tries⟩ : LineD).towers (⟨y0_towers, y0_tries⟩ : LineD).tries x1 (q2.map RowI.sig)).2 != (tabOut (⟨y0_towers, y0_tries⟩ : LineD).towers (⟨y0_towers, y0_tries⟩ : LineD).tries x1 (q2.map RowI.sig)).2)) (fun _ q => q) ?_
  refine s_pure (.bool ((tabOut (⟨y0_towers, y0_tries⟩ : LineD).towers (⟨y0_towers, y0_tries⟩ : LineD).tries x1 (q2.map RowI.sig)).2 != (tabOut (⟨y0_towers, y0_tries⟩ : LineD).towers (⟨y0_towers, y0_tries⟩ : LineD).tries x1 (q2.map RowI.sig)).2)) (fun _ q => q) ?_
  refine s_nil ?_
  refine p_seqN ?_
  refine v_condN rfl (by first | assumption | omega | (simp; done) | (simp; omega) | simp_all) ?_
  refine v_skip ?_
  refine p_seqN ?_
  refine v_seq ?_
  refine v_seq ?_
  refine v_ops ?_
  refine s_pure r39 (fun _ q => q) ?_
  refine s_pure v1 (fun _ q => q) ?_
  have f64 := (((((f37.ext eh38).ext eh46).ext eh51).ext eh57).ext eh61)
  refine s_call [v1] rfl (toIntS_ok v1 x1 _ f64 bd6) ?_
  rintro r66 h65 ⟨s_r66, eh65, fr_r66⟩
  have E67 := E62.trans eh65
  have z68 := eh65.size
  have lt_r66 := s_r66.lt
  have f69 := (((f54.ext eh57).ext eh61).ext eh65)
  refine s_call [r39, r66] rfl (eqIntS_ok r39 r66 x1 x1 _ f69.toSl s_r66.toSl) ?_
  rintro _ h70 ⟨rfl, hqh70⟩
  have eh70 := Ext.ofEq hqh70
  clear hqh70
  have E71 := E67.trans eh70
  have z72 := eh70.size
  refine s_pure (.bool (!(decide (x1 = x1)))) (fun _ q => q) ?_
  refine s_nil ?_
  refine p_seqN ?_
  refine v_condN rfl (by first | assumption | omega | (simp; done) | (simp; omega) | simp_all) ?_
  refine v_skip ?_
  refine p_seqN ?_
  refine v_seq ?_
  refine v_seq ?_
  refine v_ops ?_
  refine s_pure r47 (fun _ q => q) ?_
  refine s_pure v2 (fun _ q => q) ?_
  have f73 := ((((((f42.ext eh46).ext eh51).ext eh57).ext eh61).ext eh65).ext eh70)
  have in74 := fun p hp => (in45 p hp).ext eh46
  have in75 := fun p hp => (in74 p hp).ext eh51
  have in76 := fun p hp => (in75 p hp).ext eh57
  have in77 := fun p hp => (in76 p hp).ext eh61
  have in78 := fun p hp => (in77 p hp).ext eh65
  have in79 := fun p hp => (in78 p hp).ext eh70
  refine s_call [v2] rfl (toIntSS_ok v2 q2 _ f73 in79 bd14 bd142) ?_
  rintro r81 h80 ⟨_, qr81, rfl, s_r81, dq_r81, eh80⟩
  have E82 := E71.trans eh80
  have z83 := eh80.size
  have lt_r81 := s_r81.lt
  have fr_r81 := s_r81.fr
  have f84 := (((((f55.ext eh57).ext eh61).ext eh65).ext eh70).ext eh80)
  have hqh85 : qr47.map RowI.sig = qr81.map RowI.sig := (dq_r47 : qr47.map RowI.sig = q2.map RowI.sig).trans (dq_r81 : qr81.map RowI.sig = q2.map RowI.sig).symm
  refine s_call [r47, r81] rfl (eqIntSS_ok r47 qr47 r81 qr81 _ f84.row.toSl f84.insL s_r81.row.toSl s_r81.insL) ?_
  rintro vh85 h85 ⟨hvh85, eh85⟩
  obtain rfl : vh85 = .bool true := hvh85.trans (by rw [decide_eq_true hqh85])
  have E86 := E82.trans eh85
  have z87 := eh85.size
  refine s_pure (.bool false) (fun _ q => q) ?_
  refine s_nil ?_
  refine p_seqN ?_
  refine v_condN rfl (by simp) ?_
  refine v_skip ?_
  refine p_seqN ?_
  refine v_seq ?_
  refine v_ops ?_
  refine s_pure (.int .i64 1) (fun _ q => q) ?_
  refine s_nil ?_
  refine p_seqN ?_
  refine v_seq ?_
  refine v_ops ?_
  refine s_pure r39 (fun _ q => q) ?_
  refine s_pure (.int .i64 1) (fun _ q => q) ?_
  have f88 := (((f69.ext eh70).ext eh80).ext eh85)
  refine s_call [r39, .int .i64 1] rfl (markIntS_ok r39 x1 (1) _ f88 (by omega) (by omega) (by omega)) ?_
  rintro _ h89 ⟨rfl, mk90, mh89, zh89⟩
  have E91 := E86.mod mh89 (fun b hb => by have := fr_r39 b hb; omega)
  refine s_pure (.int .i64 (1 + (x1.length : Int))) (fun _ q => q) ?_
  refine s_nil ?_
  refine p_seqN ?_
  refine v_seq ?_
  refine v_ops ?_
  refine s_pure r47 (fun _ q => q) ?_
  refine s_pure (.int .i64 (1 + (x1.length : Int))) (fun _ q => q) ?_
  have f93 := ((f84.ext eh85).mod mh89 (fun b hb hc => by have := fr_r47 b hb; have := lt_r39 b hc; omega))
  have hzh92 := szR_eq qr47
  rw [dq_r47] at hzh92
  refine s_call [r47, .int .i64 (1 + (x1.length : Int))] rfl (markIntSS_ok r47 qr47 _ ((1 + (x1.length : Int))) _ f93 (by omega) (by omega) (by omega)) ?_
  rintro _ h92 ⟨rfl, mk94, mh92, zh92⟩
  have E95 := E91.mod mh92 (fun b hb => by have := fr_r47 b hb; omega)
  have lt_r47m96 := mk94.lt
  have fr_r47m96 := mk94.fr
  refine s_pure (.int .i64 ((1 + (x1.length : Int)) + (szR qr47 : Int))) (fun _ q => q) ?_
  refine s_nil ?_
  refine p_seqN ?_
  refine v_seq ?_
  refine v_seq ?_
  refine v_ops ?_
  refine s_pure (.int .i64 ((1 + (x1.length : Int)) + (szR qr47 : Int))) (fun _ q => q) ?_
  refine s_pure (.bool (decide (((1 + (x1.length : Int)) + (szR qr47 : Int)) < 0))) (fun _ q => q) ?_
  refine s_pure (.bool (decide (((1 + (x1.length : Int)) + (szR qr47 : Int)) < 0))) (fun _ q => q) ?_
  refine s_splitN rfl (by first | assumption | omega | (simp; done) | (simp; omega) | simp_all) ?_
  refine s_run rfl ?_
  refine s_pure r56 (fun _ q => q) ?_
  refine s_run rfl ?_
  refine s_pure r33 (fun _ q => q) ?_
  refine s_run rfl ?_
  have f97 := (((((((s_r56.ext eh61).ext eh65).ext eh70).ext eh80).ext eh85).mod mh89 (fun b hb hc => by have := fr_r56 b hb; have := lt_r39 b hc; omega)).mod mh92 (fun b hb hc => by have := fr_r56 b hb; have := lt_r47 b hc; omega))
  have f98 := (((((((f60.ext eh61).ext eh65).ext eh70).ext eh80).ext eh85).mod mh89 (fun b hb hc => by have := lt_r33 b hb; have := fr_r39 b hc; omega)).mod mh92 (fun b hb hc => by have := lt_r33 b hb; have := fr_r47 b hc; omega))
  refine s_call [r56, r33] rfl (eqIntS_ok r56 r33 ((tabOut (⟨y0_towers, y0_tries⟩ : LineD).towers (⟨y0_towers, y0_tries⟩ : LineD).tries x1 (q2.map RowI.sig)).1) ((tabOut (⟨y0_towers, y0_tries⟩ : LineD).towers (⟨y0_towers, y0_tries⟩ : LineD).tries x1 (q2.map RowI.sig)).1) _ f97.toSl f98.toSl) ?_
  rintro _ h99 ⟨rfl, hqh99⟩
  have eh99 := Ext.ofEq hqh99
  clear hqh99
  have E100 := E95.trans eh99
  have z101 := eh99.size
  refine s_run rfl ?_
  refine s_pure (.bool (!(decide ((tabOut (⟨y0_towers, y0_tries⟩ : LineD).towers (⟨y0_towers, y0_tries⟩ : LineD).tries x1 (q2.map RowI.sig)).1 = (tabOut (⟨y0_towers, y0_tries⟩ : LineD).towers (⟨y0_towers, y0_tries⟩ : LineD).tries x1 (q2.map RowI.sig)).1)))) (fun _ q => q) ?_
  refine s_pure (.bool (!(decide ((tabOut (⟨y0_towers, y0_tries⟩ : LineD).towers (⟨y0_towers, y0_tries⟩ : LineD).tries x1 (q2.map RowI.sig)).1 = (tabOut (⟨y0_towers, y0_tries⟩ : LineD).towers (⟨y0_towers, y0_tries⟩ : LineD).tries x1 (q2.map RowI.sig)).1)))) (fun _ q => q) ?_
  refine s_pure (.bool (!(decide ((tabOut (⟨y0_towers, y0_tries⟩ : LineD).towers (⟨y0_towers, y0_tries⟩ : LineD).tries x1 (q2.map RowI.sig)).1 = (tabOut (⟨y0_towers, y0_tries⟩ : LineD).towers (⟨y0_towers, y0_tries⟩ : LineD).tries x1 (q2.map RowI.sig)).1)))) (fun _ q => q) ?_
  refine s_splitN rfl (by first | assumption | omega | (simp; done) | (simp; omega) | simp_all) ?_
  refine s_run rfl ?_
  refine s_pure (.bool ((tabOut (⟨y0_towers, y0_tries⟩ : LineD).towers (⟨y0_towers, y0_tries⟩ : LineD).tries x1 (q2.map RowI.sig)).2)) (fun _ q => q) ?_
  refine s_run rfl ?_
  refine s_pure (.bool ((tabOut (⟨y0_towers, y0_tries⟩ : LineD).towers (⟨y0_towers, y0_tries⟩ : LineD).tries x1 (q2.map RowI.sig)).2)) (fun _ q => q) ?_
  refine s_run rfl ?_
  refine s_pure (.bool ((tabOut (⟨y0_towers, y0_tries⟩ : LineD).towers (⟨y0_towers, y0_tries⟩ : LineD).tries x1 (q2.map RowI.sig)).2 != (tabOut (⟨y0_towers, y0_tries⟩ : LineD).towers (⟨y0_towers, y0_tries⟩ : LineD).tries x1 (q2.map RowI.sig)).2)) (fun _ q => q) ?_
  refine s_pure (.bool ((tabOut (⟨y0_towers, y0_tries⟩ : LineD).towers (⟨y0_towers, y0_tries⟩ : LineD).tries x1 (q2.map RowI.sig)).2 != (tabOut (⟨y0_towers, y0_tries⟩ : LineD).towers (⟨y0_towers, y0_tries⟩ : LineD).tries x1 (q2.map RowI.sig)).2)) (fun _ q => q) ?_
  refine s_nil ?_
  refine p_seqN ?_
  refine v_condN rfl (by first | assumption | omega | (simp; done) | (simp; omega) | simp_all) ?_
  refine v_skip ?_
  refine p_seqN ?_
  refine v_seq ?_
  refine v_ops ?_
  refine s_pure (.int .i64 1) (fun _ q => q) ?_
  refine s_nil ?_
  refine p_seqN ?_
  refine v_seq ?_
  refine v_ops ?_
  refine s_pure r56 (fun _ q => q) ?_
  refine s_pure (.int .i64 1) (fun _ q => q) ?_
  have f102 := (f97.ext eh99)
  refine s_call [r56, .int .i64 1] rfl (markIntS_ok r56 ((tabOut (⟨y0_towers, y0_tries⟩ : LineD).towers (⟨y0_towers, y0_tries⟩ : LineD).tries x1 (q2.map RowI.sig)).1) (1) _ f102 (by omega) (by omega) (by omega)) ?_
  rintro _ h103 ⟨rfl, mk104, mh103, zh103⟩
  have E105 := E100.mod mh103 (fun b hb => by have := fr_r56 b hb; omega)
  refine s_pure (.int .i64 (1 + ((tabOut (⟨y0_towers, y0_tries⟩ : LineD).towers (⟨y0_towers, y0_tries⟩ : LineD).tries x1 (q2.map RowI.sig)).1.length : Int))) (fun _ q => q) ?_
  refine s_nil ?_
  refine p_seqN ?_
  refine v_seq ?_
  refine v_ops ?_
  refine s_pure (.int .i64 1) (fun _ q => q) ?_
  refine s_nil ?_
  refine p_seqN ?_
  refine v_seq ?_
  refine v_ops ?_
  refine s_pure r56 (fun _ q => q) ?_
  refine s_pure (.int .i64 1) (fun _ q => q) ?_
  refine s_call [r56, .int .i64 1] rfl (heldIntS_ok _ _ (1) _ mk104.toSl (by omega) (by omega) (by omega)) ?_
  rintro _ h106 ⟨rfl, hqh106⟩
  have eh106 := Ext.ofEq hqh106
  clear hqh106
  have E107 := E105.trans eh106
  have z108 := eh106.size
  refine s_pure (.int .i64 (1 + ((tabOut (⟨y0_towers, y0_tries⟩ : LineD).towers (⟨y0_towers, y0_tries⟩ : LineD).tries x1 (q2.map RowI.sig)).1.length : Int))) (fun _ q => q) ?_
  refine s_nil ?_
  refine p_seqN ?_
  refine v_seq ?_
  refine v_seq ?_
  refine v_ops ?_
  refine s_pure (.int .i64 (1 + ((tabOut (⟨y0_towers, y0_tries⟩ : LineD).towers (⟨y0_towers, y0_tries⟩ : LineD).tries x1 (q2.map RowI.sig)).1.length : Int))) (fun _ q => q) ?_
  refine s_pure (.bool (decide ((1 + ((tabOut (⟨y0_towers, y0_tries⟩ : LineD).towers (⟨y0_towers, y0_tries⟩ : LineD).tries x1 (q2.map RowI.sig)).1.length : Int)) < 0))) (fun _ q => q) ?_
  refine s_nil ?_
  refine p_seqN ?_
  refine v_condN rfl (by first | assumption | omega | (simp; done) | (simp; omega) | simp_all) ?_
  refine v_skip ?_
  refine p_seqN ?_
  refine v_seq ?_
  refine v_seq ?_
  refine v_ops ?_
  refine s_pure (.int .i64 (1 + ((tabOut (⟨y0_towers, y0_tries⟩ : LineD).towers (⟨y0_towers, y0_tries⟩ : LineD).tries x1 (q2.map RowI.sig)).1.length : Int))) (fun _ q => q) ?_
  refine s_pure (.int .i64 (1 + ((tabOut (⟨y0_towers, y0_tries⟩ : LineD).towers (⟨y0_towers, y0_tries⟩ : LineD).tries x1 (q2.map RowI.sig)).1.length : Int))) (fun _ q => q) ?_
  refine s_pure (.bool ((1 + ((tabOut (⟨y0_towers, y0_tries⟩ : LineD).towers (⟨y0_towers, y0_tries⟩ : LineD).tries x1 (q2.map RowI.sig)).1.length : Int)) != (1 + ((tabOut (⟨y0_towers, y0_tries⟩ : LineD).towers (⟨y0_towers, y0_tries⟩ : LineD).tries x1 (q2.map RowI.sig)).1.length : Int)))) (fun _ q => q) ?_
  refine s_nil ?_
  refine p_seqN ?_
  refine v_condN rfl (by first | assumption | omega | (simp; done) | (simp; omega) | simp_all) ?_
  refine v_skip ?_
  refine p_seqN ?_
  refine v_seq ?_
  refine v_ops ?_
  have f109 := ((((((((((((f50.ext eh51).ext eh57).ext eh61).ext eh65).ext eh70).ext eh80).ext eh85).mod mh89 (fun hc => by have := fr_r39 _ hc; omega)).mod mh92 (fun hc => by have := fr_r47 _ hc; omega)).ext eh99).mod mh103 (fun hc => by have := fr_r56 _ hc; omega)).ext eh106)
  refine s_load (.agg #[.int .i64 y0_towers, .int .i64 y0_tries]) (fun _ q => f109.loadA rfl q) ?_
  refine s_call [.agg #[.int .i64 y0_towers, .int .i64 y0_tries]] rfl (toLine_ok y0_towers y0_tries _ ) ?_
  rintro _ h110 ⟨rfl, eh110⟩
  have E111 := E107.trans eh110
  have z112 := eh110.size
  refine s_pure v1 (fun _ q => q) ?_
  have f113 := ((((((((((f64.ext eh65).ext eh70).ext eh80).ext eh85).mod mh89 (fun b hb hc => by have := lt_v1 b hb; have := fr_r39 b hc; omega)).mod mh92 (fun b hb hc => by have := lt_v1 b hb; have := fr_r47 b hc; omega)).ext eh99).mod mh103 (fun b hb hc => by have := lt_v1 b hb; have := fr_r56 b hc; omega)).ext eh106).ext eh110)
  refine s_call [v1] rfl (toIntS_ok v1 x1 _ f113 bd6) ?_
  rintro r115 h114 ⟨s_r115, eh114, fr_r115⟩
  have E116 := E111.trans eh114
  have z117 := eh114.size
  have lt_r115 := s_r115.lt
  refine s_pure v2 (fun _ q => q) ?_
  have f118 := (((((((((f73.ext eh80).ext eh85).mod mh89 (fun b hb hc => by have := lt_v2 b hb; have := fr_r39 b hc; omega)).mod mh92 (fun b hb hc => by have := lt_v2 b hb; have := fr_r47 b hc; omega)).ext eh99).mod mh103 (fun b hb hc => by have := lt_v2 b hb; have := fr_r56 b hc; omega)).ext eh106).ext eh110).ext eh114)
  have in119 := fun p hp => (in79 p hp).ext eh80
  have in120 := fun p hp => (in119 p hp).ext eh85
  have in121 := fun p hp => (in120 p hp).mod mh89 (fun b hb hc => by have := inlt_v2 p hp b hb; have := fr_r39 b hc; omega)
  have in122 := fun p hp => (in121 p hp).mod mh92 (fun b hb hc => by have := inlt_v2 p hp b hb; have := fr_r47 b hc; omega)
  have in123 := fun p hp => (in122 p hp).ext eh99
  have in124 := fun p hp => (in123 p hp).mod mh103 (fun b hb hc => by have := inlt_v2 p hp b hb; have := fr_r56 b hc; omega)
  have in125 := fun p hp => (in124 p hp).ext eh106
  have in126 := fun p hp => (in125 p hp).ext eh110
  have in127 := fun p hp => (in126 p hp).ext eh114
  refine s_call [v2] rfl (toIntSS_ok v2 q2 _ f118 in127 bd14 bd142) ?_
  rintro r129 h128 ⟨_, qr129, rfl, s_r129, dq_r129, eh128⟩
  have E130 := E116.trans eh128
  have z131 := eh128.size
  have lt_r129 := s_r129.lt
  have fr_r129 := s_r129.fr
  have f132 := (s_r115.ext eh128)
  refine s_call [.agg #[.int .i64 y0_towers, .int .i64 y0_tries], r115, r129] rfl (impl_LineTable_ok (⟨y0_towers, y0_tries⟩ : LineD) r115 x1 r129 qr129 (q2.map RowI.sig) _ f132.toSl s_r129.row.toSl s_r129.insL dq_r129) ?_
  rintro _ h134 ⟨r133, rfl, s_r133, fr_r133, eh134⟩
  have E135 := E130.trans eh134
  have z136 := eh134.size
  have lt_r133 := s_r133.lt
  refine s_pure (.tuple #[r133, .bool ((tabOut (⟨y0_towers, y0_tries⟩ : LineD).towers (⟨y0_towers, y0_tries⟩ : LineD).tries x1 (q2.map RowI.sig)).2)]) (fun _ q => q) ?_
  refine s_pure r133 (fun _ q => q) ?_
  refine s_pure (.bool ((tabOut (⟨y0_towers, y0_tries⟩ : LineD).towers (⟨y0_towers, y0_tries⟩ : LineD).tries x1 (q2.map RowI.sig)).2)) (fun _ q => q) ?_
  refine s_pure r133 (fun _ q => q) ?_
  refine s_pure (.bool ((tabOut (⟨y0_towers, y0_tries⟩ : LineD).towers (⟨y0_towers, y0_tries⟩ : LineD).tries x1 (q2.map RowI.sig)).2)) (fun _ q => q) ?_
  refine s_nil ?_
  refine p_seqN ?_
  refine v_seq ?_
  refine v_seq ?_
  refine v_ops ?_
  refine s_pure r133 (fun _ q => q) ?_
  refine s_pure r33 (fun _ q => q) ?_
  have f137 := (((((((f98.ext eh99).mod mh103 (fun b hb hc => by have := lt_r33 b hb; have := fr_r56 b hc; omega)).ext eh106).ext eh110).ext eh114).ext eh128).ext eh134)
  refine s_call [r133, r33] rfl (eqIntS_ok r133 r33 ((tabOut (⟨y0_towers, y0_tries⟩ : LineD).towers (⟨y0_towers, y0_tries⟩ : LineD).tries x1 (q2.map RowI.sig)).1) ((tabOut (⟨y0_towers, y0_tries⟩ : LineD).towers (⟨y0_towers, y0_tries⟩ : LineD).tries x1 (q2.map RowI.sig)).1) _ s_r133.toSl f137.toSl) ?_
  rintro _ h138 ⟨rfl, hqh138⟩
  have eh138 := Ext.ofEq hqh138
  clear hqh138
  have E139 := E135.trans eh138
  have z140 := eh138.size
  refine s_pure (.bool (!(decide ((tabOut (⟨y0_towers, y0_tries⟩ : LineD).towers (⟨y0_towers, y0_tries⟩ : LineD).tries x1 (q2.map RowI.sig)).1 = (tabOut (⟨y0_towers, y0_tries⟩ : LineD).towers (⟨y0_towers, y0_tries⟩ : LineD).tries x1 (q2.map RowI.sig)).1)))) (fun _ q => q) ?_
  refine s_pure (.bool (!(decide ((tabOut (⟨y0_towers, y0_tries⟩ : LineD).towers (⟨y0_towers, y0_tries⟩ : LineD).tries x1 (q2.map RowI.sig)).1 = (tabOut (⟨y0_towers, y0_tries⟩ : LineD).towers (⟨y0_towers, y0_tries⟩ : LineD).tries x1 (q2.map RowI.sig)).1)))) (fun _ q => q) ?_
  refine s_splitN rfl (by first | assumption | omega | (simp; done) | (simp; omega) | simp_all) ?_
  refine s_run rfl ?_
  refine s_pure (.bool ((tabOut (⟨y0_towers, y0_tries⟩ : LineD).towers (⟨y0_towers, y0_tries⟩ : LineD).tries x1 (q2.map RowI.sig)).2)) (fun _ q => q) ?_
  refine s_run rfl ?_
  refine s_pure (.bool ((tabOut (⟨y0_towers, y0_tries⟩ : LineD).towers (⟨y0_towers, y0_tries⟩ : LineD).tries x1 (q2.map RowI.sig)).2)) (fun _ q => q) ?_
  refine s_run rfl ?_
  refine s_pure (.bool ((tabOut (⟨y0_towers, y0_tries⟩ : LineD).towers (⟨y0_towers, y0_tries⟩ : LineD).tries x1 (q2.map RowI.sig)).2 != (tabOut (⟨y0_towers, y0_tries⟩ : LineD).towers (⟨y0_towers, y0_tries⟩ : LineD).tries x1 (q2.map RowI.sig)).2)) (fun _ q => q) ?_
  refine s_pure (.bool ((tabOut (⟨y0_towers, y0_tries⟩ : LineD).towers (⟨y0_towers, y0_tries⟩ : LineD).tries x1 (q2.map RowI.sig)).2 != (tabOut (⟨y0_towers, y0_tries⟩ : LineD).towers (⟨y0_towers, y0_tries⟩ : LineD).tries x1 (q2.map RowI.sig)).2)) (fun _ q => q) ?_
  refine s_nil ?_
  refine p_seqN ?_
  refine v_condN rfl (by first | assumption | omega | (simp; done) | (simp; omega) | simp_all) ?_
  refine v_skip ?_
  refine p_seqN ?_
  refine v_seq ?_
  refine v_ops ?_
  refine s_pure (.int .i64 1) (fun _ q => q) ?_
  refine s_nil ?_
  refine p_seqN ?_
  refine v_seq ?_
  refine v_ops ?_
  refine s_pure r56 (fun _ q => q) ?_
  refine s_pure (.int .i64 1) (fun _ q => q) ?_
  have f141 := ((((((mk104.ext eh106).ext eh110).ext eh114).ext eh128).ext eh134).ext eh138)
  refine s_call [r56, .int .i64 1] rfl (heldIntS_ok _ _ (1) _ f141.toSl (by omega) (by omega) (by omega)) ?_
  rintro _ h142 ⟨rfl, hqh142⟩
  have eh142 := Ext.ofEq hqh142
  clear hqh142
  have E143 := E139.trans eh142
  have z144 := eh142.size
  refine s_pure (.int .i64 (1 + ((tabOut (⟨y0_towers, y0_tries⟩ : LineD).towers (⟨y0_towers, y0_tries⟩ : LineD).tries x1 (q2.map RowI.sig)).1.length : Int))) (fun _ q => q) ?_
  refine s_nil ?_
  refine p_seqN ?_
  refine v_seq ?_
  refine v_seq ?_
  refine v_ops ?_
  refine s_pure (.int .i64 (1 + ((tabOut (⟨y0_towers, y0_tries⟩ : LineD).towers (⟨y0_towers, y0_tries⟩ : LineD).tries x1 (q2.map RowI.sig)).1.length : Int))) (fun _ q => q) ?_
  refine s_pure (.bool (decide ((1 + ((tabOut (⟨y0_towers, y0_tries⟩ : LineD).towers (⟨y0_towers, y0_tries⟩ : LineD).tries x1 (q2.map RowI.sig)).1.length : Int)) < 0))) (fun _ q => q) ?_
  refine s_nil ?_
  refine p_seqN ?_
  refine v_condN rfl (by first | assumption | omega | (simp; done) | (simp; omega) | simp_all) ?_
  refine v_skip ?_
  refine p_seqN ?_
  refine v_seq ?_
  refine v_seq ?_
  refine v_ops ?_
  refine s_pure (.int .i64 (1 + ((tabOut (⟨y0_towers, y0_tries⟩ : LineD).towers (⟨y0_towers, y0_tries⟩ : LineD).tries x1 (q2.map RowI.sig)).1.length : Int))) (fun _ q => q) ?_
  refine s_pure (.int .i64 (1 + ((tabOut (⟨y0_towers, y0_tries⟩ : LineD).towers (⟨y0_towers, y0_tries⟩ : LineD).tries x1 (q2.map RowI.sig)).1.length : Int))) (fun _ q => q) ?_
  refine s_pure (.bool ((1 + ((tabOut (⟨y0_towers, y0_tries⟩ : LineD).towers (⟨y0_towers, y0_tries⟩ : LineD).tries x1 (q2.map RowI.sig)).1.length : Int)) != (1 + ((tabOut (⟨y0_towers, y0_tries⟩ : LineD).towers (⟨y0_towers, y0_tries⟩ : LineD).tries x1 (q2.map RowI.sig)).1.length : Int)))) (fun _ q => q) ?_
  refine s_nil ?_
  refine p_seqN ?_
  refine v_condN rfl (by first | assumption | omega | (simp; done) | (simp; omega) | simp_all) ?_
  refine v_skip ?_
  refine p_seqN ?_
  refine v_seq ?_
  refine v_ops ?_
  refine s_pure (.bool true) (fun _ q => q) ?_
  refine s_nil ?_
  refine p_seqN ?_
  refine v_ret ?_
  refine p_ret [.bool true] (.bool true) (fun _ q => q) rfl ?_
  exact ⟨rfl, E143⟩
end Go.Proofs.Ytckkablifoblbaa.finFnExactLineTable
