/- The law FnExactWrongSignals: its text returns true. Condition: none. -/
import Derived.Test.YtckkablifoblbaaLn8
namespace Go.Proofs.Ytckkablifoblbaa.finFnExactWrongSignals
open Go.Vc
set_option maxRecDepth 100000 in
set_option maxHeartbeats 2000000 in
theorem law_ok (h : Heap) (x0 : LineD) (_ : LineD.good h x0) (v1 : Value) (x1 : List Int) (s1 : Sl h v1 x1) (_ : ∀ y ∈ x1, I64 y) (v2 : Value) (x2 : List Int) (s2 : Sl h v2 x2) (_ : ∀ y ∈ x2, I64 y) : Cn f_laws_FnExactWrongSignals [x0.val, v1, v2] h fun v h' => v = .bool true ∧ Ext h h' := by
  obtain ⟨y0_towers, y0_tries⟩ := x0
  refine calls_of r_laws_FnExactWrongSignals ?_
  refine AllocVC.mk [.int .i64 y0_towers, .int .i64 y0_tries] rfl (fun h1 b0 _ _ eh1 bx0 => ?_)
  have f2 := s1.ext eh1
  have f3 := s2.ext eh1
  have E4 := (Ext.refl h).trans eh1
  have z5 := eh1.size
  refine f2.lenVC ?_
  refine CondVC.mk (fun _ => ⟨rfl, E4⟩) (fun c1 => ?_)
  have c1 : x1.length ≤ 1048576 := by omega
  refine f3.lenVC ?_
  refine CondVC.mk (fun _ => ⟨rfl, E4⟩) (fun c2 => ?_)
  have c2 : x2.length ≤ 1048576 := by omega
  refine bx0.loadA rfl ?_
  refine (toLine_ok _ _ _).mono ?_
  rintro _ h6 ⟨rfl, eh6⟩
  have f7 := f2.ext eh6
  have f8 := f3.ext eh6
  have f9 := bx0.ext eh6
  have E10 := E4.trans eh6
  have z11 := eh6.size
  refine (toIntS_ok _ _ _ f7 c1).mono ?_
  rintro p1 h12 ⟨s_p1, eh12, fr_p1⟩
  have f13 := f7.ext eh12
  have f14 := f8.ext eh12
  have f15 := f9.ext eh12
  have E16 := E10.trans eh12
  have z17 := eh12.size
  have lt_p1 := s_p1.lt
  refine (toIntS_ok _ _ _ f14 c2).mono ?_
  rintro p2 h18 ⟨s_p2, eh18, fr_p2⟩
  have f19 := f13.ext eh18
  have f20 := f14.ext eh18
  have f21 := f15.ext eh18
  have f22 := s_p1.ext eh18
  have E23 := E16.trans eh18
  have z24 := eh18.size
  have lt_p2 := s_p2.lt
  refine (specWrongSignals_ok _ _ _ _ _ _ _ f22.toSl s_p2.toSl).mono ?_
  rintro _ h25 ⟨w0, rfl, s_w0, eh25, fr_w0⟩
  have f26 := f19.ext eh25
  have f27 := f20.ext eh25
  have f28 := f21.ext eh25
  have f29 := f22.ext eh25
  have f30 := s_p2.ext eh25
  have E31 := E23.trans eh25
  have z32 := eh25.size
  have lt_w0 := s_w0.lt
  refine (toIntS_ok _ _ _ f26 c1).mono ?_
  rintro u1 h33 ⟨s_u1, eh33, fr_u1⟩
  have f34 := f26.ext eh33
  have f35 := f27.ext eh33
  have f36 := f28.ext eh33
  have f37 := s_w0.ext eh33
  have E38 := E31.trans eh33
  have z39 := eh33.size
  have lt_u1 := s_u1.lt
  refine (toIntS_ok _ _ _ f35 c2).mono ?_
  rintro u2 h40 ⟨s_u2, eh40, fr_u2⟩
  have f41 := f34.ext eh40
  have f42 := f35.ext eh40
  have f43 := f36.ext eh40
  have f44 := f37.ext eh40
  have f45 := s_u1.ext eh40
  have E46 := E38.trans eh40
  have z47 := eh40.size
  have lt_u2 := s_u2.lt
  refine f43.loadA rfl ?_
  refine (toLine_ok _ _ _).mono ?_
  rintro _ h48 ⟨rfl, eh48⟩
  have f49 := f41.ext eh48
  have f50 := f42.ext eh48
  have f51 := f43.ext eh48
  have f52 := f44.ext eh48
  have f53 := f45.ext eh48
  have f54 := s_u2.ext eh48
  have E55 := E46.trans eh48
  have z56 := eh48.size
  refine (implWrongSignals_ok _ _ _ _ _ _ _ f53.toSl f54.toSl).mono ?_
  rintro _ h57 ⟨g0, rfl, s_g0, eh57, fr_g0⟩
  have f58 := f49.ext eh57
  have f59 := f50.ext eh57
  have f60 := f51.ext eh57
  have f61 := f52.ext eh57
  have f62 := f53.ext eh57
  have f63 := f54.ext eh57
  have E64 := E55.trans eh57
  have z65 := eh57.size
  have lt_g0 := s_g0.lt
  refine (eqIntS_ok _ _ _ _ _ s_g0.toSl f61.toSl).mono ?_
  rintro _ h57 ⟨rfl, rfl⟩
  refine SplitVC.no (by simp) ?_
  refine CondVC.no (by simp) ?_
  refine (toIntS_ok _ _ _ f58 c1).mono ?_
  rintro t1 h66 ⟨s_t1, eh66, fr_t1⟩
  have f67 := f58.ext eh66
  have f68 := f59.ext eh66
  have f69 := f60.ext eh66
  have f70 := f61.ext eh66
  have f71 := f62.ext eh66
  have f72 := f63.ext eh66
  have f73 := s_g0.ext eh66
  have E74 := E64.trans eh66
  have z75 := eh66.size
  have lt_t1 := s_t1.lt
  refine (eqIntS_ok _ _ _ _ _ f71.toSl s_t1.toSl).mono ?_
  rintro _ h66 ⟨rfl, rfl⟩
  refine CondVC.no (by simp) ?_
  refine (toIntS_ok _ _ _ f68 c2).mono ?_
  rintro t2 h76 ⟨s_t2, eh76, fr_t2⟩
  have f77 := f67.ext eh76
  have f78 := f68.ext eh76
  have f79 := f69.ext eh76
  have f80 := f70.ext eh76
  have f81 := f71.ext eh76
  have f82 := f72.ext eh76
  have f83 := f73.ext eh76
  have E84 := E74.trans eh76
  have z85 := eh76.size
  have lt_t2 := s_t2.lt
  refine (eqIntS_ok _ _ _ _ _ f82.toSl s_t2.toSl).mono ?_
  rintro _ h76 ⟨rfl, rfl⟩
  refine CondVC.no (by simp) ?_
  refine (markIntS_ok _ _ (1) _ f81 (by omega) (by omega) (by omega)).mono ?_
  rintro _ h86 ⟨rfl, mk_u1, mh86, zh86⟩
  have f87 := f77.mod mh86 (fr_u1.apart (fun b hb => by have := s1.lt b hb; omega))
  have f88 := f78.mod mh86 (fr_u1.apart (fun b hb => by have := s2.lt b hb; omega))
  have f89 := f79.mod mh86 (fr_u1.out (by have := bx0.lt; omega))
  have f90 := f80.mod mh86 (fr_u1.apart (fun b hb => by have := lt_w0 b hb; omega))
  have f91 := f82.mod mh86 (fr_u2.apart' (fun b hb => by have := lt_u1 b hb; omega))
  have f92 := f83.mod mh86 (fr_g0.apart' (fun b hb => by have := lt_u1 b hb; omega))
  have E93 := E84.mod mh86 (fun b hb => by have := fr_u1 b hb; omega)
  refine (markIntS_ok _ _ (1 + (x1.length : Int)) _ f91 (by omega) (by omega) (by omega)).mono ?_
  rintro _ h94 ⟨rfl, mk_u2, mh94, zh94⟩
  have f95 := f87.mod mh94 (fr_u2.apart (fun b hb => by have := s1.lt b hb; omega))
  have f96 := f88.mod mh94 (fr_u2.apart (fun b hb => by have := s2.lt b hb; omega))
  have f97 := f89.mod mh94 (fr_u2.out (by have := bx0.lt; omega))
  have f98 := f90.mod mh94 (fr_u2.apart (fun b hb => by have := lt_w0 b hb; omega))
  have f99 := f92.mod mh94 (fr_g0.apart' (fun b hb => by have := lt_u2 b hb; omega))
  have E100 := E93.mod mh94 (fun b hb => by have := fr_u2 b hb; omega)
  refine SplitVC.no (by omega) ?_
  refine (eqIntS_ok _ _ _ _ _ f99.toSl f98.toSl).mono ?_
  rintro _ h94 ⟨rfl, rfl⟩
  refine SplitVC.no (by simp) ?_
  refine CondVC.no (by simp) ?_
  have ln0 := wsOut_len y0_towers y0_tries x1 x2
  refine (markIntS_ok _ _ (1) _ f99 (by omega) (by omega) (by omega)).mono ?_
  rintro _ h101 ⟨rfl, mk_g0, mh101, zh101⟩
  have f102 := f95.mod mh101 (fr_g0.apart (fun b hb => by have := s1.lt b hb; omega))
  have f103 := f96.mod mh101 (fr_g0.apart (fun b hb => by have := s2.lt b hb; omega))
  have f104 := f97.mod mh101 (fr_g0.out (by have := bx0.lt; omega))
  have f105 := f98.mod mh101 (fr_g0.apart (fun b hb => by have := lt_w0 b hb; omega))
  have E106 := E100.mod mh101 (fun b hb => by have := fr_g0 b hb; omega)
  refine (heldIntS_ok _ _ 1 _ mk_g0.toSl (by omega) (by omega) (by omega)).mono ?_
  rintro _ h101 ⟨rfl, rfl⟩
  refine CondVC.no (by omega) ?_
  refine CondVC.no (by simp) ?_
  refine f104.loadA rfl ?_
  refine (toLine_ok _ _ _).mono ?_
  rintro _ h107 ⟨rfl, eh107⟩
  have f108 := f102.ext eh107
  have f109 := f103.ext eh107
  have f110 := f104.ext eh107
  have f111 := f105.ext eh107
  have f112 := mk_g0.ext eh107
  have E113 := E106.trans eh107
  have z114 := eh107.size
  refine (toIntS_ok _ _ _ f108 c1).mono ?_
  rintro q1 h115 ⟨s_q1, eh115, fr_q1⟩
  have f116 := f108.ext eh115
  have f117 := f109.ext eh115
  have f118 := f110.ext eh115
  have f119 := f111.ext eh115
  have f120 := f112.ext eh115
  have E121 := E113.trans eh115
  have z122 := eh115.size
  have lt_q1 := s_q1.lt
  refine (toIntS_ok _ _ _ f117 c2).mono ?_
  rintro q2 h123 ⟨s_q2, eh123, fr_q2⟩
  have f124 := f116.ext eh123
  have f125 := f117.ext eh123
  have f126 := f118.ext eh123
  have f127 := f119.ext eh123
  have f128 := f120.ext eh123
  have f129 := s_q1.ext eh123
  have E130 := E121.trans eh123
  have z131 := eh123.size
  have lt_q2 := s_q2.lt
  refine (implWrongSignals_ok _ _ _ _ _ _ _ f129.toSl s_q2.toSl).mono ?_
  rintro _ h132 ⟨h0, rfl, s_h0, eh132, fr_h0⟩
  have f133 := f124.ext eh132
  have f134 := f125.ext eh132
  have f135 := f126.ext eh132
  have f136 := f127.ext eh132
  have f137 := f128.ext eh132
  have f138 := f129.ext eh132
  have f139 := s_q2.ext eh132
  have E140 := E130.trans eh132
  have z141 := eh132.size
  have lt_h0 := s_h0.lt
  refine (eqIntS_ok _ _ _ _ _ s_h0.toSl f136.toSl).mono ?_
  rintro _ h132 ⟨rfl, rfl⟩
  refine SplitVC.no (by simp) ?_
  refine CondVC.no (by simp) ?_
  refine (heldIntS_ok _ _ 1 _ f137.toSl (by omega) (by omega) (by omega)).mono ?_
  rintro _ h132 ⟨rfl, rfl⟩
  refine CondVC.no (by omega) ?_
  refine CondVC.no (by simp) ?_
  exact ⟨rfl, E140⟩
end Go.Proofs.Ytckkablifoblbaa.finFnExactWrongSignals
