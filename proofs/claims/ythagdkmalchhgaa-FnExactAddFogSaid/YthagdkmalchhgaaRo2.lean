/- The laws' helpers on nets. Condition: none. Printed in part by a program. -/
import Derived.Test.YthagdkmalchhgaaRo1
namespace Go.Proofs.Ythagdkmalchhgaa
open Go.Vc
set_option linter.all false

structure NetP where
  towers : List TowerD
  links : List LinkD

theorem toNet_ok (v_a0 : Value) (a0 : List TowerD) (v_a1 : Value) (a1 : List LinkD) (h : Heap) (s_a0 : Sl h v_a0 a0) (s_a1 : Sl h v_a1 a1) (hb0 : a0.length ≤ 1048576) (hb1 : a1.length ≤ 1048576) : Cn f_laws_toNet [.agg #[v_a0, v_a1]] h fun v h' => ∃ r0 r1, v = .agg #[r0, r1] ∧ SlO h' r0 a0 ∧ SlO h' r1 a1 ∧ Ext h h' ∧ Fr h.size r0 ∧ Fr h.size r1 ∧ ∀ b ∈ blks r0, b ∉ blks r1 := by
  have lt_a0 := s_a0.lt
  have l63_a0 := s_a0.len63
  have lt_a1 := s_a1.lt
  have l63_a1 := s_a1.len63
  refine calls_of r_laws_toNet ?_
  refine v_seq ?_
  refine v_ops ?_
  refine s_box [v_a0, v_a1] rfl (fun h2 b1 hbb1 hzb1 eh2 bxb1 => ?_)
  have E3 := (Ext.refl h).trans eh2
  have z4 := eh2.size
  have lbb1 := bxb1.lt
  refine s_new (fun h6 b5 hbb5 hzb5 eh6 bxb5 => ?_)
  have E7 := E3.trans eh6
  have z8 := eh6.size
  have lbb5 := bxb5.lt
  refine s_nil ?_
  refine p_seqN ?_
  refine v_seq ?_
  refine v_ops ?_
  refine s_new (fun h10 b9 hbb9 hzb9 eh10 bxb9 => ?_)
  have E11 := E7.trans eh10
  have z12 := eh10.size
  have lbb9 := bxb9.lt
  refine s_nil ?_
  refine p_seqN ?_
  refine v_seq ?_
  refine v_ops ?_
  refine s_pure (.pointer (some ⟨b1, 0, none⟩)) (fun _ q => q) ?_
  have f13 := ((bxb1.ext eh6).ext eh10)
  refine s_load v_a0 (fun _ q => f13.load rfl q) ?_
  have f14 := (((s_a0.ext eh2).ext eh6).ext eh10)
  refine s_call [v_a0] rfl (toTowerS_ok v_a0 a0 _ f14 (by first | omega | assumption | (simp; omega))) ?_
  rintro r15 h16 ⟨_, rfl, s_r15, fr_r15, eh16⟩
  have E17 := E11.trans eh16
  have z18 := eh16.size
  have lt_r15 := s_r15.lt
  refine s_pure (.pointer (some ⟨b9, 0, none⟩)) (fun _ q => q) ?_
  have f19 := (bxb9.ext eh16)
  refine s_stBx r15 [r15] [r15, .slice none 0 0] f19 rfl rfl s_r15.cellsv rfl (by simp) (all_cons s_r15.one1 all_nil) rfl (fun h20 mh20 sh20 bxx21 => ?_)
  have E22 := E17.mod mh20 (fun b hb => by simp at hb; omega)
  refine s_nil ?_
  refine p_seqN ?_
  refine v_seq ?_
  refine v_ops ?_
  refine s_pure (.pointer (some ⟨b1, 1, none⟩)) (fun _ q => q) ?_
  have f23 := ((f13.ext eh16).mod mh20 (by simp; omega))
  refine s_load v_a1 (fun _ q => f23.load rfl q) ?_
  have f24 := (((((s_a1.ext eh2).ext eh6).ext eh10).ext eh16).mod mh20 (fun b hb hc => by simp at hc; have := lt_a1 b hb; omega))
  refine s_call [v_a1] rfl (toLinkS_ok v_a1 a1 _ f24 (by first | omega | assumption | (simp; omega))) ?_
  rintro r25 h26 ⟨_, rfl, s_r25, fr_r25, eh26⟩
  have E27 := E22.trans eh26
  have z28 := eh26.size
  have lt_r25 := s_r25.lt
  refine s_pure (.pointer (some ⟨b9, 1, none⟩)) (fun _ q => q) ?_
  have f29 := (bxx21.ext eh26)
  refine s_stBx r25 [r25] [r15, r25] f29 rfl rfl s_r25.cellsv rfl (by simp) (all_cons s_r25.one1 all_nil) rfl (fun h30 mh30 sh30 bxx31 => ?_)
  have E32 := E27.mod mh30 (fun b hb => by simp at hb; omega)
  refine s_nil ?_
  refine p_seqN ?_
  refine v_seq ?_
  refine v_ops ?_
  refine s_load (.agg #[r15, r25]) (fun _ q => bxx31.loadA rfl q) ?_
  have f33 := (((((bxb5.ext eh10).ext eh16).mod mh20 (by simp; omega)).ext eh26).mod mh30 (by simp; omega))
  refine s_stBx (.agg #[r15, r25]) [r15, r25] [r15, r25] f33 rfl rfl rfl rfl (by simp) (all_cons s_r15.one1 (all_cons s_r25.one1 all_nil)) rfl (fun h34 mh34 sh34 bxx35 => ?_)
  have E36 := E32.mod mh34 (fun b hb => by simp at hb; omega)
  refine s_nil ?_
  refine p_seqN ?_
  refine v_ret ?_
  refine p_ret [.agg #[r15, r25]] (.agg #[r15, r25]) (fun _ q => (bxx35.loadA rfl q)) rfl ?_
  have f37 := ((((s_r15.mod mh20 (fun b hb hc => by simp at hc; have := fr_r15 b hb; omega)).ext eh26).mod mh30 (fun b hb hc => by simp at hc; have := fr_r15 b hb; omega)).mod mh34 (fun b hb hc => by simp at hc; have := fr_r15 b hb; omega))
  have f38 := ((s_r25.mod mh30 (fun b hb hc => by simp at hc; have := fr_r25 b hb; omega)).mod mh34 (fun b hb hc => by simp at hc; have := fr_r25 b hb; omega))
  exact ⟨_, _, rfl, f37, f38, E36, fr_r15.mono (by omega), fr_r25.mono (by omega), (fun b hb hc => by have := lt_r15 b hb; have := fr_r25 b hc; omega)⟩

theorem laws_eqNet_ok (a : NetP) (v_a_towers : Value) (v_a_links : Value) (b : NetP) (v_b_towers : Value) (v_b_links : Value) (h : Heap) (s_a_towers : Sl h v_a_towers a.towers) (s_a_links : Sl h v_a_links a.links) (s_b_towers : Sl h v_b_towers b.towers) (s_b_links : Sl h v_b_links b.links) : Cn f_laws_eqNet [.agg #[v_a_towers, v_a_links], .agg #[v_b_towers, v_b_links]] h fun v h' => v = .bool (decide (a.towers = b.towers ∧ a.links = b.links)) ∧ Ext h h' := by
  have lt_a_towers := s_a_towers.lt
  have l63_a_towers := s_a_towers.len63
  have lt_a_links := s_a_links.lt
  have l63_a_links := s_a_links.len63
  have lt_b_towers := s_b_towers.lt
  have l63_b_towers := s_b_towers.len63
  have lt_b_links := s_b_links.lt
  have l63_b_links := s_b_links.len63
  refine calls_of r_laws_eqNet ?_
  refine v_seq ?_
  refine v_ops ?_
  refine s_box [v_a_towers, v_a_links] rfl (fun h2 b1 hbb1 hzb1 eh2 bxb1 => ?_)
  have E3 := (Ext.refl h).trans eh2
  have z4 := eh2.size
  have lbb1 := bxb1.lt
  refine s_box [v_b_towers, v_b_links] rfl (fun h6 b5 hbb5 hzb5 eh6 bxb5 => ?_)
  have E7 := E3.trans eh6
  have z8 := eh6.size
  have lbb5 := bxb5.lt
  refine s_pure (.bool false) (fun _ q => q) ?_
  refine s_nil ?_
  refine p_seqN ?_
  refine v_seq ?_
  refine v_seq ?_
  refine v_ops ?_
  refine s_pure (.pointer (some ⟨b1, 0, none⟩)) (fun _ q => q) ?_
  have f9 := (bxb1.ext eh6)
  refine s_load v_a_towers (fun _ q => f9.load rfl q) ?_
  refine s_pure (.pointer (some ⟨b5, 0, none⟩)) (fun _ q => q) ?_
  refine s_load v_b_towers (fun _ q => bxb5.load rfl q) ?_
  have f10 := ((s_a_towers.ext eh2).ext eh6)
  have f11 := ((s_b_towers.ext eh2).ext eh6)
  refine s_call [v_a_towers, v_b_towers] rfl (eqTowerS_ok v_a_towers a.towers v_b_towers b.towers _ f10 f11) ?_
  rintro _ h12 ⟨rfl, eh12⟩
  have E13 := E7.trans eh12
  have z14 := eh12.size
  refine s_pure (.bool (!decide (a.towers = b.towers))) (fun _ q => q) ?_
  refine s_nil ?_
  refine p_seqN ?_
  refine v_cond rfl (fun c15 => ?_) (fun c15 => ?_)
  ·
    refine v_seq ?_
    refine v_ops ?_
    refine s_pure (.bool false) (fun _ q => q) ?_
    refine s_nil ?_
    refine p_seqN ?_
    refine v_ret ?_
    refine p_seqR ?_
    refine p_ret [.bool false] (.bool false) (fun _ q => q) rfl ?_
    have ho : decide (a.towers = b.towers ∧ a.links = b.links) = false := by simp [*]
    exact ⟨by first | (rw [ho]; done) | rfl, E13⟩
  ·
    have c15 := Classical.not_not.1 c15
    refine v_skip ?_
    refine p_seqN ?_
    refine v_seq ?_
    refine v_seq ?_
    refine v_ops ?_
    refine s_pure (.pointer (some ⟨b1, 1, none⟩)) (fun _ q => q) ?_
    have f16 := (f9.ext eh12)
    refine s_load v_a_links (fun _ q => f16.load rfl q) ?_
    refine s_pure (.pointer (some ⟨b5, 1, none⟩)) (fun _ q => q) ?_
    have f17 := (bxb5.ext eh12)
    refine s_load v_b_links (fun _ q => f17.load rfl q) ?_
    have f18 := (((s_a_links.ext eh2).ext eh6).ext eh12)
    have f19 := (((s_b_links.ext eh2).ext eh6).ext eh12)
    refine s_call [v_a_links, v_b_links] rfl (eqLinkS_ok v_a_links a.links v_b_links b.links _ f18 f19) ?_
    rintro _ h20 ⟨rfl, eh20⟩
    have E21 := E13.trans eh20
    have z22 := eh20.size
    refine s_pure (.bool (!decide (a.links = b.links))) (fun _ q => q) ?_
    refine s_nil ?_
    refine p_seqN ?_
    refine v_cond rfl (fun c23 => ?_) (fun c23 => ?_)
    ·
      refine v_seq ?_
      refine v_ops ?_
      refine s_pure (.bool false) (fun _ q => q) ?_
      refine s_nil ?_
      refine p_seqN ?_
      refine v_ret ?_
      refine p_seqR ?_
      refine p_ret [.bool false] (.bool false) (fun _ q => q) rfl ?_
      have ho : decide (a.towers = b.towers ∧ a.links = b.links) = false := by simp [*]
      exact ⟨by first | (rw [ho]; done) | rfl, E21⟩
    ·
      have c23 := Classical.not_not.1 c23
      refine v_skip ?_
      refine p_seqN ?_
      refine v_seq ?_
      refine v_ops ?_
      refine s_pure (.bool true) (fun _ q => q) ?_
      refine s_nil ?_
      refine p_seqN ?_
      refine v_ret ?_
      refine p_ret [.bool true] (.bool true) (fun _ q => q) rfl ?_
      have ho : decide (a.towers = b.towers ∧ a.links = b.links) = true := by simp [*]
      exact ⟨by first | (rw [ho]; done) | rfl, E21⟩

theorem laws_szNet_ok (a : NetP) (v_a_towers : Value) (v_a_links : Value) (n : Int) (h : Heap) (s_a_towers : Sl h v_a_towers a.towers) (s_a_links : Sl h v_a_links a.links) (h0 : 0 ≤ n) (h1 : n ≤ 1048576) : Cn f_laws_szNet [.agg #[v_a_towers, v_a_links], .int .i64 n] h fun v h' => ∃ m : Int, v = .int .i64 m ∧ Ext h h' ∧ (0 ≤ m → m = n - (a.towers.length : Int) - (a.links.length : Int)) ∧ m ≤ n := by
  have lt_a_towers := s_a_towers.lt
  have l63_a_towers := s_a_towers.len63
  have lt_a_links := s_a_links.lt
  have l63_a_links := s_a_links.len63
  refine calls_of r_laws_szNet ?_
  refine v_seq ?_
  refine v_ops ?_
  refine s_box [v_a_towers, v_a_links] rfl (fun h2 b1 hbb1 hzb1 eh2 bxb1 => ?_)
  have E3 := (Ext.refl h).trans eh2
  have z4 := eh2.size
  have lbb1 := bxb1.lt
  refine s_pure (.int .i64 0) (fun _ q => q) ?_
  refine s_nil ?_
  refine p_seqN ?_
  refine v_seq ?_
  refine v_ops ?_
  refine s_pure (.pointer (some ⟨b1, 0, none⟩)) (fun _ q => q) ?_
  refine s_load v_a_towers (fun _ q => bxb1.load rfl q) ?_
  refine s_pure (.int .i64 n) (fun _ q => q) ?_
  have f7 := (s_a_towers.ext eh2)
  refine s_call [v_a_towers, .int .i64 n] rfl (szTowerS_ok v_a_towers a.towers n _ f7 (by omega) (by omega)) ?_
  rintro _ h5 ⟨n6, rfl, eh5, hmn6, hkn6⟩
  have E8 := E3.trans eh5
  have z9 := eh5.size
  refine s_pure (.int .i64 n6) (fun _ q => q) ?_
  refine s_nil ?_
  refine p_seqN ?_
  refine v_seq ?_
  refine v_seq ?_
  refine v_ops ?_
  refine s_pure (.int .i64 n6) (fun _ q => q) ?_
  refine s_pure (.bool (decide (n6 < 0))) (fun _ q => q) ?_
  refine s_nil ?_
  refine p_seqN ?_
  refine v_cond rfl (fun c10 => ?_) (fun c10 => ?_)
  ·
    refine v_seq ?_
    refine v_ops ?_
    refine s_pure (.int .i64 (-1)) (fun _ q => q) ?_
    refine s_nil ?_
    refine p_seqN ?_
    refine v_ret ?_
    refine p_seqR ?_
    refine p_ret [.int .i64 (-1)] (.int .i64 (-1)) (fun _ q => q) rfl ?_
    exact ⟨_, rfl, E8, by omega, by omega⟩
  ·
    refine v_skip ?_
    refine p_seqN ?_
    refine v_seq ?_
    refine v_ops ?_
    refine s_pure (.pointer (some ⟨b1, 1, none⟩)) (fun _ q => q) ?_
    have f11 := (bxb1.ext eh5)
    refine s_load v_a_links (fun _ q => f11.load rfl q) ?_
    refine s_pure (.int .i64 n6) (fun _ q => q) ?_
    have f14 := ((s_a_links.ext eh2).ext eh5)
    refine s_call [v_a_links, .int .i64 n6] rfl (szLinkS_ok v_a_links a.links n6 _ f14 (by omega) (by omega)) ?_
    rintro _ h12 ⟨n13, rfl, eh12, hmn13, hkn13⟩
    have E15 := E8.trans eh12
    have z16 := eh12.size
    refine s_pure (.int .i64 n13) (fun _ q => q) ?_
    refine s_nil ?_
    refine p_seqN ?_
    refine v_seq ?_
    refine v_seq ?_
    refine v_ops ?_
    refine s_pure (.int .i64 n13) (fun _ q => q) ?_
    refine s_pure (.bool (decide (n13 < 0))) (fun _ q => q) ?_
    refine s_nil ?_
    refine p_seqN ?_
    refine v_cond rfl (fun c17 => ?_) (fun c17 => ?_)
    ·
      refine v_seq ?_
      refine v_ops ?_
      refine s_pure (.int .i64 (-1)) (fun _ q => q) ?_
      refine s_nil ?_
      refine p_seqN ?_
      refine v_ret ?_
      refine p_seqR ?_
      refine p_ret [.int .i64 (-1)] (.int .i64 (-1)) (fun _ q => q) rfl ?_
      exact ⟨_, rfl, E15, by omega, by omega⟩
    ·
      refine v_skip ?_
      refine p_seqN ?_
      refine v_seq ?_
      refine v_ops ?_
      refine s_pure (.int .i64 n13) (fun _ q => q) ?_
      refine s_pure (.int .i64 n13) (fun _ q => q) ?_
      refine s_nil ?_
      refine p_seqN ?_
      refine v_ret ?_
      refine p_ret [.int .i64 n13] (.int .i64 n13) (fun _ q => q) rfl ?_
      exact ⟨_, rfl, E15, by omega, by omega⟩

theorem laws_markNet_ok (a : NetP) (v_a_towers : Value) (v_a_links : Value) (n : Int) (h : Heap) (s_a_towers : SlO h v_a_towers a.towers) (s_a_links : SlO h v_a_links a.links) (hap : ∀ b ∈ blks v_a_towers, b ∉ blks v_a_links) (h0 : 0 ≤ n) (h1 : n ≤ 1000000000) (hb0 : a.towers.length ≤ 1000000000) (hb1 : a.links.length ≤ 1000000000) : Cn f_laws_markNet [.agg #[v_a_towers, v_a_links], .int .i64 n] h fun v h' => v = .int .i64 (n + 3 * (a.towers.length : Int) + 3 * (a.links.length : Int)) ∧ SlO h' v_a_towers (towerMk n a.towers.length) ∧ SlO h' v_a_links (linkMk (n + 3 * (a.towers.length : Int)) a.links.length) ∧ Mod (blks v_a_towers ++ blks v_a_links) h h' ∧ h.size ≤ h'.size := by
  have lt_a_towers := s_a_towers.lt
  have l63_a_towers := s_a_towers.len63
  have lt_a_links := s_a_links.lt
  have l63_a_links := s_a_links.len63
  refine calls_of r_laws_markNet ?_
  refine v_seq ?_
  refine v_ops ?_
  refine s_box [v_a_towers, v_a_links] rfl (fun h2 b1 hbb1 hzb1 eh2 bxb1 => ?_)
  have E3 := (Mod.refl (blks v_a_towers ++ blks v_a_links) h).trans (Mod.of_ext eh2 _)
  have z4 := eh2.size
  have lbb1 := bxb1.lt
  refine s_pure (.int .i64 0) (fun _ q => q) ?_
  refine s_nil ?_
  refine p_seqN ?_
  refine v_seq ?_
  refine v_ops ?_
  refine s_pure (.pointer (some ⟨b1, 0, none⟩)) (fun _ q => q) ?_
  refine s_load v_a_towers (fun _ q => bxb1.load rfl q) ?_
  refine s_pure (.int .i64 n) (fun _ q => q) ?_
  have f7 := (s_a_towers.ext eh2)
  refine s_call [v_a_towers, .int .i64 n] rfl (markTowerS_ok v_a_towers a.towers n _ f7 (by omega) (by omega) (by omega)) ?_
  rintro _ h5 ⟨rfl, mk6, mh5, zh5⟩
  have E8 := E3.new mh5 (fun b hb => Or.inl (by simp [hb]))
  refine s_pure (.int .i64 (n + 3 * (a.towers.length : Int))) (fun _ q => q) ?_
  refine s_nil ?_
  refine p_seqN ?_
  refine v_seq ?_
  refine v_ops ?_
  refine s_pure (.pointer (some ⟨b1, 1, none⟩)) (fun _ q => q) ?_
  have f9 := (bxb1.mod mh5 (fun hc => by have := lt_a_towers _ hc; omega))
  refine s_load v_a_links (fun _ q => f9.load rfl q) ?_
  refine s_pure (.int .i64 (n + 3 * (a.towers.length : Int))) (fun _ q => q) ?_
  have f12 := ((s_a_links.ext eh2).mod mh5 (fun b hb hc => hap b hc hb))
  refine s_call [v_a_links, .int .i64 (n + 3 * (a.towers.length : Int))] rfl (markLinkS_ok v_a_links a.links (n + 3 * (a.towers.length : Int)) _ f12 (by omega) (by omega) (by omega)) ?_
  rintro _ h10 ⟨rfl, mk11, mh10, zh10⟩
  have E13 := E8.new mh10 (fun b hb => Or.inl (by simp [hb]))
  refine s_pure (.int .i64 ((n + 3 * (a.towers.length : Int)) + 3 * (a.links.length : Int))) (fun _ q => q) ?_
  refine s_nil ?_
  refine p_seqN ?_
  refine v_seq ?_
  refine v_ops ?_
  refine s_pure (.int .i64 ((n + 3 * (a.towers.length : Int)) + 3 * (a.links.length : Int))) (fun _ q => q) ?_
  refine s_pure (.int .i64 ((n + 3 * (a.towers.length : Int)) + 3 * (a.links.length : Int))) (fun _ q => q) ?_
  refine s_nil ?_
  refine p_seqN ?_
  refine v_ret ?_
  refine p_ret [.int .i64 ((n + 3 * (a.towers.length : Int)) + 3 * (a.links.length : Int))] (.int .i64 ((n + 3 * (a.towers.length : Int)) + 3 * (a.links.length : Int))) (fun _ q => q) rfl ?_
  have f14 := (mk6.mod mh10 hap)
  exact ⟨rfl, f14, mk11, E13, E13.size⟩


theorem szNet_ok (a0 : Value) (x0 : List TowerD) (a1 : Value) (x1 : List LinkD) (k : Int) (h : Heap) (s0 : Sl h a0 x0) (s1 : Sl h a1 x1) (h0 : 0 ≤ k) (h1 : k ≤ 1048576) :
    Cn f_laws_szNet [.agg #[a0, a1], .int .i64 k] h fun v h' => ∃ m : Int, v = .int .i64 m ∧ Ext h h' ∧ (0 ≤ m → m = k - (x0.length : Int) - (x1.length : Int)) ∧ m ≤ k := laws_szNet_ok ⟨x0, x1⟩ a0 a1 k h s0 s1 h0 h1
theorem eqNet_ok (a0 : Value) (x0 : List TowerD) (a1 : Value) (x1 : List LinkD) (b0 : Value) (y0 : List TowerD) (b1 : Value) (y1 : List LinkD) (h : Heap) (sa0 : Sl h a0 x0) (sa1 : Sl h a1 x1) (sb0 : Sl h b0 y0) (sb1 : Sl h b1 y1) :
    Cn f_laws_eqNet [.agg #[a0, a1], .agg #[b0, b1]] h fun v h' => v = .bool (decide (x0 = y0 ∧ x1 = y1)) ∧ Ext h h' := laws_eqNet_ok ⟨x0, x1⟩ a0 a1 ⟨y0, y1⟩ b0 b1 h sa0 sa1 sb0 sb1
theorem markNet_ok (a0 : Value) (x0 : List TowerD) (a1 : Value) (x1 : List LinkD) (k : Int) (h : Heap) (s0 : SlO h a0 x0) (s1 : SlO h a1 x1) (hap : ∀ b ∈ blks a0, b ∉ blks a1) (h0 : 0 ≤ k) (h1 : k ≤ 1000000000) (hb0 : x0.length ≤ 1000000000) (hb1 : x1.length ≤ 1000000000) :
    Cn f_laws_markNet [.agg #[a0, a1], .int .i64 k] h fun v h' => v = .int .i64 (k + 3 * (x0.length : Int) + 3 * (x1.length : Int)) ∧ SlO h' a0 (towerMk k x0.length) ∧ SlO h' a1 (linkMk (k + 3 * (x0.length : Int)) x1.length) ∧ Mod (blks a0 ++ blks a1) h h' ∧ h.size ≤ h'.size :=
  laws_markNet_ok ⟨x0, x1⟩ a0 a1 k h s0 s1 hap h0 h1 hb0 hb1

end Go.Proofs.Ythagdkmalchhgaa
