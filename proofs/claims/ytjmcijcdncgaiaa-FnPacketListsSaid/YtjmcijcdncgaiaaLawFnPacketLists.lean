/- LawFnPacketLists. Condition: none. -/
import Derived.Test.YtjmcijcdncgaiaaMgH
/- The law FnPacketLists: its text returns true. Condition: none. Printed by a program. -/
namespace Go.Proofs.Ytjmcijcdncgaiaa.finFnPacketLists
open Go.Vc
set_option linter.all false
set_option maxRecDepth 100000
set_option maxHeartbeats 4000000
set_option maxRecDepth 10000 in
set_option maxHeartbeats 4000000 in
theorem laws_FnPacketLists_ok (v_code : Value) (code : List By) (v_more : Value) (more : List By) (h : Heap) (s_code : Sl h v_code code) (s_more : Sl h v_more more) (hb0 : ∀ y ∈ code, 0 ≤ y.n ∧ y.n ≤ 255) (hb1 : ∀ y ∈ more, 0 ≤ y.n ∧ y.n ≤ 255) : Cn f_laws_FnPacketLists [v_code, v_more] h fun v h' => v = .bool true ∧ Ext h h' := by
 have lt_code := s_code.lt
 have l63_code := s_code.len63
 have lt_more := s_more.lt
 have l63_more := s_more.len63
 refine calls_of r_laws_FnPacketLists ?_
 refine v_seq ?_
 refine v_ops ?_
 refine s_pure (.bool false) (fun _ q => q) ?_
 refine s_nil ?_
 refine p_seqN ?_
 refine v_seq ?_
 refine v_seq ?_
 refine v_ops ?_
 refine s_pure v_code (fun _ q => q) ?_
 refine s_pure v_more (fun _ q => q) ?_
 refine s_call [v_code, v_more] rfl (laws_big_ok v_code code v_more more _ s_code s_more) ?_
 rintro _ h1 ⟨rfl, eh1⟩
 have E2 := (Ext.refl h).trans eh1
 have z3 := eh1.size
 refine s_nil ?_
 refine p_seqN ?_
 refine v_cond rfl (fun c4 => ?_) (fun c4 => ?_)
 ·
  refine v_seq ?_
  refine v_ops ?_
  refine s_pure (.bool true) (fun _ q => q) ?_
  refine s_nil ?_
  refine p_seqN ?_
  refine v_ret ?_
  refine p_seqR ?_
  refine p_ret [.bool true] (.bool true) (fun _ q => q) rfl ?_
  have ho : true = true := by first | rfl | (exfalso; first | omega | exact hnn _ _ _ (by assumption) (by assumption) (by assumption) | (have q_ := hoo _ _ (by assumption) (by assumption); omega) | (have q_ := hcs _ _ _ _ _ (by assumption) (by assumption) (by assumption) (by assumption) (by assumption); (first | omega | exact absurd q_.1 (by assumption) | exact q_.2.1 (by assumption) | exact Bool.noConfusion (q_.2.2.symm.trans (by assumption)) | (simp_all; done))) | (simp_all; done))
  exact ⟨by first | (rw [ho]; done) | rfl, E2⟩
 ·
  have hbig : code.length ≤ 1048576 ∧ more.length ≤ 1048576 := by omega
  refine v_skip ?_
  refine p_seqN ?_
  refine v_seq ?_
  refine v_ops ?_
  refine s_pure v_code (fun _ q => q) ?_
  have f5 := (s_code.ext eh1)
  refine s_call [v_code] rfl (spec_DrawWithoutDoubles_ok v_code code _ f5 (by first | omega | assumption | (simp; done) | (simp; omega)) (by first | omega | assumption | (simp; done) | (simp; omega))) ?_
  rintro r7 h8 ⟨g6, _, rfl, s_r7, qh8, eh8⟩
  have E9 := E2.trans eh8
  have z10 := eh8.size
  have lt_r7 := s_r7.lt
  have fr_r7 := s_r7.fr
  refine s_pure r7 (fun _ q => q) ?_
  refine s_nil ?_
  refine p_seqN ?_
  refine v_seq ?_
  refine v_ops ?_
  refine s_pure r7 (fun _ q => q) ?_
  refine s_call [r7] rfl (impl_WithoutDoubles_ok r7 g6 (g6.map Pk.p) _ s_r7.row.toSl s_r7.insL rfl) ?_
  rintro _ h12 ⟨r11, qr11, rfl, s_r11, dq_r11, eh12⟩
  have E13 := E9.trans eh12
  have z14 := eh12.size
  have lt_r11 := s_r11.lt
  have fr_r11 := s_r11.fr
  refine s_pure (.tuple #[r11, .bool ((wdOut (g6.map Pk.p)).2)]) (fun _ q => q) ?_
  refine s_pure r11 (fun _ q => q) ?_
  refine s_pure (.bool ((wdOut (g6.map Pk.p)).2)) (fun _ q => q) ?_
  refine s_pure r11 (fun _ q => q) ?_
  refine s_pure (.bool ((wdOut (g6.map Pk.p)).2)) (fun _ q => q) ?_
  refine s_nil ?_
  refine p_seqN ?_
  refine v_seq ?_
  refine v_ops ?_
  refine s_pure r7 (fun _ q => q) ?_
  have f15 := (s_r7.ext eh12)
  refine s_call [r7] rfl (spec_WithoutDoubles_ok r7 g6 (g6.map Pk.p) _ f15.row.toSl f15.insL rfl) ?_
  rintro _ h17 ⟨r16, qr16, rfl, s_r16, dq_r16, eh17⟩
  have E18 := E13.trans eh17
  have z19 := eh17.size
  have lt_r16 := s_r16.lt
  have fr_r16 := s_r16.fr
  refine s_pure (.tuple #[r16, .bool ((wdOut (g6.map Pk.p)).2)]) (fun _ q => q) ?_
  refine s_pure r16 (fun _ q => q) ?_
  refine s_pure (.bool ((wdOut (g6.map Pk.p)).2)) (fun _ q => q) ?_
  refine s_pure r16 (fun _ q => q) ?_
  refine s_pure (.bool ((wdOut (g6.map Pk.p)).2)) (fun _ q => q) ?_
  refine s_nil ?_
  refine p_seqN ?_
  refine v_seq ?_
  refine v_ops ?_
  refine s_pure r7 (fun _ q => q) ?_
  have f20 := (f15.ext eh17)
  refine s_call [r7] rfl (impl_SortPackets_ok r7 g6 (g6.map Pk.p) _ f20.row.toSl f20.insL rfl) ?_
  rintro _ h22 ⟨r21, qr21, rfl, s_r21, dq_r21, eh22⟩
  have E23 := E18.trans eh22
  have z24 := eh22.size
  have lt_r21 := s_r21.lt
  have fr_r21 := s_r21.fr
  refine s_pure (.tuple #[r21, .bool ((srtOut (g6.map Pk.p)).2)]) (fun _ q => q) ?_
  refine s_pure r21 (fun _ q => q) ?_
  refine s_pure (.bool ((srtOut (g6.map Pk.p)).2)) (fun _ q => q) ?_
  refine s_pure r21 (fun _ q => q) ?_
  refine s_pure (.bool ((srtOut (g6.map Pk.p)).2)) (fun _ q => q) ?_
  refine s_nil ?_
  refine p_seqN ?_
  refine v_seq ?_
  refine v_ops ?_
  refine s_pure r7 (fun _ q => q) ?_
  have f25 := (f20.ext eh22)
  refine s_call [r7] rfl (spec_SortPackets_ok r7 g6 (g6.map Pk.p) _ f25.row.toSl f25.insL rfl) ?_
  rintro _ h27 ⟨r26, qr26, rfl, s_r26, dq_r26, eh27⟩
  have E28 := E23.trans eh27
  have z29 := eh27.size
  have lt_r26 := s_r26.lt
  have fr_r26 := s_r26.fr
  refine s_pure (.tuple #[r26, .bool ((srtOut (g6.map Pk.p)).2)]) (fun _ q => q) ?_
  refine s_pure r26 (fun _ q => q) ?_
  refine s_pure (.bool ((srtOut (g6.map Pk.p)).2)) (fun _ q => q) ?_
  refine s_pure r26 (fun _ q => q) ?_
  refine s_pure (.bool ((srtOut (g6.map Pk.p)).2)) (fun _ q => q) ?_
  refine s_nil ?_
  refine p_seqN ?_
  refine v_seq ?_
  refine v_ops ?_
  refine s_pure r7 (fun _ q => q) ?_
  have f30 := (f25.ext eh27)
  refine s_call [r7] rfl (impl_MessagesIn_ok r7 g6 (g6.map Pk.p) _ f30.row.toSl f30.insL rfl) ?_
  rintro _ h32 ⟨r31, rfl, s_r31, fr_r31, eh32⟩
  have E33 := E28.trans eh32
  have z34 := eh32.size
  have lt_r31 := s_r31.lt
  refine s_pure (.tuple #[r31, .bool ((msgOut (g6.map Pk.p)).2)]) (fun _ q => q) ?_
  refine s_pure r31 (fun _ q => q) ?_
  refine s_pure (.bool ((msgOut (g6.map Pk.p)).2)) (fun _ q => q) ?_
  refine s_pure r31 (fun _ q => q) ?_
  refine s_pure (.bool ((msgOut (g6.map Pk.p)).2)) (fun _ q => q) ?_
  refine s_nil ?_
  refine p_seqN ?_
  refine v_seq ?_
  refine v_ops ?_
  refine s_pure r7 (fun _ q => q) ?_
  have f35 := (f30.ext eh32)
  refine s_call [r7] rfl (spec_MessagesIn_ok r7 g6 (g6.map Pk.p) _ f35.row.toSl f35.insL rfl) ?_
  rintro _ h37 ⟨r36, rfl, s_r36, fr_r36, eh37⟩
  have E38 := E33.trans eh37
  have z39 := eh37.size
  have lt_r36 := s_r36.lt
  refine s_pure (.tuple #[r36, .bool ((msgOut (g6.map Pk.p)).2)]) (fun _ q => q) ?_
  refine s_pure r36 (fun _ q => q) ?_
  refine s_pure (.bool ((msgOut (g6.map Pk.p)).2)) (fun _ q => q) ?_
  refine s_pure r36 (fun _ q => q) ?_
  refine s_pure (.bool ((msgOut (g6.map Pk.p)).2)) (fun _ q => q) ?_
  refine s_nil ?_
  refine p_seqN ?_
  refine v_seq ?_
  refine v_ops ?_
  refine s_pure r7 (fun _ q => q) ?_
  have f40 := (f35.ext eh37)
  refine s_call [r7] rfl (impl_ConflictsIn_ok r7 g6 (g6.map Pk.p) _ f40.row.toSl f40.insL rfl) ?_
  rintro _ h42 ⟨r41, qr41, rfl, s_r41, dq_r41, eh42⟩
  have E43 := E38.trans eh42
  have z44 := eh42.size
  have lt_r41 := s_r41.lt
  have fr_r41 := s_r41.fr
  refine s_pure (.tuple #[r41, .bool ((cfOut (g6.map Pk.p)).2)]) (fun _ q => q) ?_
  refine s_pure r41 (fun _ q => q) ?_
  refine s_pure (.bool ((cfOut (g6.map Pk.p)).2)) (fun _ q => q) ?_
  refine s_pure r41 (fun _ q => q) ?_
  refine s_pure (.bool ((cfOut (g6.map Pk.p)).2)) (fun _ q => q) ?_
  refine s_nil ?_
  refine p_seqN ?_
  refine v_seq ?_
  refine v_ops ?_
  refine s_pure r7 (fun _ q => q) ?_
  have f45 := (f40.ext eh42)
  refine s_call [r7] rfl (spec_ConflictsIn_ok r7 g6 (g6.map Pk.p) _ f45.row.toSl f45.insL rfl) ?_
  rintro _ h47 ⟨r46, qr46, rfl, s_r46, dq_r46, eh47⟩
  have E48 := E43.trans eh47
  have z49 := eh47.size
  have lt_r46 := s_r46.lt
  have fr_r46 := s_r46.fr
  obtain ⟨ok50a, ok50b, ok50c, ok50d⟩ := pk_oks (g6.map Pk.p)
  refine s_pure (.tuple #[r46, .bool ((cfOut (g6.map Pk.p)).2)]) (fun _ q => q) ?_
  refine s_pure r46 (fun _ q => q) ?_
  refine s_pure (.bool ((cfOut (g6.map Pk.p)).2)) (fun _ q => q) ?_
  refine s_pure r46 (fun _ q => q) ?_
  refine s_pure (.bool ((cfOut (g6.map Pk.p)).2)) (fun _ q => q) ?_
  refine s_nil ?_
  refine p_seqN ?_
  refine v_seqM1 [(5, r7), (6, r11), (7, .bool ((wdOut (g6.map Pk.p)).2)), (8, r16), (10, r21), (12, r26), (16, r36), (20, r46)] (fun R52 h53 eh53 => ?_) (fun M51 => ?_)
  ·
   have E54 := E48.trans eh53
   have z55 := eh53.size
   refine v_seq ?_
   refine v_seq ?_
   refine v_ops ?_
   refine s_pure (.bool ((wdOut (g6.map Pk.p)).2)) (fun _ q => q) ?_
   refine s_pure (.bool (!(wdOut (g6.map Pk.p)).2)) (fun _ q => q) ?_
   refine s_nil ?_
   refine p_seqN ?_
   refine v_cond rfl (fun c56 => ?_) (fun c56 => ?_)
   ·
    refine v_seq ?_
    refine v_ops ?_
    refine s_pure (.bool true) (fun _ q => q) ?_
    refine s_nil ?_
    refine p_seqN ?_
    refine v_ret ?_
    refine p_seqR ?_
    refine p_ret [.bool true] (.bool true) (fun _ q => q) rfl ?_
    have ho : true = true := by first | rfl | (exfalso; first | omega | exact hnn _ _ _ (by assumption) (by assumption) (by assumption) | (have q_ := hoo _ _ (by assumption) (by assumption); omega) | (have q_ := hcs _ _ _ _ _ (by assumption) (by assumption) (by assumption) (by assumption) (by assumption); (first | omega | exact absurd q_.1 (by assumption) | exact q_.2.1 (by assumption) | exact Bool.noConfusion (q_.2.2.symm.trans (by assumption)) | (simp_all; done))) | (simp_all; done))
    exact ⟨by first | (rw [ho]; done) | rfl, E54⟩
   ·
    have c56 := Classical.not_not.1 c56
    obtain ⟨hPk, hw1, hnd, hag, hsl, hord, hjw, hjs⟩ := wd_facts c56
    refine v_skip ?_
    refine p_seqN ?_
    refine v_seq ?_
    refine v_seq ?_
    refine v_ops ?_
    refine s_pure r16 (fun _ q => q) ?_
    refine s_pure (.int .i64 (qr16.length : Int)) (fun _ q => s_r16.row.lenVC q) ?_
    refine s_pure (.int .i64 0) (fun _ q => q) ?_
    refine s_nil ?_
    refine p_seqN ?_
    refine v_block ?_
    have f58 := (((((((s_r16.ext eh22).ext eh27).ext eh32).ext eh37).ext eh42).ext eh47).ext eh53)
    have l63_l57 := (f58.row.toSl).len63
    have f60 := ((f45.ext eh47).ext eh53)
    have f61 := ((((((((s_r11.ext eh17).ext eh22).ext eh27).ext eh32).ext eh37).ext eh42).ext eh47).ext eh53)
    have f62 := ((((((s_r21.ext eh27).ext eh32).ext eh37).ext eh42).ext eh47).ext eh53)
    have f63 := (((((s_r26.ext eh32).ext eh37).ext eh42).ext eh47).ext eh53)
    have f64 := (((s_r36.ext eh42).ext eh47).ext eh53)
    have f65 := (s_r46.ext eh53)
    refine v_loop1 (α := Nat) (fun k => [(5, r7), (6, r11), (8, r16), (10, r21), (12, r26), (16, r36), (20, r46), (157, r16), (158, .int .i64 (qr16.length : Int)), (159, .int .i64 (k : Int))]) (fun k hh => Ext h hh ∧ RdO hh r7 g6 h.size ∧ DeepO hh r11 qr11 h.size ∧ DeepO hh r16 qr16 h.size ∧ DeepO hh r21 qr21 h.size ∧ DeepO hh r26 qr26 h.size ∧ SlO hh r36 ((msgOut (g6.map Pk.p)).1) ∧ DeepO hh r46 qr46 h.size ∧ k ≤ qr16.length) (fun k => qr16.length - k) 0 ⟨rfl, rfl, rfl, rfl, rfl, rfl, rfl, rfl, rfl, rfl⟩ ⟨E54, (f60.mono (by omega)), (f61.mono (by omega)), (f58.mono (by omega)), (f62.mono (by omega)), (f63.mono (by omega)), f64, (f65.mono (by omega)), (by exact Nat.zero_le _)⟩ ?_
    rintro k R66 h59 ⟨Eh, s_r7, s_r11, s_r16, s_r21, s_r26, s_r36, s_r46, hk⟩
    have zEh := Eh.size
    have f68 := s_code.ext Eh
    have f69 := s_more.ext Eh
    have ltk_r7 := s_r7.lt
    have ltk_r11 := s_r11.lt
    have ltk_r16 := s_r16.lt
    have ltk_r21 := s_r21.lt
    have ltk_r26 := s_r26.lt
    have ltk_r36 := s_r36.lt
    have ltk_r46 := s_r46.lt
    have hnn : ∀ (j : Nat) (x y : Pk), qr16[k]? = some x → (qr16.take ((k : Int)).toNat)[j]? = some y → x.p = y.p → False := fun j x y hx hy => nodup_ne dq_r16 hnd hx hy
    refine v_seq ?_
    refine v_ops ?_
    refine s_pure (.bool (decide ((k : Int) < (qr16.length : Int)))) (fun _ q => q) ?_
    refine s_nil ?_
    refine p_seqN ?_
    refine v_seq ?_
    refine v_cond rfl (fun c70 => ?_) (fun c70 => ?_)
    ·
     refine v_skip ?_
     refine p_seqN ?_
     refine v_seq ?_
     refine v_block ?_
     refine v_seq ?_
     refine v_ops ?_
     refine s_pure (.int .i64 (k : Int)) (fun _ q => q) ?_
     have hk71 : k < qr16.length := (by first | omega | (simp; omega))
     obtain ⟨x72, hx72⟩ : ∃ x, qr16[k]? = some x := ⟨_, List.getElem?_eq_getElem hk71⟩
     refine s_pure (.pointer (some ⟨sblk r16, soff r16 + k * 4, none⟩)) (fun _ q => s_r16.row.idx (k := k) rfl hk71 q) ?_
     have s73 := s_r16.insL x72 (List.mem_of_getElem? hx72)
     refine s_load (.agg #[.int .i64 x72.message, .int .i64 x72.part, .int .i64 x72.parts, x72.sv.v]) (fun _ q => s_r16.row.loadN hx72 rfl q) ?_
     refine s_new (fun h75 b74 hbb74 hzb74 eh75 bxb74 => ?_)
     have E76 := Eh.trans eh75
     have z77 := eh75.size
     have lbb74 := bxb74.lt
     refine s_pure (.int .i64 (k : Int)) (fun _ q => q) ?_
     refine s_stBx (.agg #[.int .i64 x72.message, .int .i64 x72.part, .int .i64 x72.parts, x72.sv.v]) [.int .i64 x72.message, .int .i64 x72.part, .int .i64 x72.parts, x72.sv.v] [.int .i64 x72.message, .int .i64 x72.part, .int .i64 x72.parts, x72.sv.v] bxb74 rfl rfl rfl rfl (by simp) (all_cons rfl (all_cons rfl (all_cons rfl (all_cons s73.one1 all_nil)))) rfl (fun h78 mh78 sh78 bxx79 => ?_)
     have E80 := E76.mod mh78 (fun b hb => by simp at hb; omega)
     refine s_nil ?_
     refine p_seqN ?_
     refine v_seq ?_
     refine v_ops ?_
     refine s_pure r16 (fun _ q => q) ?_
     refine s_pure (.int .i64 (k : Int)) (fun _ q => q) ?_
     have f81 := ((s_r16.ext eh75).mod mh78 (fun b hb hc => by simp at hc; have := ltk_r16 b hb; have := lt_r16 b hb; omega))
     obtain ⟨r82, hqr82, s_r82, bk_r82⟩ := f81.row.toSl.slc (l := 0) (m := ((k : Int)).toNat) (by first | omega | (simp; omega)) (by first | omega | (simp; omega))
     simp only [List.drop_zero, List.take_length] at s_r82
     have lt_r82 := s_r82.lt
     refine s_pure r82 (fun K q => hqr82 _ rfl none (some (.int .i64 (k : Int))) rfl ⟨_, _, rfl, (by omega)⟩ K q) ?_
     refine s_pure (.int .i64 ((qr16.take (((k : Int)).toNat)).length : Int)) (fun _ q => s_r82.lenVC q) ?_
     refine s_pure (.int .i64 0) (fun _ q => q) ?_
     refine s_nil ?_
     refine p_seqN ?_
     refine v_block ?_
     have l63_l83 := (s_r82).len63
     have nk85 : b74 ∉ fpts r7 g6 := (fun hc => by have := ltk_r7 _ hc; have := lt_r7 _ hc; omega)
     have nk86 : b74 ∉ fpts r11 qr11 := (fun hc => by have := ltk_r11 _ hc; have := lt_r11 _ hc; omega)
     have nk87 : b74 ∉ fpts r16 qr16 := (fun hc => by have := ltk_r16 _ hc; have := lt_r16 _ hc; omega)
     have nk88 : b74 ∉ fpts r21 qr21 := (fun hc => by have := ltk_r21 _ hc; have := lt_r21 _ hc; omega)
     have nk89 : b74 ∉ fpts r26 qr26 := (fun hc => by have := ltk_r26 _ hc; have := lt_r26 _ hc; omega)
     have nk90 : b74 ∉ blks r36 := (fun hc => by have := ltk_r36 _ hc; have := lt_r36 _ hc; omega)
     have nk91 : b74 ∉ fpts r46 qr46 := (fun hc => by have := ltk_r46 _ hc; have := lt_r46 _ hc; omega)
     have f92 := ((s_r7.ext eh75).mod mh78 (fun b hb hc => by simp at hc; have := ltk_r7 b hb; have := lt_r7 b hb; omega))
     have f93 := ((s_r11.ext eh75).mod mh78 (fun b hb hc => by simp at hc; have := ltk_r11 b hb; have := lt_r11 b hb; omega))
     have f94 := ((s_r21.ext eh75).mod mh78 (fun b hb hc => by simp at hc; have := ltk_r21 b hb; have := lt_r21 b hb; omega))
     have f95 := ((s_r26.ext eh75).mod mh78 (fun b hb hc => by simp at hc; have := ltk_r26 b hb; have := lt_r26 b hb; omega))
     have f96 := ((s_r36.ext eh75).mod mh78 (fun b hb hc => by simp at hc; have := ltk_r36 b hb; have := lt_r36 b hb; omega))
     have f97 := ((s_r46.ext eh75).mod mh78 (fun b hb hc => by simp at hc; have := ltk_r46 b hb; have := lt_r46 b hb; omega))
     refine v_loop1 (α := Nat) (fun j => [(5, r7), (6, r11), (8, r16), (10, r21), (12, r26), (16, r36), (20, r46), (23, .pointer (some ⟨b74, 0, none⟩)), (157, r16), (158, .int .i64 (qr16.length : Int)), (159, .int .i64 (k : Int)), (166, r82), (167, .int .i64 ((qr16.take (((k : Int)).toNat)).length : Int)), (168, .int .i64 (j : Int))]) (fun j hh => Ext h hh ∧ Bx hh b74 [.int .i64 x72.message, .int .i64 x72.part, .int .i64 x72.parts, x72.sv.v] 27 ∧ RdO hh r7 g6 h.size ∧ DeepO hh r11 qr11 h.size ∧ DeepO hh r16 qr16 h.size ∧ DeepO hh r21 qr21 h.size ∧ DeepO hh r26 qr26 h.size ∧ SlO hh r36 ((msgOut (g6.map Pk.p)).1) ∧ DeepO hh r46 qr46 h.size ∧ Sl hh r82 (qr16.take (((k : Int)).toNat)) ∧ j ≤ (qr16.take (((k : Int)).toNat)).length) (fun j => (qr16.take (((k : Int)).toNat)).length - j) 0 ⟨rfl, rfl, rfl, rfl, rfl, rfl, rfl, rfl, rfl, rfl, rfl, rfl, rfl, rfl⟩ ⟨E80, bxx79, (f92.mono (by omega)), (f93.mono (by omega)), (f81.mono (by omega)), (f94.mono (by omega)), (f95.mono (by omega)), f96, (f97.mono (by omega)), s_r82, (by exact Nat.zero_le _)⟩ ?_
     rintro j R98 h84 ⟨Eh, bxb74, s_r7, s_r11, s_r16, s_r21, s_r26, s_r36, s_r46, s_r82, hj⟩
     have zEh := Eh.size
     have f100 := s_code.ext Eh
     have f101 := s_more.ext Eh
     have ltk_r7 := s_r7.lt
     have ltk_r11 := s_r11.lt
     have ltk_r16 := s_r16.lt
     have ltk_r21 := s_r21.lt
     have ltk_r26 := s_r26.lt
     have ltk_r36 := s_r36.lt
     have ltk_r46 := s_r46.lt
     have lbb74 := bxb74.lt
     have ltk_r82 := s_r82.lt
     have s102 := s_r16.insL x72 (List.mem_of_getElem? hx72)
     refine v_seq ?_
     refine v_ops ?_
     refine s_pure (.bool (decide ((j : Int) < ((qr16.take (((k : Int)).toNat)).length : Int)))) (fun _ q => q) ?_
     refine s_nil ?_
     refine p_seqN ?_
     refine v_seq ?_
     refine v_cond rfl (fun c103 => ?_) (fun c103 => ?_)
     ·
      refine v_skip ?_
      refine p_seqN ?_
      refine v_seq ?_
      refine v_block ?_
      refine v_seq ?_
      refine v_ops ?_
      have hk104 : j < (qr16.take (((k : Int)).toNat)).length := (by first | omega | (simp; omega))
      obtain ⟨x105, hx105⟩ : ∃ x, (qr16.take (((k : Int)).toNat))[j]? = some x := ⟨_, List.getElem?_eq_getElem hk104⟩
      refine s_pure (.pointer (some ⟨sblk r82, soff r82 + j * 4, none⟩)) (fun _ q => s_r82.idx (k := j) rfl hk104 q) ?_
      have s106 := (fun p hp => s_r16.insL p ((fun p hp => List.mem_of_mem_take hp) p hp)) x105 (List.mem_of_getElem? hx105)
      refine s_load (.agg #[.int .i64 x105.message, .int .i64 x105.part, .int .i64 x105.parts, x105.sv.v]) (fun _ q => s_r82.loadN hx105 rfl q) ?_
      refine s_new (fun h108 b107 hbb107 hzb107 eh108 bxb107 => ?_)
      have E109 := Eh.trans eh108
      have z110 := eh108.size
      have lbb107 := bxb107.lt
      refine s_stBx (.agg #[.int .i64 x105.message, .int .i64 x105.part, .int .i64 x105.parts, x105.sv.v]) [.int .i64 x105.message, .int .i64 x105.part, .int .i64 x105.parts, x105.sv.v] [.int .i64 x105.message, .int .i64 x105.part, .int .i64 x105.parts, x105.sv.v] bxb107 rfl rfl rfl rfl (by simp) (all_cons rfl (all_cons rfl (all_cons rfl (all_cons s106.one1 all_nil)))) rfl (fun h111 mh111 sh111 bxx112 => ?_)
      have E113 := E109.mod mh111 (fun b hb => by simp at hb; omega)
      refine s_nil ?_
      refine p_seqN ?_
      refine v_seq ?_
      refine v_ops ?_
      have f114 := ((bxb74.ext eh108).mod mh111 (by simp; omega))
      refine s_load (.agg #[.int .i64 x72.message, .int .i64 x72.part, .int .i64 x72.parts, x72.sv.v]) (fun _ q => f114.loadA rfl q) ?_
      refine s_load (.agg #[.int .i64 x105.message, .int .i64 x105.part, .int .i64 x105.parts, x105.sv.v]) (fun _ q => bxx112.loadA rfl q) ?_
      have f115 := ((s102.ext eh108).mod mh111 (fun b hb hc => by simp at hc; have := (fun b hb => ltk_r16 b (mem_fpts.2 (.inr ⟨x72, List.mem_of_getElem? hx72, hb⟩))) b hb; omega))
      have f116 := ((s106.ext eh108).mod mh111 (fun b hb hc => by simp at hc; have := ((fun p hp b hb => ltk_r16 b (mem_fpts.2 (.inr ⟨p, List.mem_of_mem_take hp, hb⟩))) x105 (List.mem_of_getElem? hx105)) b hb; omega))
      refine s_call [.agg #[.int .i64 x72.message, .int .i64 x72.part, .int .i64 x72.parts, x72.sv.v], .agg #[.int .i64 x105.message, .int .i64 x105.part, .int .i64 x105.parts, x105.sv.v]] rfl (laws_pSamePacket_ok (Pk.p x72) x72.sv.v (Pk.p x105) x105.sv.v _ f115 f116) ?_
      rintro _ h117 ⟨rfl, eh117⟩
      have E118 := E113.trans eh117
      have z119 := eh117.size
      refine s_nil ?_
      refine p_seqN ?_
      refine v_cond rfl (fun c120 => ?_) (fun c120 => ?_)
      ·
       refine v_seq ?_
       refine v_ops ?_
       refine s_pure (.bool false) (fun _ q => q) ?_
       refine s_nil ?_
       refine p_seqN ?_
       refine v_ret ?_
       refine p_blkR ?_
       refine p_seqR ?_
       refine p_lpR ?_
       refine p_blkR ?_
       refine p_blkR ?_
       refine p_seqR ?_
       refine p_lpR ?_
       refine p_blkR ?_
       refine p_seqR ?_
       refine p_ret [.bool false] (.bool false) (fun _ q => q) rfl ?_
       have ho : true = false := by first | rfl | (exfalso; first | omega | exact hnn _ _ _ (by assumption) (by assumption) (by assumption) | (have q_ := hoo _ _ (by assumption) (by assumption); omega) | (have q_ := hcs _ _ _ _ _ (by assumption) (by assumption) (by assumption) (by assumption) (by assumption); (first | omega | exact absurd q_.1 (by assumption) | exact q_.2.1 (by assumption) | exact Bool.noConfusion (q_.2.2.symm.trans (by assumption)) | (simp_all; done))) | (simp_all; done))
       exact ⟨by first | (rw [ho]; done) | rfl, E118⟩
      ·
       refine v_skip ?_
       refine p_blkN ?_
       refine p_seqN ?_
       refine v_ops ?_
       refine s_pure (.int .i64 ((j : Int) + 1)) (fun _ q => ArithVC.mk (by omega) q) ?_
       refine s_pure (.int .i64 ((j : Int) + 1)) (fun _ q => q) ?_
       refine s_nil ?_
       have f121 := (f114.ext eh117)
       have f122 := (((s_r7.ext eh108).mod mh111 (fun b hb hc => by simp at hc; have := ltk_r7 b hb; have := lt_r7 b hb; omega)).ext eh117)
       have f123 := (((s_r11.ext eh108).mod mh111 (fun b hb hc => by simp at hc; have := ltk_r11 b hb; have := lt_r11 b hb; omega)).ext eh117)
       have f124 := (((s_r16.ext eh108).mod mh111 (fun b hb hc => by simp at hc; have := ltk_r16 b hb; have := lt_r16 b hb; omega)).ext eh117)
       have f125 := (((s_r21.ext eh108).mod mh111 (fun b hb hc => by simp at hc; have := ltk_r21 b hb; have := lt_r21 b hb; omega)).ext eh117)
       have f126 := (((s_r26.ext eh108).mod mh111 (fun b hb hc => by simp at hc; have := ltk_r26 b hb; have := lt_r26 b hb; omega)).ext eh117)
       have f127 := (((s_r36.ext eh108).mod mh111 (fun b hb hc => by simp at hc; have := ltk_r36 b hb; have := lt_r36 b hb; omega)).ext eh117)
       have f128 := (((s_r46.ext eh108).mod mh111 (fun b hb hc => by simp at hc; have := ltk_r46 b hb; have := lt_r46 b hb; omega)).ext eh117)
       have f129 := (((s_r82.ext eh108).mod mh111 (fun b hb hc => by simp at hc; have := ltk_r82 b hb; have := (fun b hb => ltk_r16 b (mem_fpts.2 (.inl (bk_r82 b hb)))) b hb; omega)).ext eh117)
       exact p_lpN ⟨j + 1, ⟨rfl, rfl, rfl, rfl, rfl, rfl, rfl, rfl, rfl, rfl, rfl, rfl, rfl, rfl⟩, ⟨E118, f121, (f122.mono (by omega)), (f123.mono (by omega)), (f124.mono (by omega)), (f125.mono (by omega)), (f126.mono (by omega)), f127, (f128.mono (by omega)), f129, (by omega)⟩, by omega⟩
     ·
      refine v_exit ?_
      refine p_seqX ?_
      refine p_lpX ?_
      refine p_blkX ?_
      refine p_blkN ?_
      refine p_seqN ?_
      refine v_ops ?_
      refine s_pure (.int .i64 ((k : Int) + 1)) (fun _ q => ArithVC.mk (by omega) q) ?_
      refine s_pure (.int .i64 ((k : Int) + 1)) (fun _ q => q) ?_
      refine s_nil ?_
      exact p_lpN ⟨k + 1, ⟨rfl, rfl, rfl, rfl, rfl, rfl, rfl, rfl, rfl, rfl⟩, ⟨Eh, (s_r7.mono (by omega)), (s_r11.mono (by omega)), (s_r16.mono (by omega)), (s_r21.mono (by omega)), (s_r26.mono (by omega)), s_r36, (s_r46.mono (by omega)), (by omega)⟩, by omega⟩
    ·
     refine v_exit ?_
     refine p_seqX ?_
     refine p_lpX ?_
     refine p_blkX ?_
     refine p_seqN ?_
     refine v_seq ?_
     refine v_seq ?_
     refine v_ops ?_
     refine s_pure (.int .i64 1) (fun _ q => q) ?_
     refine s_nil ?_
     refine p_seqN ?_
     refine v_block ?_
     have l63_l130 := (s_r26.row.toSl).len63
     refine v_loop1 (α := Int) (fun i => [(5, r7), (6, r11), (8, r16), (10, r21), (12, r26), (16, r36), (20, r46), (26, .int .i64 i)]) (fun i hh => Ext h hh ∧ RdO hh r7 g6 h.size ∧ DeepO hh r11 qr11 h.size ∧ DeepO hh r16 qr16 h.size ∧ DeepO hh r21 qr21 h.size ∧ DeepO hh r26 qr26 h.size ∧ SlO hh r36 ((msgOut (g6.map Pk.p)).1) ∧ DeepO hh r46 qr46 h.size ∧ 1 ≤ i) (fun i => (qr26.length - i).toNat) 1 ⟨rfl, rfl, rfl, rfl, rfl, rfl, rfl, rfl⟩ ⟨Eh, (s_r7.mono (by omega)), (s_r11.mono (by omega)), (s_r16.mono (by omega)), (s_r21.mono (by omega)), (s_r26.mono (by omega)), s_r36, (s_r46.mono (by omega)), (by exact Int.le_refl _)⟩ ?_
     rintro i R132 h131 ⟨Eh, s_r7, s_r11, s_r16, s_r21, s_r26, s_r36, s_r46, hi⟩
     have zEh := Eh.size
     have f134 := s_code.ext Eh
     have f135 := s_more.ext Eh
     have ltk_r7 := s_r7.lt
     have ltk_r11 := s_r11.lt
     have ltk_r16 := s_r16.lt
     have ltk_r21 := s_r21.lt
     have ltk_r26 := s_r26.lt
     have ltk_r36 := s_r36.lt
     have ltk_r46 := s_r46.lt
     have hoo : ∀ (x y : Pk), qr26[(i - 1).toNat]? = some x → qr26[(i).toNat]? = some y → ¬ (y.message < x.message ∨ (y.message = x.message ∧ y.part < x.part)) := fun x y hx hy => ord_at dq_r26 hord hi hx hy
     refine v_seq ?_
     refine v_seq ?_
     refine v_ops ?_
     refine s_pure (.int .i64 i) (fun _ q => q) ?_
     refine s_pure r26 (fun _ q => q) ?_
     refine s_pure (.int .i64 (qr26.length : Int)) (fun _ q => s_r26.row.lenVC q) ?_
     refine s_pure (.bool (decide (i < (qr26.length : Int)))) (fun _ q => q) ?_
     refine s_nil ?_
     refine p_seqN ?_
     refine v_cond rfl (fun c136 => ?_) (fun c136 => ?_)
     ·
      refine v_skip ?_
      refine p_seqN ?_
      refine v_seq ?_
      refine v_block ?_
      refine v_seq ?_
      refine v_draw (DrawVC.hold (blks r26) ?_)
      refine d_pureT r26 (fun _ q => q) ?_
      refine d_pureT (.int .i64 i) (fun _ q => q) ?_
      refine d_pureT (.int .i64 (i - 1)) (fun _ q => ArithVC.mk (by omega) q) ?_
      have hk137 : ((i - 1)).toNat < qr26.length := (by first | omega | (simp; omega))
      obtain ⟨x138, hx138⟩ : ∃ x, qr26[((i - 1)).toNat]? = some x := ⟨_, List.getElem?_eq_getElem hk137⟩
      refine d_pureT (.pointer (some ⟨sblk r26, soff r26 + (((i - 1)).toNat) * 4, none⟩)) (fun _ q => s_r26.row.idx (k := ((i - 1)).toNat) (by omega) hk137 q) ?_
      refine d_pureT r26 (fun _ q => q) ?_
      refine d_pureT (.int .i64 i) (fun _ q => q) ?_
      have hk139 : (i).toNat < qr26.length := (by first | omega | (simp; omega))
      obtain ⟨x140, hx140⟩ : ∃ x, qr26[(i).toNat]? = some x := ⟨_, List.getElem?_eq_getElem hk139⟩
      refine d_pureT (.pointer (some ⟨sblk r26, soff r26 + ((i).toNat) * 4, none⟩)) (fun _ q => s_r26.row.idx (k := (i).toNat) (by omega) hk139 q) ?_
      have s141 := s_r26.insL x138 (List.mem_of_getElem? hx138)
      refine d_loadT (.agg #[.int .i64 x138.message, .int .i64 x138.part, .int .i64 x138.parts, x138.sv.v]) (fun _ q => s_r26.row.takeN (fun b hb => by first | exact hb | simp [hb]) hx138 rfl q) ?_
      have s142 := s_r26.insL x140 (List.mem_of_getElem? hx140)
      refine d_loadT (.agg #[.int .i64 x140.message, .int .i64 x140.part, .int .i64 x140.parts, x140.sv.v]) (fun _ q => s_r26.row.takeN (fun b hb => by first | exact hb | simp [hb]) hx140 rfl q) ?_
      refine d_fork ?_ ?_
      ·
       refine d_eff ?_
       refine s_new (fun h144 b143 hbb143 hzb143 eh144 bxb143 => ?_)
       have E145 := Eh.trans eh144
       have z146 := eh144.size
       have G147 := eh144
       have lbb143 := bxb143.lt
       refine s_nil ⟨fun _ x hx => G147.blk x (by have := ltk_r26 x (mem_fpts.2 (.inl hx)); omega), ?_⟩
       refine d_eff ?_
       refine s_new (fun h149 b148 hbb148 hzb148 eh149 bxb148 => ?_)
       have E150 := E145.trans eh149
       have z151 := eh149.size
       have G152 := G147.trans eh149
       have lbb148 := bxb148.lt
       refine s_nil ⟨fun _ x hx => G152.blk x (by have := ltk_r26 x (mem_fpts.2 (.inl hx)); omega), ?_⟩
       refine d_eff ?_
       have f153 := (bxb143.ext eh149)
       refine s_stBx (.agg #[.int .i64 x138.message, .int .i64 x138.part, .int .i64 x138.parts, x138.sv.v]) [.int .i64 x138.message, .int .i64 x138.part, .int .i64 x138.parts, x138.sv.v] [.int .i64 x138.message, .int .i64 x138.part, .int .i64 x138.parts, x138.sv.v] f153 rfl rfl rfl rfl (by simp) (all_cons rfl (all_cons rfl (all_cons rfl (all_cons s141.one1 all_nil)))) rfl (fun h154 mh154 sh154 bxx155 => ?_)
       have E156 := E150.mod mh154 (fun b hb => by simp at hb; omega)
       have G157 := G152.mod mh154 (fun b hb => by simp at hb; omega)
       refine s_nil ⟨fun _ x hx => G157.blk x (by have := ltk_r26 x (mem_fpts.2 (.inl hx)); omega), ?_⟩
       refine d_eff ?_
       have f158 := (bxb148.mod mh154 (by simp; omega))
       refine s_stBx (.agg #[.int .i64 x140.message, .int .i64 x140.part, .int .i64 x140.parts, x140.sv.v]) [.int .i64 x140.message, .int .i64 x140.part, .int .i64 x140.parts, x140.sv.v] [.int .i64 x140.message, .int .i64 x140.part, .int .i64 x140.parts, x140.sv.v] f158 rfl rfl rfl rfl (by simp) (all_cons rfl (all_cons rfl (all_cons rfl (all_cons s142.one1 all_nil)))) rfl (fun h159 mh159 sh159 bxx160 => ?_)
       have E161 := E156.mod mh159 (fun b hb => by simp at hb; omega)
       refine s_nil ⟨fun hl => (by cases hl), ?_⟩
       refine d_done ?_
       refine p_seqN ?_
       refine v_seq ?_
       refine v_ops ?_
       refine s_pure (.pointer (some ⟨b143, 0, none⟩)) (fun _ q => q) ?_
       have f162 := (bxx155.mod mh159 (by simp; omega))
       refine s_load (.int .i64 x138.message) (fun _ q => f162.load rfl q) ?_
       refine s_pure (.pointer (some ⟨b148, 0, none⟩)) (fun _ q => q) ?_
       refine s_load (.int .i64 x140.message) (fun _ q => bxx160.load rfl q) ?_
       refine s_pure (.bool (decide (x138.message > x140.message))) (fun _ q => q) ?_
       refine s_pure (.bool (decide (x138.message > x140.message))) (fun _ q => q) ?_
       refine s_splitT rfl (fun c163 => ?_) (fun c163 => ?_)
       ·
        refine s_pass rfl ?_
        refine s_pass rfl ?_
        refine s_pass rfl ?_
        refine s_pass rfl ?_
        refine s_pass rfl ?_
        refine s_pass rfl ?_
        refine s_splitU rfl ?_
        refine s_passU rfl ?_
        refine s_passU rfl ?_
        refine s_passU rfl ?_
        refine s_passU rfl ?_
        refine s_passU rfl ?_
        refine s_pass rfl ?_
        refine s_pure (.bool true) (fun _ q => q) ?_
        refine s_nil ?_
        refine p_seqN ?_
        refine v_condY rfl rfl ?_
        refine v_seq ?_
        refine v_ops ?_
        refine s_pure (.bool false) (fun _ q => q) ?_
        refine s_nil ?_
        refine p_seqN ?_
        refine v_ret ?_
        refine p_blkR ?_
        refine p_seqR ?_
        refine p_lpR ?_
        refine p_blkR ?_
        refine p_seqR ?_
        refine p_ret [.bool false] (.bool false) (fun _ q => q) rfl ?_
        have ho : true = false := by first | rfl | (exfalso; first | omega | exact hnn _ _ _ (by assumption) (by assumption) (by assumption) | (have q_ := hoo _ _ (by assumption) (by assumption); omega) | (have q_ := hcs _ _ _ _ _ (by assumption) (by assumption) (by assumption) (by assumption) (by assumption); (first | omega | exact absurd q_.1 (by assumption) | exact q_.2.1 (by assumption) | exact Bool.noConfusion (q_.2.2.symm.trans (by assumption)) | (simp_all; done))) | (simp_all; done))
        exact ⟨by first | (rw [ho]; done) | rfl, E161⟩
       ·
        refine s_run rfl ?_
        refine s_pure (.pointer (some ⟨b143, 0, none⟩)) (fun _ q => q) ?_
        refine s_run rfl ?_
        refine s_load (.int .i64 x138.message) (fun _ q => f162.load rfl q) ?_
        refine s_run rfl ?_
        refine s_pure (.pointer (some ⟨b148, 0, none⟩)) (fun _ q => q) ?_
        refine s_run rfl ?_
        refine s_load (.int .i64 x140.message) (fun _ q => bxx160.load rfl q) ?_
        refine s_run rfl ?_
        refine s_pure (.bool (x138.message == x140.message)) (fun _ q => q) ?_
        refine s_run rfl ?_
        refine s_pure (.bool (x138.message == x140.message)) (fun _ q => q) ?_
        refine s_splitT rfl (fun c164 => ?_) (fun c164 => ?_)
        ·
         refine s_run rfl ?_
         refine s_pure (.pointer (some ⟨b143, 1, none⟩)) (fun _ q => q) ?_
         refine s_run rfl ?_
         refine s_load (.int .i64 x138.part) (fun _ q => f162.load rfl q) ?_
         refine s_run rfl ?_
         refine s_pure (.pointer (some ⟨b148, 1, none⟩)) (fun _ q => q) ?_
         refine s_run rfl ?_
         refine s_load (.int .i64 x140.part) (fun _ q => bxx160.load rfl q) ?_
         refine s_run rfl ?_
         refine s_pure (.bool (decide (x138.part > x140.part))) (fun _ q => q) ?_
         refine s_run rfl ?_
         refine s_pure (.bool (decide (x138.part > x140.part))) (fun _ q => q) ?_
         refine s_pure (.bool (decide (x138.part > x140.part))) (fun _ q => q) ?_
         refine s_nil ?_
         refine p_seqN ?_
         refine v_cond rfl (fun c165 => ?_) (fun c165 => ?_)
         ·
          refine v_seq ?_
          refine v_ops ?_
          refine s_pure (.bool false) (fun _ q => q) ?_
          refine s_nil ?_
          refine p_seqN ?_
          refine v_ret ?_
          refine p_blkR ?_
          refine p_seqR ?_
          refine p_lpR ?_
          refine p_blkR ?_
          refine p_seqR ?_
          refine p_ret [.bool false] (.bool false) (fun _ q => q) rfl ?_
          have ho : true = false := by first | rfl | (exfalso; first | omega | exact hnn _ _ _ (by assumption) (by assumption) (by assumption) | (have q_ := hoo _ _ (by assumption) (by assumption); omega) | (have q_ := hcs _ _ _ _ _ (by assumption) (by assumption) (by assumption) (by assumption) (by assumption); (first | omega | exact absurd q_.1 (by assumption) | exact q_.2.1 (by assumption) | exact Bool.noConfusion (q_.2.2.symm.trans (by assumption)) | (simp_all; done))) | (simp_all; done))
          exact ⟨by first | (rw [ho]; done) | rfl, E161⟩
         ·
          refine v_skip ?_
          refine p_blkN ?_
          refine p_seqN ?_
          refine v_ops ?_
          refine s_pure (.int .i64 i) (fun _ q => q) ?_
          refine s_pure (.int .i64 (i + 1)) (fun _ q => ArithVC.mk (by omega) q) ?_
          refine s_pure (.int .i64 (i + 1)) (fun _ q => q) ?_
          refine s_nil ?_
          have f166 := ((((s_r7.ext eh144).ext eh149).mod mh154 (fun b hb hc => by simp at hc; have := ltk_r7 b hb; have := lt_r7 b hb; omega)).mod mh159 (fun b hb hc => by simp at hc; have := ltk_r7 b hb; have := lt_r7 b hb; omega))
          have f167 := ((((s_r11.ext eh144).ext eh149).mod mh154 (fun b hb hc => by simp at hc; have := ltk_r11 b hb; have := lt_r11 b hb; omega)).mod mh159 (fun b hb hc => by simp at hc; have := ltk_r11 b hb; have := lt_r11 b hb; omega))
          have f168 := ((((s_r16.ext eh144).ext eh149).mod mh154 (fun b hb hc => by simp at hc; have := ltk_r16 b hb; have := lt_r16 b hb; omega)).mod mh159 (fun b hb hc => by simp at hc; have := ltk_r16 b hb; have := lt_r16 b hb; omega))
          have f169 := ((((s_r21.ext eh144).ext eh149).mod mh154 (fun b hb hc => by simp at hc; have := ltk_r21 b hb; have := lt_r21 b hb; omega)).mod mh159 (fun b hb hc => by simp at hc; have := ltk_r21 b hb; have := lt_r21 b hb; omega))
          have f170 := ((((s_r26.ext eh144).ext eh149).mod mh154 (fun b hb hc => by simp at hc; have := ltk_r26 b hb; have := lt_r26 b hb; omega)).mod mh159 (fun b hb hc => by simp at hc; have := ltk_r26 b hb; have := lt_r26 b hb; omega))
          have f171 := ((((s_r36.ext eh144).ext eh149).mod mh154 (fun b hb hc => by simp at hc; have := ltk_r36 b hb; have := lt_r36 b hb; omega)).mod mh159 (fun b hb hc => by simp at hc; have := ltk_r36 b hb; have := lt_r36 b hb; omega))
          have f172 := ((((s_r46.ext eh144).ext eh149).mod mh154 (fun b hb hc => by simp at hc; have := ltk_r46 b hb; have := lt_r46 b hb; omega)).mod mh159 (fun b hb hc => by simp at hc; have := ltk_r46 b hb; have := lt_r46 b hb; omega))
          exact p_lpN ⟨(i + 1), ⟨rfl, rfl, rfl, rfl, rfl, rfl, rfl, rfl⟩, ⟨E161, (f166.mono (by omega)), (f167.mono (by omega)), (f168.mono (by omega)), (f169.mono (by omega)), (f170.mono (by omega)), f171, (f172.mono (by omega)), (by omega)⟩, by omega⟩
        ·
         refine s_pass rfl ?_
         refine s_pass rfl ?_
         refine s_pass rfl ?_
         refine s_pass rfl ?_
         refine s_pass rfl ?_
         refine s_run rfl ?_
         refine s_pure (.bool false) (fun _ q => q) ?_
         refine s_pure (.bool false) (fun _ q => q) ?_
         refine s_nil ?_
         refine p_seqN ?_
         refine v_condN rfl (by simp) ?_
         refine v_skip ?_
         refine p_blkN ?_
         refine p_seqN ?_
         refine v_ops ?_
         refine s_pure (.int .i64 i) (fun _ q => q) ?_
         refine s_pure (.int .i64 (i + 1)) (fun _ q => ArithVC.mk (by omega) q) ?_
         refine s_pure (.int .i64 (i + 1)) (fun _ q => q) ?_
         refine s_nil ?_
         have f173 := ((((s_r7.ext eh144).ext eh149).mod mh154 (fun b hb hc => by simp at hc; have := ltk_r7 b hb; have := lt_r7 b hb; omega)).mod mh159 (fun b hb hc => by simp at hc; have := ltk_r7 b hb; have := lt_r7 b hb; omega))
         have f174 := ((((s_r11.ext eh144).ext eh149).mod mh154 (fun b hb hc => by simp at hc; have := ltk_r11 b hb; have := lt_r11 b hb; omega)).mod mh159 (fun b hb hc => by simp at hc; have := ltk_r11 b hb; have := lt_r11 b hb; omega))
         have f175 := ((((s_r16.ext eh144).ext eh149).mod mh154 (fun b hb hc => by simp at hc; have := ltk_r16 b hb; have := lt_r16 b hb; omega)).mod mh159 (fun b hb hc => by simp at hc; have := ltk_r16 b hb; have := lt_r16 b hb; omega))
         have f176 := ((((s_r21.ext eh144).ext eh149).mod mh154 (fun b hb hc => by simp at hc; have := ltk_r21 b hb; have := lt_r21 b hb; omega)).mod mh159 (fun b hb hc => by simp at hc; have := ltk_r21 b hb; have := lt_r21 b hb; omega))
         have f177 := ((((s_r26.ext eh144).ext eh149).mod mh154 (fun b hb hc => by simp at hc; have := ltk_r26 b hb; have := lt_r26 b hb; omega)).mod mh159 (fun b hb hc => by simp at hc; have := ltk_r26 b hb; have := lt_r26 b hb; omega))
         have f178 := ((((s_r36.ext eh144).ext eh149).mod mh154 (fun b hb hc => by simp at hc; have := ltk_r36 b hb; have := lt_r36 b hb; omega)).mod mh159 (fun b hb hc => by simp at hc; have := ltk_r36 b hb; have := lt_r36 b hb; omega))
         have f179 := ((((s_r46.ext eh144).ext eh149).mod mh154 (fun b hb hc => by simp at hc; have := ltk_r46 b hb; have := lt_r46 b hb; omega)).mod mh159 (fun b hb hc => by simp at hc; have := ltk_r46 b hb; have := lt_r46 b hb; omega))
         exact p_lpN ⟨(i + 1), ⟨rfl, rfl, rfl, rfl, rfl, rfl, rfl, rfl⟩, ⟨E161, (f173.mono (by omega)), (f174.mono (by omega)), (f175.mono (by omega)), (f176.mono (by omega)), (f177.mono (by omega)), f178, (f179.mono (by omega)), (by omega)⟩, by omega⟩
      ·
       refine d_eff ?_
       refine s_new (fun h181 b180 hbb180 hzb180 eh181 bxb180 => ?_)
       have E182 := Eh.trans eh181
       have z183 := eh181.size
       have G184 := eh181
       have lbb180 := bxb180.lt
       refine s_nil ⟨fun _ x hx => G184.blk x (by have := ltk_r26 x (mem_fpts.2 (.inl hx)); omega), ?_⟩
       refine d_eff ?_
       refine s_new (fun h186 b185 hbb185 hzb185 eh186 bxb185 => ?_)
       have E187 := E182.trans eh186
       have z188 := eh186.size
       have G189 := G184.trans eh186
       have lbb185 := bxb185.lt
       refine s_nil ⟨fun _ x hx => G189.blk x (by have := ltk_r26 x (mem_fpts.2 (.inl hx)); omega), ?_⟩
       refine d_eff ?_
       refine s_stBx (.agg #[.int .i64 x138.message, .int .i64 x138.part, .int .i64 x138.parts, x138.sv.v]) [.int .i64 x138.message, .int .i64 x138.part, .int .i64 x138.parts, x138.sv.v] [.int .i64 x138.message, .int .i64 x138.part, .int .i64 x138.parts, x138.sv.v] bxb185 rfl rfl rfl rfl (by simp) (all_cons rfl (all_cons rfl (all_cons rfl (all_cons s141.one1 all_nil)))) rfl (fun h190 mh190 sh190 bxx191 => ?_)
       have E192 := E187.mod mh190 (fun b hb => by simp at hb; omega)
       have G193 := G189.mod mh190 (fun b hb => by simp at hb; omega)
       refine s_nil ⟨fun _ x hx => G193.blk x (by have := ltk_r26 x (mem_fpts.2 (.inl hx)); omega), ?_⟩
       refine d_eff ?_
       have f194 := ((bxb180.ext eh186).mod mh190 (by simp; omega))
       refine s_stBx (.agg #[.int .i64 x140.message, .int .i64 x140.part, .int .i64 x140.parts, x140.sv.v]) [.int .i64 x140.message, .int .i64 x140.part, .int .i64 x140.parts, x140.sv.v] [.int .i64 x140.message, .int .i64 x140.part, .int .i64 x140.parts, x140.sv.v] f194 rfl rfl rfl rfl (by simp) (all_cons rfl (all_cons rfl (all_cons rfl (all_cons s142.one1 all_nil)))) rfl (fun h195 mh195 sh195 bxx196 => ?_)
       have E197 := E192.mod mh195 (fun b hb => by simp at hb; omega)
       refine s_nil ⟨fun hl => (by cases hl), ?_⟩
       refine d_done ?_
       refine p_seqN ?_
       refine v_seq ?_
       refine v_ops ?_
       refine s_pure (.pointer (some ⟨b185, 0, none⟩)) (fun _ q => q) ?_
       have f198 := (bxx191.mod mh195 (by simp; omega))
       refine s_load (.int .i64 x138.message) (fun _ q => f198.load rfl q) ?_
       refine s_pure (.pointer (some ⟨b180, 0, none⟩)) (fun _ q => q) ?_
       refine s_load (.int .i64 x140.message) (fun _ q => bxx196.load rfl q) ?_
       refine s_pure (.bool (decide (x138.message > x140.message))) (fun _ q => q) ?_
       refine s_pure (.bool (decide (x138.message > x140.message))) (fun _ q => q) ?_
       refine s_splitT rfl (fun c199 => ?_) (fun c199 => ?_)
       ·
        refine s_pass rfl ?_
        refine s_pass rfl ?_
        refine s_pass rfl ?_
        refine s_pass rfl ?_
        refine s_pass rfl ?_
        refine s_pass rfl ?_
        refine s_splitU rfl ?_
        refine s_passU rfl ?_
        refine s_passU rfl ?_
        refine s_passU rfl ?_
        refine s_passU rfl ?_
        refine s_passU rfl ?_
        refine s_pass rfl ?_
        refine s_pure (.bool true) (fun _ q => q) ?_
        refine s_nil ?_
        refine p_seqN ?_
        refine v_condY rfl rfl ?_
        refine v_seq ?_
        refine v_ops ?_
        refine s_pure (.bool false) (fun _ q => q) ?_
        refine s_nil ?_
        refine p_seqN ?_
        refine v_ret ?_
        refine p_blkR ?_
        refine p_seqR ?_
        refine p_lpR ?_
        refine p_blkR ?_
        refine p_seqR ?_
        refine p_ret [.bool false] (.bool false) (fun _ q => q) rfl ?_
        have ho : true = false := by first | rfl | (exfalso; first | omega | exact hnn _ _ _ (by assumption) (by assumption) (by assumption) | (have q_ := hoo _ _ (by assumption) (by assumption); omega) | (have q_ := hcs _ _ _ _ _ (by assumption) (by assumption) (by assumption) (by assumption) (by assumption); (first | omega | exact absurd q_.1 (by assumption) | exact q_.2.1 (by assumption) | exact Bool.noConfusion (q_.2.2.symm.trans (by assumption)) | (simp_all; done))) | (simp_all; done))
        exact ⟨by first | (rw [ho]; done) | rfl, E197⟩
       ·
        refine s_run rfl ?_
        refine s_pure (.pointer (some ⟨b185, 0, none⟩)) (fun _ q => q) ?_
        refine s_run rfl ?_
        refine s_load (.int .i64 x138.message) (fun _ q => f198.load rfl q) ?_
        refine s_run rfl ?_
        refine s_pure (.pointer (some ⟨b180, 0, none⟩)) (fun _ q => q) ?_
        refine s_run rfl ?_
        refine s_load (.int .i64 x140.message) (fun _ q => bxx196.load rfl q) ?_
        refine s_run rfl ?_
        refine s_pure (.bool (x138.message == x140.message)) (fun _ q => q) ?_
        refine s_run rfl ?_
        refine s_pure (.bool (x138.message == x140.message)) (fun _ q => q) ?_
        refine s_splitT rfl (fun c200 => ?_) (fun c200 => ?_)
        ·
         refine s_run rfl ?_
         refine s_pure (.pointer (some ⟨b185, 1, none⟩)) (fun _ q => q) ?_
         refine s_run rfl ?_
         refine s_load (.int .i64 x138.part) (fun _ q => f198.load rfl q) ?_
         refine s_run rfl ?_
         refine s_pure (.pointer (some ⟨b180, 1, none⟩)) (fun _ q => q) ?_
         refine s_run rfl ?_
         refine s_load (.int .i64 x140.part) (fun _ q => bxx196.load rfl q) ?_
         refine s_run rfl ?_
         refine s_pure (.bool (decide (x138.part > x140.part))) (fun _ q => q) ?_
         refine s_run rfl ?_
         refine s_pure (.bool (decide (x138.part > x140.part))) (fun _ q => q) ?_
         refine s_pure (.bool (decide (x138.part > x140.part))) (fun _ q => q) ?_
         refine s_nil ?_
         refine p_seqN ?_
         refine v_cond rfl (fun c201 => ?_) (fun c201 => ?_)
         ·
          refine v_seq ?_
          refine v_ops ?_
          refine s_pure (.bool false) (fun _ q => q) ?_
          refine s_nil ?_
          refine p_seqN ?_
          refine v_ret ?_
          refine p_blkR ?_
          refine p_seqR ?_
          refine p_lpR ?_
          refine p_blkR ?_
          refine p_seqR ?_
          refine p_ret [.bool false] (.bool false) (fun _ q => q) rfl ?_
          have ho : true = false := by first | rfl | (exfalso; first | omega | exact hnn _ _ _ (by assumption) (by assumption) (by assumption) | (have q_ := hoo _ _ (by assumption) (by assumption); omega) | (have q_ := hcs _ _ _ _ _ (by assumption) (by assumption) (by assumption) (by assumption) (by assumption); (first | omega | exact absurd q_.1 (by assumption) | exact q_.2.1 (by assumption) | exact Bool.noConfusion (q_.2.2.symm.trans (by assumption)) | (simp_all; done))) | (simp_all; done))
          exact ⟨by first | (rw [ho]; done) | rfl, E197⟩
         ·
          refine v_skip ?_
          refine p_blkN ?_
          refine p_seqN ?_
          refine v_ops ?_
          refine s_pure (.int .i64 i) (fun _ q => q) ?_
          refine s_pure (.int .i64 (i + 1)) (fun _ q => ArithVC.mk (by omega) q) ?_
          refine s_pure (.int .i64 (i + 1)) (fun _ q => q) ?_
          refine s_nil ?_
          have f202 := ((((s_r7.ext eh181).ext eh186).mod mh190 (fun b hb hc => by simp at hc; have := ltk_r7 b hb; have := lt_r7 b hb; omega)).mod mh195 (fun b hb hc => by simp at hc; have := ltk_r7 b hb; have := lt_r7 b hb; omega))
          have f203 := ((((s_r11.ext eh181).ext eh186).mod mh190 (fun b hb hc => by simp at hc; have := ltk_r11 b hb; have := lt_r11 b hb; omega)).mod mh195 (fun b hb hc => by simp at hc; have := ltk_r11 b hb; have := lt_r11 b hb; omega))
          have f204 := ((((s_r16.ext eh181).ext eh186).mod mh190 (fun b hb hc => by simp at hc; have := ltk_r16 b hb; have := lt_r16 b hb; omega)).mod mh195 (fun b hb hc => by simp at hc; have := ltk_r16 b hb; have := lt_r16 b hb; omega))
          have f205 := ((((s_r21.ext eh181).ext eh186).mod mh190 (fun b hb hc => by simp at hc; have := ltk_r21 b hb; have := lt_r21 b hb; omega)).mod mh195 (fun b hb hc => by simp at hc; have := ltk_r21 b hb; have := lt_r21 b hb; omega))
          have f206 := ((((s_r26.ext eh181).ext eh186).mod mh190 (fun b hb hc => by simp at hc; have := ltk_r26 b hb; have := lt_r26 b hb; omega)).mod mh195 (fun b hb hc => by simp at hc; have := ltk_r26 b hb; have := lt_r26 b hb; omega))
          have f207 := ((((s_r36.ext eh181).ext eh186).mod mh190 (fun b hb hc => by simp at hc; have := ltk_r36 b hb; have := lt_r36 b hb; omega)).mod mh195 (fun b hb hc => by simp at hc; have := ltk_r36 b hb; have := lt_r36 b hb; omega))
          have f208 := ((((s_r46.ext eh181).ext eh186).mod mh190 (fun b hb hc => by simp at hc; have := ltk_r46 b hb; have := lt_r46 b hb; omega)).mod mh195 (fun b hb hc => by simp at hc; have := ltk_r46 b hb; have := lt_r46 b hb; omega))
          exact p_lpN ⟨(i + 1), ⟨rfl, rfl, rfl, rfl, rfl, rfl, rfl, rfl⟩, ⟨E197, (f202.mono (by omega)), (f203.mono (by omega)), (f204.mono (by omega)), (f205.mono (by omega)), (f206.mono (by omega)), f207, (f208.mono (by omega)), (by omega)⟩, by omega⟩
        ·
         refine s_pass rfl ?_
         refine s_pass rfl ?_
         refine s_pass rfl ?_
         refine s_pass rfl ?_
         refine s_pass rfl ?_
         refine s_run rfl ?_
         refine s_pure (.bool false) (fun _ q => q) ?_
         refine s_pure (.bool false) (fun _ q => q) ?_
         refine s_nil ?_
         refine p_seqN ?_
         refine v_condN rfl (by simp) ?_
         refine v_skip ?_
         refine p_blkN ?_
         refine p_seqN ?_
         refine v_ops ?_
         refine s_pure (.int .i64 i) (fun _ q => q) ?_
         refine s_pure (.int .i64 (i + 1)) (fun _ q => ArithVC.mk (by omega) q) ?_
         refine s_pure (.int .i64 (i + 1)) (fun _ q => q) ?_
         refine s_nil ?_
         have f209 := ((((s_r7.ext eh181).ext eh186).mod mh190 (fun b hb hc => by simp at hc; have := ltk_r7 b hb; have := lt_r7 b hb; omega)).mod mh195 (fun b hb hc => by simp at hc; have := ltk_r7 b hb; have := lt_r7 b hb; omega))
         have f210 := ((((s_r11.ext eh181).ext eh186).mod mh190 (fun b hb hc => by simp at hc; have := ltk_r11 b hb; have := lt_r11 b hb; omega)).mod mh195 (fun b hb hc => by simp at hc; have := ltk_r11 b hb; have := lt_r11 b hb; omega))
         have f211 := ((((s_r16.ext eh181).ext eh186).mod mh190 (fun b hb hc => by simp at hc; have := ltk_r16 b hb; have := lt_r16 b hb; omega)).mod mh195 (fun b hb hc => by simp at hc; have := ltk_r16 b hb; have := lt_r16 b hb; omega))
         have f212 := ((((s_r21.ext eh181).ext eh186).mod mh190 (fun b hb hc => by simp at hc; have := ltk_r21 b hb; have := lt_r21 b hb; omega)).mod mh195 (fun b hb hc => by simp at hc; have := ltk_r21 b hb; have := lt_r21 b hb; omega))
         have f213 := ((((s_r26.ext eh181).ext eh186).mod mh190 (fun b hb hc => by simp at hc; have := ltk_r26 b hb; have := lt_r26 b hb; omega)).mod mh195 (fun b hb hc => by simp at hc; have := ltk_r26 b hb; have := lt_r26 b hb; omega))
         have f214 := ((((s_r36.ext eh181).ext eh186).mod mh190 (fun b hb hc => by simp at hc; have := ltk_r36 b hb; have := lt_r36 b hb; omega)).mod mh195 (fun b hb hc => by simp at hc; have := ltk_r36 b hb; have := lt_r36 b hb; omega))
         have f215 := ((((s_r46.ext eh181).ext eh186).mod mh190 (fun b hb hc => by simp at hc; have := ltk_r46 b hb; have := lt_r46 b hb; omega)).mod mh195 (fun b hb hc => by simp at hc; have := ltk_r46 b hb; have := lt_r46 b hb; omega))
         exact p_lpN ⟨(i + 1), ⟨rfl, rfl, rfl, rfl, rfl, rfl, rfl, rfl⟩, ⟨E197, (f209.mono (by omega)), (f210.mono (by omega)), (f211.mono (by omega)), (f212.mono (by omega)), (f213.mono (by omega)), f214, (f215.mono (by omega)), (by omega)⟩, by omega⟩
     ·
      refine v_exit ?_
      refine p_seqX ?_
      refine p_lpX ?_
      refine p_blkX ?_
      refine p_seqN ?_
      refine v_seq ?_
      refine v_ops ?_
      refine s_pure r11 (fun _ q => q) ?_
      refine s_call [r11] rfl (impl_WithoutDoubles_ok r11 qr11 ((wdOut (g6.map Pk.p)).1) _ s_r11.row.toSl s_r11.insL dq_r11) ?_
      rintro _ h217 ⟨r216, qr216, rfl, s_r216, dq_r216, eh217⟩
      have E218 := Eh.trans eh217
      have z219 := eh217.size
      have lt_r216 := s_r216.lt
      have fr_r216 := s_r216.fr
      refine s_pure (.tuple #[r216, .bool ((wdOut ((wdOut (g6.map Pk.p)).1)).2)]) (fun _ q => q) ?_
      refine s_pure r216 (fun _ q => q) ?_
      refine s_pure (.bool ((wdOut ((wdOut (g6.map Pk.p)).1)).2)) (fun _ q => q) ?_
      refine s_pure r216 (fun _ q => q) ?_
      refine s_pure (.bool ((wdOut ((wdOut (g6.map Pk.p)).1)).2)) (fun _ q => q) ?_
      refine s_nil ?_
      refine p_seqN ?_
      refine v_seqM1 [(5, r7), (6, r11), (10, r21), (16, r36), (20, r46)] (fun R221 h222 eh222 => ?_) (fun M220 => ?_)
      ·
       have E223 := E218.trans eh222
       have z224 := eh222.size
       refine v_seq ?_
       refine v_seq ?_
       refine v_ops ?_
       refine s_pure r36 (fun _ q => q) ?_
       refine s_pure (.int .i64 (((msgOut (g6.map Pk.p)).1).length : Int)) (fun _ q => s_r36.lenVC q) ?_
       refine s_pure (.int .i64 0) (fun _ q => q) ?_
       refine s_nil ?_
       refine p_seqN ?_
       refine v_block ?_
       have f226 := ((s_r36.ext eh217).ext eh222)
       have l63_l225 := (f226.toSl).len63
       have f228 := ((s_r7.ext eh217).ext eh222)
       have f229 := ((s_r11.ext eh217).ext eh222)
       have f230 := ((s_r21.ext eh217).ext eh222)
       have f231 := ((s_r46.ext eh217).ext eh222)
       refine v_loop1 (α := Nat) (fun k => [(5, r7), (6, r11), (10, r21), (20, r46), (231, r36), (232, .int .i64 (((msgOut (g6.map Pk.p)).1).length : Int)), (233, .int .i64 (k : Int))]) (fun k hh => Ext h hh ∧ RdO hh r7 g6 h.size ∧ DeepO hh r11 qr11 h.size ∧ DeepO hh r21 qr21 h.size ∧ DeepO hh r46 qr46 h.size ∧ SlO hh r36 ((msgOut (g6.map Pk.p)).1) ∧ k ≤ ((msgOut (g6.map Pk.p)).1).length) (fun k => ((msgOut (g6.map Pk.p)).1).length - k) 0 ⟨rfl, rfl, rfl, rfl, rfl, rfl, rfl⟩ ⟨E223, (f228.mono (by omega)), (f229.mono (by omega)), (f230.mono (by omega)), (f231.mono (by omega)), f226, (by exact Nat.zero_le _)⟩ ?_
       rintro k R232 h227 ⟨Eh, s_r7, s_r11, s_r21, s_r46, s_r36, hk⟩
       have zEh := Eh.size
       have f234 := s_code.ext Eh
       have f235 := s_more.ext Eh
       have ltk_r7 := s_r7.lt
       have ltk_r11 := s_r11.lt
       have ltk_r21 := s_r21.lt
       have ltk_r36 := s_r36.lt
       have ltk_r46 := s_r46.lt
       refine v_seq ?_
       refine v_ops ?_
       refine s_pure (.bool (decide ((k : Int) < (((msgOut (g6.map Pk.p)).1).length : Int)))) (fun _ q => q) ?_
       refine s_nil ?_
       refine p_seqN ?_
       refine v_seq ?_
       refine v_cond rfl (fun c236 => ?_) (fun c236 => ?_)
       ·
        refine v_skip ?_
        refine p_seqN ?_
        refine v_seq ?_
        refine v_block ?_
        refine v_seq ?_
        refine v_ops ?_
        have hk237 : k < ((msgOut (g6.map Pk.p)).1).length := (by first | omega | (simp; omega))
        obtain ⟨x238, hx238⟩ : ∃ x, ((msgOut (g6.map Pk.p)).1)[k]? = some x := ⟨_, List.getElem?_eq_getElem hk237⟩
        refine s_pure (.pointer (some ⟨sblk r36, soff r36 + k * 1, none⟩)) (fun _ q => s_r36.idx (k := k) rfl hk237 q) ?_
        refine s_load (.int .i64 x238) (fun _ q => s_r36.load1 hx238 rfl q) ?_
        refine s_pure (.int .i64 x238) (fun _ q => q) ?_
        refine s_nil ?_
        refine p_seqN ?_
        refine v_seq ?_
        refine v_ops ?_
        refine s_pure r7 (fun _ q => q) ?_
        refine s_pure (.int .i64 x238) (fun _ q => q) ?_
        refine s_call [r7, .int .i64 x238] rfl (impl_JoinMessage_ok r7 g6 (g6.map Pk.p) x238 _ s_r7.row.toSl s_r7.insL rfl) ?_
        rintro _ h240 ⟨r239, rfl, s_r239, fr_r239, eh240⟩
        have E241 := Eh.trans eh240
        have z242 := eh240.size
        have lt_r239 := s_r239.lt
        refine s_pure (.tuple #[r239, .bool ((jnOut (g6.map Pk.p) x238).2)]) (fun _ q => q) ?_
        refine s_pure r239 (fun _ q => q) ?_
        refine s_pure (.bool ((jnOut (g6.map Pk.p) x238).2)) (fun _ q => q) ?_
        refine s_pure r239 (fun _ q => q) ?_
        refine s_pure (.bool ((jnOut (g6.map Pk.p) x238).2)) (fun _ q => q) ?_
        refine s_nil ?_
        refine p_seqN ?_
        refine v_seq ?_
        refine v_ops ?_
        refine s_pure r11 (fun _ q => q) ?_
        refine s_pure (.int .i64 x238) (fun _ q => q) ?_
        have f243 := (s_r11.ext eh240)
        refine s_call [r11, .int .i64 x238] rfl (impl_JoinMessage_ok r11 qr11 ((wdOut (g6.map Pk.p)).1) x238 _ f243.row.toSl f243.insL dq_r11) ?_
        rintro _ h245 ⟨r244, rfl, s_r244, fr_r244, eh245⟩
        have E246 := E241.trans eh245
        have z247 := eh245.size
        have lt_r244 := s_r244.lt
        refine s_pure (.tuple #[r244, .bool ((jnOut ((wdOut (g6.map Pk.p)).1) x238).2)]) (fun _ q => q) ?_
        refine s_pure r244 (fun _ q => q) ?_
        refine s_pure (.bool ((jnOut ((wdOut (g6.map Pk.p)).1) x238).2)) (fun _ q => q) ?_
        refine s_pure r244 (fun _ q => q) ?_
        refine s_pure (.bool ((jnOut ((wdOut (g6.map Pk.p)).1) x238).2)) (fun _ q => q) ?_
        refine s_nil ?_
        refine p_seqN ?_
        refine v_seq ?_
        refine v_ops ?_
        refine s_pure r21 (fun _ q => q) ?_
        refine s_pure (.int .i64 x238) (fun _ q => q) ?_
        have f248 := ((s_r21.ext eh240).ext eh245)
        refine s_call [r21, .int .i64 x238] rfl (impl_JoinMessage_ok r21 qr21 ((srtOut (g6.map Pk.p)).1) x238 _ f248.row.toSl f248.insL dq_r21) ?_
        rintro _ h250 ⟨r249, rfl, s_r249, fr_r249, eh250⟩
        have E251 := E246.trans eh250
        have z252 := eh250.size
        have lt_r249 := s_r249.lt
        refine s_pure (.tuple #[r249, .bool ((jnOut ((srtOut (g6.map Pk.p)).1) x238).2)]) (fun _ q => q) ?_
        refine s_pure r249 (fun _ q => q) ?_
        refine s_pure (.bool ((jnOut ((srtOut (g6.map Pk.p)).1) x238).2)) (fun _ q => q) ?_
        refine s_pure r249 (fun _ q => q) ?_
        refine s_pure (.bool ((jnOut ((srtOut (g6.map Pk.p)).1) x238).2)) (fun _ q => q) ?_
        refine s_nil ?_
        refine p_seqN ?_
        refine v_seq ?_
        refine v_ops ?_
        refine s_pure r7 (fun _ q => q) ?_
        refine s_pure (.int .i64 x238) (fun _ q => q) ?_
        have f253 := (((s_r7.ext eh240).ext eh245).ext eh250)
        refine s_call [r7, .int .i64 x238] rfl (spec_JoinMessage_ok r7 g6 (g6.map Pk.p) x238 _ f253.row.toSl f253.insL rfl) ?_
        rintro _ h255 ⟨r254, rfl, s_r254, fr_r254, eh255⟩
        have E256 := E251.trans eh255
        have z257 := eh255.size
        have lt_r254 := s_r254.lt
        have hj258a := hjw x238
        have hj258b := hjs x238
        refine s_pure (.tuple #[r254, .bool ((jnOut (g6.map Pk.p) x238).2)]) (fun _ q => q) ?_
        refine s_pure r254 (fun _ q => q) ?_
        refine s_pure (.bool ((jnOut (g6.map Pk.p) x238).2)) (fun _ q => q) ?_
        refine s_pure r254 (fun _ q => q) ?_
        refine s_pure (.bool ((jnOut (g6.map Pk.p) x238).2)) (fun _ q => q) ?_
        refine s_nil ?_
        refine p_seqN ?_
        refine v_seq ?_
        refine v_ops ?_
        refine s_pure (.bool ((jnOut (g6.map Pk.p) x238).2)) (fun _ q => q) ?_
        refine s_pure (.bool ((jnOut (g6.map Pk.p) x238).2)) (fun _ q => q) ?_
        refine s_pure (.bool ((jnOut (g6.map Pk.p) x238).2 != (jnOut (g6.map Pk.p) x238).2)) (fun _ q => q) ?_
        refine s_pure (.bool ((jnOut (g6.map Pk.p) x238).2 != (jnOut (g6.map Pk.p) x238).2)) (fun _ q => q) ?_
        refine s_splitN rfl (by first | assumption | omega | (simp [ok50b]; done) | (simp [ok50c]; done) | (simp [ok50d]; done) | (simp [ok50a]; done) | (simp [hag]; done) | (simp [hag]; done) | (simp [hj258a]; done) | (simp [hj258a]; done) | (simp [hj258b]; done) | (simp [hj258b]; done) | (simp; done) | (simp; omega) | simp_all) ?_
        refine s_run rfl ?_
        refine s_pure (.bool ((jnOut ((wdOut (g6.map Pk.p)).1) x238).2)) (fun _ q => q) ?_
        refine s_run rfl ?_
        refine s_pure (.bool ((jnOut (g6.map Pk.p) x238).2)) (fun _ q => q) ?_
        refine s_run rfl ?_
        refine s_pure (.bool ((jnOut ((wdOut (g6.map Pk.p)).1) x238).2 != (jnOut (g6.map Pk.p) x238).2)) (fun _ q => q) ?_
        refine s_pure (.bool ((jnOut ((wdOut (g6.map Pk.p)).1) x238).2 != (jnOut (g6.map Pk.p) x238).2)) (fun _ q => q) ?_
        refine s_pure (.bool ((jnOut ((wdOut (g6.map Pk.p)).1) x238).2 != (jnOut (g6.map Pk.p) x238).2)) (fun _ q => q) ?_
        refine s_splitT rfl (fun c259 => ?_) (fun c259 => ?_)
        ·
         refine s_pass rfl ?_
         refine s_pass rfl ?_
         refine s_pass rfl ?_
         refine s_pure (.bool true) (fun _ q => q) ?_
         refine s_pure (.bool true) (fun _ q => q) ?_
         refine s_splitY rfl rfl ?_
         refine s_pass rfl ?_
         refine s_pass rfl ?_
         refine s_pass rfl ?_
         refine s_pass rfl ?_
         refine s_pure (.bool true) (fun _ q => q) ?_
         refine s_pure (.bool true) (fun _ q => q) ?_
         refine s_splitY rfl rfl ?_
         refine s_pass rfl ?_
         refine s_pass rfl ?_
         refine s_pass rfl ?_
         refine s_pass rfl ?_
         refine s_pure (.bool true) (fun _ q => q) ?_
         refine s_pure (.bool true) (fun _ q => q) ?_
         refine s_splitY rfl rfl ?_
         refine s_pass rfl ?_
         refine s_pass rfl ?_
         refine s_pass rfl ?_
         refine s_pass rfl ?_
         refine s_pure (.bool true) (fun _ q => q) ?_
         refine s_nil ?_
         refine p_seqN ?_
         refine v_condY rfl rfl ?_
         refine v_seq ?_
         refine v_ops ?_
         refine s_pure (.bool false) (fun _ q => q) ?_
         refine s_nil ?_
         refine p_seqN ?_
         refine v_ret ?_
         refine p_blkR ?_
         refine p_seqR ?_
         refine p_lpR ?_
         refine p_blkR ?_
         refine p_seqR ?_
         refine p_ret [.bool false] (.bool false) (fun _ q => q) rfl ?_
         have ho : true = false := by first | rfl | (exfalso; first | omega | exact hnn _ _ _ (by assumption) (by assumption) (by assumption) | (have q_ := hoo _ _ (by assumption) (by assumption); omega) | (have q_ := hcs _ _ _ _ _ (by assumption) (by assumption) (by assumption) (by assumption) (by assumption); (first | omega | exact absurd q_.1 (by assumption) | exact q_.2.1 (by assumption) | exact Bool.noConfusion (q_.2.2.symm.trans (by assumption)) | (simp_all; done))) | (simp_all; done))
         exact ⟨by first | (rw [ho]; done) | rfl, E256⟩
        ·
         have c259 := Classical.not_not.1 c259
         refine s_run rfl ?_
         refine s_pure (.bool ((jnOut ((srtOut (g6.map Pk.p)).1) x238).2)) (fun _ q => q) ?_
         refine s_run rfl ?_
         refine s_pure (.bool ((jnOut (g6.map Pk.p) x238).2)) (fun _ q => q) ?_
         refine s_run rfl ?_
         refine s_pure (.bool ((jnOut ((srtOut (g6.map Pk.p)).1) x238).2 != (jnOut (g6.map Pk.p) x238).2)) (fun _ q => q) ?_
         refine s_pure (.bool ((jnOut ((srtOut (g6.map Pk.p)).1) x238).2 != (jnOut (g6.map Pk.p) x238).2)) (fun _ q => q) ?_
         refine s_pure (.bool ((jnOut ((srtOut (g6.map Pk.p)).1) x238).2 != (jnOut (g6.map Pk.p) x238).2)) (fun _ q => q) ?_
         refine s_splitT rfl (fun c260 => ?_) (fun c260 => ?_)
         ·
          refine s_pass rfl ?_
          refine s_pass rfl ?_
          refine s_pass rfl ?_
          refine s_pass rfl ?_
          refine s_pure (.bool true) (fun _ q => q) ?_
          refine s_pure (.bool true) (fun _ q => q) ?_
          refine s_splitY rfl rfl ?_
          refine s_pass rfl ?_
          refine s_pass rfl ?_
          refine s_pass rfl ?_
          refine s_pass rfl ?_
          refine s_pure (.bool true) (fun _ q => q) ?_
          refine s_pure (.bool true) (fun _ q => q) ?_
          refine s_splitY rfl rfl ?_
          refine s_pass rfl ?_
          refine s_pass rfl ?_
          refine s_pass rfl ?_
          refine s_pass rfl ?_
          refine s_pure (.bool true) (fun _ q => q) ?_
          refine s_nil ?_
          refine p_seqN ?_
          refine v_condY rfl rfl ?_
          refine v_seq ?_
          refine v_ops ?_
          refine s_pure (.bool false) (fun _ q => q) ?_
          refine s_nil ?_
          refine p_seqN ?_
          refine v_ret ?_
          refine p_blkR ?_
          refine p_seqR ?_
          refine p_lpR ?_
          refine p_blkR ?_
          refine p_seqR ?_
          refine p_ret [.bool false] (.bool false) (fun _ q => q) rfl ?_
          have ho : true = false := by first | rfl | (exfalso; first | omega | exact hnn _ _ _ (by assumption) (by assumption) (by assumption) | (have q_ := hoo _ _ (by assumption) (by assumption); omega) | (have q_ := hcs _ _ _ _ _ (by assumption) (by assumption) (by assumption) (by assumption) (by assumption); (first | omega | exact absurd q_.1 (by assumption) | exact q_.2.1 (by assumption) | exact Bool.noConfusion (q_.2.2.symm.trans (by assumption)) | (simp_all; done))) | (simp_all; done))
          exact ⟨by first | (rw [ho]; done) | rfl, E256⟩
         ·
          have c260 := Classical.not_not.1 c260
          refine s_run rfl ?_
          refine s_pure r239 (fun _ q => q) ?_
          refine s_run rfl ?_
          refine s_pure r254 (fun _ q => q) ?_
          refine s_run rfl ?_
          have f262 := (((s_r239.ext eh245).ext eh250).ext eh255)
          refine s_call [r239, r254] rfl (laws_sameInts_ok r239 ((jnOut (g6.map Pk.p) x238).1) r254 ((jnOut (g6.map Pk.p) x238).1) _ f262.toSl s_r254.toSl) ?_
          rintro vh261 h261 ⟨hvh261, eh261⟩
          obtain rfl : vh261 = .bool true := hvh261.trans (by rw [decide_eq_true rfl])
          have E263 := E256.trans eh261
          have z264 := eh261.size
          refine s_run rfl ?_
          refine s_pure (.bool false) (fun _ q => q) ?_
          refine s_pure (.bool false) (fun _ q => q) ?_
          refine s_pure (.bool false) (fun _ q => q) ?_
          refine s_splitN rfl (by simp) ?_
          refine s_run rfl ?_
          refine s_pure r244 (fun _ q => q) ?_
          refine s_run rfl ?_
          refine s_pure r254 (fun _ q => q) ?_
          refine s_run rfl ?_
          have f266 := (((s_r244.ext eh250).ext eh255).ext eh261)
          have f267 := (s_r254.ext eh261)
          refine s_call [r244, r254] rfl (laws_sameInts_ok r244 ((jnOut ((wdOut (g6.map Pk.p)).1) x238).1) r254 ((jnOut (g6.map Pk.p) x238).1) _ f266.toSl f267.toSl) ?_
          rintro _ h265 ⟨rfl, eh265⟩
          have E268 := E263.trans eh265
          have z269 := eh265.size
          refine s_run rfl ?_
          refine s_pure (.bool (!(decide (((jnOut ((wdOut (g6.map Pk.p)).1) x238).1) = ((jnOut (g6.map Pk.p) x238).1))))) (fun _ q => q) ?_
          refine s_pure (.bool (!(decide (((jnOut ((wdOut (g6.map Pk.p)).1) x238).1) = ((jnOut (g6.map Pk.p) x238).1))))) (fun _ q => q) ?_
          refine s_pure (.bool (!(decide (((jnOut ((wdOut (g6.map Pk.p)).1) x238).1) = ((jnOut (g6.map Pk.p) x238).1))))) (fun _ q => q) ?_
          refine s_splitT rfl (fun c270 => ?_) (fun c270 => ?_)
          ·
           refine s_pass rfl ?_
           refine s_pass rfl ?_
           refine s_pass rfl ?_
           refine s_pass rfl ?_
           refine s_pure (.bool true) (fun _ q => q) ?_
           refine s_nil ?_
           refine p_seqN ?_
           refine v_condY rfl rfl ?_
           refine v_seq ?_
           refine v_ops ?_
           refine s_pure (.bool false) (fun _ q => q) ?_
           refine s_nil ?_
           refine p_seqN ?_
           refine v_ret ?_
           refine p_blkR ?_
           refine p_seqR ?_
           refine p_lpR ?_
           refine p_blkR ?_
           refine p_seqR ?_
           refine p_ret [.bool false] (.bool false) (fun _ q => q) rfl ?_
           have ho : true = false := by first | rfl | (exfalso; first | omega | exact hnn _ _ _ (by assumption) (by assumption) (by assumption) | (have q_ := hoo _ _ (by assumption) (by assumption); omega) | (have q_ := hcs _ _ _ _ _ (by assumption) (by assumption) (by assumption) (by assumption) (by assumption); (first | omega | exact absurd q_.1 (by assumption) | exact q_.2.1 (by assumption) | exact Bool.noConfusion (q_.2.2.symm.trans (by assumption)) | (simp_all; done))) | (simp_all; done))
           exact ⟨by first | (rw [ho]; done) | rfl, E268⟩
          ·
           have c270 := Classical.not_not.1 c270
           refine s_run rfl ?_
           refine s_pure r249 (fun _ q => q) ?_
           refine s_run rfl ?_
           refine s_pure r254 (fun _ q => q) ?_
           refine s_run rfl ?_
           have f272 := (((s_r249.ext eh255).ext eh261).ext eh265)
           have f273 := (f267.ext eh265)
           refine s_call [r249, r254] rfl (laws_sameInts_ok r249 ((jnOut ((srtOut (g6.map Pk.p)).1) x238).1) r254 ((jnOut (g6.map Pk.p) x238).1) _ f272.toSl f273.toSl) ?_
           rintro _ h271 ⟨rfl, eh271⟩
           have E274 := E268.trans eh271
           have z275 := eh271.size
           refine s_run rfl ?_
           refine s_pure (.bool (!(decide (((jnOut ((srtOut (g6.map Pk.p)).1) x238).1) = ((jnOut (g6.map Pk.p) x238).1))))) (fun _ q => q) ?_
           refine s_pure (.bool (!(decide (((jnOut ((srtOut (g6.map Pk.p)).1) x238).1) = ((jnOut (g6.map Pk.p) x238).1))))) (fun _ q => q) ?_
           refine s_nil ?_
           refine p_seqN ?_
           refine v_cond rfl (fun c276 => ?_) (fun c276 => ?_)
           ·
            refine v_seq ?_
            refine v_ops ?_
            refine s_pure (.bool false) (fun _ q => q) ?_
            refine s_nil ?_
            refine p_seqN ?_
            refine v_ret ?_
            refine p_blkR ?_
            refine p_seqR ?_
            refine p_lpR ?_
            refine p_blkR ?_
            refine p_seqR ?_
            refine p_ret [.bool false] (.bool false) (fun _ q => q) rfl ?_
            have ho : true = false := by first | rfl | (exfalso; first | omega | exact hnn _ _ _ (by assumption) (by assumption) (by assumption) | (have q_ := hoo _ _ (by assumption) (by assumption); omega) | (have q_ := hcs _ _ _ _ _ (by assumption) (by assumption) (by assumption) (by assumption) (by assumption); (first | omega | exact absurd q_.1 (by assumption) | exact q_.2.1 (by assumption) | exact Bool.noConfusion (q_.2.2.symm.trans (by assumption)) | (simp_all; done))) | (simp_all; done))
            exact ⟨by first | (rw [ho]; done) | rfl, E274⟩
           ·
            have c276 := Classical.not_not.1 c276
            refine v_skip ?_
            refine p_blkN ?_
            refine p_seqN ?_
            refine v_ops ?_
            refine s_pure (.int .i64 ((k : Int) + 1)) (fun _ q => ArithVC.mk (by omega) q) ?_
            refine s_pure (.int .i64 ((k : Int) + 1)) (fun _ q => q) ?_
            refine s_nil ?_
            have f277 := ((((f253.ext eh255).ext eh261).ext eh265).ext eh271)
            have f278 := ((((((f243.ext eh245).ext eh250).ext eh255).ext eh261).ext eh265).ext eh271)
            have f279 := (((((f248.ext eh250).ext eh255).ext eh261).ext eh265).ext eh271)
            have f280 := (((((((s_r46.ext eh240).ext eh245).ext eh250).ext eh255).ext eh261).ext eh265).ext eh271)
            have f281 := (((((((s_r36.ext eh240).ext eh245).ext eh250).ext eh255).ext eh261).ext eh265).ext eh271)
            exact p_lpN ⟨k + 1, ⟨rfl, rfl, rfl, rfl, rfl, rfl, rfl⟩, ⟨E274, (f277.mono (by omega)), (f278.mono (by omega)), (f279.mono (by omega)), (f280.mono (by omega)), f281, (by omega)⟩, by omega⟩
       ·
        refine v_exit ?_
        refine p_seqX ?_
        refine p_lpX ?_
        refine p_blkX ?_
        refine p_seqN ?_
        refine v_seq ?_
        refine v_seq ?_
        refine v_ops ?_
        refine s_pure r46 (fun _ q => q) ?_
        refine s_pure (.int .i64 (qr46.length : Int)) (fun _ q => s_r46.row.lenVC q) ?_
        refine s_pure (.int .i64 0) (fun _ q => q) ?_
        refine s_nil ?_
        refine p_seqN ?_
        refine v_block ?_
        have l63_l282 := (s_r46.row.toSl).len63
        refine v_loop1 (α := Nat) (fun k => [(5, r7), (293, r46), (294, .int .i64 (qr46.length : Int)), (295, .int .i64 (k : Int))]) (fun k hh => Ext h hh ∧ RdO hh r7 g6 h.size ∧ DeepO hh r46 qr46 h.size ∧ k ≤ qr46.length) (fun k => qr46.length - k) 0 ⟨rfl, rfl, rfl, rfl⟩ ⟨Eh, (s_r7.mono (by omega)), (s_r46.mono (by omega)), (by exact Nat.zero_le _)⟩ ?_
        rintro k R284 h283 ⟨Eh, s_r7, s_r46, hk⟩
        have zEh := Eh.size
        have f286 := s_code.ext Eh
        have f287 := s_more.ext Eh
        have ltk_r7 := s_r7.lt
        have ltk_r46 := s_r46.lt
        have hc2 : ∀ x : RowI, qr46[k]? = some x → x.sig.length = 2 := fun x hx => cf_two' dq_r46 hx
        have hci : ∀ (x : RowI) (y : Int) (t : Nat), qr46[k]? = some x → x.sig[t]? = some y → 0 ≤ y ∧ y.toNat < g6.length := fun x y t hx hy => cf_in dq_r46 hx hy
        have hcs : ∀ (x : RowI) (y z : Int) (a b : Pk), qr46[k]? = some x → x.sig[0]? = some y → x.sig[1]? = some z → g6[(y).toNat]? = some a → g6[(z).toNat]? = some b → a.message = b.message ∧ ¬ a.p = b.p ∧ (jnOut (g6.map Pk.p) a.message).2 = false := fun x y z a b hx h0 h1 ha hb => cf_is dq_r46 hx h0 h1 ha hb
        refine v_seq ?_
        refine v_ops ?_
        refine s_pure (.bool (decide ((k : Int) < (qr46.length : Int)))) (fun _ q => q) ?_
        refine s_nil ?_
        refine p_seqN ?_
        refine v_seq ?_
        refine v_cond rfl (fun c288 => ?_) (fun c288 => ?_)
        ·
         refine v_skip ?_
         refine p_seqN ?_
         refine v_seq ?_
         refine v_block ?_
         refine v_seq ?_
         refine v_ops ?_
         have hk289 : k < qr46.length := (by first | omega | (simp; omega))
         obtain ⟨x290, hx290⟩ : ∃ x, qr46[k]? = some x := ⟨_, List.getElem?_eq_getElem hk289⟩
         refine s_pure (.pointer (some ⟨sblk r46, soff r46 + k * 1, none⟩)) (fun _ q => s_r46.row.idx (k := k) rfl hk289 q) ?_
         have s291 := s_r46.insL x290 (List.mem_of_getElem? hx290)
         refine s_load x290.sv.v (fun _ q => s_r46.row.load1 hx290 rfl q) ?_
         refine s_pure x290.sv.v (fun _ q => q) ?_
         refine s_nil ?_
         refine p_seqN ?_
         refine v_seq ?_
         refine v_draw (DrawVC.hold (blks x290.sv.v ++ blks r7) ?_)
         refine d_pureT r7 (fun _ q => q) ?_
         refine d_pureT x290.sv.v (fun _ q => q) ?_
         have hk292 : 0 < x290.sig.length := (by have q_ := hc2 _ (by assumption); omega)
         obtain ⟨x293, hx293⟩ : ∃ x, x290.sig[0]? = some x := ⟨_, List.getElem?_eq_getElem hk292⟩
         refine d_pureT (.pointer (some ⟨sblk x290.sv.v, soff x290.sv.v + 0 * 1, none⟩)) (fun _ q => s291.idx (k := 0) rfl hk292 q) ?_
         refine d_pureT r7 (fun _ q => q) ?_
         refine d_pureT x290.sv.v (fun _ q => q) ?_
         have hk294 : 1 < x290.sig.length := (by have q_ := hc2 _ (by assumption); omega)
         obtain ⟨x295, hx295⟩ : ∃ x, x290.sig[1]? = some x := ⟨_, List.getElem?_eq_getElem hk294⟩
         refine d_pureT (.pointer (some ⟨sblk x290.sv.v, soff x290.sv.v + 1 * 1, none⟩)) (fun _ q => s291.idx (k := 1) rfl hk294 q) ?_
         refine d_loadT (.int .i64 x293) (fun _ q => s291.take1 (fun b hb => by first | (simp [hb]; done) | exact (List.mem_append.2 (.inl hb))) hx293 rfl q) ?_
         have hk296 : (x293).toNat < g6.length := (by have q_ := hci _ _ _ (by assumption) hx293; omega)
         obtain ⟨x297, hx297⟩ : ∃ x, g6[(x293).toNat]? = some x := ⟨_, List.getElem?_eq_getElem hk296⟩
         refine d_pureT (.pointer (some ⟨sblk r7, soff r7 + ((x293).toNat) * 4, none⟩)) (fun _ q => s_r7.row.idx (k := (x293).toNat) (by have q_ := hci _ _ _ (by assumption) hx293; omega) hk296 q) ?_
         have s298 := s_r7.insL x297 (List.mem_of_getElem? hx297)
         refine d_loadT (.agg #[.int .i64 x297.message, .int .i64 x297.part, .int .i64 x297.parts, x297.sv.v]) (fun _ q => s_r7.row.takeN (fun b hb => by first | (simp [hb]; done) | exact (List.mem_append.2 (.inr hb))) hx297 rfl q) ?_
         refine d_loadT (.int .i64 x295) (fun _ q => s291.take1 (fun b hb => by first | (simp [hb]; done) | exact (List.mem_append.2 (.inl hb))) hx295 rfl q) ?_
         have hk299 : (x295).toNat < g6.length := (by have q_ := hci _ _ _ (by assumption) hx295; omega)
         obtain ⟨x300, hx300⟩ : ∃ x, g6[(x295).toNat]? = some x := ⟨_, List.getElem?_eq_getElem hk299⟩
         refine d_pureT (.pointer (some ⟨sblk r7, soff r7 + ((x295).toNat) * 4, none⟩)) (fun _ q => s_r7.row.idx (k := (x295).toNat) (by have q_ := hci _ _ _ (by assumption) hx295; omega) hk299 q) ?_
         have s301 := s_r7.insL x300 (List.mem_of_getElem? hx300)
         refine d_loadT (.agg #[.int .i64 x300.message, .int .i64 x300.part, .int .i64 x300.parts, x300.sv.v]) (fun _ q => s_r7.row.takeN (fun b hb => by first | (simp [hb]; done) | exact (List.mem_append.2 (.inr hb))) hx300 rfl q) ?_
         refine d_fork ?_ ?_
         ·
          refine d_eff ?_
          refine s_new (fun h303 b302 hbb302 hzb302 eh303 bxb302 => ?_)
          have E304 := Eh.trans eh303
          have z305 := eh303.size
          have G306 := eh303
          have lbb302 := bxb302.lt
          refine s_nil ⟨fun _ x hx => G306.blk x (by simp at hx; rcases hx with hx | hx <;> first | omega | (have := (fun b hb => ltk_r46 b (mem_fpts.2 (.inr ⟨x290, List.mem_of_getElem? hx290, hb⟩))) x hx; omega) | (have := ltk_r7 x (mem_fpts.2 (.inl hx)); omega)), ?_⟩
          refine d_eff ?_
          refine s_new (fun h308 b307 hbb307 hzb307 eh308 bxb307 => ?_)
          have E309 := E304.trans eh308
          have z310 := eh308.size
          have G311 := G306.trans eh308
          have lbb307 := bxb307.lt
          refine s_nil ⟨fun _ x hx => G311.blk x (by simp at hx; rcases hx with hx | hx <;> first | omega | (have := (fun b hb => ltk_r46 b (mem_fpts.2 (.inr ⟨x290, List.mem_of_getElem? hx290, hb⟩))) x hx; omega) | (have := ltk_r7 x (mem_fpts.2 (.inl hx)); omega)), ?_⟩
          refine d_eff ?_
          have f312 := (bxb302.ext eh308)
          refine s_stBx (.agg #[.int .i64 x297.message, .int .i64 x297.part, .int .i64 x297.parts, x297.sv.v]) [.int .i64 x297.message, .int .i64 x297.part, .int .i64 x297.parts, x297.sv.v] [.int .i64 x297.message, .int .i64 x297.part, .int .i64 x297.parts, x297.sv.v] f312 rfl rfl rfl rfl (by simp) (all_cons rfl (all_cons rfl (all_cons rfl (all_cons s298.one1 all_nil)))) rfl (fun h313 mh313 sh313 bxx314 => ?_)
          have E315 := E309.mod mh313 (fun b hb => by simp at hb; omega)
          have G316 := G311.mod mh313 (fun b hb => by simp at hb; omega)
          refine s_nil ⟨fun _ x hx => G316.blk x (by simp at hx; rcases hx with hx | hx <;> first | omega | (have := (fun b hb => ltk_r46 b (mem_fpts.2 (.inr ⟨x290, List.mem_of_getElem? hx290, hb⟩))) x hx; omega) | (have := ltk_r7 x (mem_fpts.2 (.inl hx)); omega)), ?_⟩
          refine d_eff ?_
          have f317 := (bxb307.mod mh313 (by simp; omega))
          refine s_stBx (.agg #[.int .i64 x300.message, .int .i64 x300.part, .int .i64 x300.parts, x300.sv.v]) [.int .i64 x300.message, .int .i64 x300.part, .int .i64 x300.parts, x300.sv.v] [.int .i64 x300.message, .int .i64 x300.part, .int .i64 x300.parts, x300.sv.v] f317 rfl rfl rfl rfl (by simp) (all_cons rfl (all_cons rfl (all_cons rfl (all_cons s301.one1 all_nil)))) rfl (fun h318 mh318 sh318 bxx319 => ?_)
          have E320 := E315.mod mh318 (fun b hb => by simp at hb; omega)
          refine s_nil ⟨fun hl => (by cases hl), ?_⟩
          refine d_done ?_
          refine p_seqN ?_
          refine v_seqM1 [(5, r7), (43, .pointer (some ⟨b302, 0, none⟩)), (293, r46), (294, .int .i64 (qr46.length : Int)), (295, .int .i64 (k : Int))] (fun R322 h323 eh323 => ?_) (fun M321 => ?_)
          ·
           have E324 := E320.trans eh323
           have z325 := eh323.size
           refine v_seq ?_
           refine v_ops ?_
           refine s_pure r7 (fun _ q => q) ?_
           refine s_pure (.pointer (some ⟨b302, 0, none⟩)) (fun _ q => q) ?_
           have f326 := ((bxx314.mod mh318 (by simp; omega)).ext eh323)
           refine s_load (.int .i64 x297.message) (fun _ q => f326.load rfl q) ?_
           have f327 := (((((s_r7.ext eh303).ext eh308).mod mh313 (fun b hb hc => by simp at hc; have := ltk_r7 b hb; have := lt_r7 b hb; omega)).mod mh318 (fun b hb hc => by simp at hc; have := ltk_r7 b hb; have := lt_r7 b hb; omega)).ext eh323)
           refine s_call [r7, .int .i64 x297.message] rfl (impl_JoinMessage_ok r7 g6 (g6.map Pk.p) x297.message _ f327.row.toSl f327.insL rfl) ?_
           rintro _ h329 ⟨r328, rfl, s_r328, fr_r328, eh329⟩
           have E330 := E324.trans eh329
           have z331 := eh329.size
           have lt_r328 := s_r328.lt
           refine s_pure (.tuple #[r328, .bool ((jnOut (g6.map Pk.p) x297.message).2)]) (fun _ q => q) ?_
           refine s_pure r328 (fun _ q => q) ?_
           refine s_pure (.bool ((jnOut (g6.map Pk.p) x297.message).2)) (fun _ q => q) ?_
           refine s_pure r328 (fun _ q => q) ?_
           refine s_pure (.bool ((jnOut (g6.map Pk.p) x297.message).2)) (fun _ q => q) ?_
           refine s_nil ?_
           refine p_seqN ?_
           refine v_seq ?_
           refine v_ops ?_
           refine s_pure (.bool ((jnOut (g6.map Pk.p) x297.message).2)) (fun _ q => q) ?_
           refine s_nil ?_
           refine p_seqN ?_
           refine v_cond rfl (fun c332 => ?_) (fun c332 => ?_)
           ·
            refine v_seq ?_
            refine v_ops ?_
            refine s_pure (.bool false) (fun _ q => q) ?_
            refine s_nil ?_
            refine p_seqN ?_
            refine v_ret ?_
            refine p_blkR ?_
            refine p_seqR ?_
            refine p_lpR ?_
            refine p_blkR ?_
            refine p_seqR ?_
            refine p_ret [.bool false] (.bool false) (fun _ q => q) rfl ?_
            have ho : true = false := by first | rfl | (exfalso; first | omega | exact hnn _ _ _ (by assumption) (by assumption) (by assumption) | (have q_ := hoo _ _ (by assumption) (by assumption); omega) | (have q_ := hcs _ _ _ _ _ (by assumption) (by assumption) (by assumption) (by assumption) (by assumption); (first | omega | exact absurd q_.1 (by assumption) | exact q_.2.1 (by assumption) | exact Bool.noConfusion (q_.2.2.symm.trans (by assumption)) | (simp_all; done))) | (simp_all; done))
            exact ⟨by first | (rw [ho]; done) | rfl, E330⟩
           ·
            refine v_skip ?_
            refine p_blkN ?_
            refine p_seqN ?_
            refine v_ops ?_
            refine s_pure (.int .i64 ((k : Int) + 1)) (fun _ q => ArithVC.mk (by omega) q) ?_
            refine s_pure (.int .i64 ((k : Int) + 1)) (fun _ q => q) ?_
            refine s_nil ?_
            have f333 := (f327.ext eh329)
            have f334 := ((((((s_r46.ext eh303).ext eh308).mod mh313 (fun b hb hc => by simp at hc; have := ltk_r46 b hb; have := lt_r46 b hb; omega)).mod mh318 (fun b hb hc => by simp at hc; have := ltk_r46 b hb; have := lt_r46 b hb; omega)).ext eh323).ext eh329)
            exact p_lpN ⟨k + 1, ⟨rfl, rfl, rfl, rfl⟩, ⟨E330, (f333.mono (by omega)), (f334.mono (by omega)), (by omega)⟩, by omega⟩
          ·
           refine v_seq ?_
           refine v_seq ?_
           refine v_ops ?_
           refine s_pure (.pointer (some ⟨b302, 0, none⟩)) (fun _ q => q) ?_
           have f335 := (bxx314.mod mh318 (by simp; omega))
           refine s_load (.int .i64 x297.message) (fun _ q => f335.load rfl q) ?_
           refine s_pure (.pointer (some ⟨b307, 0, none⟩)) (fun _ q => q) ?_
           refine s_load (.int .i64 x300.message) (fun _ q => bxx319.load rfl q) ?_
           refine s_pure (.bool (x297.message != x300.message)) (fun _ q => q) ?_
           refine s_pure (.bool (x297.message != x300.message)) (fun _ q => q) ?_
           refine s_splitT rfl (fun c336 => ?_) (fun c336 => ?_)
           ·
            refine s_pass rfl ?_
            refine s_pass rfl ?_
            refine s_pass rfl ?_
            refine s_pure (.bool true) (fun _ q => q) ?_
            refine s_nil ?_
            refine p_seqN ?_
            refine v_condY rfl rfl ?_
            refine v_seq ?_
            refine v_ops ?_
            refine s_pure (.bool false) (fun _ q => q) ?_
            refine s_nil ?_
            refine p_seqN ?_
            refine v_ret ?_
            refine p_seqR ?_
            refine p_blkR ?_
            refine p_seqR ?_
            refine p_lpR ?_
            refine p_blkR ?_
            refine p_seqR ?_
            refine p_ret [.bool false] (.bool false) (fun _ q => q) rfl ?_
            have ho : true = false := by first | rfl | (exfalso; first | omega | exact hnn _ _ _ (by assumption) (by assumption) (by assumption) | (have q_ := hoo _ _ (by assumption) (by assumption); omega) | (have q_ := hcs _ _ _ _ _ (by assumption) (by assumption) (by assumption) (by assumption) (by assumption); (first | omega | exact absurd q_.1 (by assumption) | exact q_.2.1 (by assumption) | exact Bool.noConfusion (q_.2.2.symm.trans (by assumption)) | (simp_all; done))) | (simp_all; done))
            exact ⟨by first | (rw [ho]; done) | rfl, E320⟩
           ·
            have c336 := Classical.not_not.1 c336
            refine s_run rfl ?_
            refine s_load (.agg #[.int .i64 x297.message, .int .i64 x297.part, .int .i64 x297.parts, x297.sv.v]) (fun _ q => f335.loadA rfl q) ?_
            refine s_run rfl ?_
            refine s_load (.agg #[.int .i64 x300.message, .int .i64 x300.part, .int .i64 x300.parts, x300.sv.v]) (fun _ q => bxx319.loadA rfl q) ?_
            refine s_run rfl ?_
            have f337 := ((((s298.ext eh303).ext eh308).mod mh313 (fun b hb hc => by simp at hc; have := (fun b hb => ltk_r7 b (mem_fpts.2 (.inr ⟨x297, List.mem_of_getElem? hx297, hb⟩))) b hb; omega)).mod mh318 (fun b hb hc => by simp at hc; have := (fun b hb => ltk_r7 b (mem_fpts.2 (.inr ⟨x297, List.mem_of_getElem? hx297, hb⟩))) b hb; omega))
            have f338 := ((((s301.ext eh303).ext eh308).mod mh313 (fun b hb hc => by simp at hc; have := (fun b hb => ltk_r7 b (mem_fpts.2 (.inr ⟨x300, List.mem_of_getElem? hx300, hb⟩))) b hb; omega)).mod mh318 (fun b hb hc => by simp at hc; have := (fun b hb => ltk_r7 b (mem_fpts.2 (.inr ⟨x300, List.mem_of_getElem? hx300, hb⟩))) b hb; omega))
            refine s_call [.agg #[.int .i64 x297.message, .int .i64 x297.part, .int .i64 x297.parts, x297.sv.v], .agg #[.int .i64 x300.message, .int .i64 x300.part, .int .i64 x300.parts, x300.sv.v]] rfl (laws_pSamePacket_ok (Pk.p x297) x297.sv.v (Pk.p x300) x300.sv.v _ f337 f338) ?_
            rintro _ h339 ⟨rfl, eh339⟩
            have E340 := E320.trans eh339
            have z341 := eh339.size
            refine s_pure (.bool (decide ((Pk.p x297) = (Pk.p x300)))) (fun _ q => q) ?_
            refine s_nil ?_
            refine p_seqN ?_
            refine v_cond rfl (fun c342 => ?_) (fun c342 => ?_)
            ·
             refine v_seq ?_
             refine v_ops ?_
             refine s_pure (.bool false) (fun _ q => q) ?_
             refine s_nil ?_
             refine p_seqN ?_
             refine v_ret ?_
             refine p_seqR ?_
             refine p_blkR ?_
             refine p_seqR ?_
             refine p_lpR ?_
             refine p_blkR ?_
             refine p_seqR ?_
             refine p_ret [.bool false] (.bool false) (fun _ q => q) rfl ?_
             have ho : true = false := by first | rfl | (exfalso; first | omega | exact hnn _ _ _ (by assumption) (by assumption) (by assumption) | (have q_ := hoo _ _ (by assumption) (by assumption); omega) | (have q_ := hcs _ _ _ _ _ (by assumption) (by assumption) (by assumption) (by assumption) (by assumption); (first | omega | exact absurd q_.1 (by assumption) | exact q_.2.1 (by assumption) | exact Bool.noConfusion (q_.2.2.symm.trans (by assumption)) | (simp_all; done))) | (simp_all; done))
             exact ⟨by first | (rw [ho]; done) | rfl, E340⟩
            ·
             refine v_skip ?_
             refine p_seqN ?_
             exact M321 _ _ ⟨rfl, rfl, rfl, rfl, rfl⟩ ((Ext.refl _).trans eh339)
         ·
          refine d_eff ?_
          refine s_new (fun h344 b343 hbb343 hzb343 eh344 bxb343 => ?_)
          have E345 := Eh.trans eh344
          have z346 := eh344.size
          have G347 := eh344
          have lbb343 := bxb343.lt
          refine s_nil ⟨fun _ x hx => G347.blk x (by simp at hx; rcases hx with hx | hx <;> first | omega | (have := (fun b hb => ltk_r46 b (mem_fpts.2 (.inr ⟨x290, List.mem_of_getElem? hx290, hb⟩))) x hx; omega) | (have := ltk_r7 x (mem_fpts.2 (.inl hx)); omega)), ?_⟩
          refine d_eff ?_
          refine s_new (fun h349 b348 hbb348 hzb348 eh349 bxb348 => ?_)
          have E350 := E345.trans eh349
          have z351 := eh349.size
          have G352 := G347.trans eh349
          have lbb348 := bxb348.lt
          refine s_nil ⟨fun _ x hx => G352.blk x (by simp at hx; rcases hx with hx | hx <;> first | omega | (have := (fun b hb => ltk_r46 b (mem_fpts.2 (.inr ⟨x290, List.mem_of_getElem? hx290, hb⟩))) x hx; omega) | (have := ltk_r7 x (mem_fpts.2 (.inl hx)); omega)), ?_⟩
          refine d_eff ?_
          refine s_stBx (.agg #[.int .i64 x297.message, .int .i64 x297.part, .int .i64 x297.parts, x297.sv.v]) [.int .i64 x297.message, .int .i64 x297.part, .int .i64 x297.parts, x297.sv.v] [.int .i64 x297.message, .int .i64 x297.part, .int .i64 x297.parts, x297.sv.v] bxb348 rfl rfl rfl rfl (by simp) (all_cons rfl (all_cons rfl (all_cons rfl (all_cons s298.one1 all_nil)))) rfl (fun h353 mh353 sh353 bxx354 => ?_)
          have E355 := E350.mod mh353 (fun b hb => by simp at hb; omega)
          have G356 := G352.mod mh353 (fun b hb => by simp at hb; omega)
          refine s_nil ⟨fun _ x hx => G356.blk x (by simp at hx; rcases hx with hx | hx <;> first | omega | (have := (fun b hb => ltk_r46 b (mem_fpts.2 (.inr ⟨x290, List.mem_of_getElem? hx290, hb⟩))) x hx; omega) | (have := ltk_r7 x (mem_fpts.2 (.inl hx)); omega)), ?_⟩
          refine d_eff ?_
          have f357 := ((bxb343.ext eh349).mod mh353 (by simp; omega))
          refine s_stBx (.agg #[.int .i64 x300.message, .int .i64 x300.part, .int .i64 x300.parts, x300.sv.v]) [.int .i64 x300.message, .int .i64 x300.part, .int .i64 x300.parts, x300.sv.v] [.int .i64 x300.message, .int .i64 x300.part, .int .i64 x300.parts, x300.sv.v] f357 rfl rfl rfl rfl (by simp) (all_cons rfl (all_cons rfl (all_cons rfl (all_cons s301.one1 all_nil)))) rfl (fun h358 mh358 sh358 bxx359 => ?_)
          have E360 := E355.mod mh358 (fun b hb => by simp at hb; omega)
          refine s_nil ⟨fun hl => (by cases hl), ?_⟩
          refine d_done ?_
          refine p_seqN ?_
          refine v_seqM1 [(5, r7), (43, .pointer (some ⟨b348, 0, none⟩)), (293, r46), (294, .int .i64 (qr46.length : Int)), (295, .int .i64 (k : Int))] (fun R362 h363 eh363 => ?_) (fun M361 => ?_)
          ·
           have E364 := E360.trans eh363
           have z365 := eh363.size
           refine v_seq ?_
           refine v_ops ?_
           refine s_pure r7 (fun _ q => q) ?_
           refine s_pure (.pointer (some ⟨b348, 0, none⟩)) (fun _ q => q) ?_
           have f366 := ((bxx354.mod mh358 (by simp; omega)).ext eh363)
           refine s_load (.int .i64 x297.message) (fun _ q => f366.load rfl q) ?_
           have f367 := (((((s_r7.ext eh344).ext eh349).mod mh353 (fun b hb hc => by simp at hc; have := ltk_r7 b hb; have := lt_r7 b hb; omega)).mod mh358 (fun b hb hc => by simp at hc; have := ltk_r7 b hb; have := lt_r7 b hb; omega)).ext eh363)
           refine s_call [r7, .int .i64 x297.message] rfl (impl_JoinMessage_ok r7 g6 (g6.map Pk.p) x297.message _ f367.row.toSl f367.insL rfl) ?_
           rintro _ h369 ⟨r368, rfl, s_r368, fr_r368, eh369⟩
           have E370 := E364.trans eh369
           have z371 := eh369.size
           have lt_r368 := s_r368.lt
           refine s_pure (.tuple #[r368, .bool ((jnOut (g6.map Pk.p) x297.message).2)]) (fun _ q => q) ?_
           refine s_pure r368 (fun _ q => q) ?_
           refine s_pure (.bool ((jnOut (g6.map Pk.p) x297.message).2)) (fun _ q => q) ?_
           refine s_pure r368 (fun _ q => q) ?_
           refine s_pure (.bool ((jnOut (g6.map Pk.p) x297.message).2)) (fun _ q => q) ?_
           refine s_nil ?_
           refine p_seqN ?_
           refine v_seq ?_
           refine v_ops ?_
           refine s_pure (.bool ((jnOut (g6.map Pk.p) x297.message).2)) (fun _ q => q) ?_
           refine s_nil ?_
           refine p_seqN ?_
           refine v_cond rfl (fun c372 => ?_) (fun c372 => ?_)
           ·
            refine v_seq ?_
            refine v_ops ?_
            refine s_pure (.bool false) (fun _ q => q) ?_
            refine s_nil ?_
            refine p_seqN ?_
            refine v_ret ?_
            refine p_blkR ?_
            refine p_seqR ?_
            refine p_lpR ?_
            refine p_blkR ?_
            refine p_seqR ?_
            refine p_ret [.bool false] (.bool false) (fun _ q => q) rfl ?_
            have ho : true = false := by first | rfl | (exfalso; first | omega | exact hnn _ _ _ (by assumption) (by assumption) (by assumption) | (have q_ := hoo _ _ (by assumption) (by assumption); omega) | (have q_ := hcs _ _ _ _ _ (by assumption) (by assumption) (by assumption) (by assumption) (by assumption); (first | omega | exact absurd q_.1 (by assumption) | exact q_.2.1 (by assumption) | exact Bool.noConfusion (q_.2.2.symm.trans (by assumption)) | (simp_all; done))) | (simp_all; done))
            exact ⟨by first | (rw [ho]; done) | rfl, E370⟩
           ·
            refine v_skip ?_
            refine p_blkN ?_
            refine p_seqN ?_
            refine v_ops ?_
            refine s_pure (.int .i64 ((k : Int) + 1)) (fun _ q => ArithVC.mk (by omega) q) ?_
            refine s_pure (.int .i64 ((k : Int) + 1)) (fun _ q => q) ?_
            refine s_nil ?_
            have f373 := (f367.ext eh369)
            have f374 := ((((((s_r46.ext eh344).ext eh349).mod mh353 (fun b hb hc => by simp at hc; have := ltk_r46 b hb; have := lt_r46 b hb; omega)).mod mh358 (fun b hb hc => by simp at hc; have := ltk_r46 b hb; have := lt_r46 b hb; omega)).ext eh363).ext eh369)
            exact p_lpN ⟨k + 1, ⟨rfl, rfl, rfl, rfl⟩, ⟨E370, (f373.mono (by omega)), (f374.mono (by omega)), (by omega)⟩, by omega⟩
          ·
           refine v_seq ?_
           refine v_seq ?_
           refine v_ops ?_
           refine s_pure (.pointer (some ⟨b348, 0, none⟩)) (fun _ q => q) ?_
           have f375 := (bxx354.mod mh358 (by simp; omega))
           refine s_load (.int .i64 x297.message) (fun _ q => f375.load rfl q) ?_
           refine s_pure (.pointer (some ⟨b343, 0, none⟩)) (fun _ q => q) ?_
           refine s_load (.int .i64 x300.message) (fun _ q => bxx359.load rfl q) ?_
           refine s_pure (.bool (x297.message != x300.message)) (fun _ q => q) ?_
           refine s_pure (.bool (x297.message != x300.message)) (fun _ q => q) ?_
           refine s_splitT rfl (fun c376 => ?_) (fun c376 => ?_)
           ·
            refine s_pass rfl ?_
            refine s_pass rfl ?_
            refine s_pass rfl ?_
            refine s_pure (.bool true) (fun _ q => q) ?_
            refine s_nil ?_
            refine p_seqN ?_
            refine v_condY rfl rfl ?_
            refine v_seq ?_
            refine v_ops ?_
            refine s_pure (.bool false) (fun _ q => q) ?_
            refine s_nil ?_
            refine p_seqN ?_
            refine v_ret ?_
            refine p_seqR ?_
            refine p_blkR ?_
            refine p_seqR ?_
            refine p_lpR ?_
            refine p_blkR ?_
            refine p_seqR ?_
            refine p_ret [.bool false] (.bool false) (fun _ q => q) rfl ?_
            have ho : true = false := by first | rfl | (exfalso; first | omega | exact hnn _ _ _ (by assumption) (by assumption) (by assumption) | (have q_ := hoo _ _ (by assumption) (by assumption); omega) | (have q_ := hcs _ _ _ _ _ (by assumption) (by assumption) (by assumption) (by assumption) (by assumption); (first | omega | exact absurd q_.1 (by assumption) | exact q_.2.1 (by assumption) | exact Bool.noConfusion (q_.2.2.symm.trans (by assumption)) | (simp_all; done))) | (simp_all; done))
            exact ⟨by first | (rw [ho]; done) | rfl, E360⟩
           ·
            have c376 := Classical.not_not.1 c376
            refine s_run rfl ?_
            refine s_load (.agg #[.int .i64 x297.message, .int .i64 x297.part, .int .i64 x297.parts, x297.sv.v]) (fun _ q => f375.loadA rfl q) ?_
            refine s_run rfl ?_
            refine s_load (.agg #[.int .i64 x300.message, .int .i64 x300.part, .int .i64 x300.parts, x300.sv.v]) (fun _ q => bxx359.loadA rfl q) ?_
            refine s_run rfl ?_
            have f377 := ((((s298.ext eh344).ext eh349).mod mh353 (fun b hb hc => by simp at hc; have := (fun b hb => ltk_r7 b (mem_fpts.2 (.inr ⟨x297, List.mem_of_getElem? hx297, hb⟩))) b hb; omega)).mod mh358 (fun b hb hc => by simp at hc; have := (fun b hb => ltk_r7 b (mem_fpts.2 (.inr ⟨x297, List.mem_of_getElem? hx297, hb⟩))) b hb; omega))
            have f378 := ((((s301.ext eh344).ext eh349).mod mh353 (fun b hb hc => by simp at hc; have := (fun b hb => ltk_r7 b (mem_fpts.2 (.inr ⟨x300, List.mem_of_getElem? hx300, hb⟩))) b hb; omega)).mod mh358 (fun b hb hc => by simp at hc; have := (fun b hb => ltk_r7 b (mem_fpts.2 (.inr ⟨x300, List.mem_of_getElem? hx300, hb⟩))) b hb; omega))
            refine s_call [.agg #[.int .i64 x297.message, .int .i64 x297.part, .int .i64 x297.parts, x297.sv.v], .agg #[.int .i64 x300.message, .int .i64 x300.part, .int .i64 x300.parts, x300.sv.v]] rfl (laws_pSamePacket_ok (Pk.p x297) x297.sv.v (Pk.p x300) x300.sv.v _ f377 f378) ?_
            rintro _ h379 ⟨rfl, eh379⟩
            have E380 := E360.trans eh379
            have z381 := eh379.size
            refine s_pure (.bool (decide ((Pk.p x297) = (Pk.p x300)))) (fun _ q => q) ?_
            refine s_nil ?_
            refine p_seqN ?_
            refine v_cond rfl (fun c382 => ?_) (fun c382 => ?_)
            ·
             refine v_seq ?_
             refine v_ops ?_
             refine s_pure (.bool false) (fun _ q => q) ?_
             refine s_nil ?_
             refine p_seqN ?_
             refine v_ret ?_
             refine p_seqR ?_
             refine p_blkR ?_
             refine p_seqR ?_
             refine p_lpR ?_
             refine p_blkR ?_
             refine p_seqR ?_
             refine p_ret [.bool false] (.bool false) (fun _ q => q) rfl ?_
             have ho : true = false := by first | rfl | (exfalso; first | omega | exact hnn _ _ _ (by assumption) (by assumption) (by assumption) | (have q_ := hoo _ _ (by assumption) (by assumption); omega) | (have q_ := hcs _ _ _ _ _ (by assumption) (by assumption) (by assumption) (by assumption) (by assumption); (first | omega | exact absurd q_.1 (by assumption) | exact q_.2.1 (by assumption) | exact Bool.noConfusion (q_.2.2.symm.trans (by assumption)) | (simp_all; done))) | (simp_all; done))
             exact ⟨by first | (rw [ho]; done) | rfl, E380⟩
            ·
             refine v_skip ?_
             refine p_seqN ?_
             exact M361 _ _ ⟨rfl, rfl, rfl, rfl, rfl⟩ ((Ext.refl _).trans eh379)
        ·
         refine v_exit ?_
         refine p_seqX ?_
         refine p_lpX ?_
         refine p_blkX ?_
         refine p_seqN ?_
         refine v_seq ?_
         refine v_ops ?_
         refine s_pure (.bool true) (fun _ q => q) ?_
         refine s_nil ?_
         refine p_seqN ?_
         refine v_ret ?_
         refine p_ret [.bool true] (.bool true) (fun _ q => q) rfl ?_
         have ho : true = true := by first | rfl | (exfalso; first | omega | exact hnn _ _ _ (by assumption) (by assumption) (by assumption) | (have q_ := hoo _ _ (by assumption) (by assumption); omega) | (have q_ := hcs _ _ _ _ _ (by assumption) (by assumption) (by assumption) (by assumption) (by assumption); (first | omega | exact absurd q_.1 (by assumption) | exact q_.2.1 (by assumption) | exact Bool.noConfusion (q_.2.2.symm.trans (by assumption)) | (simp_all; done))) | (simp_all; done))
         exact ⟨by first | (rw [ho]; done) | rfl, Eh⟩
      ·
       refine v_seq ?_
       refine v_seq ?_
       refine v_ops ?_
       refine s_pure (.bool ((wdOut ((wdOut (g6.map Pk.p)).1)).2)) (fun _ q => q) ?_
       refine s_pure (.bool (!(wdOut ((wdOut (g6.map Pk.p)).1)).2)) (fun _ q => q) ?_
       refine s_pure (.bool (!(wdOut ((wdOut (g6.map Pk.p)).1)).2)) (fun _ q => q) ?_
       refine s_splitT rfl (fun c383 => ?_) (fun c383 => ?_)
       ·
        refine s_pass rfl ?_
        refine s_pass rfl ?_
        refine s_pass rfl ?_
        refine s_pass rfl ?_
        refine s_pure (.bool true) (fun _ q => q) ?_
        refine s_pure (.bool true) (fun _ q => q) ?_
        refine s_splitY rfl rfl ?_
        refine s_pass rfl ?_
        refine s_pass rfl ?_
        refine s_pass rfl ?_
        refine s_pass rfl ?_
        refine s_pass rfl ?_
        refine s_pure (.bool true) (fun _ q => q) ?_
        refine s_nil ?_
        refine p_seqN ?_
        refine v_condY rfl rfl ?_
        refine v_seq ?_
        refine v_ops ?_
        refine s_pure (.bool false) (fun _ q => q) ?_
        refine s_nil ?_
        refine p_seqN ?_
        refine v_ret ?_
        refine p_seqR ?_
        refine p_ret [.bool false] (.bool false) (fun _ q => q) rfl ?_
        have ho : true = false := by first | rfl | (exfalso; first | omega | exact hnn _ _ _ (by assumption) (by assumption) (by assumption) | (have q_ := hoo _ _ (by assumption) (by assumption); omega) | (have q_ := hcs _ _ _ _ _ (by assumption) (by assumption) (by assumption) (by assumption) (by assumption); (first | omega | exact absurd q_.1 (by assumption) | exact q_.2.1 (by assumption) | exact Bool.noConfusion (q_.2.2.symm.trans (by assumption)) | (simp_all; done))) | (simp_all; done))
        exact ⟨by first | (rw [ho]; done) | rfl, E218⟩
       ·
        have c383 := Classical.not_not.1 c383
        refine s_run rfl ?_
        refine s_pure r216 (fun _ q => q) ?_
        refine s_run rfl ?_
        refine s_pure r16 (fun _ q => q) ?_
        refine s_run rfl ?_
        have f384 := (s_r16.ext eh217)
        refine s_call [r216, r16] rfl (laws_pSamePackets_ok r216 qr216 ((wdOut ((wdOut (g6.map Pk.p)).1)).1) r16 qr16 ((wdOut (g6.map Pk.p)).1) _ s_r216.row.toSl s_r216.insL dq_r216 f384.row.toSl f384.insL dq_r16) ?_
        rintro _ h385 ⟨rfl, eh385⟩
        have E386 := E218.trans eh385
        have z387 := eh385.size
        refine s_run rfl ?_
        refine s_pure (.bool (!(decide (((wdOut ((wdOut (g6.map Pk.p)).1)).1) = ((wdOut (g6.map Pk.p)).1))))) (fun _ q => q) ?_
        refine s_pure (.bool (!(decide (((wdOut ((wdOut (g6.map Pk.p)).1)).1) = ((wdOut (g6.map Pk.p)).1))))) (fun _ q => q) ?_
        refine s_pure (.bool (!(decide (((wdOut ((wdOut (g6.map Pk.p)).1)).1) = ((wdOut (g6.map Pk.p)).1))))) (fun _ q => q) ?_
        refine s_splitT rfl (fun c388 => ?_) (fun c388 => ?_)
        ·
         refine s_pass rfl ?_
         refine s_pass rfl ?_
         refine s_pass rfl ?_
         refine s_pass rfl ?_
         refine s_pass rfl ?_
         refine s_pure (.bool true) (fun _ q => q) ?_
         refine s_nil ?_
         refine p_seqN ?_
         refine v_condY rfl rfl ?_
         refine v_seq ?_
         refine v_ops ?_
         refine s_pure (.bool false) (fun _ q => q) ?_
         refine s_nil ?_
         refine p_seqN ?_
         refine v_ret ?_
         refine p_seqR ?_
         refine p_ret [.bool false] (.bool false) (fun _ q => q) rfl ?_
         have ho : true = false := by first | rfl | (exfalso; first | omega | exact hnn _ _ _ (by assumption) (by assumption) (by assumption) | (have q_ := hoo _ _ (by assumption) (by assumption); omega) | (have q_ := hcs _ _ _ _ _ (by assumption) (by assumption) (by assumption) (by assumption) (by assumption); (first | omega | exact absurd q_.1 (by assumption) | exact q_.2.1 (by assumption) | exact Bool.noConfusion (q_.2.2.symm.trans (by assumption)) | (simp_all; done))) | (simp_all; done))
         exact ⟨by first | (rw [ho]; done) | rfl, E386⟩
        ·
         have c388 := Classical.not_not.1 c388
         refine s_run rfl ?_
         refine s_pure r26 (fun _ q => q) ?_
         refine s_run rfl ?_
         refine s_pure (.int .i64 (qr26.length : Int)) (fun _ q => s_r26.row.lenVC q) ?_
         refine s_run rfl ?_
         refine s_pure r7 (fun _ q => q) ?_
         refine s_run rfl ?_
         refine s_pure (.int .i64 (g6.length : Int)) (fun _ q => s_r7.row.lenVC q) ?_
         refine s_run rfl ?_
         refine s_pure (.bool ((qr26.length : Int) != (g6.length : Int))) (fun _ q => q) ?_
         refine s_pure (.bool ((qr26.length : Int) != (g6.length : Int))) (fun _ q => q) ?_
         refine s_nil ?_
         refine p_seqN ?_
         refine v_cond rfl (fun c389 => ?_) (fun c389 => ?_)
         ·
          have hle_ := congrArg List.length dq_r26
          rw [hsl, List.length_map, List.length_map] at hle_
          refine v_seq ?_
          refine v_ops ?_
          refine s_pure (.bool false) (fun _ q => q) ?_
          refine s_nil ?_
          refine p_seqN ?_
          refine v_ret ?_
          refine p_seqR ?_
          refine p_ret [.bool false] (.bool false) (fun _ q => q) rfl ?_
          have ho : true = false := by first | rfl | (exfalso; first | omega | exact hnn _ _ _ (by assumption) (by assumption) (by assumption) | (have q_ := hoo _ _ (by assumption) (by assumption); omega) | (have q_ := hcs _ _ _ _ _ (by assumption) (by assumption) (by assumption) (by assumption) (by assumption); (first | omega | exact absurd q_.1 (by assumption) | exact q_.2.1 (by assumption) | exact Bool.noConfusion (q_.2.2.symm.trans (by assumption)) | (simp_all; done))) | (simp_all; done))
          exact ⟨by first | (rw [ho]; done) | rfl, E386⟩
         ·
          have c389 := Classical.not_not.1 c389
          refine v_skip ?_
          refine p_seqN ?_
          exact M220 _ _ ⟨rfl, rfl, rfl, rfl, rfl⟩ ((Ext.refl _).trans eh385)
  ·
   refine v_seq ?_
   refine v_seq ?_
   refine v_ops ?_
   refine s_pure (.bool ((wdOut (g6.map Pk.p)).2)) (fun _ q => q) ?_
   refine s_pure (.bool ((wdOut (g6.map Pk.p)).2)) (fun _ q => q) ?_
   refine s_pure (.bool ((wdOut (g6.map Pk.p)).2 != (wdOut (g6.map Pk.p)).2)) (fun _ q => q) ?_
   refine s_pure (.bool ((wdOut (g6.map Pk.p)).2 != (wdOut (g6.map Pk.p)).2)) (fun _ q => q) ?_
   refine s_splitN rfl (by first | assumption | omega | (simp [ok50b]; done) | (simp [ok50c]; done) | (simp [ok50d]; done) | (simp [ok50a]; done) | (simp; done) | (simp; omega) | simp_all) ?_
   refine s_run rfl ?_
   refine s_pure r11 (fun _ q => q) ?_
   refine s_run rfl ?_
   refine s_pure r16 (fun _ q => q) ?_
   refine s_run rfl ?_
   have f390 := (((((((s_r11.ext eh17).ext eh22).ext eh27).ext eh32).ext eh37).ext eh42).ext eh47)
   have f391 := ((((((s_r16.ext eh22).ext eh27).ext eh32).ext eh37).ext eh42).ext eh47)
   refine s_call [r11, r16] rfl (laws_pSamePackets_ok r11 qr11 ((wdOut (g6.map Pk.p)).1) r16 qr16 ((wdOut (g6.map Pk.p)).1) _ f390.row.toSl f390.insL dq_r11 f391.row.toSl f391.insL dq_r16) ?_
   rintro _ h392 ⟨rfl, eh392⟩
   have E393 := E48.trans eh392
   have z394 := eh392.size
   refine s_run rfl ?_
   refine s_pure (.bool (!(decide (((wdOut (g6.map Pk.p)).1) = ((wdOut (g6.map Pk.p)).1))))) (fun _ q => q) ?_
   refine s_pure (.bool (!(decide (((wdOut (g6.map Pk.p)).1) = ((wdOut (g6.map Pk.p)).1))))) (fun _ q => q) ?_
   refine s_pure (.bool (!(decide (((wdOut (g6.map Pk.p)).1) = ((wdOut (g6.map Pk.p)).1))))) (fun _ q => q) ?_
   refine s_splitN rfl (by first | assumption | omega | (simp [ok50b]; done) | (simp [ok50c]; done) | (simp [ok50d]; done) | (simp [ok50a]; done) | (simp; done) | (simp; omega) | simp_all) ?_
   refine s_run rfl ?_
   refine s_pure (.bool ((srtOut (g6.map Pk.p)).2)) (fun _ q => q) ?_
   refine s_run rfl ?_
   refine s_pure (.bool ((srtOut (g6.map Pk.p)).2)) (fun _ q => q) ?_
   refine s_run rfl ?_
   refine s_pure (.bool ((srtOut (g6.map Pk.p)).2 != (srtOut (g6.map Pk.p)).2)) (fun _ q => q) ?_
   refine s_pure (.bool ((srtOut (g6.map Pk.p)).2 != (srtOut (g6.map Pk.p)).2)) (fun _ q => q) ?_
   refine s_pure (.bool ((srtOut (g6.map Pk.p)).2 != (srtOut (g6.map Pk.p)).2)) (fun _ q => q) ?_
   refine s_splitN rfl (by first | assumption | omega | (simp [ok50b]; done) | (simp [ok50c]; done) | (simp [ok50d]; done) | (simp [ok50a]; done) | (simp; done) | (simp; omega) | simp_all) ?_
   refine s_run rfl ?_
   refine s_pure r21 (fun _ q => q) ?_
   refine s_run rfl ?_
   refine s_pure r26 (fun _ q => q) ?_
   refine s_run rfl ?_
   have f395 := ((((((s_r21.ext eh27).ext eh32).ext eh37).ext eh42).ext eh47).ext eh392)
   have f396 := (((((s_r26.ext eh32).ext eh37).ext eh42).ext eh47).ext eh392)
   refine s_call [r21, r26] rfl (laws_pSamePackets_ok r21 qr21 ((srtOut (g6.map Pk.p)).1) r26 qr26 ((srtOut (g6.map Pk.p)).1) _ f395.row.toSl f395.insL dq_r21 f396.row.toSl f396.insL dq_r26) ?_
   rintro _ h397 ⟨rfl, eh397⟩
   have E398 := E393.trans eh397
   have z399 := eh397.size
   refine s_run rfl ?_
   refine s_pure (.bool (!(decide (((srtOut (g6.map Pk.p)).1) = ((srtOut (g6.map Pk.p)).1))))) (fun _ q => q) ?_
   refine s_pure (.bool (!(decide (((srtOut (g6.map Pk.p)).1) = ((srtOut (g6.map Pk.p)).1))))) (fun _ q => q) ?_
   refine s_pure (.bool (!(decide (((srtOut (g6.map Pk.p)).1) = ((srtOut (g6.map Pk.p)).1))))) (fun _ q => q) ?_
   refine s_splitN rfl (by first | assumption | omega | (simp [ok50b]; done) | (simp [ok50c]; done) | (simp [ok50d]; done) | (simp [ok50a]; done) | (simp; done) | (simp; omega) | simp_all) ?_
   refine s_run rfl ?_
   refine s_pure (.bool ((msgOut (g6.map Pk.p)).2)) (fun _ q => q) ?_
   refine s_run rfl ?_
   refine s_pure (.bool ((msgOut (g6.map Pk.p)).2)) (fun _ q => q) ?_
   refine s_run rfl ?_
   refine s_pure (.bool ((msgOut (g6.map Pk.p)).2 != (msgOut (g6.map Pk.p)).2)) (fun _ q => q) ?_
   refine s_pure (.bool ((msgOut (g6.map Pk.p)).2 != (msgOut (g6.map Pk.p)).2)) (fun _ q => q) ?_
   refine s_pure (.bool ((msgOut (g6.map Pk.p)).2 != (msgOut (g6.map Pk.p)).2)) (fun _ q => q) ?_
   refine s_splitN rfl (by first | assumption | omega | (simp [ok50b]; done) | (simp [ok50c]; done) | (simp [ok50d]; done) | (simp [ok50a]; done) | (simp; done) | (simp; omega) | simp_all) ?_
   refine s_run rfl ?_
   refine s_pure r31 (fun _ q => q) ?_
   refine s_run rfl ?_
   refine s_pure r36 (fun _ q => q) ?_
   refine s_run rfl ?_
   have f401 := (((((s_r31.ext eh37).ext eh42).ext eh47).ext eh392).ext eh397)
   have f402 := ((((s_r36.ext eh42).ext eh47).ext eh392).ext eh397)
   refine s_call [r31, r36] rfl (laws_sameInts_ok r31 ((msgOut (g6.map Pk.p)).1) r36 ((msgOut (g6.map Pk.p)).1) _ f401.toSl f402.toSl) ?_
   rintro vh400 h400 ⟨hvh400, eh400⟩
   obtain rfl : vh400 = .bool true := hvh400.trans (by rw [decide_eq_true rfl])
   have E403 := E398.trans eh400
   have z404 := eh400.size
   refine s_run rfl ?_
   refine s_pure (.bool false) (fun _ q => q) ?_
   refine s_pure (.bool false) (fun _ q => q) ?_
   refine s_pure (.bool false) (fun _ q => q) ?_
   refine s_splitN rfl (by simp) ?_
   refine s_run rfl ?_
   refine s_pure (.bool ((cfOut (g6.map Pk.p)).2)) (fun _ q => q) ?_
   refine s_run rfl ?_
   refine s_pure (.bool ((cfOut (g6.map Pk.p)).2)) (fun _ q => q) ?_
   refine s_run rfl ?_
   refine s_pure (.bool ((cfOut (g6.map Pk.p)).2 != (cfOut (g6.map Pk.p)).2)) (fun _ q => q) ?_
   refine s_pure (.bool ((cfOut (g6.map Pk.p)).2 != (cfOut (g6.map Pk.p)).2)) (fun _ q => q) ?_
   refine s_pure (.bool ((cfOut (g6.map Pk.p)).2 != (cfOut (g6.map Pk.p)).2)) (fun _ q => q) ?_
   refine s_splitN rfl (by first | assumption | omega | (simp [ok50b]; done) | (simp [ok50c]; done) | (simp [ok50d]; done) | (simp [ok50a]; done) | (simp; done) | (simp; omega) | simp_all) ?_
   refine s_run rfl ?_
   refine s_pure r41 (fun _ q => q) ?_
   refine s_run rfl ?_
   refine s_pure r46 (fun _ q => q) ?_
   refine s_run rfl ?_
   have f405 := ((((s_r41.ext eh47).ext eh392).ext eh397).ext eh400)
   have f406 := (((s_r46.ext eh392).ext eh397).ext eh400)
   refine s_call [r41, r46] rfl (laws_sameLists_ok r41 qr41 ((cfOut (g6.map Pk.p)).1) r46 qr46 ((cfOut (g6.map Pk.p)).1) _ f405.row.toSl f405.insL dq_r41 f406.row.toSl f406.insL dq_r46) ?_
   rintro _ h407 ⟨rfl, eh407⟩
   have E408 := E403.trans eh407
   have z409 := eh407.size
   refine s_run rfl ?_
   refine s_pure (.bool (!(decide (((cfOut (g6.map Pk.p)).1) = ((cfOut (g6.map Pk.p)).1))))) (fun _ q => q) ?_
   refine s_pure (.bool (!(decide (((cfOut (g6.map Pk.p)).1) = ((cfOut (g6.map Pk.p)).1))))) (fun _ q => q) ?_
   refine s_pure (.bool (!(decide (((cfOut (g6.map Pk.p)).1) = ((cfOut (g6.map Pk.p)).1))))) (fun _ q => q) ?_
   refine s_splitN rfl (by first | assumption | omega | (simp [ok50b]; done) | (simp [ok50c]; done) | (simp [ok50d]; done) | (simp [ok50a]; done) | (simp; done) | (simp; omega) | simp_all) ?_
   refine s_run rfl ?_
   refine s_pure r7 (fun _ q => q) ?_
   refine s_run rfl ?_
   have f410 := (((((f45.ext eh47).ext eh392).ext eh397).ext eh400).ext eh407)
   refine s_call [r7] rfl (impl_ArePackets_ok r7 g6 (g6.map Pk.p) _ f410.row.toSl f410.insL rfl) ?_
   rintro _ h411 ⟨rfl, eh411⟩
   have E412 := E408.trans eh411
   have z413 := eh411.size
   refine s_run rfl ?_
   refine s_pure (.bool ((wdOut (g6.map Pk.p)).2)) (fun _ q => q) ?_
   refine s_run rfl ?_
   refine s_pure (.bool (decide (PksOk (g6.map Pk.p)) != (wdOut (g6.map Pk.p)).2)) (fun _ q => q) ?_
   refine s_pure (.bool (decide (PksOk (g6.map Pk.p)) != (wdOut (g6.map Pk.p)).2)) (fun _ q => q) ?_
   refine s_pure (.bool (decide (PksOk (g6.map Pk.p)) != (wdOut (g6.map Pk.p)).2)) (fun _ q => q) ?_
   refine s_splitT rfl (fun c414 => ?_) (fun c414 => ?_)
   ·
    refine s_pass rfl ?_
    refine s_pass rfl ?_
    refine s_pass rfl ?_
    refine s_pure (.bool true) (fun _ q => q) ?_
    refine s_pure (.bool true) (fun _ q => q) ?_
    refine s_splitY rfl rfl ?_
    refine s_pass rfl ?_
    refine s_pass rfl ?_
    refine s_pass rfl ?_
    refine s_pure (.bool true) (fun _ q => q) ?_
    refine s_pure (.bool true) (fun _ q => q) ?_
    refine s_splitY rfl rfl ?_
    refine s_pass rfl ?_
    refine s_pass rfl ?_
    refine s_pass rfl ?_
    refine s_pure (.bool true) (fun _ q => q) ?_
    refine s_nil ?_
    refine p_seqN ?_
    refine v_condY rfl rfl ?_
    refine v_seq ?_
    refine v_ops ?_
    refine s_pure (.bool false) (fun _ q => q) ?_
    refine s_nil ?_
    refine p_seqN ?_
    refine v_ret ?_
    refine p_seqR ?_
    refine p_ret [.bool false] (.bool false) (fun _ q => q) rfl ?_
    have ho : true = false := by first | rfl | (exfalso; first | omega | exact hnn _ _ _ (by assumption) (by assumption) (by assumption) | (have q_ := hoo _ _ (by assumption) (by assumption); omega) | (have q_ := hcs _ _ _ _ _ (by assumption) (by assumption) (by assumption) (by assumption) (by assumption); (first | omega | exact absurd q_.1 (by assumption) | exact q_.2.1 (by assumption) | exact Bool.noConfusion (q_.2.2.symm.trans (by assumption)) | (simp_all; done))) | (simp_all; done))
    exact ⟨by first | (rw [ho]; done) | rfl, E412⟩
   ·
    have c414 := Classical.not_not.1 c414
    refine s_run rfl ?_
    refine s_pure (.bool ((srtOut (g6.map Pk.p)).2)) (fun _ q => q) ?_
    refine s_run rfl ?_
    refine s_pure (.bool ((wdOut (g6.map Pk.p)).2)) (fun _ q => q) ?_
    refine s_run rfl ?_
    refine s_pure (.bool ((srtOut (g6.map Pk.p)).2 != (wdOut (g6.map Pk.p)).2)) (fun _ q => q) ?_
    refine s_pure (.bool ((srtOut (g6.map Pk.p)).2 != (wdOut (g6.map Pk.p)).2)) (fun _ q => q) ?_
    refine s_pure (.bool ((srtOut (g6.map Pk.p)).2 != (wdOut (g6.map Pk.p)).2)) (fun _ q => q) ?_
    refine s_splitN rfl (by first | assumption | omega | (simp [ok50b]; done) | (simp [ok50c]; done) | (simp [ok50d]; done) | (simp [ok50a]; done) | (simp; done) | (simp; omega) | simp_all) ?_
    refine s_run rfl ?_
    refine s_pure (.bool ((msgOut (g6.map Pk.p)).2)) (fun _ q => q) ?_
    refine s_run rfl ?_
    refine s_pure (.bool ((wdOut (g6.map Pk.p)).2)) (fun _ q => q) ?_
    refine s_run rfl ?_
    refine s_pure (.bool ((msgOut (g6.map Pk.p)).2 != (wdOut (g6.map Pk.p)).2)) (fun _ q => q) ?_
    refine s_pure (.bool ((msgOut (g6.map Pk.p)).2 != (wdOut (g6.map Pk.p)).2)) (fun _ q => q) ?_
    refine s_pure (.bool ((msgOut (g6.map Pk.p)).2 != (wdOut (g6.map Pk.p)).2)) (fun _ q => q) ?_
    refine s_splitN rfl (by first | assumption | omega | (simp [ok50b]; done) | (simp [ok50c]; done) | (simp [ok50d]; done) | (simp [ok50a]; done) | (simp; done) | (simp; omega) | simp_all) ?_
    refine s_run rfl ?_
    refine s_pure (.bool ((cfOut (g6.map Pk.p)).2)) (fun _ q => q) ?_
    refine s_run rfl ?_
    refine s_pure (.bool ((wdOut (g6.map Pk.p)).2)) (fun _ q => q) ?_
    refine s_run rfl ?_
    refine s_pure (.bool ((cfOut (g6.map Pk.p)).2 != (wdOut (g6.map Pk.p)).2)) (fun _ q => q) ?_
    refine s_pure (.bool ((cfOut (g6.map Pk.p)).2 != (wdOut (g6.map Pk.p)).2)) (fun _ q => q) ?_
    refine s_nil ?_
    refine p_seqN ?_
    refine v_condN rfl (by first | assumption | omega | (simp [ok50b]; done) | (simp [ok50c]; done) | (simp [ok50d]; done) | (simp [ok50a]; done) | (simp; done) | (simp; omega) | simp_all) ?_
    refine v_skip ?_
    refine p_seqN ?_
    exact M51 _ _ ⟨rfl, rfl, rfl, rfl, rfl, rfl, rfl, rfl⟩ ((((((Ext.refl _).trans eh392).trans eh397).trans eh400).trans eh407).trans eh411)

theorem law_ok (h : Heap) (v0 : Value) (x0 : List By) (s0 : Sl h v0 x0) (w0 : ∀ y ∈ x0, (0 ≤ y.n ∧ y.n ≤ 255)) (v1 : Value) (x1 : List By) (s1 : Sl h v1 x1) (w1 : ∀ y ∈ x1, (0 ≤ y.n ∧ y.n ≤ 255)) : Cn f_laws_FnPacketLists [v0, v1] h fun v h' => v = .bool true ∧ Ext h h' := laws_FnPacketLists_ok v0 x0 v1 x1 h s0 s1 w0 w1
end Go.Proofs.Ytjmcijcdncgaiaa.finFnPacketLists

